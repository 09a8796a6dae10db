import PyProof.Rows.All
import Wide.All
import OpenK.AllK
import Wide.FinOn
import HandS.ForMost
import HandS.Exc
import HandS.ExcCtx
import HandS.Conv
import HandS.Style
import HandS.SortInts
import HandS.SortRule
import HandS.Zip
import HandS.IsInst
import HandS.SetFor
import HandS.Deep
import HandS.Walk
import HandS.Comp
import HandS.Dict
import HandS.Small
import HandS.ExcIs
import HandS.TryMany
import HandS.HotCalls
import HandS.FStr
import HandS.Text
import KE.GoesRaise
import HandS.SuiteRaise
import PySem.Challenge.RW_shortring_k02_written
set_option Elab.async false
set_option linter.all false
set_option maxRecDepth 100000
set_option maxHeartbeats 4000000
/-! VL1: data, owned trees, environments, results, the judgements. -/
namespace VL
open PySem PySem.Spec PyProof.Rows L2

/-- data -/
inductive D where
  | sc (v : V)
  | scr (ns : List Int)
  | lst (ds : List D)
  | tup (ds : List D)
  | obj (c : Nat) (ds : List D)
  | dic (kvs : List (Int × Int))
  | par (p : Addr) (d : D)
/-- a tree of owned objects; fz: what is frozen; nz: what is frozen and was made here -/
inductive O where
  | fz (d : D)
  | nz (d : D)
  | lst (os : List O)
  | tup (os : List O)
  | obj (c : Nat) (os : List O)
  | dic (kvs : List (Int × Int))
  | flst (p : Addr) (os : List O)
  | pin (p : Addr) (o : O)
/-- what a text names: the classes, their fields, the exceptions -/
structure Cf where
  K : PySem.W.Frag
  cl : Nat → Addr
  fn : Nat → List Str
  ex : Nat → Value

def dkv (kvs : List (Int × Int)) : List (Key × V) := kvs.map fun p => (Sum.inl p.1, V.int p.2)

mutual
inductive Rp (C : Cf) (F H : Hp) : D → V → Prop
  | sc {v : V} : Rp C F H (.sc v) v
  | scr {p : Addr} {ns : List Int} : SqL C.K F p (ns.map V.int) → Rp C F H (.scr ns) (.ref p)
  | lst {p : Addr} {vs : List V} {ds : List D} : F p = some (.lst vs) → Rps C F H ds vs → Rp C F H (.lst ds) (.ref p)
  | tup {p : Addr} {vs : List V} {ds : List D} : H p = some (.tup vs) → Rps C F H ds vs → Rp C F H (.tup ds) (.ref p)
  | obj {c : Nat} {p dx : Addr} {fs : List (Str × V)} {ds : List D} : F p = some (.ins (C.cl c) dx fs) → fs.map (·.1) = C.fn c → Rps C F H ds (fs.map (·.2)) → Rp C F H (.obj c ds) (.ref p)
  | dic {p : Addr} {kvs : List (Int × Int)} : F p = some (.dK (dkv kvs)) → Rp C F H (.dic kvs) (.ref p)
  | par {p : Addr} {d : D} : Rp C F H d (.ref p) → Rp C F H (.par p d) (.ref p)
inductive Rps (C : Cf) (F H : Hp) : List D → List V → Prop
  | nil : Rps C F H [] []
  | cons {d : D} {v : V} {ds : List D} {vs : List V} : Rp C F H d v → Rps C F H ds vs → Rps C F H (d :: ds) (v :: vs)
end

/-- what of F is not of Z -/
def sub (Z F : Hp) : Hp := fun a => match Z a with
  | none => F a
  | some _ => none
mutual
inductive Own (C : Cf) (Z F H : Hp) : O → V → List Addr → Prop
  | fz {d : D} {v : V} : Rp C F H d v → Own C Z F H (.fz d) v []
  | nz {d : D} {v : V} : Rp C (sub Z F) H d v → Own C Z F H (.nz d) v []
  | lst {p : Addr} {vs : List V} {os : List O} {fp : List Addr} : F p = none → H p = some (.lst vs) → Owns C Z F H os vs fp → Own C Z F H (.lst os) (.ref p) (p :: fp)
  | tup {p : Addr} {vs : List V} {os : List O} {fp : List Addr} : H p = some (.tup vs) → Owns C Z F H os vs fp → Own C Z F H (.tup os) (.ref p) fp
  | obj {c : Nat} {p dx : Addr} {fs : List (Str × V)} {os : List O} {fp : List Addr} : F p = none → H p = some (.ins (C.cl c) dx fs) → fs.map (·.1) = C.fn c → Owns C Z F H os (fs.map (·.2)) fp → Own C Z F H (.obj c os) (.ref p) (p :: fp)
  | dic {p : Addr} {kvs : List (Int × Int)} : F p = none → H p = some (.dK (dkv kvs)) → Own C Z F H (.dic kvs) (.ref p) [p]
  | flst {p : Addr} {vs : List V} {os : List O} {fp : List Addr} : F p = some (.lst vs) → Owns C Z F H os vs fp → Own C Z F H (.flst p os) (.ref p) fp
  | pin {p : Addr} {o : O} {fp : List Addr} : Own C Z F H o (.ref p) fp → Own C Z F H (.pin p o) (.ref p) fp
inductive Owns (C : Cf) (Z F H : Hp) : List O → List V → List Addr → Prop
  | nil : Owns C Z F H [] [] []
  | cons {o : O} {v : V} {os : List O} {vs : List V} {f1 f2 : List Addr} : Own C Z F H o v f1 → Owns C Z F H os vs f2 → Owns C Z F H (o :: os) (v :: vs) (f1 ++ f2)
end

/-! the data of an owned tree -/
mutual
inductive Er : O → D → Prop
  | fz {d : D} : Er (.fz d) d
  | nz {d : D} : Er (.nz d) d
  | lst {os : List O} {ds : List D} : Ers os ds → Er (.lst os) (.lst ds)
  | tup {os : List O} {ds : List D} : Ers os ds → Er (.tup os) (.tup ds)
  | obj {c : Nat} {os : List O} {ds : List D} : Ers os ds → Er (.obj c os) (.obj c ds)
  | dic {kvs : List (Int × Int)} : Er (.dic kvs) (.dic kvs)
  | pin {p : Addr} {o : O} {d : D} : Er o d → Er (.pin p o) d
inductive Ers : List O → List D → Prop
  | nil : Ers [] []
  | cons {o : O} {d : D} {os : List O} {ds : List D} : Er o d → Ers os ds → Ers (o :: os) (d :: ds)
end
/-! data that lie in no list: scalars, tuples of them -/
mutual
inductive Flat : D → Prop
  | sc {v : V} : Flat (.sc v)
  | tup {ds : List D} : Flats ds → Flat (.tup ds)
inductive Flats : List D → Prop
  | nil : Flats []
  | cons {d : D} {ds : List D} : Flat d → Flats ds → Flats (d :: ds)
end
/-! all of it is owned: the leaves are flat -/
mutual
inductive Full : O → Prop
  | fz {d : D} : Flat d → Full (.fz d)
  | nz {d : D} : Full (.nz d)
  | lst {os : List O} : Fulls os → Full (.lst os)
  | tup {os : List O} : Fulls os → Full (.tup os)
  | obj {c : Nat} {os : List O} : Fulls os → Full (.obj c os)
  | dic {kvs : List (Int × Int)} : Full (.dic kvs)
inductive Fulls : List O → Prop
  | nil : Fulls []
  | cons {o : O} {os : List O} : Full o → Fulls os → Fulls (o :: os)
end
/-- tuples stay -/
def Tst (H H' : Hp) : Prop := ∀ b xs, H b = some (.tup xs) → H' b = some (.tup xs)
theorem Tst.of {H H' : Hp} (e : Same H H') : Tst H H' := fun b xs h => e b _ h
theorem Tst.refl (H : Hp) : Tst H H := fun _ _ h => h
theorem Tst.upd {H : Hp} {a : Addr} {o : HO} (h : ∀ xs, H a ≠ some (.tup xs)) : Tst H (upd H a o) := fun b xs e => by
  by_cases q : b = a
  · subst q; exact absurd e (h xs)
  · rw [upd_ne q]; exact e

section
variable {C : Cf} {Z F F' H H' : Hp}
theorem sub_same (e : Same F F') : Same (sub Z F) (sub Z F') := fun a o h => by
  unfold sub at h ⊢
  split at h
  · exact e _ _ h
  · cases h
theorem sub_none {a : Addr} (h : F a = none) : sub Z F a = none := by
  unfold sub
  split
  · exact h
  · rfl
theorem sub_new {a : Addr} (h : Z a = none) : sub Z F a = F a := by
  unfold sub
  rw [h]
theorem sub_le : Same (sub Z F) F := fun a o h => by
  unfold sub at h
  split at h
  · exact h
  · cases h
mutual
theorem Rp.mono (e : Same F F') (u : Tst H H') : ∀ {d : D} {v : V}, Rp C F H d v → Rp C F' H' d v
  | _, _, .sc => .sc
  | _, _, .scr h => .scr (e.seq h)
  | _, _, .lst h r => .lst (e _ _ h) (Rps.mono e u r)
  | _, _, .tup h r => .tup (u _ _ h) (Rps.mono e u r)
  | _, _, .obj h n r => .obj (e _ _ h) n (Rps.mono e u r)
  | _, _, .dic h => .dic (e _ _ h)
  | _, _, .par r => .par (Rp.mono e u r)
theorem Rps.mono (e : Same F F') (u : Tst H H') : ∀ {ds : List D} {vs : List V}, Rps C F H ds vs → Rps C F' H' ds vs
  | _, _, .nil => .nil
  | _, _, .cons a b => .cons (Rp.mono e u a) (Rps.mono e u b)
end
mutual
theorem Rp.flat {d : D} {v : V} (h : Rp C F H d v) (q : Flat d) : Rp C F' H d v := by
  cases h with
  | sc => exact .sc
  | tup h r =>
    cases q with
    | tup q => exact .tup h (Rps.flat r q)
  | scr => exact nomatch q
  | lst => exact nomatch q
  | obj => exact nomatch q
  | dic => exact nomatch q
  | par => exact nomatch q
termination_by structural d
theorem Rps.flat {ds : List D} {vs : List V} (h : Rps C F H ds vs) (q : Flats ds) : Rps C F' H ds vs := by
  cases h with
  | nil => exact .nil
  | cons a b =>
    cases q with
    | cons p q => exact .cons (Rp.flat a p) (Rps.flat b q)
termination_by structural ds
end
/-- how the frozen part and the heap may grow while an expression is evaluated -/
structure Ext (F H F' H' : Hp) : Prop where
  ff : Same F F'
  hh : Same H H'
  fh : Same F' H'
  ow : ∀ a, H a ≠ none → F a = none → F' a = none
theorem Ext.refl (e : Same F H) : Ext F H F H := ⟨Same.refl F, Same.refl H, e, fun _ _ h => h⟩
theorem Ext.trans {F1 H1 F2 H2 : Hp} (a : Ext F H F1 H1) (b : Ext F1 H1 F2 H2) : Ext F H F2 H2 :=
  ⟨a.ff.trans b.ff, a.hh.trans b.hh, b.fh, fun x hx h => b.ow x (fun z => hx (a.hh.free z)) (a.ow x hx h)⟩
/-- only the heap grows -/
theorem Ext.heap (s : Same F H) (e : Same H H') : Ext F H F H' := ⟨Same.refl F, e, s.trans e, fun _ _ h => h⟩

mutual
theorem Own.ext (e : Ext F H F' H') : ∀ {o : O} {v : V} {fp : List Addr}, Own C Z F H o v fp → Own C Z F' H' o v fp
  | _, _, _, .fz r => .fz (r.mono e.ff (.of e.hh))
  | _, _, _, .nz r => .nz (r.mono (sub_same e.ff) (.of e.hh))
  | _, _, _, .lst f h r => .lst (e.ow _ (by rw [h]; simp) f) (e.hh _ _ h) (Owns.ext e r)
  | _, _, _, .tup h r => .tup (e.hh _ _ h) (Owns.ext e r)
  | _, _, _, .obj f h n r => .obj (e.ow _ (by rw [h]; simp) f) (e.hh _ _ h) n (Owns.ext e r)
  | _, _, _, .dic f h => .dic (e.ow _ (by rw [h]; simp) f) (e.hh _ _ h)
  | _, _, _, .flst h r => .flst (e.ff _ _ h) (Owns.ext e r)
  | _, _, _, .pin r => .pin (Own.ext e r)
theorem Owns.ext (e : Ext F H F' H') : ∀ {os : List O} {vs : List V} {fp : List Addr}, Owns C Z F H os vs fp → Owns C Z F' H' os vs fp
  | _, _, _, .nil => .nil
  | _, _, _, .cons a b => .cons (Own.ext e a) (Owns.ext e b)
end
/-! the heap changes elsewhere -/
mutual
theorem Own.frame (u : Tst H H') : ∀ {o : O} {v : V} {fp : List Addr}, Own C Z F H o v fp → (∀ a ∈ fp, H' a = H a) → Own C Z F H' o v fp
  | _, _, _, .fz r, _ => .fz (r.mono (Same.refl _) u)
  | _, _, _, .nz r, _ => .nz (r.mono (Same.refl _) u)
  | _, _, _, .lst f h r, k => .lst f ((k _ List.mem_cons_self).trans h) (Owns.frame u r fun a q => k a (List.mem_cons_of_mem _ q))
  | _, _, _, .tup h r, k => .tup (u _ _ h) (Owns.frame u r k)
  | _, _, _, .obj f h n r, k => .obj f ((k _ List.mem_cons_self).trans h) n (Owns.frame u r fun a q => k a (List.mem_cons_of_mem _ q))
  | _, _, _, .dic f h, k => .dic f ((k _ List.mem_cons_self).trans h)
  | _, _, _, .flst h r, k => .flst h (Owns.frame u r k)
  | _, _, _, .pin r, k => .pin (Own.frame u r k)
theorem Owns.frame (u : Tst H H') : ∀ {os : List O} {vs : List V} {fp : List Addr}, Owns C Z F H os vs fp → (∀ a ∈ fp, H' a = H a) → Owns C Z F H' os vs fp
  | _, _, _, .nil, _ => .nil
  | _, _, _, .cons a b, k => .cons (Own.frame u a fun x q => k x (List.mem_append_left _ q)) (Owns.frame u b fun x q => k x (List.mem_append_right _ q))
end
/-! what is owned is not frozen, and it stands -/
mutual
theorem Own.gone : ∀ {o : O} {v : V} {fp : List Addr}, Own C Z F H o v fp → ∀ a ∈ fp, F a = Option.none ∧ H a ≠ Option.none
  | _, _, _, .fz _, a, q => nomatch q
  | _, _, _, .nz _, a, q => nomatch q
  | _, _, _, .lst f h r, a, q => by
    rcases List.mem_cons.mp q with rfl | q
    · exact ⟨f, by rw [h]; simp⟩
    · exact Owns.gone r a q
  | _, _, _, .tup _ r, a, q => Owns.gone r a q
  | _, _, _, .obj f h n r, a, q => by
    rcases List.mem_cons.mp q with rfl | q
    · exact ⟨f, by rw [h]; simp⟩
    · exact Owns.gone r a q
  | _, _, _, .dic f h, a, q => by
    rcases List.mem_cons.mp q with rfl | q
    · exact ⟨f, by rw [h]; simp⟩
    · cases q
  | _, _, _, .flst _ r, a, q => Owns.gone r a q
  | _, _, _, .pin r, a, q => Own.gone r a q
theorem Owns.gone : ∀ {os : List O} {vs : List V} {fp : List Addr}, Owns C Z F H os vs fp → ∀ a ∈ fp, F a = Option.none ∧ H a ≠ Option.none
  | _, _, _, .nil, a, q => nomatch q
  | _, _, _, .cons x y, a, q => by
    rcases List.mem_append.mp q with q | q
    · exact Own.gone x a q
    · exact Owns.gone y a q
end
/-! the frozen part may change where nothing of it is owned, if what is frozen stays -/
mutual
theorem Own.refz (e : Same F F') : ∀ {o : O} {v : V} {fp : List Addr}, Own C Z F H o v fp → (∀ a ∈ fp, F' a = Option.none) → Own C Z F' H o v fp
  | _, _, _, .fz r, _ => .fz (r.mono e (Tst.refl _))
  | _, _, _, .nz r, _ => .nz (r.mono (sub_same e) (Tst.refl _))
  | _, _, _, .lst f h r, k => .lst (k _ List.mem_cons_self) h (Owns.refz e r fun a q => k a (List.mem_cons_of_mem _ q))
  | _, _, _, .tup h r, k => .tup h (Owns.refz e r k)
  | _, _, _, .obj f h n r, k => .obj (k _ List.mem_cons_self) h n (Owns.refz e r fun a q => k a (List.mem_cons_of_mem _ q))
  | _, _, _, .dic f h, k => .dic (k _ List.mem_cons_self) h
  | _, _, _, .flst h r, k => .flst (e _ _ h) (Owns.refz e r k)
  | _, _, _, .pin r, k => .pin (Own.refz e r k)
theorem Owns.refz (e : Same F F') : ∀ {os : List O} {vs : List V} {fp : List Addr}, Owns C Z F H os vs fp → (∀ a ∈ fp, F' a = Option.none) → Owns C Z F' H os vs fp
  | _, _, _, .nil, _ => .nil
  | _, _, _, .cons a b, k => .cons (Own.refz e a fun x q => k x (List.mem_append_left _ q)) (Owns.refz e b fun x q => k x (List.mem_append_right _ q))
end
mutual
theorem Own.full {o : O} {v : V} {fp : List Addr} (h : Own C Z F H o v fp) (q : Full o) : Own C (fun _ => Option.none) (sub Z F) H o v fp := by
  cases h with
  | fz r =>
    cases q with
    | fz q => exact .fz (r.flat q)
  | nz r => exact .nz r
  | lst f h r =>
    cases q with
    | lst q => exact .lst (sub_none f) h (Owns.full r q)
  | tup h r =>
    cases q with
    | tup q => exact .tup h (Owns.full r q)
  | obj f h n r =>
    cases q with
    | obj q => exact .obj (sub_none f) h n (Owns.full r q)
  | dic f h => exact .dic (sub_none f) h
  | flst h r => exact nomatch q
  | pin r => exact nomatch q
termination_by structural o
theorem Owns.full {os : List O} {vs : List V} {fp : List Addr} (h : Owns C Z F H os vs fp) (q : Fulls os) : Owns C (fun _ => Option.none) (sub Z F) H os vs fp := by
  cases h with
  | nil => exact .nil
  | cons a b =>
    cases q with
    | cons p q => exact .cons (Own.full a p) (Owns.full b q)
termination_by structural os
end
/-! as data of the whole heap -/
mutual
theorem Own.cur (e : Same F H) : ∀ {o : O} {d : D} {v : V} {fp : List Addr}, Own C Z F H o v fp → Er o d → Rp C H H d v
  | _, _, _, _, .fz r, .fz => r.mono e (Tst.refl _)
  | _, _, _, _, .nz r, .nz => r.mono (sub_le.trans e) (Tst.refl _)
  | _, _, _, _, .lst _ h r, .lst q => .lst h (Owns.cur e r q)
  | _, _, _, _, .tup h r, .tup q => .tup h (Owns.cur e r q)
  | _, _, _, _, .obj _ h n r, .obj q => .obj h n (Owns.cur e r q)
  | _, _, _, _, .dic _ h, .dic => .dic h
  | _, _, _, _, .pin r, .pin q => Own.cur e r q
theorem Owns.cur (e : Same F H) : ∀ {os : List O} {ds : List D} {vs : List V} {fp : List Addr}, Owns C Z F H os vs fp → Ers os ds → Rps C H H ds vs
  | _, _, _, _, .nil, .nil => .nil
  | _, _, _, _, .cons a b, .cons p q => .cons (Own.cur e a p) (Owns.cur e b q)
end
/-- F with what stands at fp in H -/
def frz (F H : Hp) (fp : List Addr) : Hp := fun a => if a ∈ fp then H a else F a
theorem frz_in {fp : List Addr} {a : Addr} (h : a ∈ fp) : frz F H fp a = H a := if_pos h
theorem frz_out {fp : List Addr} {a : Addr} (h : a ∉ fp) : frz F H fp a = F a := if_neg h
theorem frz_same {fp : List Addr} (k : ∀ a ∈ fp, F a = none) : Same F (frz F H fp) := fun a o h => by
  rw [frz_out (fun q => by rw [k a q] at h; cases h)]
  exact h
theorem frz_heap {fp : List Addr} (e : Same F H) : Same (frz F H fp) H := fun a o h => by
  by_cases q : a ∈ fp
  · rw [frz_in q] at h; exact h
  · rw [frz_out q] at h; exact e a o h
mutual
theorem Own.freeze (e : Same F F') : ∀ {o : O} {d : D} {v : V} {fp : List Addr}, Own C Z F H o v fp → Er o d → (∀ a ∈ fp, ∀ u, H a = some u → F' a = some u) → Rp C F' H d v
  | _, _, _, _, .fz r, .fz, _ => r.mono e (Tst.refl _)
  | _, _, _, _, .nz r, .nz, _ => r.mono (sub_le.trans e) (Tst.refl _)
  | _, _, _, _, .lst _ h r, .lst q, k => .lst (k _ List.mem_cons_self _ h) (Owns.freeze e r q fun a z => k a (List.mem_cons_of_mem _ z))
  | _, _, _, _, .tup h r, .tup q, k => .tup h (Owns.freeze e r q k)
  | _, _, _, _, .obj _ h n r, .obj q, k => .obj (k _ List.mem_cons_self _ h) n (Owns.freeze e r q fun a z => k a (List.mem_cons_of_mem _ z))
  | _, _, _, _, .dic _ h, .dic, k => .dic (k _ List.mem_cons_self _ h)
  | _, _, _, _, .pin r, .pin q, k => Own.freeze e r q k
theorem Owns.freeze (e : Same F F') : ∀ {os : List O} {ds : List D} {vs : List V} {fp : List Addr}, Owns C Z F H os vs fp → Ers os ds → (∀ a ∈ fp, ∀ u, H a = some u → F' a = some u) → Rps C F' H ds vs
  | _, _, _, _, .nil, .nil, _ => .nil
  | _, _, _, _, .cons a b, .cons p q, k => .cons (Own.freeze e a p fun x z => k x (List.mem_append_left _ z)) (Owns.freeze e b q fun x z => k x (List.mem_append_right _ z))
end
/-! .. and it was made here -/
mutual
theorem Own.nfreeze (e : Same F F') {o : O} {d : D} {v : V} {fp : List Addr} (h : Own C Z F H o v fp) (w : Er o d) (q : Full o) (k : ∀ a ∈ fp, ∀ u, H a = some u → sub Z F' a = some u) : Rp C (sub Z F') H d v := by
  cases h with
  | fz r =>
    cases w
    cases q with
    | fz q => exact r.flat q
  | nz r =>
    cases w
    exact r.mono (sub_same e) (Tst.refl _)
  | lst f h r =>
    cases w with
    | lst w =>
      cases q with
      | lst q => exact .lst (k _ List.mem_cons_self _ h) (Owns.nfreeze e r w q fun a z => k a (List.mem_cons_of_mem _ z))
  | tup h r =>
    cases w with
    | tup w =>
      cases q with
      | tup q => exact .tup h (Owns.nfreeze e r w q k)
  | obj f h n r =>
    cases w with
    | obj w =>
      cases q with
      | obj q => exact .obj (k _ List.mem_cons_self _ h) n (Owns.nfreeze e r w q fun a z => k a (List.mem_cons_of_mem _ z))
  | dic f h =>
    cases w
    exact .dic (k _ List.mem_cons_self _ h)
  | flst h r => exact nomatch q
  | pin r => exact nomatch q
termination_by structural o
theorem Owns.nfreeze (e : Same F F') {os : List O} {ds : List D} {vs : List V} {fp : List Addr} (h : Owns C Z F H os vs fp) (w : Ers os ds) (q : Fulls os) (k : ∀ a ∈ fp, ∀ u, H a = some u → sub Z F' a = some u) : Rps C (sub Z F') H ds vs := by
  cases h with
  | nil =>
    cases w
    exact .nil
  | cons a b =>
    cases w with
    | cons w1 w2 =>
      cases q with
      | cons q1 q2 => exact .cons (Own.nfreeze e a w1 q1 fun x z => k x (List.mem_append_left _ z)) (Owns.nfreeze e b w2 q2 fun x z => k x (List.mem_append_right _ z))
termination_by structural os
end
end

/-! ### environments -/
abbrev En := List (Option O)
inductive Slots (C : Cf) (Z F H : Hp) : En → L2.St → List Addr → Prop
  | nil : Slots C Z F H [] [] []
  | non {ss : En} {x : Option V} {σ : L2.St} {fp : List Addr} : Slots C Z F H ss σ fp → Slots C Z F H (none :: ss) (x :: σ) fp
  | som {o : O} {v : V} {ss : En} {σ : L2.St} {f1 f2 : List Addr} : Own C Z F H o v f1 → Slots C Z F H ss σ f2 → Slots C Z F H (some o :: ss) (some v :: σ) (f1 ++ f2)
/-- the slots bear what the environment says; what is owned stands apart -/
structure EnvOk (C : Cf) (Z : Hp) (ss : En) (F H : Hp) (σ : L2.St) : Prop where
  zf : Same Z F
  fh : Same F H
  sl : ∃ fp, Slots C Z F H ss σ fp ∧ fp.Nodup

section
variable {C : Cf} {Z F F' H H' : Hp} {ss : En} {σ : L2.St} {fp : List Addr}
theorem Slots.ext (e : Ext F H F' H') (h : Slots C Z F H ss σ fp) : Slots C Z F' H' ss σ fp := by
  induction h with
  | nil => exact .nil
  | non _ ih => exact .non ih
  | som a _ ih => exact .som (a.ext e) ih
theorem EnvOk.ext (e : Ext F H F' H') (h : EnvOk C Z ss F H σ) : EnvOk C Z ss F' H' σ := by
  obtain ⟨fp, a, b⟩ := h.sl
  exact ⟨h.zf.trans e.ff, e.fh, fp, a.ext e, b⟩
theorem Slots.frame (u : Tst H H') (h : Slots C Z F H ss σ fp) (k : ∀ a ∈ fp, H' a = H a) : Slots C Z F H' ss σ fp := by
  induction h with
  | nil => exact .nil
  | non _ ih => exact .non (ih k)
  | som a _ ih => exact .som (a.frame u fun x q => k x (List.mem_append_left _ q)) (ih fun x q => k x (List.mem_append_right _ q))
theorem Slots.refz (e : Same F F') (h : Slots C Z F H ss σ fp) (k : ∀ a ∈ fp, F' a = none) : Slots C Z F' H ss σ fp := by
  induction h with
  | nil => exact .nil
  | non _ ih => exact .non (ih k)
  | som a _ ih => exact .som (a.refz e fun x q => k x (List.mem_append_left _ q)) (ih fun x q => k x (List.mem_append_right _ q))
theorem Slots.gone (h : Slots C Z F H ss σ fp) : ∀ a ∈ fp, F a = Option.none ∧ H a ≠ Option.none := by
  induction h with
  | nil => exact fun a q => nomatch q
  | non _ ih => exact ih
  | som x _ ih => exact fun a q => (List.mem_append.mp q).elim (x.gone a) (ih a)
/-- a slot's value, and the others -/
theorem Slots.get {i : Nat} {o : O} (h : Slots C Z F H ss σ fp) : ss[i]? = some (some o) → ∃ v f1 f2, σ[i]? = some (some v) ∧ Own C Z F H o v f1 ∧ Slots C Z F H (ss.set i none) σ f2 ∧ (f1 ++ f2).Perm fp := by
  induction h generalizing i with
  | nil => intro e; simp at e
  | non h ih =>
    cases i with
    | zero => intro e; simp at e
    | succ i =>
      intro e
      obtain ⟨v, f1, f2, a, b, c, d⟩ := ih (i := i) (by simpa using e)
      exact ⟨v, f1, f2, by simpa using a, b, by simpa using Slots.non c, d⟩
  | som a h ih =>
    rename_i o' v' ss' σ' g1 g2
    cases i with
    | zero =>
      intro e
      simp at e
      subst e
      exact ⟨v', g1, g2, by simp, a, by simpa using Slots.non h, List.Perm.refl _⟩
    | succ i =>
      intro e
      obtain ⟨v, f1, f2, a', b, c, d⟩ := ih (i := i) (by simpa using e)
      refine ⟨v, f1, g1 ++ f2, by simpa using a', b, by simpa using Slots.som a c, ?_⟩
      have q : (f1 ++ (g1 ++ f2)).Perm (g1 ++ (f1 ++ f2)) := by
        rw [← List.append_assoc, ← List.append_assoc]
        exact List.Perm.append_right _ List.perm_append_comm
      exact q.trans (List.Perm.append_left _ d)
theorem Slots.length (h : Slots C Z F H ss σ fp) : ss.length = σ.length := by
  induction h with
  | nil => rfl
  | non _ ih => simp [ih]
  | som _ _ ih => simp [ih]
/-- a slot is emptied -/
theorem Slots.drop (h : Slots C Z F H ss σ fp) (i : Nat) : ∃ f2, Slots C Z F H (ss.set i none) σ f2 ∧ f2.Sublist fp := by
  induction h generalizing i with
  | nil => exact ⟨[], by simpa using Slots.nil, List.Sublist.refl _⟩
  | non h ih =>
    cases i with
    | zero => exact ⟨_, by simpa using Slots.non h, List.Sublist.refl _⟩
    | succ i =>
      obtain ⟨f2, a, b⟩ := ih i
      exact ⟨f2, by simpa using Slots.non a, b⟩
  | som a h ih =>
    cases i with
    | zero => exact ⟨_, by simpa using Slots.non h, List.sublist_append_right _ _⟩
    | succ i =>
      obtain ⟨f2, a', b⟩ := ih i
      exact ⟨_, by simpa using Slots.som a a', List.Sublist.append (List.Sublist.refl _) b⟩
/-- an empty slot is filled -/
theorem Slots.fill {o : O} {v : V} {g : List Addr} (h : Slots C Z F H ss σ fp) (hv : Own C Z F H o v g) : ∀ {i : Nat}, i < ss.length → ss[i]? = some none → ∃ f2, Slots C Z F H (ss.set i (some o)) (σ.set i (some v)) f2 ∧ f2.Perm (g ++ fp) := by
  induction h with
  | nil => intro i hi; simp at hi
  | non h ih =>
    intro i hi e
    cases i with
    | zero => exact ⟨_, by simpa using Slots.som hv h, List.Perm.refl _⟩
    | succ i =>
      obtain ⟨f2, a, b⟩ := ih (i := i) (by simpa using hi) (by simpa using e)
      exact ⟨f2, by simpa using Slots.non a, b⟩
  | som a h ih =>
    rename_i o' v' ss' σ' g1 g2
    intro i hi e
    cases i with
    | zero => simp at e
    | succ i =>
      obtain ⟨f2, a', b⟩ := ih (i := i) (by simpa using hi) (by simpa using e)
      refine ⟨g1 ++ f2, by simpa using Slots.som a a', ?_⟩
      have q : (g1 ++ (g ++ g2)).Perm (g ++ (g1 ++ g2)) := by
        rw [← List.append_assoc, ← List.append_assoc]
        exact List.Perm.append_right _ List.perm_append_comm
      exact (List.Perm.append_left _ b).trans q
/-- the slot's value is changed where nothing is said of it -/
theorem Slots.any (h : Slots C Z F H ss σ fp) (v : Option V) : ∀ {i : Nat}, ss[i]? = some none → Slots C Z F H ss (σ.set i v) fp := by
  induction h with
  | nil => intro i e; simp at e
  | non h ih =>
    intro i e
    cases i with
    | zero => simpa using Slots.non h
    | succ i => simpa using Slots.non (ih (i := i) (by simpa using e))
  | som a h ih =>
    intro i e
    cases i with
    | zero => simp at e
    | succ i => simpa using Slots.som a (ih (i := i) (by simpa using e))
end
/-- less is said -/
inductive Wk : En → En → Prop
  | nil : Wk [] []
  | keep {x : Option O} {a b : En} : Wk a b → Wk (x :: a) (x :: b)
  | drop {x : Option O} {a b : En} : Wk a b → Wk (x :: a) (none :: b)
theorem Wk.refl : ∀ a : En, Wk a a
  | [] => .nil
  | _ :: a => .keep (Wk.refl a)
section
variable {C : Cf} {Z F F' H H' : Hp} {ss ss' : En} {σ : L2.St} {fp : List Addr}
theorem Wk.slots (w : Wk ss ss') : ∀ {σ : L2.St} {fp : List Addr}, Slots C Z F H ss σ fp → ∃ f2, Slots C Z F H ss' σ f2 ∧ f2.Sublist fp := by
  induction w with
  | nil => intro σ fp h; exact ⟨fp, h, List.Sublist.refl _⟩
  | keep w ih =>
    intro σ fp h
    cases h with
    | non h =>
      obtain ⟨f2, a, b⟩ := ih h
      exact ⟨f2, .non a, b⟩
    | som o h =>
      obtain ⟨f2, a, b⟩ := ih h
      exact ⟨_, .som o a, List.Sublist.append (List.Sublist.refl _) b⟩
  | drop w ih =>
    intro σ fp h
    cases h with
    | non h =>
      obtain ⟨f2, a, b⟩ := ih h
      exact ⟨f2, .non a, b⟩
    | som o h =>
      obtain ⟨f2, a, b⟩ := ih h
      exact ⟨f2, .non a, b.trans (List.sublist_append_right _ _)⟩
theorem EnvOk.wk (w : Wk ss ss') (h : EnvOk C Z ss F H σ) : EnvOk C Z ss' F H σ := by
  obtain ⟨fp, a, b⟩ := h.sl
  obtain ⟨f2, c, d⟩ := w.slots a
  exact ⟨h.zf, h.fh, f2, c, b.sublist d⟩
end

/-! ### results -/
/-- cur: it represents d now; frz: it is frozen; nrz: .. and was made here; new: new and owned; itm: a list, its items frozen -/
inductive RM where
  | cur (d : D)
  | frz (d : D)
  | nrz (d : D)
  | new (o : O)
  | itm (os : List O)
  | pins (d : D) (ls : List (Addr × O))
def RM.ok (C : Cf) (Z : Hp) (H0 : Hp) (v : V) (F H : Hp) : RM → Prop
  | .cur d => Rp C H H d v
  | .frz d => Rp C F H d v
  | .nrz d => Rp C (sub Z F) H d v
  | .new o => ∃ fp, Own C Z F H o v fp ∧ (∀ a ∈ fp, H0 a = none) ∧ fp.Nodup
  | .pins d ls => Rp C F H d v ∧ ∃ fp, Owns C Z F H (ls.map (·.2)) (ls.map fun x => .ref x.1) fp ∧ fp.Nodup
  | .itm os => ∃ p vs, v = .ref p ∧ H p = some (.lst vs) ∧ Owns C Z F H os vs []
theorem RM.ok_ext {C : Cf} {Z H0 F H F' H' : Hp} {v : V} {r : RM} (e : Ext F H F' H') (h : r.ok C Z H0 v F H) : r.ok C Z H0 v F' H' := by
  cases r with
  | cur d => exact Rp.mono e.hh (.of e.hh) h
  | frz d => exact Rp.mono e.ff (.of e.hh) h
  | nrz d => exact Rp.mono (sub_same e.ff) (.of e.hh) h
  | new o =>
    obtain ⟨fp, a, b, c⟩ := h
    exact ⟨fp, a.ext e, b, c⟩
  | itm os =>
    obtain ⟨p, vs, a, b, c⟩ := h
    exact ⟨p, vs, a, e.hh _ _ b, c.ext e⟩
  | pins d ls =>
    obtain ⟨a, fp, b, c⟩ := h
    exact ⟨Rp.mono e.ff (.of e.hh) a, fp, b.ext e, c⟩
theorem RM.ok_old {C : Cf} {Z H0 H1 F H : Hp} {v : V} {r : RM} (e : Same H0 H1) (h : r.ok C Z H1 v F H) : r.ok C Z H0 v F H := by
  cases r with
  | cur d => exact h
  | frz d => exact h
  | nrz d => exact h
  | itm ds => exact h
  | pins d ls => exact h
  | new o =>
    obtain ⟨fp, a, b, c⟩ := h
    exact ⟨fp, a, fun x q => e.free (b x q), c⟩

/-! ### the judgements -/
/-- the weakest readings -/
def wE (X : Cx) (e : Expr) : TE := fun σ H Q => ∀ (pins : List (Addr × Obj)) (s : Shared), Inv X pins σ H s → wpAny (model X.prog X.w) X.A (eval e X.env) (EP X pins σ Q) X.xe s
def wT (X : Cx) (e : Expr) : TT := fun σ H Q => ∀ (pins : List (Addr × Obj)) (s : Shared), Inv X pins σ H s → wpAny (model X.prog X.w) X.A (isTrue e X.env (eval e X.env)) (TP X pins σ Q) X.xe s
def wW (X : Cx) (e : Expr) : TT := fun σ H Q => ∀ (whole : Sem Value) (pins : List (Addr × Obj)) (s : Shared), Inv X pins σ H s → wpAny (model X.prog X.w) X.A (isTrue e X.env whole) (TP X pins σ Q) X.xe s
def wA (X : Cx) (es : List Expr) : TA := fun σ H Q => ∀ (pos : Pos) (pins : List (Addr × Obj)) (s : Shared), Inv X pins σ H s → wpAny (model X.prog X.w) X.A (spliced (backTo pos (starEach es X.env))) (AP X pins σ Q) X.xe s
def wSs (X : Cx) (b : List Stmt) : L2.TS := fun D σ H => ∀ (pins : List (Addr × Obj)) (s : Shared), Inv X pins σ H s → wpAny (model X.prog X.w) X.A (execs b X.env) (SP X pins D) X.xe s
def wS (X : Cx) (b : Stmt) : L2.TS := fun D σ H => ∀ (pins : List (Addr × Obj)) (s : Shared), Inv X pins σ H s → wpAny (model X.prog X.w) X.A (exec b X.env) (SP X pins D) X.xe s
theorem pe_w {X : Cx} {e : Expr} : PE X e (wE X e) := ⟨fun pins s _ _ _ I h => h pins s I⟩
theorem pt_w {X : Cx} {e : Expr} : PT X e (wT X e) := ⟨fun pins s _ _ _ I h => h pins s I⟩
theorem pw_w {X : Cx} {e : Expr} : PW X e (wW X e) := ⟨fun wh pins s _ _ _ I h => h wh pins s I⟩
theorem pa_w {X : Cx} {es : List Expr} : PA X es (wA X es) := ⟨fun pos pins s _ _ _ I h => h pos pins s I⟩
theorem pss_w {X : Cx} {b : List Stmt} : PSs X b (wSs X b) := ⟨fun pins s _ _ _ I h => h pins s I⟩
theorem ps_w {X : Cx} {b : Stmt} : PS X b (wS X b) := ⟨fun pins s _ _ _ I h => h pins s I⟩

/-- e evaluates to r, in the environment ss -/
def Ev (C : Cf) (Z : Hp) (X : Cx) (ss : En) (e : Expr) (r : RM) : Prop :=
  ∀ (σ : L2.St) (F H : Hp) (Q : VK), EnvOk C Z ss F H σ → (∀ v F' H', Ext F H F' H' → r.ok C Z H v F' H' → Q v H') → wE X e σ H Q
def Te (C : Cf) (Z : Hp) (X : Cx) (ss : En) (e : Expr) (b : Bool) : Prop :=
  ∀ (σ : L2.St) (F H : Hp) (Q : Bool → Hp → Prop), EnvOk C Z ss F H σ → (∀ F' H', Ext F H F' H' → Q b H') → wT X e σ H Q
def Tw (C : Cf) (Z : Hp) (X : Cx) (ss : En) (e : Expr) (b : Bool) : Prop :=
  ∀ (σ : L2.St) (F H : Hp) (Q : Bool → Hp → Prop), EnvOk C Z ss F H σ → (∀ F' H', Ext F H F' H' → Q b H') → wW X e σ H Q
/-- arguments, as data of the heap at the call -/
def Ea (C : Cf) (Z : Hp) (X : Cx) (ss : En) (es : List Expr) (ds : List D) : Prop :=
  ∀ (σ : L2.St) (F H : Hp) (Q : List V → Hp → Prop), EnvOk C Z ss F H σ → (∀ vs F' H', Ext F H F' H' → Rps C H' H' ds vs → Q vs H') → wA X es σ H Q
/-- items of a display -/
def Ei (C : Cf) (Z : Hp) (X : Cx) (ss : En) (es : List Expr) (os : List O) : Prop :=
  ∀ (σ : L2.St) (F H : Hp) (Q : List V → Hp → Prop), EnvOk C Z ss F H σ → (∀ vs fp F' H', Ext F H F' H' → Owns C Z F' H' os vs fp → (∀ a ∈ fp, H a = none) → fp.Nodup → Q vs H') → wA X es σ H Q

/-- what a def's run comes to -/
inductive Res (α : Type) where
  | ok (a : α)
  | exc (c : Nat)
  | bad
/-- what a block comes to: goes on with s, returns r, raises -/
inductive Fl (S R : Type) where
  | nx (s : S)
  | rt (r : R)
  | exc (c : Nat)
  | bad
/-- what stands behind a statement: what was frozen is, tuples stay -/
structure Gr (F H F' H' : Hp) : Prop where
  ff : Same F F'
  tt : Tst H H'
theorem Gr.refl (F H : Hp) : Gr F H F H := ⟨Same.refl F, Tst.refl H⟩
theorem Gr.trans {F H F1 H1 F2 H2 : Hp} (a : Gr F H F1 H1) (b : Gr F1 H1 F2 H2) : Gr F H F2 H2 := ⟨a.ff.trans b.ff, fun x xs h => b.tt x xs (a.tt x xs h)⟩
theorem Ext.gr {F H F' H' : Hp} (e : Ext F H F' H') : Gr F H F' H' := ⟨e.ff, .of e.hh⟩
/-- a block comes to o -/
def Sts (C : Cf) (Z : Hp) (X : Cx) (W : Nat → Hp → Prop) (ss : En) (b : List Stmt) {S R : Type} (ES : S → En) (ER : R → RM) (o : Fl S R) : Prop :=
  ∀ (σ : L2.St) (F H : Hp) (D : Ends), EnvOk C Z ss F H σ →
    (match o with
    | .nx s => ∀ σ' F' H', Gr F H F' H' → EnvOk C Z (ES s) F' H' σ' → D.nx σ' H'
    | .rt r => ∀ v F' H', Gr F H F' H' → Same F' H' → (ER r).ok C Z Z v F' H' → D.rt v H'
    | .exc c => ∀ H', Same Z H' → W c H'
    | .bad => False) → wSs X b D σ H
end VL

set_option Elab.async false
set_option linter.all false
set_option maxRecDepth 100000
set_option maxHeartbeats 4000000
/-! VL2: codes, conversions, expressions. -/
namespace VL
open PySem PySem.Spec PyProof.Rows L2

/-! ### codes -/
abbrev dI (i : Int) : D := .sc (.int i)
abbrev dB (b : Bool) : D := .sc (.bl b)
abbrev dS (s : Str) : D := .sc (.str s)
abbrev dN : D := .sc .non
def dL {α : Type} (g : α → D) (xs : List α) : D := .lst (xs.map g)
def dP {α β : Type} (g : α → D) (h : β → D) (p : α × β) : D := .tup [g p.1, h p.2]
def dT {α β γ : Type} (g : α → D) (h : β → D) (k : γ → D) (p : α × β × γ) : D := .tup [g p.1, h p.2.1, k p.2.2]
def dO {α : Type} (g : α → D) : Option α → D
  | none => dN
  | some a => g a
def zz {α : Type} (g : α → D) (x : α) : O := .fz (g x)
def zn {α : Type} (g : α → D) (x : α) : O := .nz (g x)
def oL {α : Type} (f : α → O) (xs : List α) : O := .lst (xs.map f)
def oP {α β : Type} (g : α → O) (h : β → O) (p : α × β) : O := .tup [g p.1, h p.2]
/-- the result that an item of this form is -/
def rmO : O → RM
  | .fz d => .frz d
  | .nz d => .nrz d
  | o => .new o
/-- no object of its own -/
def Leaf : O → Prop
  | .fz _ => True
  | .nz _ => True
  | _ => False

theorem er_z {α : Type} {g : α → D} (x : α) : Er (zz g x) (g x) := .fz
theorem er_n {α : Type} {g : α → D} (x : α) : Er (zn g x) (g x) := .nz
theorem ers_map {α : Type} {f : α → O} {g : α → D} (h : ∀ x, Er (f x) (g x)) : ∀ xs : List α, Ers (xs.map f) (xs.map g)
  | [] => .nil
  | x :: xs => .cons (h x) (ers_map h xs)
theorem er_L {α : Type} {f : α → O} {g : α → D} (h : ∀ x, Er (f x) (g x)) (xs : List α) : Er (oL f xs) (dL g xs) := .lst (ers_map h xs)
theorem er_P {α β : Type} {f : α → O} {g : α → D} {f' : β → O} {g' : β → D} (h : ∀ x, Er (f x) (g x)) (h' : ∀ x, Er (f' x) (g' x)) (p : α × β) : Er (oP f f' p) (dP g g' p) := .tup (.cons (h _) (.cons (h' _) .nil))
theorem fl_I (i : Int) : Flat (dI i) := .sc
theorem fl_sc (v : V) : Flat (.sc v) := .sc
theorem fl_P {α β : Type} {g : α → D} {h : β → D} (a : ∀ x, Flat (g x)) (b : ∀ x, Flat (h x)) (p : α × β) : Flat (dP g h p) := .tup (.cons (a _) (.cons (b _) .nil))
theorem fl_T {α β γ : Type} {g : α → D} {h : β → D} {k : γ → D} (a : ∀ x, Flat (g x)) (b : ∀ x, Flat (h x)) (c : ∀ x, Flat (k x)) (p : α × β × γ) : Flat (dT g h k p) := .tup (.cons (a _) (.cons (b _) (.cons (c _) .nil)))
theorem fl_O {α : Type} {g : α → D} (a : ∀ x, Flat (g x)) : ∀ o : Option α, Flat (dO g o)
  | none => .sc
  | some x => a x
theorem fulls_map {α : Type} {f : α → O} (h : ∀ x, Full (f x)) : ∀ xs : List α, Fulls (xs.map f)
  | [] => .nil
  | x :: xs => .cons (h x) (fulls_map h xs)
theorem fu_z {α : Type} {g : α → D} (h : ∀ x, Flat (g x)) (x : α) : Full (zz g x) := .fz (h x)
theorem fu_n {α : Type} {g : α → D} (x : α) : Full (zn g x) := .nz
theorem fu_L {α : Type} {f : α → O} (h : ∀ x, Full (f x)) (xs : List α) : Full (oL f xs) := .lst (fulls_map h xs)
theorem fu_P {α β : Type} {f : α → O} {f' : β → O} (h : ∀ x, Full (f x)) (h' : ∀ x, Full (f' x)) (p : α × β) : Full (oP f f' p) := .tup (.cons (h _) (.cons (h' _) .nil))

section
variable {C : Cf} {Z F F' H H' : Hp}
theorem Own.leaf {o : O} {v : V} {fp : List Addr} (h : Own C Z F H o v fp) (l : Leaf o) : fp = [] := by
  cases h with
  | fz _ => rfl
  | nz _ => rfl
  | lst => exact l.elim
  | tup => exact l.elim
  | obj => exact l.elim
  | dic => exact l.elim
  | flst => exact l.elim
  | pin => exact l.elim
theorem Owns.leaf : ∀ {os : List O} {vs : List V} {fp : List Addr}, Owns C Z F H os vs fp → (∀ o ∈ os, Leaf o) → fp = []
  | _, _, _, .nil, _ => rfl
  | _, _, _, .cons a b, l => by
    rw [a.leaf (l _ List.mem_cons_self), Owns.leaf b fun o q => l o (List.mem_cons_of_mem _ q)]
    rfl
theorem Owns.length : ∀ {os : List O} {vs : List V} {fp : List Addr}, Owns C Z F H os vs fp → os.length = vs.length
  | _, _, _, .nil => rfl
  | _, _, _, .cons _ b => by simp [Owns.length b]
theorem Rps.length : ∀ {ds : List D} {vs : List V}, Rps C F H ds vs → ds.length = vs.length
  | _, _, .nil => rfl
  | _, _, .cons _ b => by simp [Rps.length b]
theorem Owns.append : ∀ {os ps : List O} {vs ws : List V} {f g : List Addr}, Owns C Z F H os vs f → Owns C Z F H ps ws g → Owns C Z F H (os ++ ps) (vs ++ ws) (f ++ g)
  | _, _, _, _, _, _, .nil, h => h
  | _, _, _, _, _, _, .cons a b, h => by
    rw [List.append_assoc]
    exact .cons a (Owns.append b h)
/-- items without objects of their own: one by one -/
theorem owns_iff : ∀ {os : List O} {vs : List V}, Owns C Z F H os vs [] ↔ (os.length = vs.length ∧ ∀ (i : Nat) (o : O) (v : V), os[i]? = some o → vs[i]? = some v → Own C Z F H o v []) := by
  intro os
  induction os with
  | nil =>
    intro vs
    constructor
    · intro h; cases h; exact ⟨rfl, fun i o v e => by simp at e⟩
    · intro h
      cases vs with
      | nil => exact .nil
      | cons _ _ => simp at h
  | cons o os ih =>
    intro vs
    constructor
    · intro h
      generalize he : ([] : List Addr) = fp at h
      cases h with
      | cons a b =>
        rename_i v vs f1 f2
        obtain ⟨h1, h2⟩ : f1 = [] ∧ f2 = [] := by simpa using he.symm
        subst h1 h2
        obtain ⟨l, k⟩ := ih.mp b
        refine ⟨by simp [l], fun i o' v' e1 e2 => ?_⟩
        cases i with
        | zero => simp at e1 e2; subst e1 e2; exact a
        | succ i => exact k i o' v' (by simpa using e1) (by simpa using e2)
    · intro h
      cases vs with
      | nil => simp at h
      | cons v vs =>
        have a := h.2 0 o v rfl rfl
        have b : Owns C Z F H os vs [] := ih.mpr ⟨by simpa using h.1, fun i o' v' e1 e2 => h.2 (i + 1) o' v' (by simpa using e1) (by simpa using e2)⟩
        exact .cons (f1 := []) (f2 := []) a b
theorem Owns.drop {os : List O} {vs : List V} (h : Owns C Z F H os vs []) (n : Nat) : Owns C Z F H (os.drop n) (vs.drop n) [] := by
  rw [owns_iff] at h ⊢
  obtain ⟨l, k⟩ := h
  refine ⟨by simp [l], fun i o v e1 e2 => ?_⟩
  rw [List.getElem?_drop] at e1 e2
  exact k _ o v e1 e2
theorem Owns.take {os : List O} {vs : List V} (h : Owns C Z F H os vs []) (n : Nat) : Owns C Z F H (os.take n) (vs.take n) [] := by
  rw [owns_iff] at h ⊢
  obtain ⟨l, k⟩ := h
  refine ⟨by simp [l], fun i o v e1 e2 => ?_⟩
  rw [List.getElem?_take] at e1 e2
  split at e1
  · rename_i hi
    rw [if_pos hi] at e2
    exact k _ o v e1 e2
  · cases e1
theorem Owns.reverse {os : List O} {vs : List V} (h : Owns C Z F H os vs []) : Owns C Z F H os.reverse vs.reverse [] := by
  rw [owns_iff] at h ⊢
  obtain ⟨l, k⟩ := h
  refine ⟨by simp [l], fun i o v e1 e2 => ?_⟩
  have hi : i < os.length := by
    have q := (List.getElem?_eq_some_iff.mp e1).1
    simpa using q
  rw [List.getElem?_reverse hi] at e1
  rw [List.getElem?_reverse (by omega)] at e2
  rw [← l] at e2
  exact k _ o v e1 e2
theorem Owns.get {os : List O} {vs : List V} {i : Nat} {o : O} (h : Owns C Z F H os vs []) (e : os[i]? = some o) : ∃ v, vs[i]? = some v ∧ Own C Z F H o v [] := by
  rw [owns_iff] at h
  obtain ⟨l, k⟩ := h
  have hi : i < vs.length := by
    have q := (List.getElem?_eq_some_iff.mp e).1
    omega
  exact ⟨vs[i], by simp [hi], k i o _ e (by simp [hi])⟩
theorem Owns.set {os : List O} {vs : List V} {o : O} {v : V} (h : Owns C Z F H os vs []) (hv : Own C Z F H o v []) (i : Nat) : Owns C Z F H (os.set i o) (vs.set i v) [] := by
  rw [owns_iff] at h ⊢
  obtain ⟨l, k⟩ := h
  refine ⟨by simp [l], fun j o' v' e1 e2 => ?_⟩
  by_cases q : i = j
  · subst q
    have h1 : i < os.length := by
      have q := (List.getElem?_eq_some_iff.mp e1).1
      simpa using q
    rw [List.getElem?_set_self h1] at e1
    rw [List.getElem?_set_self (by omega)] at e2
    cases e1; cases e2
    exact hv
  · rw [List.getElem?_set_ne q] at e1 e2
    exact k j o' v' e1 e2
theorem Rps.get : ∀ {ds : List D} {vs : List V} {i : Nat} {d : D}, Rps C F H ds vs → ds[i]? = some d → ∃ v, vs[i]? = some v ∧ Rp C F H d v
  | _, _, _, _, .nil, e => by simp at e
  | _, _, 0, _, .cons a _, e => by simp at e; subst e; exact ⟨_, rfl, a⟩
  | _, _, i + 1, _, .cons _ b, e => by
    obtain ⟨v, h1, h2⟩ := Rps.get (i := i) b (by simpa using e)
    exact ⟨v, by simpa using h1, h2⟩
/-- scalars are themselves -/
theorem Rps.scs {α : Type} {k : α → V} : ∀ {xs : List α} {vs : List V}, Rps C F H (xs.map fun x => .sc (k x)) vs → vs = xs.map k
  | [], _, h => by cases h; rfl
  | x :: xs, _, h => by
    cases h with
    | cons a b =>
      cases a
      rw [Rps.scs b]
      rfl
theorem rps_scs {α : Type} (k : α → V) : ∀ xs : List α, Rps C F H (xs.map fun x => .sc (k x)) (xs.map k)
  | [] => .nil
  | _ :: xs => .cons .sc (rps_scs k xs)
theorem owns_zz {α : Type} {g : α → D} : ∀ {xs : List α} {vs : List V}, Rps C F H (xs.map g) vs → Owns C Z F H (xs.map (zz g)) vs []
  | [], _, h => by cases h; exact .nil
  | x :: xs, _, h => by
    cases h with
    | cons a b => exact .cons (f1 := []) (f2 := []) (.fz a) (owns_zz b)
theorem owns_zn {α : Type} {g : α → D} : ∀ {xs : List α} {vs : List V}, Rps C (sub Z F) H (xs.map g) vs → Owns C Z F H (xs.map (zn g)) vs []
  | [], _, h => by cases h; exact .nil
  | x :: xs, _, h => by
    cases h with
    | cons a b => exact .cons (f1 := []) (f2 := []) (.nz a) (owns_zn b)
theorem rps_flats {α : Type} {g : α → D} (fl : ∀ x, Flat (g x)) : ∀ {xs : List α} {vs : List V}, Rps C F H (xs.map g) vs → Rps C F' H (xs.map g) vs
  | [], _, h => by cases h; exact .nil
  | x :: xs, _, h => by
    cases h with
    | cons a b => exact .cons (a.flat (fl x)) (rps_flats fl b)
/-- a new result, from an item's -/
theorem rmO_ok {o : O} {v : V} (h : (rmO o).ok C Z H v F' H') : ∃ fp, Own C Z F' H' o v fp ∧ (∀ a ∈ fp, H a = none) ∧ fp.Nodup := by
  cases o with
  | fz d => exact ⟨[], .fz h, fun _ q => absurd q List.not_mem_nil, List.nodup_nil⟩
  | nz d => exact ⟨[], .nz h, fun _ q => absurd q List.not_mem_nil, List.nodup_nil⟩
  | lst os => exact h
  | tup os => exact h
  | obj c os => exact h
  | dic k => exact h
  | flst p os => exact h
  | pin p o => exact h
theorem ok_rmO {o : O} {v : V} {fp : List Addr} (h : Own C Z F' H' o v fp) (h1 : ∀ a ∈ fp, H a = none) (h2 : fp.Nodup) : (rmO o).ok C Z H v F' H' := by
  cases o with
  | fz d => cases h with | fz r => exact r
  | nz d => cases h with | nz r => exact r
  | lst os => exact ⟨fp, h, h1, h2⟩
  | tup os => exact ⟨fp, h, h1, h2⟩
  | obj c os => exact ⟨fp, h, h1, h2⟩
  | dic k => exact ⟨fp, h, h1, h2⟩
  | flst p os => exact ⟨fp, h, h1, h2⟩
  | pin p o => exact ⟨fp, h, h1, h2⟩
end

/-! ### what is known of the place where a def's body runs -/
/-- names that stand for the built-ins -/
structure Bt (mg : Str → Option Value) : Prop where
  len : mg "len" = none
  list : mg "list" = none
  sorted : mg "sorted" = none
  range : mg "range" = none
  min : mg "min" = none
  max : mg "max" = none
  int : mg "int" = none
  bool : mg "bool" = none
  str : mg "str" = none
  tuple : mg "tuple" = none
  isinstance : mg "isinstance" = none
  enumerate : mg "enumerate" = none
  reversed : mg "reversed" = none
  set : mg "set" = none
structure Cok (C : Cf) (X : Cx) (N : List Str) (P : Nat → Bool) (G : List Str) : Prop where
  hK : X.K = C.K
  hN : X.N = N
  nd : N.Nodup
  vis : ∀ i x, P i = true → N[i]? = some x → Vis X.env.scope x ∧ (x == ("__debug__" : Str)) = false ∧ (x == ("__classdict__" : Str)) = false
  gl : ∀ (i : Nat) x, G[i]? = some x → Gl X x ∧ (x == ("__debug__" : Str)) = false ∧ x ≠ "__name__"
  calm : X.calm = true
  hu : X.A.units + 64 < cLine
  bt : Bt X.mg
  hv : X.A.units + 65 < cLine

section
variable {C : Cf} {Z : Hp} {X : Cx} {N G : List Str} {P : Nat → Bool} {ss : En} {a b c e : Expr} {pos p p2 : Pos} {r r' : RM} {α β γ : Type}

theorem Ev.imp (h : Ev C Z X ss e r) (k : ∀ (v : V) (F H F' H' : Hp), Ext F H F' H' → r.ok C Z H v F' H' → ∃ F2, Ext F H F2 H' ∧ r'.ok C Z H v F2 H') : Ev C Z X ss e r' := fun σ F H Q he hq =>
  h σ F H Q he fun v F' H' x q => let ⟨F2, y, z⟩ := k v F H F' H' x q; hq v F2 H' y z
theorem Ev.imp0 (h : Ev C Z X ss e r) (k : ∀ (v : V) (F H F' H' : Hp), Ext F H F' H' → r.ok C Z H v F' H' → r'.ok C Z H v F' H') : Ev C Z X ss e r' :=
  h.imp fun v F H F' H' x q => ⟨F', x, k v F H F' H' x q⟩
/-! conversions -/
theorem Ev.frz_nrz {d : D} (h : Ev C Z X ss e (.nrz d)) : Ev C Z X ss e (.frz d) := h.imp0 fun _ _ _ _ _ _ q => Rp.mono sub_le (Tst.refl _) q
theorem Ev.cur_frz {d : D} (h : Ev C Z X ss e (.frz d)) : Ev C Z X ss e (.cur d) := h.imp0 fun _ _ _ _ _ x q => Rp.mono x.fh (Tst.refl _) q
theorem Ev.cur_nrz {d : D} (h : Ev C Z X ss e (.nrz d)) : Ev C Z X ss e (.cur d) := h.frz_nrz.cur_frz
theorem Ev.cur_new {o : O} {d : D} (h : Ev C Z X ss e (.new o)) (w : Er o d) : Ev C Z X ss e (.cur d) := h.imp0 fun _ _ _ _ _ x q => let ⟨_, o, _, _⟩ := q; o.cur x.fh w
theorem ext_frz {F H F' H' : Hp} {fp : List Addr} (x : Ext F H F' H') (n : ∀ a ∈ fp, F' a = none) (k : ∀ a ∈ fp, H a = none) : Ext F H (frz F' H' fp) H' :=
  ⟨x.ff.trans (frz_same n), x.hh, frz_heap x.fh, fun a h1 h2 => by
    rw [frz_out fun q => h1 (k a q)]
    exact x.ow a h1 h2⟩
theorem Ev.frz_new {o : O} {d : D} (h : Ev C Z X ss e (.new o)) (w : Er o d) : Ev C Z X ss e (.frz d) := h.imp fun v F H F' H' x q => by
  obtain ⟨fp, ow, k, nd⟩ := q
  have n : ∀ a ∈ fp, F' a = none := fun a q => (ow.gone a q).1
  exact ⟨frz F' H' fp, ext_frz x n k, ow.freeze (frz_same n) w fun a q u hu => by rw [frz_in q]; exact hu⟩
theorem Ev.nrz_new {o : O} {d : D} (h : Ev C Z X ss e (.new o)) (w : Er o d) (fu : Full o) : Ev C Z X ss e (.nrz d) := fun σ F H Q he hq =>
  h σ F H Q he fun v F' H' x q => by
    obtain ⟨fp, ow, k, nd⟩ := q
    have n : ∀ a ∈ fp, F' a = none := fun a q => (ow.gone a q).1
    refine hq v (frz F' H' fp) H' (ext_frz x n k) ?_
    refine ow.nfreeze (frz_same n) w fu fun a q u hu => ?_
    rw [sub_new ((he.zf.trans he.fh).free (k a q)), frz_in q]
    exact hu
theorem Ev.sc {v : V} (h : Ev C Z X ss e (.cur (.sc v))) : Ev C Z X ss e (.frz (.sc v)) := h.imp0 fun _ _ _ _ _ _ q => by
  cases q
  exact Rp.sc
theorem Ev.nsc {v : V} (h : Ev C Z X ss e (.frz (.sc v))) : Ev C Z X ss e (.nrz (.sc v)) := h.imp0 fun _ _ _ _ _ _ q => by
  cases q
  exact Rp.sc
theorem Ev.flat {d : D} (h : Ev C Z X ss e (.cur d)) (fl : Flat d) : Ev C Z X ss e (.frz d) := h.imp0 fun _ _ _ _ _ _ q => Rp.flat q fl
theorem Ev.nflat {d : D} (h : Ev C Z X ss e (.cur d)) (fl : Flat d) : Ev C Z X ss e (.nrz d) := h.imp0 fun _ _ _ _ _ _ q => Rp.flat q fl
theorem Ev.itm_frz {g : α → D} {xs : List α} (h : Ev C Z X ss e (.frz (dL g xs))) : Ev C Z X ss e (.itm (xs.map (zz g))) := h.imp0 fun _ _ _ _ _ x q => by
  cases q with
  | lst hp hr => exact ⟨_, _, rfl, x.fh _ _ hp, owns_zz hr⟩
theorem Ev.itm_nrz {g : α → D} {xs : List α} (h : Ev C Z X ss e (.nrz (dL g xs))) : Ev C Z X ss e (.itm (xs.map (zn g))) := h.imp0 fun _ _ _ _ _ x q => by
  cases q with
  | lst hp hr => exact ⟨_, _, rfl, x.fh _ _ (sub_le _ _ hp), owns_zn hr⟩
theorem Ev.itm_cur {g : α → D} {xs : List α} (fl : ∀ x, Flat (g x)) (h : Ev C Z X ss e (.cur (dL g xs))) : Ev C Z X ss e (.itm (xs.map (zz g))) := h.imp0 fun _ _ _ _ _ x q => by
  cases q with
  | lst hp hr => exact ⟨_, _, rfl, hp, owns_zz (rps_flats fl hr)⟩
theorem Ev.itm_new {os : List O} (h : Ev C Z X ss e (.new (.lst os))) (l : ∀ o ∈ os, Leaf o) : Ev C Z X ss e (.itm os) := h.imp0 fun _ _ _ _ _ x q => by
  obtain ⟨fp, ow, k, nd⟩ := q
  cases ow with
  | lst hf hp hr =>
    have e := hr.leaf l
    subst e
    exact ⟨_, _, rfl, hp, hr⟩
theorem Ev.cur_itm {os : List O} {ds : List D} (h : Ev C Z X ss e (.itm os)) (w : Ers os ds) : Ev C Z X ss e (.cur (.lst ds)) := h.imp0 fun _ _ _ _ _ x q => by
  obtain ⟨p, vs, rfl, hp, hr⟩ := q
  exact .lst hp (hr.cur x.fh w)
theorem Ev.eq (h : Ev C Z X ss e r) (q : r = r') : Ev C Z X ss e r' := q ▸ h
theorem leaf_zz {g : α → D} (xs : List α) : ∀ o ∈ xs.map (zz g), Leaf o := fun o h => by
  obtain ⟨x, _, rfl⟩ := List.mem_map.mp h
  trivial
theorem leaf_zn {g : α → D} (xs : List α) : ∀ o ∈ xs.map (zn g), Leaf o := fun o h => by
  obtain ⟨x, _, rfl⟩ := List.mem_map.mp h
  trivial

/-! names, constants -/
theorem Ev.slot (k : Cok C X N P G) {i : Nat} {x : Str} {o : O} {v : V} (hi : N[i]? = some x) (hp : P i = true) {Q : VK} {σ : L2.St} {H : Hp} (hs : σ[i]? = some (some v)) (q : Q v H) : wE X (.Name x pos) σ H Q := fun pins s I =>
  (pe_var (i := i) (by rw [k.hN]; exact hi) (k.vis i x hp hi).1 (k.vis i x hp hi).2.1 (k.vis i x hp hi).2.2).run pins s σ H Q I ⟨v, hs, q⟩
theorem Ev.fz (k : Cok C X N P G) (i : Nat) {x : Str} {d : D} (hi : N[i]? = some x := by rfl) (hs : ss[i]? = some (some (.fz d)) := by rfl) (hp : P i = true := by rfl) : Ev C Z X ss (.Name x pos) (.frz d) := fun σ F H Q he hq => by
  obtain ⟨fp, sl, nd⟩ := he.sl
  obtain ⟨v, f1, f2, h1, h2, h3, h4⟩ := sl.get hs
  cases h2 with
  | fz r => exact Ev.slot (o := .fz d) k hi hp h1 (hq v F H (Ext.refl he.fh) r)
theorem Ev.nz (k : Cok C X N P G) (i : Nat) {x : Str} {d : D} (hi : N[i]? = some x := by rfl) (hs : ss[i]? = some (some (.nz d)) := by rfl) (hp : P i = true := by rfl) : Ev C Z X ss (.Name x pos) (.nrz d) := fun σ F H Q he hq => by
  obtain ⟨fp, sl, nd⟩ := he.sl
  obtain ⟨v, f1, f2, h1, h2, h3, h4⟩ := sl.get hs
  cases h2 with
  | nz r => exact Ev.slot (o := .nz d) k hi hp h1 (hq v F H (Ext.refl he.fh) r)
theorem Ev.ow (k : Cok C X N P G) (i : Nat) {x : Str} {o : O} {d : D} (w : Er o d) (hi : N[i]? = some x := by rfl) (hs : ss[i]? = some (some o) := by rfl) (hp : P i = true := by rfl) : Ev C Z X ss (.Name x pos) (.cur d) := fun σ F H Q he hq => by
  obtain ⟨fp, sl, nd⟩ := he.sl
  obtain ⟨v, f1, f2, h1, h2, h3, h4⟩ := sl.get hs
  exact Ev.slot (o := o) k hi hp h1 (hq v F H (Ext.refl he.fh) (h2.cur he.fh w))
theorem Ev.owi (k : Cok C X N P G) (i : Nat) {x : Str} {os : List O} (l : ∀ o ∈ os, Leaf o) (hi : N[i]? = some x := by rfl) (hs : ss[i]? = some (some (.lst os)) := by rfl) (hp : P i = true := by rfl) : Ev C Z X ss (.Name x pos) (.itm os) := fun σ F H Q he hq => by
  obtain ⟨fp, sl, nd⟩ := he.sl
  obtain ⟨v, f1, f2, h1, h2, h3, h4⟩ := sl.get hs
  cases h2 with
  | lst hf hp' hr =>
    have e := hr.leaf l
    subst e
    exact Ev.slot (o := .lst os) k hi hp h1 (hq _ F H (Ext.refl he.fh) ⟨_, _, rfl, hp', hr⟩)
theorem Ev.of_c {v : V} (h : PE X e (tC v)) : Ev C Z X ss e (.frz (.sc v)) := fun σ F H Q he hq pins s I => h.run pins s σ H Q I (hq v F H (Ext.refl he.fh) .sc)
theorem Ev.int {i : Int} {j} : Ev C Z X ss (.Constant (.int i) j pos) (.frz (dI i)) := Ev.of_c pe_int
theorem Ev.bl {i : Bool} {j} : Ev C Z X ss (.Constant (.bool i) j pos) (.frz (dB i)) := Ev.of_c pe_bl
theorem Ev.str {i : Str} {j} : Ev C Z X ss (.Constant (.str i) j pos) (.frz (dS i)) := Ev.of_c pe_str
theorem Ev.non {j} : Ev C Z X ss (.Constant .none j pos) (.frz dN) := Ev.of_c pe_non
theorem Ev.glob (k : Cok C X N P G) (i : Nat) {x : Str} {v : V} {u : Value} (hm : X.mg x = some u) (r : RelV v u) (hi : G[i]? = some x := by rfl) : Ev C Z X ss (.Name x pos) (.frz (.sc v)) :=
  Ev.of_c (pe_glob (k.gl i x hi).1 hm r (k.gl i x hi).2.1)

/-! two parts in a row -/
theorem Ev.two {f : V → V → Hp → VK → Prop} {ra rb rz : RM} (ha : Ev C Z X ss a ra) (hb : Ev C Z X ss b rb) {e : Expr} (hp : PE X e (tOp f (wE X a) (wE X b)))
    (hr : ∀ (x y : V) (F H : Hp) (H0 : Hp) (Q : VK), Same F H → ra.ok C Z H0 x F H → rb.ok C Z H0 y F H → (∀ v F' H', Ext F H F' H' → rz.ok C Z H v F' H' → Q v H') → f x y H Q) : Ev C Z X ss e rz := fun σ F H Q he hq pins s I => by
  refine hp.run pins s σ H Q I ?_
  refine ha σ F H _ he fun x F1 H1 e1 q1 => ?_
  refine hb σ F1 H1 _ (he.ext e1) fun y F2 H2 e2 q2 => ?_
  exact hr x y F2 H2 H Q e2.fh (RM.ok_ext e2 q1) (RM.ok_old e1.hh q2) fun v F' H' e3 q3 => hq v F' H' ((e1.trans e2).trans e3) (RM.ok_old (e1.trans e2).hh q3)
theorem Ev.one {f : V → Hp → VK → Prop} {ra rz : RM} (ha : Ev C Z X ss a ra) {e : Expr} (hp : PE X e (fun σ H Q => wE X a σ H fun x H1 => f x H1 Q))
    (hr : ∀ (x : V) (F H : Hp) (H0 : Hp) (Q : VK), Same F H → ra.ok C Z H0 x F H → (∀ v F' H', Ext F H F' H' → rz.ok C Z H v F' H' → Q v H') → f x H Q) : Ev C Z X ss e rz := fun σ F H Q he hq pins s I => by
  refine hp.run pins s σ H Q I ?_
  refine ha σ F H _ he fun x F1 H1 e1 q1 => ?_
  exact hr x F1 H1 H Q e1.fh q1 fun v F' H' e3 q3 => hq v F' H' (e1.trans e3) (RM.ok_old e1.hh q3)
/-- scalars in, a scalar out -/
theorem Ev.ssop {op : Operator} {f : R2} {x y z : V} (ho : OpR X (binaryOp op) f) (ha : Ev C Z X ss a (.frz (.sc x))) (hb : Ev C Z X ss b (.frz (.sc y))) (hr : ∀ H (Q : VK), Q z H → f x y H Q) :
    Ev C Z X ss (.BinOp a op b pos) (.frz (.sc z)) := Ev.two ha hb (pe_op ho pe_w pe_w) fun x' y' F H H0 Q s h1 h2 hq => by
  cases h1
  cases h2
  exact hr H Q (hq z F H (Ext.refl s) .sc)
theorem Ev.add {i j : Int} (ha : Ev C Z X ss a (.frz (dI i))) (hb : Ev C Z X ss b (.frz (dI j))) : Ev C Z X ss (.BinOp a .Add b pos) (.frz (dI (i + j))) := Ev.ssop op_add ha hb fun _ _ q => ⟨i, j, rfl, rfl, q⟩
theorem Ev.sub {i j : Int} (ha : Ev C Z X ss a (.frz (dI i))) (hb : Ev C Z X ss b (.frz (dI j))) : Ev C Z X ss (.BinOp a .Sub b pos) (.frz (dI (i - j))) := Ev.ssop op_sub ha hb fun _ _ q => ⟨i, j, rfl, rfl, q⟩
theorem Ev.mul {i j : Int} (h : CMul i j) (ha : Ev C Z X ss a (.frz (dI i))) (hb : Ev C Z X ss b (.frz (dI j))) : Ev C Z X ss (.BinOp a .Mult b pos) (.frz (dI (i * j))) := Ev.ssop op_mul ha hb fun _ _ q => ⟨i, j, rfl, rfl, h, q⟩
theorem Ev.fdiv {i j : Int} (h : CDiv i j) (ha : Ev C Z X ss a (.frz (dI i))) (hb : Ev C Z X ss b (.frz (dI j))) : Ev C Z X ss (.BinOp a .FloorDiv b pos) (.frz (dI (i / j))) := Ev.ssop op_fdiv ha hb fun _ _ q => ⟨i, j, rfl, rfl, h, q⟩
theorem Ev.mod {i j : Int} (h : 0 < j) (ha : Ev C Z X ss a (.frz (dI i))) (hb : Ev C Z X ss b (.frz (dI j))) : Ev C Z X ss (.BinOp a .Mod b pos) (.frz (dI (i % j))) := Ev.ssop op_mod ha hb fun _ _ q => ⟨i, j, rfl, rfl, h, q⟩
theorem Ev.pow {i j : Int} (h : CPow i j) (ha : Ev C Z X ss a (.frz (dI i))) (hb : Ev C Z X ss b (.frz (dI j))) : Ev C Z X ss (.BinOp a .Pow b pos) (.frz (dI (i ^ j.toNat))) := Ev.ssop op_pow ha hb fun _ _ q => ⟨i, j, rfl, rfl, h, q⟩
theorem Ev.sadd {i j : Str} (h : i.length + j.length ≤ sizeLine) (ha : Ev C Z X ss a (.frz (dS i))) (hb : Ev C Z X ss b (.frz (dS j))) : Ev C Z X ss (.BinOp a .Add b pos) (.frz (dS (i ++ j))) := Ev.ssop op_add_str ha hb fun _ _ q => ⟨i, j, rfl, rfl, h, q⟩
theorem Ev.neg {i : Int} (ha : Ev C Z X ss a (.frz (dI i))) : Ev C Z X ss (.UnaryOp .USub a pos) (.frz (dI (-i))) := Ev.one ha (pe_un un_neg pe_w) fun x F H H0 Q s h hq => by
  cases h
  exact ⟨i, rfl, hq _ F H (Ext.refl s) .sc⟩
/-- a new list at a free place -/
theorem new_list {F H : Hp} {os : List O} {vs : List V} {p : Addr} (s : Same F H) (hp : H p = none) (h : Owns C Z F H os vs []) :
    Ext F H F (upd H p (.lst vs)) ∧ (RM.new (.lst os)).ok C Z H (.ref p) F (upd H p (.lst vs)) := by
  have hh : Same H (upd H p (.lst vs)) := fun b o q => by rw [upd_ne (ne_of_none q hp)]; exact q
  have x : Ext F H F (upd H p (.lst vs)) := Ext.heap s hh
  refine ⟨x, [p], .lst (fp := []) (s.free hp) upd_same (h.ext x), fun a q => ?_, by simp⟩
  rw [List.mem_singleton.mp q]
  exact hp
theorem Ev.cat {os ps : List O} (h : os.length + ps.length ≤ sizeLine) (ha : Ev C Z X ss a (.itm os)) (hb : Ev C Z X ss b (.itm ps)) : Ev C Z X ss (.BinOp a .Add b pos) (.new (.lst (os ++ ps))) :=
  Ev.two ha hb (pe_op op_cat pe_w pe_w) fun x y F H H0 Q s h1 h2 hq => by
    obtain ⟨l, xs, rfl, hl, r1⟩ := h1
    obtain ⟨m, ys, rfl, hm, r2⟩ := h2
    refine ⟨l, m, xs, ys, rfl, rfl, hl, hm, by rw [← r1.length, ← r2.length]; exact h, fun p hp => ?_⟩
    have q := new_list s hp (Owns.append (f := []) (g := []) r1 r2)
    exact hq _ _ _ q.1 q.2
theorem owns_rep {F H : Hp} {os : List O} {vs : List V} (h : Owns C Z F H os vs []) : ∀ n : Nat, Owns C Z F H (List.replicate n os).flatten (List.replicate n vs).flatten []
  | 0 => .nil
  | n + 1 => by
    rw [List.replicate_succ, List.replicate_succ, List.flatten_cons, List.flatten_cons]
    exact Owns.append (f := []) (g := []) h (owns_rep h n)
theorem Ev.rep {os : List O} {k : Int} (h1 : -(2 ^ 63) ≤ k) (h2 : k < 2 ^ 63) (h : os.length * k.toNat ≤ sizeLine) (ha : Ev C Z X ss a (.itm os)) (hb : Ev C Z X ss b (.frz (dI k))) :
    Ev C Z X ss (.BinOp a .Mult b pos) (.new (.lst (List.replicate k.toNat os).flatten)) :=
  Ev.two ha hb (pe_op op_rep pe_w pe_w) fun x y F H H0 Q s q1 q2 hq => by
    obtain ⟨l, xs, rfl, hl, r1⟩ := q1
    cases q2
    refine ⟨l, k, xs, rfl, rfl, hl, h1, h2, by rw [← r1.length]; exact h, fun p hp => ?_⟩
    have q := new_list s hp (owns_rep r1 k.toNat)
    exact hq _ _ _ q.1 q.2
end
end VL

set_option Elab.async false
set_option linter.all false
set_option maxRecDepth 100000
set_option maxHeartbeats 4000000
/-! VL3: truth values, comparisons, subscripts, displays, built-ins. -/
namespace VL
open PySem PySem.Spec PyProof.Rows L2

/-- a truth value, as a value and as a test -/
structure Cb (C : Cf) (Z : Hp) (X : Cx) (ss : En) (e : Expr) (z : Bool) : Prop where
  ev : Ev C Z X ss e (.frz (dB z))
  te : Te C Z X ss e z
/-- and, or: whatever the whole is -/
structure Cw (C : Cf) (Z : Hp) (X : Cx) (ss : En) (e : Expr) (z : Bool) : Prop where
  ev : Ev C Z X ss e (.frz (dB z))
  te : Tw C Z X ss e z

section
variable {C : Cf} {Z : Hp} {X : Cx} {N G : List Str} {P : Nat → Bool} {ss : En} {a b c e : Expr} {rest es : List Expr} {pos p p2 : Pos} {r r' ra rb : RM} {α β γ : Type} {z q : Bool}
theorem Cb.eq {z' : Bool} (h : Cb C Z X ss e z) (k : z = z') : Cb C Z X ss e z' := k ▸ h
theorem Te.two {f : R2} {e : Expr} (ha : Ev C Z X ss a ra) (hb : Ev C Z X ss b rb) (hp : PT X e (tTest (tOp f (wE X a) (wE X b))))
    (hr : ∀ (x y : V) (F H : Hp) (H0 : Hp) (Q : VK), Same F H → ra.ok C Z H0 x F H → rb.ok C Z H0 y F H → Q (.bl z) H → f x y H Q) : Te C Z X ss e z := fun σ F H Q he hq pins s I => by
  refine hp.run pins s σ H Q I ?_
  refine ha σ F H _ he fun x F1 H1 e1 q1 => ?_
  refine hb σ F1 H1 _ (he.ext e1) fun y F2 H2 e2 q2 => ?_
  exact hr x y F2 H2 H _ e2.fh (RM.ok_ext e2 q1) (RM.ok_old e1.hh q2) ⟨z, rfl, hq F2 H2 (e1.trans e2)⟩
/-- a comparison -/
theorem Cb.cmp {op : CmpOp} {f : R2} (ho : OpR X (compareOp op) f) (hm : behindInMarks op b = false) (ha : Ev C Z X ss a ra) (hb : Ev C Z X ss b rb)
    (hr : ∀ (x y : V) (F H : Hp) (H0 : Hp) (Q : VK), Same F H → ra.ok C Z H0 x F H → rb.ok C Z H0 y F H → Q (.bl z) H → f x y H Q) : Cb C Z X ss (.Compare a [op] [b] pos) z :=
  ⟨Ev.two ha hb (pe_cmpR ho pe_w pe_w hm) fun x y F H H0 Q s h1 h2 hq => hr x y F H H0 Q s h1 h2 (hq _ F H (Ext.refl s) .sc),
   Te.two ha hb (pt_cmpR ho pe_w pe_w hm) hr⟩
theorem Cb.cmpI {op : CmpOp} {g : Int → Int → Bool} {i j : Int} (ho : OpR X (compareOp op) (rI0 fun i j => .bl (g i j))) (hm : behindInMarks op b = false) (ha : Ev C Z X ss a (.frz (dI i))) (hb : Ev C Z X ss b (.frz (dI j))) :
    Cb C Z X ss (.Compare a [op] [b] pos) (g i j) := Cb.cmp ho hm ha hb fun x y F H H0 Q s h1 h2 hq => by
  cases h1
  cases h2
  exact ⟨i, j, rfl, rfl, hq⟩
theorem Cb.lt {i j : Int} (ha : Ev C Z X ss a (.frz (dI i))) (hb : Ev C Z X ss b (.frz (dI j))) : Cb C Z X ss (.Compare a [.Lt] [b] pos) (decide (i < j)) := Cb.cmpI (g := fun i j => decide (i < j)) op_lt (nomark _) ha hb
theorem Cb.le {i j : Int} (ha : Ev C Z X ss a (.frz (dI i))) (hb : Ev C Z X ss b (.frz (dI j))) : Cb C Z X ss (.Compare a [.LtE] [b] pos) (decide (i ≤ j)) := Cb.cmpI (g := fun i j => decide (i ≤ j)) op_le (nomark _) ha hb
theorem Cb.gt {i j : Int} (ha : Ev C Z X ss a (.frz (dI i))) (hb : Ev C Z X ss b (.frz (dI j))) : Cb C Z X ss (.Compare a [.Gt] [b] pos) (decide (j < i)) := Cb.cmpI (g := fun i j => decide (j < i)) op_gt (nomark _) ha hb
theorem Cb.ge {i j : Int} (ha : Ev C Z X ss a (.frz (dI i))) (hb : Ev C Z X ss b (.frz (dI j))) : Cb C Z X ss (.Compare a [.GtE] [b] pos) (decide (j ≤ i)) := Cb.cmpI (g := fun i j => decide (j ≤ i)) op_ge (nomark _) ha hb
/-- == of scalars -/
theorem Cb.eqS {x y : V} (hs : scal x y = true) (ha : Ev C Z X ss a (.frz (.sc x))) (hb : Ev C Z X ss b (.frz (.sc y))) : Cb C Z X ss (.Compare a [.Eq] [b] pos) (decide (x = y)) := Cb.cmp op_eq (nomark _) ha hb fun x' y' F H H0 Q s h1 h2 hq => by
  cases h1
  cases h2
  exact ⟨hs, hq⟩
theorem Cb.neS {x y : V} (hs : scal x y = true) (ha : Ev C Z X ss a (.frz (.sc x))) (hb : Ev C Z X ss b (.frz (.sc y))) : Cb C Z X ss (.Compare a [.NotEq] [b] pos) (!decide (x = y)) := Cb.cmp op_ne (nomark _) ha hb fun x' y' F H H0 Q s h1 h2 hq => by
  cases h1
  cases h2
  exact ⟨hs, hq⟩
theorem dec_vi {i j : Int} : decide (V.int i = V.int j) = decide (i = j) := by
  by_cases h : i = j
  · subst h; simp
  · simp [h]
theorem dec_vb {i j : Bool} : decide (V.bl i = V.bl j) = decide (i = j) := by
  by_cases h : i = j
  · subst h; simp
  · simp [h]
theorem dec_vs {i j : Str} : decide (V.str i = V.str j) = decide (i = j) := by
  by_cases h : i = j
  · subst h; simp
  · simp [h]
theorem Cb.eqI {i j : Int} (ha : Ev C Z X ss a (.frz (dI i))) (hb : Ev C Z X ss b (.frz (dI j))) : Cb C Z X ss (.Compare a [.Eq] [b] pos) (decide (i = j)) := (Cb.eqS rfl ha hb).eq dec_vi
theorem Cb.neI {i j : Int} (ha : Ev C Z X ss a (.frz (dI i))) (hb : Ev C Z X ss b (.frz (dI j))) : Cb C Z X ss (.Compare a [.NotEq] [b] pos) (!decide (i = j)) := (Cb.neS rfl ha hb).eq (by rw [dec_vi])
theorem Cb.eqB {i j : Bool} (ha : Ev C Z X ss a (.frz (dB i))) (hb : Ev C Z X ss b (.frz (dB j))) : Cb C Z X ss (.Compare a [.Eq] [b] pos) (decide (i = j)) := (Cb.eqS rfl ha hb).eq dec_vb
theorem Cb.neB {i j : Bool} (ha : Ev C Z X ss a (.frz (dB i))) (hb : Ev C Z X ss b (.frz (dB j))) : Cb C Z X ss (.Compare a [.NotEq] [b] pos) (!decide (i = j)) := (Cb.neS rfl ha hb).eq (by rw [dec_vb])
theorem Cb.eqT {i j : Str} (ha : Ev C Z X ss a (.frz (dS i))) (hb : Ev C Z X ss b (.frz (dS j))) : Cb C Z X ss (.Compare a [.Eq] [b] pos) (decide (i = j)) := (Cb.eqS rfl ha hb).eq dec_vs
theorem Cb.neT {i j : Str} (ha : Ev C Z X ss a (.frz (dS i))) (hb : Ev C Z X ss b (.frz (dS j))) : Cb C Z X ss (.Compare a [.NotEq] [b] pos) (!decide (i = j)) := (Cb.neS rfl ha hb).eq (by rw [dec_vs])
/-- is None -/
def isNonD : D → Bool
  | .sc v => decide (v = .non)
  | _ => false
theorem isN_val {d : D} {v : V} {F H : Hp} (h : Rp C F H d v) (hz : z = isNonD d) : decide (v = .non) = z := by
  subst hz
  cases h with
  | sc => rfl
  | scr => simp [isNonD]
  | lst => simp [isNonD]
  | tup => simp [isNonD]
  | obj => simp [isNonD]
  | dic => simp [isNonD]
  | par => simp [isNonD]
theorem Cb.isN {d : D} {j : Nat} {p2 : Pos} (ha : Ev C Z X ss a (.cur d)) (hz : z = isNonD d) : Cb C Z X ss (.Compare a [.Is] [.Constant .none j p2] pos) z :=
  Cb.cmp op_isN (nomark _) ha (Ev.non (Z := Z)) fun x y F H H0 Q s h1 h2 hq => by
    cases h2
    refine ⟨rfl, ?_⟩
    rw [isN_val h1 hz]
    exact hq
theorem Cb.notN {d : D} {j : Nat} {p2 : Pos} (ha : Ev C Z X ss a (.cur d)) (hz : z = isNonD d) : Cb C Z X ss (.Compare a [.IsNot] [.Constant .none j p2] pos) (!z) :=
  Cb.cmp op_notN (nomark _) ha (Ev.non (Z := Z)) fun x y F H H0 Q s h1 h2 hq => by
    cases h2
    refine ⟨rfl, ?_⟩
    rw [isN_val h1 hz]
    exact hq
/-- of an optional value -/
theorem Cb.isNO {g : α → D} {o : Option α} {j : Nat} {p2 : Pos} (hg : ∀ x, isNonD (g x) = false) (ha : Ev C Z X ss a (.cur (dO g o))) : Cb C Z X ss (.Compare a [.Is] [.Constant .none j p2] pos) o.isNone :=
  Cb.isN ha (by
    cases o with
    | none => rfl
    | some x => exact (hg x).symm)
theorem Cb.notNO {g : α → D} {o : Option α} {j : Nat} {p2 : Pos} (hg : ∀ x, isNonD (g x) = false) (ha : Ev C Z X ss a (.cur (dO g o))) : Cb C Z X ss (.Compare a [.IsNot] [.Constant .none j p2] pos) (!o.isNone) :=
  Cb.notN ha (by
    cases o with
    | none => rfl
    | some x => exact (hg x).symm)
/-- x is True, of a truth value -/
theorem Cb.isB {i j : Bool} (ha : Ev C Z X ss a (.frz (dB i))) (hb : Ev C Z X ss b (.frz (dB j))) : Cb C Z X ss (.Compare a [.Is] [b] pos) (decide (i = j)) := Cb.cmp op_isBl (nomark _) ha hb fun x' y' F H H0 Q s h1 h2 hq => by
  cases h1
  cases h2
  exact ⟨i, j, rfl, rfl, hq⟩
theorem Cb.notB {i j : Bool} (ha : Ev C Z X ss a (.frz (dB i))) (hb : Ev C Z X ss b (.frz (dB j))) : Cb C Z X ss (.Compare a [.IsNot] [b] pos) (!decide (i = j)) := Cb.cmp op_notBl (nomark _) ha hb fun x' y' F H H0 Q s h1 h2 hq => by
  cases h1
  cases h2
  exact ⟨i, j, rfl, rfl, hq⟩
/-- in a list of ints -/
theorem inV_int {i : Int} : ∀ xs : List Int, inV (.int i) (xs.map V.int) = xs.contains i
  | [] => rfl
  | x :: xs => by
    have ih := inV_int (i := i) xs
    unfold inV at ih ⊢
    rw [List.map_cons, List.any_cons, ih, List.contains_cons]
    show (x == i || _) = (i == x || _)
    have q : (x == i) = (i == x) := by
      by_cases h : x = i
      · subst h; rfl
      · rw [beq_eq_false_iff_ne.mpr h, beq_eq_false_iff_ne.mpr fun e => h e.symm]
    rw [q]
theorem all_flat_int : ∀ xs : List Int, (xs.map V.int).all flatV = true
  | [] => rfl
  | _ :: xs => by rw [List.map_cons, List.all_cons, all_flat_int xs]; rfl
theorem dI_vals {F H : Hp} {xs : List Int} {vs : List V} (h : Rps C F H (xs.map dI) vs) : vs = xs.map V.int := Rps.scs (k := V.int) h
theorem dI_list {F H : Hp} {xs : List Int} {v : V} (h : Rp C F H (dL dI xs) v) : ∃ p, v = .ref p ∧ F p = some (.lst (xs.map V.int)) := by
  cases h with
  | lst hp hr => rw [dI_vals hr] at hp; exact ⟨_, rfl, hp⟩
theorem Cb.inL {i : Int} {xs : List Int} (hm : behindInMarks .In b = false) (ha : Ev C Z X ss a (.frz (dI i))) (hb : Ev C Z X ss b (.cur (dL dI xs))) : Cb C Z X ss (.Compare a [.In] [b] pos) (xs.contains i) :=
  Cb.cmp op_in_seq hm ha hb fun x y F H H0 Q s h1 h2 hq => by
    cases h1
    obtain ⟨p, rfl, hp⟩ := dI_list h2
    refine ⟨p, _, rfl, .inl (.of hp), rfl, all_flat_int xs, ?_⟩
    show Q (.bl (inV (.int i) (xs.map V.int))) H
    rw [inV_int]
    exact hq
theorem Cb.niL {i : Int} {xs : List Int} (hm : behindInMarks .NotIn b = false) (ha : Ev C Z X ss a (.frz (dI i))) (hb : Ev C Z X ss b (.cur (dL dI xs))) : Cb C Z X ss (.Compare a [.NotIn] [b] pos) (!xs.contains i) :=
  Cb.cmp op_notIn_seq hm ha hb fun x y F H H0 Q s h1 h2 hq => by
    cases h1
    obtain ⟨p, rfl, hp⟩ := dI_list h2
    refine ⟨p, _, rfl, .inl (.of hp), rfl, all_flat_int xs, ?_⟩
    show Q (.bl (!inV (.int i) (xs.map V.int))) H
    rw [inV_int]
    exact hq
/-- in a tuple of flat values -/
theorem Cb.inT {x : V} {xs : List V} (hm : behindInMarks .In b = false) (fx : flatV x = true) (fs : xs.all flatV = true) (ha : Ev C Z X ss a (.frz (.sc x))) (hb : Ev C Z X ss b (.cur (.tup (xs.map .sc)))) : Cb C Z X ss (.Compare a [.In] [b] pos) (inV x xs) :=
  Cb.cmp op_in_seq hm ha hb fun x' y F H H0 Q s h1 h2 hq => by
    cases h1
    cases h2 with
    | tup hp hr =>
      have e := Rps.scs (k := id) hr
      rw [List.map_id] at e
      subst e
      exact ⟨_, _, rfl, .inr (.of hp), fx, fs, hq⟩
theorem Cb.niT {x : V} {xs : List V} (hm : behindInMarks .NotIn b = false) (fx : flatV x = true) (fs : xs.all flatV = true) (ha : Ev C Z X ss a (.frz (.sc x))) (hb : Ev C Z X ss b (.cur (.tup (xs.map .sc)))) : Cb C Z X ss (.Compare a [.NotIn] [b] pos) (!inV x xs) :=
  Cb.cmp op_notIn_seq hm ha hb fun x' y F H H0 Q s h1 h2 hq => by
    cases h1
    cases h2 with
    | tup hp hr =>
      have e := Rps.scs (k := id) hr
      rw [List.map_id] at e
      subst e
      exact ⟨_, _, rfl, .inr (.of hp), fx, fs, hq⟩
/-- a sign in a text -/
theorem Cb.niS {x : Nat} {y : Str} (hm : behindInMarks .NotIn b = false) (ha : Ev C Z X ss a (.frz (dS ⟨#[x]⟩))) (hb : Ev C Z X ss b (.frz (dS y))) : Cb C Z X ss (.Compare a [.NotIn] [b] pos) (!decide (x ∈ y.cps.toList)) :=
  Cb.cmp op_notIn_sign hm ha hb fun x' y' F H H0 Q s h1 h2 hq => by
    cases h1
    cases h2
    exact ⟨x, y, rfl, rfl, hq⟩

/-! == of data -/
structure EqC (g : α → D) (k : α → PyData) (n : Nat) [DecidableEq α] : Prop where
  dp : ∀ {C : Cf} {K : PySem.W.Frag} {F H : Hp} {v : V} {x : α}, Same F H → Rp C F H (g x) v → Dp K H v (k x)
  eq : ∀ x y, PyData.eqv (k x) (k y) = decide (x = y)
  lay : ∀ x, (k x).canLay0 = true
  dep : ∀ x, (k x).depth ≤ n
theorem eqC_I : EqC dI PyData.int 0 where
  dp := fun _ h => by cases h; exact .int _
  eq := fun x y => by
    unfold PyData.eqv
    by_cases h : x = y
    · subst h; simp
    · simp [h]
  lay := fun _ => rfl
  dep := fun _ => Nat.le_refl _
theorem eqC_L [DecidableEq α] {g : α → D} {k : α → PyData} {n : Nat} (h : EqC g k n) : EqC (dL g) (fun xs => PyData.list (xs.map k)) (n + 1) where
  dp := fun {C K F H v xs} s r => by
    cases r with
    | lst hp hr =>
      refine .lst (.of (s _ _ hp)) ?_
      have all : ∀ (xs : List α) (vs : List V), Rps C F H (xs.map g) vs → DpAll K H vs (xs.map k) := by
        intro xs
        induction xs with
        | nil => intro vs r; cases r; exact .nil
        | cons x xs ih =>
          intro vs r
          cases r with
          | cons a b => exact .cons (h.dp s a) (ih _ b)
      exact all xs _ hr
  eq := fun xs ys => by
    show PyData.eqvAll (xs.map k) (ys.map k) = decide (xs = ys)
    induction xs generalizing ys with
    | nil =>
      cases ys with
      | nil => rfl
      | cons y ys => simp [PyData.eqvAll]
    | cons x xs ih =>
      cases ys with
      | nil => simp [PyData.eqvAll]
      | cons y ys =>
        rw [List.map_cons, List.map_cons, PyData.eqvAll, h.eq, ih]
        by_cases e1 : x = y
        · subst e1
          by_cases e2 : xs = ys
          · subst e2; simp
          · simp [e2]
        · simp [e1]
  lay := fun xs => by
    show PyData.canLayAll0 (xs.map k) = true
    induction xs with
    | nil => rfl
    | cons x xs ih => rw [List.map_cons, PyData.canLayAll0, h.lay, ih]; rfl
  dep := fun xs => by
    have q : PyData.depthAll (xs.map k) ≤ n := by
      induction xs with
      | nil => exact Nat.zero_le _
      | cons x xs ih =>
        rw [List.map_cons, PyData.depthAll]
        exact Nat.max_le.mpr ⟨h.dep x, ih⟩
    exact Nat.succ_le_succ q
theorem eqC_P [DecidableEq α] [DecidableEq β] {g : α → D} {k : α → PyData} {n : Nat} {g' : β → D} {k' : β → PyData} {m : Nat} (h : EqC g k n) (h' : EqC g' k' m) : EqC (dP g g') (fun p => PyData.tuple [k p.1, k' p.2]) (max n m + 1) where
  dp := fun {C K F H v x} s r => by
    cases r with
    | tup hp hr =>
      cases hr with
      | cons a hr =>
        cases hr with
        | cons b hr =>
          cases hr
          exact .tup (.of hp) (.cons (h.dp s a) (.cons (h'.dp s b) .nil))
  eq := fun x y => by
    show PyData.eqvAll [k x.1, k' x.2] [k y.1, k' y.2] = decide (x = y)
    simp only [PyData.eqvAll, h.eq, h'.eq, Bool.and_true]
    cases x; cases y
    rw [Bool.eq_iff_iff]
    simp
  lay := fun x => by
    show PyData.canLayAll0 [k x.1, k' x.2] = true
    simp [PyData.canLayAll0, h.lay, h'.lay]
  dep := fun x => by
    show max (PyData.depth (k x.1)) (max (PyData.depth (k' x.2)) 0) + 1 ≤ _
    have h1 := h.dep x.1
    have h2 := h'.dep x.2
    omega
theorem shaped_of [DecidableEq α] {g : α → D} {k : α → PyData} {n : Nat} (h : EqC g k n) (hn : n ≤ 64) (x : α) : SeqAt.shaped (k x) = true := by
  unfold SeqAt.shaped
  rw [h.lay x]
  simpa using Nat.le_trans (h.dep x) hn
theorem Cb.eqD [DecidableEq α] {g : α → D} {k : α → PyData} {n : Nat} {x y : α} (ck : Cok C X N P G) (h : EqC g k n) (hn : n ≤ 64) (ha : Ev C Z X ss a (.cur (g x))) (hb : Ev C Z X ss b (.cur (g y))) :
    Cb C Z X ss (.Compare a [.Eq] [b] pos) (decide (x = y)) := Cb.cmp (op_eqD ck.hu) (nomark _) ha hb fun x' y' F H H0 Q s h1 h2 hq => by
  refine ⟨k x, k y, h.dp (Same.refl _) h1, h.dp (Same.refl _) h2, shaped_of h hn x, shaped_of h hn y, ?_⟩
  rw [h.eq]
  exact hq
theorem Cb.neD [DecidableEq α] {g : α → D} {k : α → PyData} {n : Nat} {x y : α} (ck : Cok C X N P G) (h : EqC g k n) (hn : n ≤ 64) (ha : Ev C Z X ss a (.cur (g x))) (hb : Ev C Z X ss b (.cur (g y))) :
    Cb C Z X ss (.Compare a [.NotEq] [b] pos) (!decide (x = y)) := Cb.cmp (op_neD ck.hu) (nomark _) ha hb fun x' y' F H H0 Q s h1 h2 hq => by
  refine ⟨k x, k y, h.dp (Same.refl _) h1, h.dp (Same.refl _) h2, shaped_of h hn x, shaped_of h hn y, ?_⟩
  rw [h.eq]
  exact hq

/-! chains; not, and, or; other truth values -/
theorem Cb.chain {op op' : CmpOp} {f f' : R2} {x y w : V} (ho : OpR X (compareOp op) f) (ho' : OpR X (compareOp op') f') (hm : lastMarks [op, op'] [b, c] = false) (ha : Ev C Z X ss a (.frz (.sc x))) (hb : Ev C Z X ss b (.frz (.sc y))) (hc : Ev C Z X ss c (.frz (.sc w)))
    (h1 : ∀ H (Q : VK), Q (.bl z) H → f x y H Q) (h2 : ∀ H (Q : VK), Q (.bl q) H → f' y w H Q) : Cb C Z X ss (.Compare a [op, op'] [b, c] pos) (z && q) := by
  refine ⟨fun σ F H Q he hq pins s I => (pe_chain ho ho' pe_w pe_w pe_w hm).run pins s σ H Q I ?_, fun σ F H Q he hq pins s I => (pt_chain ho ho' pe_w pe_w pe_w hm).run pins s σ H Q I ?_⟩
  · refine ha σ F H _ he fun x1 F1 H1 e1 q1 => hb σ F1 H1 _ (he.ext e1) fun y1 F2 H2 e2 q2 => ?_
    cases q1; cases q2
    refine h1 _ _ ⟨z, rfl, ?_⟩
    cases z with
    | false =>
      rw [if_neg Bool.false_ne_true]
      exact hq _ F2 H2 (e1.trans e2) .sc
    | true =>
      rw [if_pos rfl]
      refine hc σ F2 H2 _ (he.ext (e1.trans e2)) fun w1 F3 H3 e3 q3 => ?_
      cases q3
      exact h2 _ _ (hq _ F3 H3 ((e1.trans e2).trans e3) .sc)
  · refine ha σ F H _ he fun x1 F1 H1 e1 q1 => hb σ F1 H1 _ (he.ext e1) fun y1 F2 H2 e2 q2 => ?_
    cases q1; cases q2
    refine h1 _ _ ⟨z, rfl, ?_⟩
    cases z with
    | false =>
      rw [if_neg Bool.false_ne_true]
      exact ⟨false, rfl, hq F2 H2 (e1.trans e2)⟩
    | true =>
      rw [if_pos rfl]
      refine hc σ F2 H2 _ (he.ext (e1.trans e2)) fun w1 F3 H3 e3 q3 => ?_
      cases q3
      exact h2 _ _ ⟨q, rfl, hq F3 H3 ((e1.trans e2).trans e3)⟩
/-- a <= b < c -/
theorem Cb.lelt {i j k : Int} (ha : Ev C Z X ss a (.frz (dI i))) (hb : Ev C Z X ss b (.frz (dI j))) (hc : Ev C Z X ss c (.frz (dI k))) : Cb C Z X ss (.Compare a [.LtE, .Lt] [b, c] pos) (decide (i ≤ j) && decide (j < k)) :=
  Cb.chain op_le op_lt (by show behindInMarks .Lt c = false; exact nomark c) ha hb hc (fun _ _ h => ⟨i, j, rfl, rfl, h⟩) (fun _ _ h => ⟨j, k, rfl, rfl, h⟩)
theorem Cb.lele {i j k : Int} (ha : Ev C Z X ss a (.frz (dI i))) (hb : Ev C Z X ss b (.frz (dI j))) (hc : Ev C Z X ss c (.frz (dI k))) : Cb C Z X ss (.Compare a [.LtE, .LtE] [b, c] pos) (decide (i ≤ j) && decide (j ≤ k)) :=
  Cb.chain op_le op_le (by show behindInMarks .LtE c = false; exact nomark c) ha hb hc (fun _ _ h => ⟨i, j, rfl, rfl, h⟩) (fun _ _ h => ⟨j, k, rfl, rfl, h⟩)
theorem Cb.ltlt {i j k : Int} (ha : Ev C Z X ss a (.frz (dI i))) (hb : Ev C Z X ss b (.frz (dI j))) (hc : Ev C Z X ss c (.frz (dI k))) : Cb C Z X ss (.Compare a [.Lt, .Lt] [b, c] pos) (decide (i < j) && decide (j < k)) :=
  Cb.chain op_lt op_lt (by show behindInMarks .Lt c = false; exact nomark c) ha hb hc (fun _ _ h => ⟨i, j, rfl, rfl, h⟩) (fun _ _ h => ⟨j, k, rfl, rfl, h⟩)
theorem Cb.not_ (h : Cb C Z X ss a z) : Cb C Z X ss (.UnaryOp .Not a pos) (!z) :=
  ⟨fun σ F H Q he hq pins s I => (pe_not pe_w).run pins s σ H Q I (h.ev σ F H _ he fun v F1 H1 e1 q1 => by cases q1; exact ⟨z, rfl, hq _ F1 H1 e1 .sc⟩),
   fun σ F H Q he hq pins s I => (pt_not pt_w).run pins s σ H Q I (h.te σ F H _ he fun F1 H1 e1 => hq F1 H1 e1)⟩
theorem Cw.cb (h : Cw C Z X ss e z) : Cb C Z X ss e z := ⟨h.ev, fun σ F H Q he hq pins s I => h.te σ F H Q he hq _ pins s I⟩
theorem Cw.one {op : BoolOp} (h : Cb C Z X ss a z) : Cw C Z X ss (.BoolOp op [a] pos) z :=
  ⟨fun σ F H Q he hq pins s I => (pe_one pe_w).run pins s σ H Q I (h.ev σ F H Q he hq), fun σ F H Q he hq wh pins s I => by
    cases op with
    | And => exact (pw_and1 pt_w).run wh pins s σ H Q I (h.te σ F H Q he hq)
    | Or => exact (pw_or1 pt_w).run wh pins s σ H Q I (h.te σ F H Q he hq)⟩
theorem Cw.and_ (h : Cb C Z X ss a z) (k : z = true → Cw C Z X ss (.BoolOp .And (b :: rest) pos) q) : Cw C Z X ss (.BoolOp .And (a :: b :: rest) pos) (z && q) :=
  ⟨fun σ F H Q he hq pins s I => (pe_and pe_w pe_w).run pins s σ H Q I (h.ev σ F H _ he fun v F1 H1 e1 q1 => by
      cases q1
      refine ⟨z, rfl, ?_⟩
      cases z with
      | false => rw [if_neg Bool.false_ne_true]; exact hq _ F1 H1 e1 .sc
      | true => rw [if_pos rfl]; exact (k rfl).ev σ F1 H1 Q (he.ext e1) fun v F2 H2 e2 q2 => hq v F2 H2 (e1.trans e2) (RM.ok_old e1.hh q2)),
   fun σ F H Q he hq wh pins s I => (pw_and pt_w pw_w).run wh pins s σ H Q I (h.te σ F H _ he fun F1 H1 e1 => by
      cases z with
      | false => rw [if_neg Bool.false_ne_true]; exact hq F1 H1 e1
      | true => rw [if_pos rfl]; exact (k rfl).te σ F1 H1 Q (he.ext e1) fun F2 H2 e2 => hq F2 H2 (e1.trans e2))⟩
theorem Cw.or_ (h : Cb C Z X ss a z) (k : z = false → Cw C Z X ss (.BoolOp .Or (b :: rest) pos) q) : Cw C Z X ss (.BoolOp .Or (a :: b :: rest) pos) (z || q) :=
  ⟨fun σ F H Q he hq pins s I => (pe_or pe_w pe_w).run pins s σ H Q I (h.ev σ F H _ he fun v F1 H1 e1 q1 => by
      cases q1
      refine ⟨z, rfl, ?_⟩
      cases z with
      | true => rw [if_pos rfl]; exact hq _ F1 H1 e1 .sc
      | false => rw [if_neg Bool.false_ne_true]; exact (k rfl).ev σ F1 H1 Q (he.ext e1) fun v F2 H2 e2 q2 => hq v F2 H2 (e1.trans e2) (RM.ok_old e1.hh q2)),
   fun σ F H Q he hq wh pins s I => (pw_or pt_w pw_w).run wh pins s σ H Q I (h.te σ F H _ he fun F1 H1 e1 => by
      cases z with
      | true => rw [if_pos rfl]; exact hq F1 H1 e1
      | false => rw [if_neg Bool.false_ne_true]; exact (k rfl).te σ F1 H1 Q (he.ext e1) fun F2 H2 e2 => hq F2 H2 (e1.trans e2))⟩
/-- a value that is a truth value -/
theorem Cb.val (h : Ev C Z X ss e (.frz (dB z))) (hp : ∀ whole, isTrue e X.env whole = (do let v ← whole; standAt e.pos; holding [v] (truthy v)) := by intro _; rfl) : Cb C Z X ss e z :=
  ⟨h, fun σ F H Q he hq pins s I => (pt_val pe_w hp).run pins s σ H Q I (h σ F H _ he fun v F1 H1 e1 q1 => by cases q1; exact ⟨z, rfl, hq F1 H1 e1⟩)⟩
theorem Ev.ifE {t : Expr} (h : Te C Z X ss t z) (h1 : z = true → Ev C Z X ss a r) (h2 : z = false → Ev C Z X ss b r) : Ev C Z X ss (.IfExp t a b pos) r := fun σ F H Q he hq pins s I =>
  (pe_ifExp pt_w pe_w pe_w).run pins s σ H Q I (h σ F H _ he fun F1 H1 e1 => by
    cases z with
    | true => rw [if_pos rfl]; exact h1 rfl σ F1 H1 Q (he.ext e1) fun v F2 H2 e2 q2 => hq v F2 H2 (e1.trans e2) (RM.ok_old e1.hh q2)
    | false => rw [if_neg Bool.false_ne_true]; exact h2 rfl σ F1 H1 Q (he.ext e1) fun v F2 H2 e2 q2 => hq v F2 H2 (e1.trans e2) (RM.ok_old e1.hh q2))

/-! arguments and displays -/
theorem Ea.nil : Ea C Z X ss [] [] := fun σ F H Q he hq pos pins s I => pa_nil.run pos pins s σ H Q I (hq [] F H (Ext.refl he.fh) .nil)
theorem Ea.cons {d : D} {ds : List D} (h : Ev C Z X ss a (.cur d)) (k : Ea C Z X ss es ds) (hs : starEach (a :: es) X.env = (false, eval a X.env) :: starEach es X.env := by rfl) : Ea C Z X ss (a :: es) (d :: ds) := fun σ F H Q he hq pos pins s I =>
  (pa_cons pe_w pa_w hs).run pos pins s σ H Q I (h σ F H _ he fun v F1 H1 e1 q1 => k σ F1 H1 _ (he.ext e1) fun vs F2 H2 e2 q2 => hq (v :: vs) F2 H2 (e1.trans e2) (.cons (Rp.mono e2.hh (.of e2.hh) q1) q2))
theorem Ei.nil : Ei C Z X ss [] [] := fun σ F H Q he hq pos pins s I => pa_nil.run pos pins s σ H Q I (hq [] [] F H (Ext.refl he.fh) .nil (fun _ q => absurd q List.not_mem_nil) List.nodup_nil)
theorem Ei.cons {o : O} {os : List O} (h : Ev C Z X ss a (rmO o)) (k : Ei C Z X ss es os) (hs : starEach (a :: es) X.env = (false, eval a X.env) :: starEach es X.env := by rfl) : Ei C Z X ss (a :: es) (o :: os) := fun σ F H Q he hq pos pins s I =>
  (pa_cons pe_w pa_w hs).run pos pins s σ H Q I (h σ F H _ he fun v F1 H1 e1 q1 => k σ F1 H1 _ (he.ext e1) fun vs f2 F2 H2 e2 q2 n2 d2 => by
    obtain ⟨f1, o1, n1, d1⟩ := rmO_ok q1
    refine hq (v :: vs) (f1 ++ f2) F2 H2 (e1.trans e2) (.cons (o1.ext e2) q2) (fun x hx => ?_) ?_
    · rcases List.mem_append.mp hx with q | q
      · exact n1 x q
      · exact e1.hh.free (n2 x q)
    · refine List.nodup_append.mpr ⟨d1, d2, fun x hx y hy e => ?_⟩
      subst e
      exact (o1.gone x hx).2 (n2 x hy))
theorem Ev.list {os : List O} (hz : os.length ≤ sizeLine) (h : Ei C Z X ss es os) : Ev C Z X ss (.List es pos) (.new (.lst os)) := fun σ F H Q he hq pins s I =>
  (pe_lst pa_w).run pins s σ H Q I (h σ F H _ he fun vs fp F1 H1 e1 q1 n1 d1 => by
    refine ⟨by rw [← q1.length]; exact hz, fun p hp => ?_⟩
    have x : Ext F1 H1 F1 (upd H1 p (.lst vs)) := Ext.heap e1.fh fun b o q => by rw [upd_ne (ne_of_none q hp)]; exact q
    refine hq _ F1 _ (e1.trans x) ⟨p :: fp, .lst (e1.fh.free hp) upd_same (q1.ext x), fun b hb => ?_, List.nodup_cons.mpr ⟨fun q => (q1.gone p q).2 hp, d1⟩⟩
    rcases List.mem_cons.mp hb with rfl | hb
    · exact e1.hh.free hp
    · exact n1 b hb)
theorem Ev.tup {os : List O} {k : Nat} (hz : os.length ≤ sizeLine) (h : Ei C Z X ss es os) : Ev C Z X ss (.Tuple es k pos) (.new (.tup os)) := fun σ F H Q he hq pins s I =>
  (pe_tup pa_w).run pins s σ H Q I (h σ F H _ he fun vs fp F1 H1 e1 q1 n1 d1 => by
    refine ⟨by rw [← q1.length]; exact hz, fun p hp => ?_⟩
    have x : Ext F1 H1 F1 (upd H1 p (.tup vs)) := Ext.heap e1.fh fun b o q => by rw [upd_ne (ne_of_none q hp)]; exact q
    exact hq _ F1 _ (e1.trans x) ⟨fp, .tup upd_same (q1.ext x), n1, d1⟩)
/-- a tuple of leaves is a leaf -/
theorem Ev.tupz {ds : List D} {k : Nat} (hz : ds.length ≤ sizeLine) (h : Ei C Z X ss es (ds.map .fz)) : Ev C Z X ss (.Tuple es k pos) (.frz (.tup ds)) :=
  (Ev.tup (by simpa using hz) h).imp0 fun v F H F' H' x q => by
    obtain ⟨fp, ow, _, _⟩ := q
    have all : ∀ (ds : List D) (vs : List V) (fp : List Addr), Owns C Z F' H' (ds.map .fz) vs fp → Rps C F' H' ds vs := by
      intro ds
      induction ds with
      | nil => intro vs fp r; cases r; exact .nil
      | cons d ds ih =>
        intro vs fp r
        cases r with
        | cons a b =>
          cases a with
          | fz a => exact .cons a (ih _ _ b)
    cases ow with
    | tup hp hr => exact .tup hp (all ds _ _ hr)

/-! subscripts -/
theorem Ev.ixc {ds : List D} {i : Int} {d : D} (hd : atI ds i = some d) (ha : Ev C Z X ss a (.cur (.lst ds))) (hb : Ev C Z X ss b (.frz (dI i))) (hs : PlainIx b := by intro _ _; rfl) : Ev C Z X ss (.Subscript a b pos) (.cur d) :=
  Ev.two ha hb (pe_ix ix_list pe_w pe_w hs) fun x y F H H0 Q s h1 h2 hq => by
    cases h2
    cases h1 with
    | lst hp hr =>
      unfold atI at hd
      obtain ⟨j, hj, hd⟩ := Option.bind_eq_some_iff.mp hd
      obtain ⟨v, hv, rv⟩ := hr.get hd
      refine ⟨_, _, i, v, rfl, rfl, .of hp, ?_, hq v F H (Ext.refl s) rv⟩
      unfold atI
      rw [← hr.length, hj]
      exact hv
theorem Ev.ixz {ds : List D} {i : Int} {d : D} (hd : atI ds i = some d) (ha : Ev C Z X ss a (.frz (.lst ds))) (hb : Ev C Z X ss b (.frz (dI i))) (hs : PlainIx b := by intro _ _; rfl) : Ev C Z X ss (.Subscript a b pos) (.frz d) :=
  Ev.two ha hb (pe_ix ix_list pe_w pe_w hs) fun x y F H H0 Q s h1 h2 hq => by
    cases h2
    cases h1 with
    | lst hp hr =>
      unfold atI at hd
      obtain ⟨j, hj, hd⟩ := Option.bind_eq_some_iff.mp hd
      obtain ⟨v, hv, rv⟩ := hr.get hd
      refine ⟨_, _, i, v, rfl, rfl, .of (s _ _ hp), ?_, hq v F H (Ext.refl s) rv⟩
      unfold atI
      rw [← hr.length, hj]
      exact hv
theorem Ev.ixn {ds : List D} {i : Int} {d : D} (hd : atI ds i = some d) (ha : Ev C Z X ss a (.nrz (.lst ds))) (hb : Ev C Z X ss b (.frz (dI i))) (hs : PlainIx b := by intro _ _; rfl) : Ev C Z X ss (.Subscript a b pos) (.nrz d) :=
  Ev.two ha hb (pe_ix ix_list pe_w pe_w hs) fun x y F H H0 Q s h1 h2 hq => by
    cases h2
    cases h1 with
    | lst hp hr =>
      unfold atI at hd
      obtain ⟨j, hj, hd⟩ := Option.bind_eq_some_iff.mp hd
      obtain ⟨v, hv, rv⟩ := hr.get hd
      refine ⟨_, _, i, v, rfl, rfl, .of (s _ _ (sub_le _ _ hp)), ?_, hq v F H (Ext.refl s) rv⟩
      unfold atI
      rw [← hr.length, hj]
      exact hv
/-- of an owned list with frozen items -/
theorem Ev.ixi {os : List O} {i : Int} {d : D} (hd : atI os i = some (.fz d)) (ha : Ev C Z X ss a (.itm os)) (hb : Ev C Z X ss b (.frz (dI i))) (hs : PlainIx b := by intro _ _; rfl) : Ev C Z X ss (.Subscript a b pos) (.frz d) :=
  Ev.two ha hb (pe_ix ix_list pe_w pe_w hs) fun x y F H H0 Q s h1 h2 hq => by
    cases h2
    obtain ⟨p, vs, rfl, hp, hr⟩ := h1
    unfold atI at hd
    obtain ⟨j, hj, hd⟩ := Option.bind_eq_some_iff.mp hd
    obtain ⟨v, hv, rv⟩ := hr.get hd
    refine ⟨_, _, i, v, rfl, rfl, .of hp, ?_, ?_⟩
    · unfold atI
      rw [← hr.length, hj]
      exact hv
    · cases rv with
      | fz r => exact hq v F H (Ext.refl s) r
/-- of the script -/
theorem Ev.ixs {ns : List Int} {i k : Int} (ck : Cok C X N P G) (hd : atI ns i = some k) (ha : Ev C Z X ss a (.cur (.scr ns))) (hb : Ev C Z X ss b (.frz (dI i))) (hs : PlainIx b := by intro _ _; rfl) : Ev C Z X ss (.Subscript a b pos) (.frz (dI k)) :=
  Ev.two ha hb (pe_ix ix_list pe_w pe_w hs) fun x y F H H0 Q s h1 h2 hq => by
    cases h2
    cases h1 with
    | scr hp =>
      refine ⟨_, _, i, .int k, rfl, rfl, by rw [ck.hK]; exact hp, ?_, hq _ F H (Ext.refl s) .sc⟩
      unfold atI at hd ⊢
      obtain ⟨j, hj, hd⟩ := Option.bind_eq_some_iff.mp hd
      rw [List.length_map, hj]
      simp [hd]
/-- of a tuple -/
theorem Ev.ixtc {ds : List D} {i : Int} {d : D} (hd : atI ds i = some d) (ha : Ev C Z X ss a (.cur (.tup ds))) (hb : Ev C Z X ss b (.frz (dI i))) (hs : PlainIx b := by intro _ _; rfl) : Ev C Z X ss (.Subscript a b pos) (.cur d) :=
  Ev.two ha hb (pe_ix ix_tup pe_w pe_w hs) fun x y F H H0 Q s h1 h2 hq => by
    cases h2
    cases h1 with
    | tup hp hr =>
      unfold atI at hd
      obtain ⟨j, hj, hd⟩ := Option.bind_eq_some_iff.mp hd
      obtain ⟨v, hv, rv⟩ := hr.get hd
      refine ⟨_, _, i, v, rfl, rfl, .of hp, ?_, hq v F H (Ext.refl s) rv⟩
      unfold atI
      rw [← hr.length, hj]
      exact hv
theorem Ev.ixtz {ds : List D} {i : Int} {d : D} (hd : atI ds i = some d) (ha : Ev C Z X ss a (.frz (.tup ds))) (hb : Ev C Z X ss b (.frz (dI i))) (hs : PlainIx b := by intro _ _; rfl) : Ev C Z X ss (.Subscript a b pos) (.frz d) :=
  Ev.two ha hb (pe_ix ix_tup pe_w pe_w hs) fun x y F H H0 Q s h1 h2 hq => by
    cases h2
    cases h1 with
    | tup hp hr =>
      unfold atI at hd
      obtain ⟨j, hj, hd⟩ := Option.bind_eq_some_iff.mp hd
      obtain ⟨v, hv, rv⟩ := hr.get hd
      refine ⟨_, _, i, v, rfl, rfl, .of hp, ?_, hq v F H (Ext.refl s) rv⟩
      unfold atI
      rw [← hr.length, hj]
      exact hv
/-- of a text -/
theorem Ev.ixt {w : Str} {i : Int} {x : Nat} (hz : w.length ≤ sizeLine) (hd : atI w.cps.toList i = some x) (ha : Ev C Z X ss a (.frz (dS w))) (hb : Ev C Z X ss b (.frz (dI i))) (hs : PlainIx b := by intro _ _; rfl) : Ev C Z X ss (.Subscript a b pos) (.frz (dS ⟨#[x]⟩)) :=
  Ev.two ha hb (pe_ix ix_str pe_w pe_w hs) fun x' y F H H0 Q s h1 h2 hq => by
    cases h2
    cases h1
    exact ⟨w, i, x, rfl, rfl, hz, hd, hq _ F H (Ext.refl s) .sc⟩
theorem atI_map {f : α → β} {xs : List α} {i : Int} {x : α} (h : atI xs i = some x) : atI (xs.map f) i = some (f x) := by
  unfold atI at h ⊢
  obtain ⟨j, hj, h⟩ := Option.bind_eq_some_iff.mp h
  rw [List.length_map, hj]
  simp [h]

/-! slices -/
/-- what a part of a slice is -/
inductive Pa (C : Cf) (Z : Hp) (X : Cx) (ss : En) : Option Expr → Option Int → Prop
  | no : Pa C Z X ss none none
  | yes {e : Expr} {i : Int} : Ev C Z X ss e (.frz (dI i)) → Pa C Z X ss (some e) (some i)
def cut {α : Type} (xs : List α) (lo hi : Option Int) : List α := (xs.drop (HT.sIx xs.length 0 lo)).take (HT.sIx xs.length xs.length hi - HT.sIx xs.length 0 lo)
theorem cut_map {f : α → β} {xs : List α} {lo hi : Option Int} : cut (xs.map f) lo hi = (cut xs lo hi).map f := by
  unfold cut
  rw [List.length_map, ← List.map_drop, ← List.map_take]
def wO (X : Cx) (e : Option Expr) : TO := fun σ H Q => ∀ (pins : List (Addr × Obj)) (s : Shared), Inv X pins σ H s → wpAny (model X.prog X.w) X.A (evalPart e X.env) (fun u s' => ∃ o H', Inv X pins σ H' s' ∧ IsPart u o ∧ Q o H') X.xe s
theorem po_w {e : Option Expr} : PO X e (wO X e) := ⟨fun pins s σ H Q I h => h pins s I⟩
theorem Pa.run {x : Option Expr} {o : Option Int} (h : Pa C Z X ss x o) {σ : L2.St} {F H : Hp} {Q : Option Int → Hp → Prop} (he : EnvOk C Z ss F H σ) (hq : ∀ F' H', Ext F H F' H' → Q o H') : wO X x σ H Q := fun pins s I => by
  cases h with
  | no => exact po_none.run pins s σ H Q I (hq F H (Ext.refl he.fh))
  | yes h => exact (po_some pe_w).run pins s σ H Q I (h σ F H _ he fun v F1 H1 e1 q1 => by cases q1; exact ⟨_, rfl, hq F1 H1 e1⟩)
theorem Ev.slice {os : List O} {lo hi : Option Expr} {l u : Option Int} (ha : Ev C Z X ss a (.itm os)) (hl : Pa C Z X ss lo l) (hu : Pa C Z X ss hi u) : Ev C Z X ss (.Subscript a (.Slice lo hi none p2) pos) (.new (.lst (cut os l u))) := fun σ F H Q he hq pins s I =>
  (pe_slice sl_list pe_w po_w po_w).run pins s σ H Q I (ha σ F H _ he fun v F1 H1 e1 q1 => hl.run (he.ext e1) fun F2 H2 e2 => hu.run ((he.ext e1).ext e2) fun F3 H3 e3 => by
    obtain ⟨p, vs, rfl, hp, hr⟩ := RM.ok_ext (e2.trans e3) q1
    refine ⟨p, vs, rfl, .of hp, fun q hq' => ?_⟩
    have hr' : Owns C Z F3 H3 (cut os l u) (cutV vs l u) [] := by
      unfold cut cutV
      rw [hr.length]
      exact (hr.drop _).take _
    have z := new_list e3.fh hq' hr'
    exact hq _ _ _ (((e1.trans e2).trans e3).trans z.1) (RM.ok_old ((e1.trans e2).trans e3).hh z.2))
theorem Ev.sliceT {w : Str} {lo hi : Option Expr} {l u : Option Int} (hz : w.length ≤ sizeLine) (ha : Ev C Z X ss a (.frz (dS w))) (hl : Pa C Z X ss lo l) (hu : Pa C Z X ss hi u) : Ev C Z X ss (.Subscript a (.Slice lo hi none p2) pos) (.frz (dS (cutS w l u))) := fun σ F H Q he hq pins s I =>
  (pe_slice sl_str pe_w po_w po_w).run pins s σ H Q I (ha σ F H _ he fun v F1 H1 e1 q1 => hl.run (he.ext e1) fun F2 H2 e2 => hu.run ((he.ext e1).ext e2) fun F3 H3 e3 => by
    cases q1
    exact ⟨w, rfl, hz, hq _ F3 H3 ((e1.trans e2).trans e3) .sc⟩)
/-- xs[::-1] -/
theorem Ev.rev {os : List O} {k : Nat} {p1 p3 p4 : Pos} (ha : Ev C Z X ss a (.itm os)) : Ev C Z X ss (.Subscript a (.Slice none none (some (.UnaryOp .USub (.Constant (.int 1) k p1) p2)) p3) pos) (.new (.lst os.reverse)) := fun σ F H Q he hq pins s I =>
  (pe_revL pe_w).run pins s σ H Q I (ha σ F H _ he fun v F1 H1 e1 q1 => by
    obtain ⟨p, vs, rfl, hp, hr⟩ := q1
    refine ⟨p, vs, rfl, .of hp, fun q hq' => ?_⟩
    have z := new_list e1.fh hq' hr.reverse
    exact hq _ _ _ (e1.trans z.1) (RM.ok_old e1.hh z.2))

/-! attributes -/
theorem lookup_at : ∀ {fs : List (Str × V)} {f : Str} {i : Nat} {v : V}, (fs.map (·.1))[i]? = some f → (∀ j : Nat, j < i → (fs.map (·.1))[j]? ≠ some f) → (fs.map (·.2))[i]? = some v → fs.lookup f = some v
  | [], _, _, _, h, _, _ => by simp at h
  | (g, w) :: fs, f, 0, v, h, _, h2 => by
    simp at h h2
    subst h h2
    simp [List.lookup]
  | (g, w) :: fs, f, i + 1, v, h, hn, h2 => by
    have ne : ¬ g = f := fun e => hn 0 (Nat.zero_lt_succ _) (by simp [e])
    have ne' : (f == g) = false := by
      simp only [beq_eq_false_iff_ne, ne_eq]
      exact fun e => ne e.symm
    rw [List.lookup, ne']
    exact lookup_at (by simpa using h) (fun j hj e => hn (j + 1) (Nat.succ_lt_succ hj) (by simpa using e)) (by simpa using h2)
/-- a class of the text: its fields are no names of the class -/
structure Ccl (C : Cf) (K : PySem.W.Frag) (c : Nat) : Prop where
  cl : Cls K (C.cl c)
  no : ∀ (i : Nat) f, (C.fn c)[i]? = some f → NoAttr K (C.cl c) f ∧ ∀ j : Nat, j < i → (C.fn c)[j]? ≠ some f
theorem Ev.fldc {k : Nat} {ds : List D} {f : Str} {d : D} (cl : Ccl C X.K k) (i : Nat) (hf : (C.fn k)[i]? = some f) (hd : ds[i]? = some d) (ha : Ev C Z X ss a (.cur (.obj k ds))) (hb : attributeBase a f X.env (eval a X.env) = eval a X.env := by rfl) :
    Ev C Z X ss (.Attribute a f pos) (.cur d) := Ev.one ha (pe_fld pe_w hb) fun x F H H0 Q s h hq => by
  cases h with
  | obj hp hn hr =>
    obtain ⟨v, hv, rv⟩ := hr.get hd
    refine ⟨_, _, _, _, v, rfl, hp, cl.cl, (cl.no i f hf).1, lookup_at (by rw [hn]; exact hf) (by rw [hn]; exact (cl.no i f hf).2) hv, hq v F H (Ext.refl s) rv⟩
theorem Ev.fldz {k : Nat} {ds : List D} {f : Str} {d : D} (cl : Ccl C X.K k) (i : Nat) (hf : (C.fn k)[i]? = some f) (hd : ds[i]? = some d) (ha : Ev C Z X ss a (.frz (.obj k ds))) (hb : attributeBase a f X.env (eval a X.env) = eval a X.env := by rfl) :
    Ev C Z X ss (.Attribute a f pos) (.frz d) := Ev.one ha (pe_fld pe_w hb) fun x F H H0 Q s h hq => by
  cases h with
  | obj hp hn hr =>
    obtain ⟨v, hv, rv⟩ := hr.get hd
    refine ⟨_, _, _, _, v, rfl, s _ _ hp, cl.cl, (cl.no i f hf).1, lookup_at (by rw [hn]; exact hf) (by rw [hn]; exact (cl.no i f hf).2) hv, hq v F H (Ext.refl s) rv⟩
end
end VL

set_option Elab.async false
set_option linter.all false
set_option maxRecDepth 100000
set_option maxHeartbeats 4000000
/-! VL4: built-ins called, defs called, what is walked, comprehensions. -/
namespace VL
open PySem PySem.Spec PyProof.Rows L2

/-! ### plain functions -/
def rangeI (a b : Int) : List Int := (List.range (b - a).toNat).map fun i => a + ((i : Nat) : Int)
theorem rangeI_length (a b : Int) : (rangeI a b).length = (b - a).toNat := by unfold rangeI; simp
theorem rangeI_get {a b : Int} {i : Nat} (h : i < (b - a).toNat) : (rangeI a b)[i]? = some (a + (i : Int)) := by
  unfold rangeI
  simp [h]
def isort (xs : List Int) : List Int := xs.mergeSort fun a b => decide (a ≤ b)
theorem isort_perm (xs : List Int) : (isort xs).Perm xs := List.mergeSort_perm _ _
theorem isort_sorted (xs : List Int) : (isort xs).Pairwise (· ≤ ·) := by
  have h := List.pairwise_mergeSort (le := fun a b : Int => decide (a ≤ b)) (fun a b c h1 h2 => by simp at h1 h2 ⊢; omega) (fun a b => by simp; omega) xs
  exact h.imp fun {a b} h => by simpa using h
theorem sorted_unique {a b : List Int} (hp : a.Perm b) (ha : a.Pairwise (· ≤ ·)) (hb : b.Pairwise (· ≤ ·)) : a = b :=
  hp.eq_of_pairwise (fun x y _ _ h1 h2 => Int.le_antisymm h1 h2) ha hb
theorem isort_eq {a b : List Int} (hp : a.Perm b) (ha : a.Pairwise (· ≤ ·)) : a = isort b := sorted_unique (hp.trans (isort_perm b).symm) ha (isort_sorted b)
/-- pairs, by the first and then by the second -/
def ple (a b : Int × Int) : Bool := decide (a.1 < b.1) || (decide (a.1 = b.1) && decide (a.2 ≤ b.2))
def psort (xs : List (Int × Int)) : List (Int × Int) := xs.mergeSort ple
theorem ple_trans (a b c : Int × Int) (h1 : ple a b = true) (h2 : ple b c = true) : ple a c = true := by
  unfold ple at h1 h2 ⊢
  simp at h1 h2 ⊢
  omega
theorem ple_total (a b : Int × Int) : (ple a b || ple b a) = true := by
  unfold ple
  simp
  omega
theorem psort_perm (xs : List (Int × Int)) : (psort xs).Perm xs := List.mergeSort_perm _ _
theorem psort_sorted (xs : List (Int × Int)) : (psort xs).Pairwise (fun a b => ple a b = true) := List.pairwise_mergeSort ple_trans ple_total xs
theorem psort_eq {a b : List (Int × Int)} (hp : a.Perm b) (ha : a.Pairwise (fun a b => ple a b = true)) : a = psort b := by
  refine (hp.trans (psort_perm b).symm).eq_of_pairwise (fun x y _ _ h1 h2 => ?_) ha (psort_sorted b)
  unfold ple at h1 h2
  simp at h1 h2
  exact Prod.ext (by omega) (by omega)
/-- how many different ones -/
def ndist (ns : List Int) : Nat := (PyProof.Rows.firstMet (fun i => ns.getD i 0) ns.length).length
/-- a comprehension whose test and item may want a side condition -/
def compO {α β : Type} (p : α → Option Bool) (f : α → Option β) : List α → Option (List β)
  | [] => some []
  | x :: xs => match p x with
    | none => none
    | some false => compO p f xs
    | some true => match f x with
      | none => none
      | some y => match compO p f xs with
        | none => none
        | some ys => some (y :: ys)
theorem compO_pure {α β : Type} (p : α → Bool) (f : α → β) : ∀ xs : List α, compO (fun x => some (p x)) (fun x => some (f x)) xs = some ((xs.filter p).map f)
  | [] => rfl
  | x :: xs => by
    unfold compO
    rw [compO_pure p f xs]
    cases h : p x <;> simp [List.filter_cons, h]
theorem compO_all {α β : Type} (f : α → β) : ∀ xs : List α, compO (fun _ => some true) (fun x => some (f x)) xs = some (xs.map f)
  | [] => rfl
  | x :: xs => by
    unfold compO
    rw [compO_all f xs]
    rfl
theorem compO_len {α β : Type} {p : α → Option Bool} {f : α → Option β} : ∀ {xs : List α} {ys : List β}, compO p f xs = some ys → ys.length ≤ xs.length
  | [], ys, h => by
    unfold compO at h
    cases h
    exact Nat.le_refl _
  | x :: xs, ys, h => by
    unfold compO at h
    split at h
    · cases h
    · exact Nat.le_succ_of_le (compO_len h)
    · split at h
      · cases h
      · split at h
        · cases h
        · rename_i h2
          cases h
          exact Nat.succ_le_succ (compO_len h2)

/-- what a def's run has promised its caller -/
def okc (C : Cf) (H0 : Hp) (v : V) (H' : Hp) : RM → Prop
  | .cur d => Rp C H' H' d v
  | .frz d => Rp C H' H' d v
  | .nrz d => ∃ M : Hp, (∀ a, M a ≠ none → H0 a = none) ∧ Same M H' ∧ Rp C M H' d v
  | .new o => ∃ (M : Hp) (fp : List Addr), (∀ a, M a ≠ none → H0 a = none) ∧ Same M H' ∧ Own C (fun _ => none) M H' o v fp ∧ (∀ a ∈ fp, H0 a = none) ∧ fp.Nodup
  | .itm _ => False
  | .pins _ _ => False
def Res.map {α β : Type} (f : α → β) : Res α → Res β
  | .ok a => .ok (f a)
  | .exc c => .exc c
  | .bad => .bad
/-- a def's promise for these data: it comes to r -/
def spM (C : Cf) (ds : List D) (r : Res RM) : Sp := fun vs H Q E => Rps C H H ds vs ∧ match r with
  | .ok rm => ∀ v H', Same H H' → okc C H v H' rm → Q v H'
  | .exc c => ∀ H', Same H H' → E (C.ex c) none H'
  | .bad => False
/-- the def that stands under the name x, called with these data, comes to r -/
def Cal (P : Program) (w : World) (K : PySem.W.Frag) (mg : Str → Option Value) (base : Heap) (A : Around) (C : Cf) (x : Str) (ds : List D) (r : Res RM) : Prop :=
  ∃ (k : Nat) (f : Addr) (fd : FuncData) (ps : List Str) (sp : Sp), Room k A ∧ FnOk P w K mg base (L2N.CX P w) k f fd ps sp ∧ mg x = some (.ref f) ∧ PySem.W.keepIn K (.ref f) = true ∧ Binds K fd ps [] ∧ ∀ vs H Q E, spM C ds r vs H Q E → sp vs H Q E
/-- a method of the class c -/
def Met (P : Program) (w : World) (K : PySem.W.Frag) (mg : Str → Option Value) (base : Heap) (A : Around) (C : Cf) (c : Nat) (m : Str) (ds : List D) (r : Res RM) : Prop :=
  ∃ (k : Nat) (f : Addr) (fd : FuncData) (ps : List Str) (sp : Sp), Room k A ∧ FnOk P w K mg base (L2N.CX P w) k f fd ps sp ∧ Cls K (C.cl c) ∧ Meth K (C.cl c) m f ∧ Binds K fd ps [] ∧ ∀ vs H Q E, spM C ds r vs H Q E → sp vs H Q E
/-- F and M together -/
def join (F M : Hp) : Hp := fun a => match F a with
  | some o => some o
  | none => M a

section
variable {C : Cf} {Z F F' H H' M : Hp}
theorem join_l : Same F (join F M) := fun a o h => by
  unfold join
  rw [h]
theorem join_r (d : ∀ a, M a ≠ none → F a = none) : Same M (join F M) := fun a o h => by
  unfold join
  rw [d a (by rw [h]; simp)]
  exact h
theorem join_le (e : Same F H') (u : Same M H') : Same (join F M) H' := fun a o h => by
  unfold join at h
  split at h
  · rename_i o' q
    cases h
    exact e _ _ q
  · exact u _ _ h
theorem join_none {a : Addr} (h1 : F a = none) (h2 : M a = none) : join F M a = none := by
  unfold join
  rw [h1]
  exact h2
theorem sub_le0 : Same (sub (fun _ => none) F) F := sub_le
mutual
theorem Own.into (e : Same M F) (n : ∀ a, M a ≠ none → Z a = none) : ∀ {o : O} {v : V} {fp : List Addr}, Own C (fun _ => Option.none) M H o v fp → (∀ a ∈ fp, F a = Option.none) → Own C Z F H o v fp
  | _, _, _, .fz r, _ => .fz (r.mono e (Tst.refl _))
  | _, _, _, .nz r, _ => .nz (r.mono (fun a o h => by
      have h' := sub_le0 _ _ h
      rw [sub_new (n a (by rw [h']; simp))]
      exact e _ _ h') (Tst.refl _))
  | _, _, _, .lst f h r, k => .lst (k _ List.mem_cons_self) h (Owns.into e n r fun a q => k a (List.mem_cons_of_mem _ q))
  | _, _, _, .tup h r, k => .tup h (Owns.into e n r k)
  | _, _, _, .obj f h m r, k => .obj (k _ List.mem_cons_self) h m (Owns.into e n r fun a q => k a (List.mem_cons_of_mem _ q))
  | _, _, _, .dic f h, k => .dic (k _ List.mem_cons_self) h
  | _, _, _, .flst h r, k => .flst (e _ _ h) (Owns.into e n r k)
  | _, _, _, .pin r, k => .pin (Own.into e n r k)
theorem Owns.into (e : Same M F) (n : ∀ a, M a ≠ none → Z a = none) : ∀ {os : List O} {vs : List V} {fp : List Addr}, Owns C (fun _ => Option.none) M H os vs fp → (∀ a ∈ fp, F a = Option.none) → Owns C Z F H os vs fp
  | _, _, _, .nil, _ => .nil
  | _, _, _, .cons a b, k => .cons (Own.into e n a fun x q => k x (List.mem_append_left _ q)) (Owns.into e n b fun x q => k x (List.mem_append_right _ q))
end
/-- what a call hands back, as the caller sees it -/
def backR : RM → RM
  | .frz d => .cur d
  | r => r
/-- what a call hands back, at the caller -/
theorem okc_back {v : V} {rm : RM} (zh : Same Z H) (fh : Same F H) (hh : Same H H') (h : okc C H v H' rm) : ∃ F2, Ext F H F2 H' ∧ RM.ok C Z H v F2 H' (backR rm) := by
  cases rm with
  | cur d => exact ⟨F, Ext.heap fh hh, h⟩
  | frz d => exact ⟨F, Ext.heap fh hh, h⟩
  | itm os => exact h.elim
  | pins d ls => exact h.elim
  | nrz d =>
    obtain ⟨M, m1, m2, r⟩ := h
    have d0 : ∀ a, M a ≠ none → F a = none := fun a q => fh.free (m1 a q)
    refine ⟨join F M, ⟨join_l, hh, join_le (fh.trans hh) m2, fun a h1 h2 => join_none h2 ?_⟩, ?_⟩
    · cases q : M a with
      | none => rfl
      | some o => exact absurd (m1 a (by rw [q]; simp)) h1
    · refine r.mono (fun a o q => ?_) (Tst.refl _)
      rw [sub_new (zh.free (m1 a (by rw [q]; simp)))]
      exact join_r d0 _ _ q
  | new o =>
    obtain ⟨M, fp, m1, m2, ow, f1, nd⟩ := h
    have d0 : ∀ a, M a ≠ none → F a = none := fun a q => fh.free (m1 a q)
    refine ⟨join F M, ⟨join_l, hh, join_le (fh.trans hh) m2, fun a h1 h2 => join_none h2 ?_⟩, fp, ow.into (join_r d0) (fun a q => zh.free (m1 a q)) fun a q => join_none (fh.free (f1 a q)) (ow.gone a q).1, f1, nd⟩
    cases q : M a with
    | none => rfl
    | some o => exact absurd (m1 a (by rw [q]; simp)) h1
/-- what a body has come to, as its promise -/
theorem okc_of {v : V} {rm : RM} (zf : Same Z F) (fh : Same F H) (fu : match rm with | .new o => Full o | .itm _ => False | .pins _ _ => False | .frz d => Flat d | _ => True) (h : RM.ok C Z Z v F H rm) : okc C Z v H rm := by
  have dz : ∀ a, sub Z F a ≠ none → Z a = none := fun a q => by
    unfold sub at q
    split at q
    · assumption
    · exact absurd rfl q
  cases rm with
  | cur d => exact h
  | frz d => exact Rp.flat h fu
  | itm os => exact fu.elim
  | pins d ls => exact fu.elim
  | nrz d => exact ⟨sub Z F, dz, sub_le.trans fh, h⟩
  | new o =>
    obtain ⟨fp, ow, f1, nd⟩ := h
    exact ⟨sub Z F, fp, dz, sub_le.trans fh, ow.full fu, f1, nd⟩
end

section
variable {C : Cf} {Z : Hp} {X : Cx} {N G : List Str} {P : Nat → Bool} {ss : En} {a b c e : Expr} {rest es : List Expr} {pos p p2 apos : Pos} {r r' ra rb rz : RM} {α β γ : Type} {z q : Bool}
/-- a built-in with one argument -/
theorem Ev.cb1 {id : String} {x : Str} {f : List V → Hp → VK → Prop} (k : Cok C X N P G) (i : Nat) (hc : CallR X (.builtin id) f) (hi : G[i]? = some x) (hm : X.mg x = none) (hv : bootBuiltins x = some (.builtin id)) (ha : Ev C Z X ss a ra)
    (na : starEach [a] X.env = (false, eval a X.env) :: starEach [] X.env) (hr : ∀ (v : V) (F H H0 : Hp) (Q : VK), Same F H → ra.ok C Z H0 v F H → (∀ u F' H', Ext F H F' H' → rz.ok C Z H u F' H' → Q u H') → f [v] H Q) : Ev C Z X ss (.Call (.Name x p) [a] [] pos) rz := fun σ F H Q he hq pins s I =>
  (pe_callB hc (k.gl i x hi).1 hm hv (pa_cons pe_w pa_nil na) (k.gl i x hi).2.2 (k.gl i x hi).2.1 na rfl).run pins s σ H Q I (ha σ F H _ he fun v F1 H1 e1 q1 =>
    hr v F1 H1 H Q e1.fh q1 fun u F2 H2 e2 q2 => hq u F2 H2 (e1.trans e2) (RM.ok_old e1.hh q2))
theorem Ev.ct1 {id : String} {x : Str} {f : List V → Hp → VK → Prop} (k : Cok C X N P G) (i : Nat) (hc : CallR X (.type id) f) (hi : G[i]? = some x) (hm : X.mg x = none) (hv : bootBuiltins x = some (.type id)) (ha : Ev C Z X ss a ra)
    (na : starEach [a] X.env = (false, eval a X.env) :: starEach [] X.env) (hr : ∀ (v : V) (F H H0 : Hp) (Q : VK), Same F H → ra.ok C Z H0 v F H → (∀ u F' H', Ext F H F' H' → rz.ok C Z H u F' H' → Q u H') → f [v] H Q) : Ev C Z X ss (.Call (.Name x p) [a] [] pos) rz := fun σ F H Q he hq pins s I =>
  (pe_callTy hc (k.gl i x hi).1 hm hv (pa_cons pe_w pa_nil na) (k.gl i x hi).2.2 (k.gl i x hi).2.1 na rfl).run pins s σ H Q I (ha σ F H _ he fun v F1 H1 e1 q1 =>
    hr v F1 H1 H Q e1.fh q1 fun u F2 H2 e2 q2 => hq u F2 H2 (e1.trans e2) (RM.ok_old e1.hh q2))
/-- with two -/
theorem Ev.cb2 {id : String} {x : Str} {f : List V → Hp → VK → Prop} (k : Cok C X N P G) (i : Nat) (hc : CallR X (.builtin id) f) (hi : G[i]? = some x) (hm : X.mg x = none) (hv : bootBuiltins x = some (.builtin id)) (ha : Ev C Z X ss a ra) (hb : Ev C Z X ss b rb)
    (na : starEach [a, b] X.env = (false, eval a X.env) :: starEach [b] X.env) (nb : starEach [b] X.env = (false, eval b X.env) :: starEach [] X.env)
    (hr : ∀ (v w : V) (F H H0 : Hp) (Q : VK), Same F H → ra.ok C Z H0 v F H → rb.ok C Z H0 w F H → (∀ u F' H', Ext F H F' H' → rz.ok C Z H u F' H' → Q u H') → f [v, w] H Q) : Ev C Z X ss (.Call (.Name x p) [a, b] [] pos) rz := fun σ F H Q he hq pins s I =>
  (pe_callB hc (k.gl i x hi).1 hm hv (pa_cons pe_w (pa_cons pe_w pa_nil nb) na) (k.gl i x hi).2.2 (k.gl i x hi).2.1 na (by rw [nb]; rfl)).run pins s σ H Q I (ha σ F H _ he fun v F1 H1 e1 q1 => hb σ F1 H1 _ (he.ext e1) fun w F2 H2 e2 q2 =>
    hr v w F2 H2 H Q e2.fh (RM.ok_ext e2 q1) (RM.ok_old e1.hh q2) fun u F3 H3 e3 q3 => hq u F3 H3 ((e1.trans e2).trans e3) (RM.ok_old (e1.trans e2).hh q3))
theorem Ev.len {ds : List D} (k : Cok C X N P G) (i : Nat) (hi : G[i]? = some ("len" : Str) := by rfl) (ha : Ev C Z X ss a (.cur (.lst ds))) (na : starEach [a] X.env = (false, eval a X.env) :: starEach [] X.env := by rfl) : Ev C Z X ss (.Call (.Name "len" p) [a] [] pos) (.frz (dI ds.length)) :=
  Ev.cb1 k i call_len_seq hi k.bt.len PySem.boot_len ha na fun v F H H0 Q s h hq => by
    cases h with
    | lst hp hr => exact ⟨_, _, rfl, .inl (.of hp), hq _ F H (Ext.refl s) (by rw [hr.length]; exact .sc)⟩
theorem Ev.lent {ds : List D} (k : Cok C X N P G) (i : Nat) (hi : G[i]? = some ("len" : Str) := by rfl) (ha : Ev C Z X ss a (.cur (.tup ds))) (na : starEach [a] X.env = (false, eval a X.env) :: starEach [] X.env := by rfl) : Ev C Z X ss (.Call (.Name "len" p) [a] [] pos) (.frz (dI ds.length)) :=
  Ev.cb1 k i call_len_seq hi k.bt.len PySem.boot_len ha na fun v F H H0 Q s h hq => by
    cases h with
    | tup hp hr => exact ⟨_, _, rfl, .inr (.of hp), hq _ F H (Ext.refl s) (by rw [hr.length]; exact .sc)⟩
theorem Ev.lens {ns : List Int} (k : Cok C X N P G) (i : Nat) (hi : G[i]? = some ("len" : Str) := by rfl) (ha : Ev C Z X ss a (.cur (.scr ns))) (na : starEach [a] X.env = (false, eval a X.env) :: starEach [] X.env := by rfl) : Ev C Z X ss (.Call (.Name "len" p) [a] [] pos) (.frz (dI ns.length)) :=
  Ev.cb1 k i call_len_seq hi k.bt.len PySem.boot_len ha na fun v F H H0 Q s h hq => by
    cases h with
    | scr hp => exact ⟨_, _, rfl, .inl (by rw [k.hK]; exact hp), hq _ F H (Ext.refl s) (by rw [List.length_map]; exact .sc)⟩
theorem Ev.lenstr {w : Str} (k : Cok C X N P G) (hz : w.length ≤ sizeLine) (i : Nat) (hi : G[i]? = some ("len" : Str) := by rfl) (ha : Ev C Z X ss a (.frz (dS w))) (na : starEach [a] X.env = (false, eval a X.env) :: starEach [] X.env := by rfl) : Ev C Z X ss (.Call (.Name "len" p) [a] [] pos) (.frz (dI w.length)) :=
  Ev.cb1 k i call_len_str hi k.bt.len PySem.boot_len ha na fun v F H H0 Q s h hq => by
    cases h
    exact ⟨w, rfl, hz, hq _ F H (Ext.refl s) .sc⟩
theorem Ev.lenL {g : α → D} {xs : List α} (k : Cok C X N P G) (i : Nat) (hi : G[i]? = some ("len" : Str) := by rfl) (ha : Ev C Z X ss a (.cur (dL g xs))) (na : starEach [a] X.env = (false, eval a X.env) :: starEach [] X.env := by rfl) : Ev C Z X ss (.Call (.Name "len" p) [a] [] pos) (.frz (dI xs.length)) :=
  (Ev.len k i hi ha na).eq (by rw [List.length_map])
theorem Ev.listL {os : List O} (k : Cok C X N P G) (i : Nat) (hi : G[i]? = some ("list" : Str) := by rfl) (ha : Ev C Z X ss a (.itm os)) (na : starEach [a] X.env = (false, eval a X.env) :: starEach [] X.env := by rfl) : Ev C Z X ss (.Call (.Name "list" p) [a] [] pos) (.new (.lst os)) :=
  Ev.ct1 k i call_list_of hi k.bt.list boot_list ha na fun v F H H0 Q s h hq => by
    obtain ⟨l, vs, rfl, hp, hr⟩ := h
    exact ⟨l, vs, rfl, .inl (.of hp), fun q hq' => let x := new_list s hq' hr; hq _ _ _ x.1 x.2⟩
theorem Ev.listT {ds : List D} (k : Cok C X N P G) (i : Nat) (hi : G[i]? = some ("list" : Str) := by rfl) (ha : Ev C Z X ss a (.frz (.tup ds))) (na : starEach [a] X.env = (false, eval a X.env) :: starEach [] X.env := by rfl) : Ev C Z X ss (.Call (.Name "list" p) [a] [] pos) (.new (.lst (ds.map .fz))) :=
  Ev.ct1 k i call_list_of hi k.bt.list boot_list ha na fun v F H H0 Q s h hq => by
    cases h with
    | tup hp hr =>
      refine ⟨_, _, rfl, .inr (.of hp), fun q hq' => ?_⟩
      have x := new_list s hq' (show Owns C Z F H (ds.map .fz) _ [] from by have z := owns_zz (Z := Z) (g := id) (xs := ds) (by simpa using hr); exact z)
      exact hq _ _ _ x.1 x.2
theorem owns_ints {F H : Hp} (xs : List Int) : Owns C Z F H (xs.map (zz dI)) (xs.map V.int) [] := owns_zz (rps_scs V.int xs)
theorem Ev.sortedI {xs : List Int} (k : Cok C X N P G) (i : Nat) (hi : G[i]? = some ("sorted" : Str) := by rfl) (ha : Ev C Z X ss a (.cur (dL dI xs))) (na : starEach [a] X.env = (false, eval a X.env) :: starEach [] X.env := by rfl) : Ev C Z X ss (.Call (.Name "sorted" p) [a] [] pos) (.new (oL (zz dI) (isort xs))) :=
  Ev.cb1 k i cr_sortedI hi k.bt.sorted boot_sorted ha na fun v F H H0 Q s h hq => by
    obtain ⟨l, rfl, hp⟩ := dI_list h
    refine ⟨l, xs, rfl, .of hp, fun ns' q h1 h2 hq' => ?_⟩
    rw [isort_eq h1 h2]
    have x := new_list s hq' (owns_ints (C := C) (Z := Z) (F := F) (H := H) (isort xs))
    exact hq _ _ _ x.1 x.2
theorem Ev.abs2 {id x : String} {f : Int → Int → Int} (k : Cok C X N P G) (i : Nat) (hc : CallR X (.builtin id) (fun xs H Q => ∃ i j, xs = [.int i, .int j] ∧ Q (.int (f i j)) H)) (hi : G[i]? = some (Str.ofString x)) (hm : X.mg (Str.ofString x) = none) (hv : bootBuiltins (Str.ofString x) = some (.builtin id))
    {m n : Int} (ha : Ev C Z X ss a (.frz (dI m))) (hb : Ev C Z X ss b (.frz (dI n))) (na : starEach [a, b] X.env = (false, eval a X.env) :: starEach [b] X.env) (nb : starEach [b] X.env = (false, eval b X.env) :: starEach [] X.env) :
    Ev C Z X ss (.Call (.Name (Str.ofString x) p) [a, b] [] pos) (.frz (dI (f m n))) := Ev.cb2 k i hc hi hm hv ha hb na nb fun v w F H H0 Q s h1 h2 hq => by
  cases h1
  cases h2
  exact ⟨m, n, rfl, hq _ F H (Ext.refl s) .sc⟩
theorem Ev.max2 {m n : Int} (k : Cok C X N P G) (i : Nat) (hi : G[i]? = some ("max" : Str) := by rfl) (ha : Ev C Z X ss a (.frz (dI m))) (hb : Ev C Z X ss b (.frz (dI n))) (na : starEach [a, b] X.env = (false, eval a X.env) :: starEach [b] X.env := by rfl)
    (nb : starEach [b] X.env = (false, eval b X.env) :: starEach [] X.env := by rfl) : Ev C Z X ss (.Call (.Name "max" p) [a, b] [] pos) (.frz (dI (max m n))) :=
  (Ev.abs2 (f := fun i j => if j > i then j else i) k i (call_max2 k.calm) hi k.bt.max (by decide +kernel) ha hb na nb).eq (by rw [show (if n > m then n else m) = max m n by omega])
theorem Ev.min2 {m n : Int} (k : Cok C X N P G) (i : Nat) (hi : G[i]? = some ("min" : Str) := by rfl) (ha : Ev C Z X ss a (.frz (dI m))) (hb : Ev C Z X ss b (.frz (dI n))) (na : starEach [a, b] X.env = (false, eval a X.env) :: starEach [b] X.env := by rfl)
    (nb : starEach [b] X.env = (false, eval b X.env) :: starEach [] X.env := by rfl) : Ev C Z X ss (.Call (.Name "min" p) [a, b] [] pos) (.frz (dI (min m n))) :=
  (Ev.abs2 (f := fun i j => if j < i then j else i) k i (call_min2 k.calm) hi k.bt.min (by decide +kernel) ha hb na nb).eq (by rw [show (if n < m then n else m) = min m n by omega])
theorem min?_of {xs : List Int} {m m' : Int} (h : xs.min? = some m) (h1 : m' ∈ xs) (h2 : ∀ y, y ∈ xs → m' ≤ y) : m' = m := by
  have q := List.min?_eq_some_iff.mp h
  have a := h2 m q.1
  have b := q.2 m' h1
  omega
theorem Ev.minL {xs : List Int} {m : Int} (h : xs.min? = some m) (k : Cok C X N P G) (i : Nat) (hi : G[i]? = some ("min" : Str) := by rfl) (ha : Ev C Z X ss a (.cur (dL dI xs))) (na : starEach [a] X.env = (false, eval a X.env) :: starEach [] X.env := by rfl) : Ev C Z X ss (.Call (.Name "min" p) [a] [] pos) (.frz (dI m)) :=
  Ev.cb1 k i (cr_min k.calm) hi k.bt.min (by decide +kernel) ha na fun v F H H0 Q s hh hq => by
    obtain ⟨l, rfl, hp⟩ := dI_list hh
    refine ⟨l, xs, rfl, .of hp, ?_, fun m' h1 h2 => ?_⟩
    · cases xs with
      | nil => cases h
      | cons _ _ => exact Nat.zero_lt_succ _
    · rw [min?_of h h1 h2]
      exact hq _ F H (Ext.refl s) .sc
theorem Ev.str1 {m : Int} (hm : m.natAbs.log2 < 1920) (k : Cok C X N P G) (i : Nat) (hi : G[i]? = some ("str" : Str) := by rfl) (ha : Ev C Z X ss a (.frz (dI m))) (na : starEach [a] X.env = (false, eval a X.env) :: starEach [] X.env := by rfl) : Ev C Z X ss (.Call (.Name "str" p) [a] [] pos) (.frz (dS (toString m))) :=
  Ev.ct1 k i call_str_int hi k.bt.str boot_str ha na fun v F H H0 Q s h hq => by
    cases h
    exact ⟨m, rfl, hm, hq _ F H (Ext.refl s) .sc⟩
theorem Ev.intS {w : Str} {m : Int} (hm : PySem.intText? w = some m) (hz : w.length ≤ 640) (k : Cok C X N P G) (i : Nat) (hi : G[i]? = some ("int" : Str) := by rfl) (ha : Ev C Z X ss a (.frz (dS w))) (na : starEach [a] X.env = (false, eval a X.env) :: starEach [] X.env := by rfl) : Ev C Z X ss (.Call (.Name "int" p) [a] [] pos) (.frz (dI m)) :=
  Ev.ct1 k i call_int_str hi k.bt.int boot_int ha na fun v F H H0 Q s h hq => by
    cases h
    exact ⟨w, m, rfl, hm, hz, hq _ F H (Ext.refl s) .sc⟩
theorem Ev.intB {m : Bool} (k : Cok C X N P G) (i : Nat) (hi : G[i]? = some ("int" : Str) := by rfl) (ha : Ev C Z X ss a (.frz (dB m))) (na : starEach [a] X.env = (false, eval a X.env) :: starEach [] X.env := by rfl) : Ev C Z X ss (.Call (.Name "int" p) [a] [] pos) (.frz (dI (if m then 1 else 0))) :=
  Ev.ct1 k i call_int1 hi k.bt.int boot_int ha na fun v F H H0 Q s h hq => by
    cases h
    exact .inr ⟨m, rfl, hq _ F H (Ext.refl s) .sc⟩
/-- what isinstance sees -/
def dty : D → String
  | .sc (.int _) => "int"
  | .sc (.bl _) => "bool"
  | .sc (.str _) => "str"
  | .sc .non => "NoneType"
  | .lst _ => "list"
  | .tup _ => "tuple"
  | _ => ""
theorem Ev.isi {d : D} {T U : String} {r : Bool} (k : Cok C X N P G) (i j : Nat) (hT : dty d = T) (hn : T ≠ "") (hr : kitB T U = some r) (hbt : X.mg (Str.ofString U) = none) (hv : bootBuiltins (Str.ofString U) = some (.type U)) (ha : Ev C Z X ss a (.cur d)) (hi : G[i]? = some ("isinstance" : Str) := by rfl) (hj : G[j]? = some (Str.ofString U) := by rfl)
    (na : starEach [a, .Name (Str.ofString U) p2] X.env = (false, eval a X.env) :: starEach [.Name (Str.ofString U) p2] X.env := by rfl) : Ev C Z X ss (.Call (.Name "isinstance" p) [a, .Name (Str.ofString U) p2] [] pos) (.frz (dB r)) :=
  Ev.cb2 k i call_isi hi k.bt.isinstance boot_isinstance ha (Ev.of_c (C := C) (Z := Z) (ss := ss) (pe_bltn (v := .ty U) (k.gl j _ hj).1 hbt hv rfl (k.gl j _ hj).2.2 (k.gl j _ hj).2.1)) na rfl fun v w F H H0 Q s h1 h2 hq => by
    cases h2
    have fin : ∀ t, TyX X.K H v (.type t) → dty d = t → ∃ (x c : V) (t u : Value) (b : Bool), [v, V.ty U] = [x, c] ∧ ClsV c u ∧ TyX X.K H x t ∧ PySem.W.kitOne X.K t u = some b ∧ Q (.bl b) H := fun t ty e =>
      ⟨v, .ty U, .type t, .type U, r, rfl, .ty U, ty, kit_ty (by rw [← e, hT]; exact hr), hq _ F H (Ext.refl s) .sc⟩
    cases h1 with
    | sc =>
      cases v with
      | non => exact fin _ (.base .non) rfl
      | bl b => exact fin _ (.base (.bl b)) rfl
      | int n => exact fin _ (.base (.int n)) rfl
      | str x => exact fin _ (.base (.str x)) rfl
      | _ => exact absurd hT.symm hn
    | lst hp _ => exact fin _ (.base (.lst hp)) rfl
    | tup hp _ => exact fin _ (.base (.tup hp)) rfl
    | _ => exact absurd hT.symm hn
/-- list(range(n)), list(range(a, b)) -/
theorem rgV_eq (a b : Int) : rgV a b = (rangeI a b).map V.int := by
  unfold rgV rangeI
  rw [List.map_map]
  rfl
theorem Ev.lrange1 {n : Int} (hn : RgOk 0 n) (k : Cok C X N P G) (i j : Nat) (hi : G[i]? = some ("list" : Str) := by rfl) (hj : G[j]? = some ("range" : Str) := by rfl) (ha : Ev C Z X ss a (.frz (dI n))) (na : starEach [a] X.env = (false, eval a X.env) :: starEach [] X.env := by rfl) :
    Ev C Z X ss (.Call (.Name "list" p) [.Call (.Name "range" p2) [a] [] apos] [] pos) (.new (oL (zz dI) (rangeI 0 n))) := fun σ F H Q he hq pins s I =>
  (pe_listRg k.calm (k.gl i _ hi).1 k.bt.list (prg_1 (k.gl j _ hj).1 k.bt.range pe_w na)).run pins s σ H Q I (ha σ F H _ he fun v F1 H1 e1 q1 => by
    cases q1
    refine ⟨n, rfl, hn, fun q hq' => ?_⟩
    rw [rgV_eq]
    have x := new_list e1.fh hq' (owns_ints (C := C) (Z := Z) (F := F1) (H := H1) (rangeI 0 n))
    exact hq _ _ _ (e1.trans x.1) (RM.ok_old e1.hh x.2))
theorem Ev.lrange2 {m n : Int} (hn : RgOk m n) (k : Cok C X N P G) (i j : Nat) (hi : G[i]? = some ("list" : Str) := by rfl) (hj : G[j]? = some ("range" : Str) := by rfl) (ha : Ev C Z X ss a (.frz (dI m))) (hb : Ev C Z X ss b (.frz (dI n)))
    (na : starEach [a, b] X.env = (false, eval a X.env) :: starEach [b] X.env := by rfl) (nb : starEach [b] X.env = (false, eval b X.env) :: starEach [] X.env := by rfl) :
    Ev C Z X ss (.Call (.Name "list" p) [.Call (.Name "range" p2) [a, b] [] apos] [] pos) (.new (oL (zz dI) (rangeI m n))) := fun σ F H Q he hq pins s I =>
  (pe_listRg k.calm (k.gl i _ hi).1 k.bt.list (prg_2 (k.gl j _ hj).1 k.bt.range pe_w pe_w na nb (by rw [nb]; rfl))).run pins s σ H Q I (ha σ F H _ he fun v F1 H1 e1 q1 => hb σ F1 H1 _ (he.ext e1) fun w F2 H2 e2 q2 => by
    cases q1
    cases q2
    refine ⟨m, n, rfl, rfl, hn, fun q hq' => ?_⟩
    rw [rgV_eq]
    have x := new_list e2.fh hq' (owns_ints (C := C) (Z := Z) (F := F2) (H := H2) (rangeI m n))
    exact hq _ _ _ ((e1.trans e2).trans x.1) (RM.ok_old (e1.trans e2).hh x.2))

/-! a def called, where nothing is raised -/
theorem pass_none {σ : L2.St} : PassesAt (L2N.CX X.prog X.w) X σ (fun _ _ _ => False) := by
  intro pins H s e s' I c
  obtain ⟨_, _, _, _, _, _, _, _, _, _, _, _, f⟩ := c
  exact f.elim
theorem Ev.call {x : Str} {ds : List D} {rm : RM} (k : Cok C X N P G) (i : Nat) (hc : Cal X.prog X.w X.K X.mg X.base X.A C x ds (.ok rm)) (ha : Ea C Z X ss (e :: es) ds) (hi : G[i]? = some x := by rfl) (he1 : starEach (e :: es) X.env = (false, eval e X.env) :: starEach es X.env := by rfl)
    (hpl : (backTo pos (starEach es X.env)).any (·.1) = false := by rfl) : Ev C Z X ss (.Call (.Name x p) (e :: es) [] pos) (backR rm) := fun σ F H Q he hq pins s I => by
  obtain ⟨n, f, fd, ps, sp, hr, FO, hm, hk, hb, hs⟩ := hc
  refine (pe_callS (E := fun _ _ _ _ => False) FO hr (k.gl i x hi).1 hm hk hb (fun σ => pass_none) pa_w (k.gl i x hi).2.1 he1 hpl).run pins s σ H Q I ?_
  refine ha σ F H _ he fun vs F1 H1 e1 q1 => hs _ _ _ _ ⟨q1, fun v H2 h2 q2 => ?_⟩
  obtain ⟨F2, e2, q3⟩ := okc_back ((he.ext e1).zf.trans e1.fh) e1.fh h2 q2
  exact hq v F2 H2 (e1.trans e2) (RM.ok_old e1.hh q3)
end
end VL

set_option Elab.async false
set_option linter.all false
set_option maxRecDepth 100000
set_option maxHeartbeats 4000000
/-! VL5: what is walked, targets, comprehensions, statements, a def's body. -/
namespace VL
open PySem PySem.Spec PyProof.Rows L2

def wI (X : Cx) (tg iter : Expr) : TI := fun σ H R => ∀ (pins : List (Addr × Obj)) (s : Shared), Inv X pins σ H s →
  wpAny (model X.prog X.w) X.A (eval iter X.env) (fun v s1 => wpAny (model X.prog X.w) X.A (pyIter v) (PIE X pins σ tg R) X.xe s1) X.xe s
theorem pi_w {X : Cx} {tg iter : Expr} : PI X tg iter (wI X tg iter) := ⟨fun pins s _ _ _ I h => h pins s I⟩
def wG (X : Cx) (tg : Expr) : TG := fun v σ H Q => ∀ (pins : List (Addr × Obj)) (s : Shared) (u : Value), Inv X pins σ H s → RelV v u → wpAny (model X.prog X.w) X.A (assign tg X.env u) (fun _ s' => ∃ σ' H', Inv X pins σ' H' s' ∧ Q σ' H') X.xe s
theorem pg_w {X : Cx} {tg : Expr} : PG X tg (wG X tg) := ⟨fun pins s _ _ _ u _ I r h => h pins s u I r⟩
/-- iter is walked, its items are os -/
def Iv (C : Cf) (Z : Hp) (X : Cx) (ss : En) (tg iter : Expr) (os : List O) : Prop :=
  ∀ (σ : L2.St) (F H : Hp) (R : It → Hp → Prop), EnvOk C Z ss F H σ →
    (∀ J F' H' G Y, os.length ≤ sizeLine → Ext F H F' H' → Walk J os.length G Y → (∀ F2 H2, Gr F' H' F2 H2 → Same F2 H2 → G H2) →
      (∀ (i : Nat) (o : O) H1 x H2 F2, os[i]? = some o → Gr F' H' F2 H1 → Same F2 H1 → Y i H1 x H2 → Ext F2 H1 F2 H2 ∧ Own C Z F2 H2 o x []) → R J H') → wI X tg iter σ H R
/-- the lists of a heap that is held are not too long -/
def Bd (H : Hp) : Prop := ∀ p vs, H p = some (.lst vs) ∨ H p = some (.tup vs) → vs.length ≤ sizeLine
theorem Inv.bd {X : Cx} {pins : List (Addr × Obj)} {σ : L2.St} {H : Hp} {s : Shared} (I : Inv X pins σ H s) : Bd H := fun p vs h => by
  rcases h with h | h
  · exact (I.hok p _ h).1
  · exact (I.hok p _ h).1
theorem wI_bd {X : Cx} {tg iter : Expr} {σ : L2.St} {H : Hp} {R : It → Hp → Prop} (h : wI X tg iter σ H fun J H' => Bd H' → R J H') : wI X tg iter σ H R := fun pins s I =>
  thn (h pins s I) fun v s1 h1 => thn h1 fun itv s2 h2 => by
    obtain ⟨it, fp, tn, J, H2, e, I2, T, st2, f2, r⟩ := h2
    exact ⟨it, fp, tn, J, H2, e, I2, T, st2, f2, r (Inv.bd I2)⟩
/-- the same where nothing is changed meanwhile -/
def Ivc (C : Cf) (Z : Hp) (X : Cx) (ss : En) (tg iter : Expr) (os : List O) : Prop :=
  ∀ (σ : L2.St) (F H : Hp) (R : It → Hp → Prop), EnvOk C Z ss F H σ →
    (∀ J F' H' G Y, os.length ≤ sizeLine → Ext F H F' H' → Walk J os.length G Y → (∀ F2 H2, Ext F' H' F2 H2 → G H2) →
      (∀ (i : Nat) (o : O) H1 x H2 F2, os[i]? = some o → Ext F' H' F2 H1 → Y i H1 x H2 → Ext F2 H1 F2 H2 ∧ Own C Z F2 H2 o x []) → R J H') → wI X tg iter σ H R
theorem Iv.c {C : Cf} {Z : Hp} {X : Cx} {ss : En} {tg iter : Expr} {os : List O} (h : Iv C Z X ss tg iter os) : Ivc C Z X ss tg iter os := fun σ F H R he hR =>
  h σ F H R he fun J F' H' G Y b e w g y => hR J F' H' G Y b e w (fun F2 H2 x => g F2 H2 x.gr x.fh) fun i o H1 x H2 F2 ho ex hy => y i o H1 x H2 F2 ho ex.gr ex.fh hy
/-- what is bound to tg -/
def Gt (C : Cf) (Z : Hp) (X : Cx) (ss : En) (tg : Expr) (o : O) (ss' : En) : Prop :=
  ∀ (σ : L2.St) (F H : Hp) (v : V) (Q : L2.St → Hp → Prop), EnvOk C Z ss F H σ → Own C Z F H o v [] → (∀ σ', EnvOk C Z ss' F H σ' → Q σ' H) → wG X tg v σ H Q

/-- a def's own body -/
structure Dok (X : Cx) (N : List Str) (P : Nat → Bool) : Prop where
  loc : ∀ (i : Nat) x, P i = true → N[i]? = some x → Loc X.env.scope x
  fn : ∀ x, X.fn x = true
  own : PassesOwn (model X.prog X.w) X.A X.env X.xe

section
variable {C : Cf} {Z : Hp} {X : Cx} {N G : List Str} {P : Nat → Bool} {ss ss' : En} {a b c e tg iter : Expr} {rest es : List Expr} {pos p p2 apos : Pos} {r r' ra rb rz : RM} {α β γ : Type} {z q : Bool}

theorem EnvOk.put {F H : Hp} {σ : L2.St} {i : Nat} {o : O} {v : V} {fp : List Addr} (he : EnvOk C Z ss F H σ) (hi : i < ss.length) (hv : Own C Z F H o v fp) (nd : fp.Nodup)
    (nn : ∀ g, Slots C Z F H (ss.set i none) σ g → ∀ a ∈ fp, a ∉ g) : EnvOk C Z (ss.set i (some o)) F H (σ.set i (some v)) := by
  obtain ⟨g, sl, d⟩ := he.sl
  obtain ⟨f2, s2, sub⟩ := sl.drop i
  have hi' : i < (ss.set i none).length := by simpa using hi
  have hn : (ss.set i none)[i]? = some none := List.getElem?_set_self hi
  obtain ⟨f3, s3, pm⟩ := s2.fill hv hi' hn
  rw [List.set_set] at s3
  exact ⟨he.zf, he.fh, f3, s3, (pm.nodup_iff).mpr (List.nodup_append.mpr ⟨nd, d.sublist sub, fun x hx y hy e => nn f2 s2 x hx (e ▸ hy)⟩)⟩
/-- a value with nothing of its own -/
theorem EnvOk.put0 {F H : Hp} {σ : L2.St} {i : Nat} {o : O} {v : V} (he : EnvOk C Z ss F H σ) (hi : i < ss.length) (hv : Own C Z F H o v []) : EnvOk C Z (ss.set i (some o)) F H (σ.set i (some v)) :=
  he.put hi hv List.nodup_nil fun _ _ _ q => absurd q List.not_mem_nil
/-- a new value -/
theorem EnvOk.putN {F H F' H' : Hp} {σ : L2.St} {i : Nat} {o : O} {v : V} (he : EnvOk C Z ss F H σ) (x : Ext F H F' H') (hi : i < ss.length) (hv : (rmO o).ok C Z H v F' H') : EnvOk C Z (ss.set i (some o)) F' H' (σ.set i (some v)) := by
  obtain ⟨fp, ow, n, nd⟩ := rmO_ok hv
  obtain ⟨g, sl, d⟩ := he.sl
  obtain ⟨f2, s2, sb⟩ := sl.drop i
  have s2' := s2.ext x
  have hi' : i < (ss.set i none).length := by simpa using hi
  have hn : (ss.set i none)[i]? = some none := List.getElem?_set_self hi
  obtain ⟨f3, s3, pm⟩ := s2'.fill ow hi' hn
  rw [List.set_set] at s3
  refine ⟨he.zf.trans x.ff, x.fh, f3, s3, (pm.nodup_iff).mpr (List.nodup_append.mpr ⟨nd, d.sublist sb, fun y hy w hw e => ?_⟩)⟩
  subst e
  exact (s2.gone y hw).2 (n y hy)

/-! targets -/
theorem Gt.name (k : Cok C X N P G) (d : Dok X N P) (i : Nat) {x : Str} {o : O} (hl : i < ss.length) (hs : ss' = ss.set i (some o)) (hi : N[i]? = some x := by rfl) (hp : P i = true := by rfl) : Gt C Z X ss (.Name x pos) o ss' := fun σ F H v Q he hv hq pins s u I r =>
  (pg_name (i := i) (by rw [k.hN]; exact k.nd) (by rw [k.hN]; exact hi) (d.loc i x hp hi) (.inl (d.fn x))).run pins s σ H v u Q I r (hq _ (by rw [hs]; exact he.put0 hl hv))
/-- a, b: a tuple of two -/
theorem Gt.two (k : Cok C X N P G) (d : Dok X N P) (i j : Nat) {x y : Str} {d1 d2 : D} {m : Nat} {p1 : Pos} (hl : i < ss.length) (hl2 : j < ss.length) (hs : ss' = (ss.set i (some (.fz d1))).set j (some (.fz d2))) (hi : N[i]? = some x := by rfl) (hj : N[j]? = some y := by rfl) (hpi : P i = true := by rfl) (hpj : P j = true := by rfl) :
    Gt C Z X ss (.Tuple [.Name x p, .Name y p2] m pos) (.fz (.tup [d1, d2])) ss' := fun σ F H v Q he hv hq pins s u I r => by
  have pn : ∀ {i : Nat} {x : Str} {p : Pos}, P i = true → N[i]? = some x → PG X (.Name x p) (gName i) := fun {i x p} hp hi => pg_name (i := i) (by rw [k.hN]; exact k.nd) (by rw [k.hN]; exact hi) (d.loc i x hp hi) (.inl (d.fn x))
  refine (pg_tup k.calm (pgs_cons (pn hpi hi) (pgs_cons (pn hpj hj) pgs_nil))).run pins s σ H v u Q I r ?_
  cases hv with
  | fz h =>
    cases h with
    | tup hp hr =>
      cases hr with
      | cons r1 hr =>
        cases hr with
        | cons r2 hr =>
          cases hr
          refine ⟨_, _, rfl, .of hp, rfl, _, _, rfl, _, _, rfl, rfl, hq _ ?_⟩
          rw [hs]
          exact (he.put0 hl (.fz r1)).put0 (by simpa using hl2) (.fz r2)

/-! what is walked -/
/-- a frozen list -/
theorem Iv.frz {g : α → D} {xs : List α} (h : Ev C Z X ss iter (.frz (dL g xs))) : Iv C Z X ss tg iter (xs.map (zz g)) := fun σ F H R he hR => wI_bd fun pins s I =>
  (pi_list pe_w).run pins s σ H _ I (h σ F H _ he fun v F1 H1 e1 q1 => by
    cases q1 with
    | lst hp hr =>
      rename_i pa vs
      refine ⟨pa, rfl, ⟨vs, .of (e1.fh _ _ hp)⟩, fun bd => hR _ F1 H1 (fun H => SqL X.K H pa vs) (YAt vs) (by rw [List.length_map, ← List.length_map (f := g), hr.length]; exact bd pa vs (.inl (e1.fh _ _ hp))) e1 ?_ (fun F2 H2 g2 s2 => .of (s2 _ _ (g2.ff _ _ hp))) fun i o H2 x H3 F2 ho g2 s2 y => ?_⟩
      · have w := walk_list (K := X.K) (a := pa) (xs := vs)
        rw [List.length_map, ← List.length_map (f := g), hr.length]
        exact w
      · obtain ⟨rfl, hx⟩ := y
        refine ⟨Ext.refl s2, ?_⟩
        rw [List.getElem?_map] at ho
        obtain ⟨x0, hx0, rfl⟩ := Option.map_eq_some_iff.mp ho
        obtain ⟨v, hv, rv⟩ := hr.get (i := i) (d := g x0) (by rw [List.getElem?_map, hx0]; rfl)
        rw [hv] at hx
        cases hx
        exact .fz (rv.mono g2.ff g2.tt))
theorem Iv.nrz {g : α → D} {xs : List α} (h : Ev C Z X ss iter (.nrz (dL g xs))) : Iv C Z X ss tg iter (xs.map (zn g)) := fun σ F H R he hR => wI_bd fun pins s I =>
  (pi_list pe_w).run pins s σ H _ I (h σ F H _ he fun v F1 H1 e1 q1 => by
    cases q1 with
    | lst hp hr =>
      rename_i pa vs
      have hp' := sub_le _ _ hp
      refine ⟨pa, rfl, ⟨vs, .of (e1.fh _ _ hp')⟩, fun bd => hR _ F1 H1 (fun H => SqL X.K H pa vs) (YAt vs) (by rw [List.length_map, ← List.length_map (f := g), hr.length]; exact bd pa vs (.inl (e1.fh _ _ hp'))) e1 ?_ (fun F2 H2 g2 s2 => .of (s2 _ _ (g2.ff _ _ hp'))) fun i o H2 x H3 F2 ho g2 s2 y => ?_⟩
      · have w := walk_list (K := X.K) (a := pa) (xs := vs)
        rw [List.length_map, ← List.length_map (f := g), hr.length]
        exact w
      · obtain ⟨rfl, hx⟩ := y
        refine ⟨Ext.refl s2, ?_⟩
        rw [List.getElem?_map] at ho
        obtain ⟨x0, hx0, rfl⟩ := Option.map_eq_some_iff.mp ho
        obtain ⟨v, hv, rv⟩ := hr.get (i := i) (d := g x0) (by rw [List.getElem?_map, hx0]; rfl)
        rw [hv] at hx
        cases hx
        exact .nz (rv.mono (sub_same g2.ff) g2.tt))
/-- an owned list of leaves, in a comprehension -/
theorem Ivc.itm {f : α → O} {xs : List α} (lo : ∀ x, Leaf (f x)) (h : Ev C Z X ss iter (.itm (xs.map f))) : Ivc C Z X ss tg iter (xs.map f) := fun σ F H R he hR => wI_bd fun pins s I =>
  (pi_list pe_w).run pins s σ H _ I (h σ F H _ he fun v F1 H1 e1 q1 => by
    obtain ⟨pa, vs, rfl, hp, hr⟩ := q1
    refine ⟨pa, rfl, ⟨vs, .of hp⟩, fun bd => hR _ F1 H1 (fun H => SqL X.K H pa vs) (YAt vs) (by rw [hr.length]; exact bd pa vs (.inl hp)) e1 ?_ (fun F2 H2 x2 => .of (x2.hh _ _ hp)) fun i o H2 x H3 F2 ho x2 y => ?_⟩
    · have w := walk_list (K := X.K) (a := pa) (xs := vs)
      rw [hr.length]
      exact w
    · obtain ⟨rfl, hx⟩ := y
      refine ⟨Ext.refl x2.fh, ?_⟩
      obtain ⟨v, hv, rv⟩ := hr.get ho
      rw [hv] at hx
      cases hx
      exact rv.ext x2)
/-- a tuple -/
theorem Iv.tup {g : α → D} {xs : List α} (h : Ev C Z X ss iter (.frz (.tup (xs.map g)))) : Iv C Z X ss tg iter (xs.map (zz g)) := fun σ F H R he hR => wI_bd fun pins s I =>
  (pi_tup pe_w).run pins s σ H _ I (h σ F H _ he fun v F1 H1 e1 q1 => by
    cases q1 with
    | tup hp hr =>
      rename_i pa vs
      refine ⟨pa, rfl, ⟨vs, .of hp⟩, fun bd => hR _ F1 H1 (fun H => SqT X.K H pa vs) (YAt vs) (by rw [List.length_map, ← List.length_map (f := g), hr.length]; exact bd pa vs (.inr hp)) e1 ?_ (fun F2 H2 g2 s2 => .of (g2.tt _ _ hp)) fun i o H2 x H3 F2 ho g2 s2 y => ?_⟩
      · have w := walk_tup (K := X.K) (a := pa) (xs := vs)
        rw [List.length_map, ← List.length_map (f := g), hr.length]
        exact w
      · obtain ⟨rfl, hx⟩ := y
        refine ⟨Ext.refl s2, ?_⟩
        rw [List.getElem?_map] at ho
        obtain ⟨x0, hx0, rfl⟩ := Option.map_eq_some_iff.mp ho
        obtain ⟨v, hv, rv⟩ := hr.get (i := i) (d := g x0) (by rw [List.getElem?_map, hx0]; rfl)
        rw [hv] at hx
        cases hx
        exact .fz (rv.mono g2.ff g2.tt))
theorem range_iv {m : Int} {n : Nat} {F H : Hp} (os : List O) (he : os = ((List.range n).map fun i => m + ((i : Nat) : Int)).map (zz dI)) : Walk (Itr m n) os.length (fun _ => True) (YFn fun i => .int (m + i)) ∧
    ∀ (i : Nat) (o : O) H1 x H2 F2, os[i]? = some o → Same F2 H1 → YFn (fun i => .int (m + i)) i H1 x H2 → Ext F2 H1 F2 H2 ∧ Own C Z F2 H2 o x [] := by
  subst he
  refine ⟨?_, fun i o H1 x H2 F2 ho s2 y => ?_⟩
  · rw [List.length_map, List.length_map, List.length_range]
    exact walk_range
  · obtain ⟨rfl, rfl⟩ := y
    refine ⟨Ext.refl s2, ?_⟩
    rw [List.getElem?_map, List.getElem?_map] at ho
    obtain ⟨x0, hx0, rfl⟩ := Option.map_eq_some_iff.mp ho
    obtain ⟨x1, hx1, rfl⟩ := Option.map_eq_some_iff.mp hx0
    obtain ⟨hlt, e⟩ := List.getElem?_eq_some_iff.mp hx1
    rw [List.getElem_range] at e
    subst e
    exact .fz .sc
theorem Iv.range1 {n : Int} (hn : RgOk 0 n) (k : Cok C X N P G) (j : Nat) (hj : G[j]? = some ("range" : Str) := by rfl) (ha : Ev C Z X ss a (.frz (dI n))) (na : starEach [a] X.env = [(false, eval a X.env)] := by rfl) :
    Iv C Z X ss tg (.Call (.Name "range" p) [a] [] pos) ((rangeI 0 n).map (zz dI)) := fun σ F H R he hR pins s I =>
  (pi_range1 (k.gl j _ hj).1 k.bt.range (pa_cons pe_w pa_nil na) na).run pins s σ H R I (ha σ F H _ he fun v F1 H1 e1 q1 => by
    cases q1
    have w := range_iv (C := C) (Z := Z) (F := F1) (H := H1) (m := 0) (n := n.toNat) ((rangeI 0 n).map (zz dI)) (by unfold rangeI; rw [Int.sub_zero])
    exact ⟨n, rfl, hn.2.2.1, hn.2.2.2.1, hR _ F1 H1 _ _ (by rw [List.length_map, rangeI_length]; exact hn.2.2.2.2) e1 w.1 (fun _ _ _ _ => trivial) fun i o H1 x H2 F2 ho _ s2 y => w.2 i o H1 x H2 F2 ho s2 y⟩)
theorem Iv.range2 {m n : Int} (hn : RgOk m n) (k : Cok C X N P G) (j : Nat) (hj : G[j]? = some ("range" : Str) := by rfl) (ha : Ev C Z X ss a (.frz (dI m))) (hb : Ev C Z X ss b (.frz (dI n)))
    (na : starEach [a, b] X.env = [(false, eval a X.env), (false, eval b X.env)] := by rfl) (nb : starEach [b] X.env = [(false, eval b X.env)] := by rfl) :
    Iv C Z X ss tg (.Call (.Name "range" p) [a, b] [] pos) ((rangeI m n).map (zz dI)) := fun σ F H R he hR pins s I =>
  (pi_range2 (k.gl j _ hj).1 k.bt.range (pa_cons pe_w (pa_cons pe_w pa_nil nb) (by rw [na, nb])) na nb).run pins s σ H R I (ha σ F H _ he fun v F1 H1 e1 q1 => hb σ F1 H1 _ (he.ext e1) fun u F2 H2 e2 q2 => by
    cases q1
    cases q2
    have w := range_iv (C := C) (Z := Z) (F := F2) (H := H2) (m := m) (n := (n - m).toNat) ((rangeI m n).map (zz dI)) (by unfold rangeI; rfl)
    exact ⟨m, n, rfl, ⟨hn.1, hn.2.1, hn.2.2.1, hn.2.2.2.1⟩, hR _ F2 H2 _ _ (by rw [List.length_map, rangeI_length]; exact hn.2.2.2.2) (e1.trans e2) w.1 (fun _ _ _ _ => trivial) fun i o H1 x H2 F2 ho _ s2 y => w.2 i o H1 x H2 F2 ho s2 y⟩)
/-- reversed(xs) -/
theorem Iv.rev {g : α → D} {xs : List α} (k : Cok C X N P G) (j : Nat) (hj : G[j]? = some ("reversed" : Str) := by rfl) (h : Ev C Z X ss a (.frz (dL g xs))) (na : starEach [a] X.env = [(false, eval a X.env)] := by rfl) : Iv C Z X ss tg (.Call (.Name "reversed" p) [a] [] pos) (xs.reverse.map (zz g)) := fun σ F H R he hR => wI_bd fun pins s I =>
  (pi_reversed (k.gl j _ hj).1 k.bt.reversed (pa_cons pe_w pa_nil na) na).run pins s σ H _ I (h σ F H _ he fun v F1 H1 e1 q1 => by
    cases q1 with
    | lst hp hr =>
      rename_i pa vs
      refine ⟨pa, vs, rfl, .of (e1.fh _ _ hp), fun bd => hR _ F1 H1 (fun H => SqL X.K H pa vs) (fun i H x H' => H' = H ∧ vs[vs.length - 1 - i]? = some x) (by rw [List.length_map, List.length_reverse, ← List.length_map (f := g), hr.length]; exact bd pa vs (.inl (e1.fh _ _ hp))) e1 ?_ (fun F2 H2 g2 s2 => .of (s2 _ _ (g2.ff _ _ hp))) fun i o H2 x H3 F2 ho g2 s2 y => ?_⟩
      · have w := walk_rev (K := X.K) (a := pa) (xs := vs)
        rw [List.length_map, List.length_reverse, ← List.length_map (f := g), hr.length]
        exact w
      · obtain ⟨rfl, hx⟩ := y
        refine ⟨Ext.refl s2, ?_⟩
        rw [List.getElem?_map] at ho
        obtain ⟨x0, hx0, rfl⟩ := Option.map_eq_some_iff.mp ho
        have hi : i < xs.length := by
          have q := (List.getElem?_eq_some_iff.mp hx0).1
          simpa using q
        rw [List.getElem?_reverse hi] at hx0
        have hl : xs.length = vs.length := by rw [← hr.length, List.length_map]
        rw [hl] at hx0
        obtain ⟨v, hv, rv⟩ := hr.get (i := vs.length - 1 - i) (d := g x0) (by rw [List.getElem?_map, hx0]; rfl)
        rw [hv] at hx
        cases hx
        exact .fz (rv.mono g2.ff g2.tt))
/-- a text, sign by sign -/
def dC (c : Nat) : D := dS ⟨#[c]⟩
theorem Iv.str {w : Str} (hz : w.length ≤ sizeLine) (h : Ev C Z X ss iter (.frz (dS w))) : Iv C Z X ss tg iter (w.cps.toList.map (zz dC)) := fun σ F H R he hR pins s I =>
  (pi_str pe_w).run pins s σ H R I (h σ F H _ he fun v F1 H1 e1 q1 => by
    cases q1
    refine ⟨w, rfl, hR _ F1 H1 (fun _ => True) (fun i H v H' => H' = H ∧ ∃ c, w.cps[i]? = some c ∧ v = .str ⟨#[c]⟩) (by rw [List.length_map, Array.length_toList]; exact hz) e1 ?_ (fun _ _ _ _ => trivial) fun i o H2 x H3 F2 ho g2 s2 y => ?_⟩
    · have q := walk_str (z := w)
      rw [List.length_map, Array.length_toList]
      exact q
    · obtain ⟨rfl, c, hc, rfl⟩ := y
      refine ⟨Ext.refl s2, ?_⟩
      rw [List.getElem?_map] at ho
      obtain ⟨x0, hx0, rfl⟩ := Option.map_eq_some_iff.mp ho
      rw [Array.getElem?_toList, hc] at hx0
      cases hx0
      exact .fz .sc)
/-- enumerate(xs) -/
def enumI {α : Type} (xs : List α) : List (Int × α) := xs.zipIdx.map fun p => ((p.2 : Int), p.1)
theorem enumI_length (xs : List α) : (enumI xs).length = xs.length := by unfold enumI; simp
theorem Iv.enum {g : α → D} {xs : List α} {elts : List Expr} {kk : Nat} {tpos : Pos} (k : Cok C X N P G) (j : Nat) (hj : G[j]? = some ("enumerate" : Str) := by rfl) (h : Ev C Z X ss a (.frz (dL g xs))) (na : starEach [a] X.env = [(false, eval a X.env)] := by rfl) :
    Iv C Z X ss (.Tuple elts kk tpos) (.Call (.Name "enumerate" p) [a] [] pos) ((enumI xs).map (zz (dP dI g))) := fun σ F H R he hR => wI_bd fun pins s I =>
  (pi_enum (k.gl j _ hj).1 k.bt.enumerate (pa_cons pe_w pa_nil na) na).run pins s σ H _ I (h σ F H _ he fun v F1 H1 e1 q1 => by
    cases q1 with
    | lst hp hr =>
      rename_i pa vs
      refine ⟨pa, vs, rfl, .of (e1.fh _ _ hp), fun bd => hR _ F1 H1 (fun H => SqL X.K H pa vs) (YPair (fun i => some (.int (i : Nat))) (fun i => vs[i]?)) (by rw [List.length_map, enumI_length, ← List.length_map (f := g), hr.length]; exact bd pa vs (.inl (e1.fh _ _ hp))) e1 ?_ (fun F2 H2 g2 s2 => .of (s2 _ _ (g2.ff _ _ hp))) fun i o H2 x H3 F2 ho g2 s2 y => ?_⟩
      · have w := walk_enum (K := X.K) (a := pa) (xs := vs)
        rw [List.length_map, enumI_length, ← List.length_map (f := g), hr.length]
        exact w
      · obtain ⟨T, x1, y1, rfl, hT, rfl, h1, h2⟩ := y
        cases h1
        have ex : Ext F2 H2 F2 (upd H2 T (.tup [.int (i : Nat), y1])) := Ext.heap s2 fun b o q => by rw [upd_ne (ne_of_none q hT)]; exact q
        refine ⟨ex, ?_⟩
        rw [List.getElem?_map] at ho
        obtain ⟨x0, hx0, rfl⟩ := Option.map_eq_some_iff.mp ho
        unfold enumI at hx0
        rw [List.getElem?_map] at hx0
        obtain ⟨x2, hx2, rfl⟩ := Option.map_eq_some_iff.mp hx0
        rw [List.getElem?_zipIdx] at hx2
        obtain ⟨x3, hx3, rfl⟩ := Option.map_eq_some_iff.mp hx2
        obtain ⟨v, hv, rv⟩ := hr.get (i := i) (d := g x3) (by rw [List.getElem?_map, hx3]; rfl)
        replace h2 : vs[i]? = some y1 := h2
        rw [hv] at h2
        cases h2
        refine .fz (.tup upd_same (.cons ?_ (.cons (rv.mono g2.ff (fun b xs q => ?_)) .nil)))
        · show Rp C F2 _ (dI (((0 + i : Nat)) : Int)) (.int (i : Nat))
          rw [Nat.zero_add]
          exact .sc
        · exact ex.hh _ _ (g2.tt b xs q))
end
end VL

set_option Elab.async false
set_option linter.all false
set_option maxRecDepth 100000
set_option maxHeartbeats 4000000
/-! VL6: comprehensions, statements. -/
namespace VL
open PySem PySem.Spec PyProof.Rows L2

/-! ### comprehensions -/
theorem compO_cons {α β : Type} {p : α → Option Bool} {f : α → Option β} {x : α} {xs : List α} {zs : List β} (h : compO p f (x :: xs) = some zs) :
    (p x = some false ∧ compO p f xs = some zs) ∨ ∃ y ys, p x = some true ∧ f x = some y ∧ compO p f xs = some ys ∧ zs = y :: ys := by
  unfold compO at h
  split at h
  · cases h
  · rename_i e
    exact .inl ⟨e, h⟩
  · rename_i e
    split at h
    · cases h
    · rename_i y ey
      split at h
      · cases h
      · rename_i ys ez
        cases h
        exact .inr ⟨y, ys, e, ey, ez, rfl⟩
theorem compO_no {α β : Type} {p : α → Option Bool} {f : α → Option β} {x : α} {xs : List α} (e : p x = some false) : compO p f (x :: xs) = compO p f xs := by
  show (match p x with | none => none | some false => compO p f xs | some true => _) = _
  rw [e]
theorem compO_yes {α β : Type} {p : α → Option Bool} {f : α → Option β} {x : α} {xs : List α} {y : β} {ys : List β} (e : p x = some true) (e2 : f x = some y) (e3 : compO p f xs = some ys) : compO p f (x :: xs) = some (y :: ys) := by
  show (match p x with | none => none | some false => compO p f xs | some true => match f x with | none => none | some y => match compO p f xs with | none => none | some ys => some (y :: ys)) = _
  rw [e, e2, e3]
theorem compO_append {α β : Type} {p : α → Option Bool} {f : α → Option β} : ∀ {xs ys : List α} {zs : List β}, compO p f (xs ++ ys) = some zs → ∃ us vs, compO p f xs = some us ∧ compO p f ys = some vs ∧ zs = us ++ vs
  | [], ys, zs, h => ⟨[], zs, rfl, h, rfl⟩
  | x :: xs, ys, zs, h => by
    rcases compO_cons (xs := xs ++ ys) h with ⟨e, h'⟩ | ⟨y, ws, e, e2, h', rfl⟩
    · obtain ⟨us, vs, h1, h2, h3⟩ := compO_append h'
      exact ⟨us, vs, by rw [compO_no e]; exact h1, h2, h3⟩
    · obtain ⟨us, vs, h1, h2, h3⟩ := compO_append h'
      exact ⟨y :: us, vs, compO_yes e e2 h1, h2, by rw [h3]; rfl⟩
theorem compO_join {α β : Type} {p : α → Option Bool} {f : α → Option β} : ∀ {xs ys : List α} {us vs : List β}, compO p f xs = some us → compO p f ys = some vs → compO p f (xs ++ ys) = some (us ++ vs)
  | [], ys, us, vs, h1, h2 => by
    cases h1
    exact h2
  | x :: xs, ys, us, vs, h1, h2 => by
    rcases compO_cons h1 with ⟨e, h⟩ | ⟨y, ws, e, e2, h, rfl⟩
    · rw [List.cons_append, compO_no e]
      exact compO_join h h2
    · rw [List.cons_append]
      exact compO_yes e e2 (compO_join h h2)
/-- the blocks of a comprehension in X -/
def Fam (X X' : Cx) (scope : Scope) : Prop := ∃ (s : Shared) (H : Hp) (C : Addr) (cl : List (Str × Addr)) (fp : List Addr), X' = X.blk s H scope (compEnvC scope cl C X.env) fp
/-- a look at a block's names: those of vis are names there, those of G are global -/
def blkB (N : List Str) (scope : Scope) (vis : List Nat) (G : List Str) : Bool :=
  (vis.all fun i => match N[i]? with
    | none => true
    | some x => (match scope.names.lookup x with
      | some .local => true
      | some .cell => true
      | some .free => true
      | _ => false) && !(x == ("__debug__" : Str)) && !(x == ("__classdict__" : Str))) &&
  G.all fun x => (match scope.names.lookup x with
      | some .globalImplicit => true
      | _ => false) && !(x == ("__debug__" : Str)) && !decide (x = "__name__")
theorem rel_of {sc : Scope} : ∀ {names : List (Str × NameKind)} {x : Str} {k : NameKind}, names.lookup x = some k →
    ∃ k', (names.map fun (n, k) => if (k == NameKind.free && sc.kind == .function && sc.names.lookup n == some .cell) then (n, NameKind.cell) else (n, k)).lookup x = some k' ∧ (k' = k ∨ (k = .free ∧ k' = .cell))
  | [], _, _, h => by simp at h
  | (n, k₀) :: r, x, k, h => by
    have ih := @rel_of sc r x k
    show ∃ k', List.lookup x ((if (k₀ == NameKind.free && sc.kind == .function && sc.names.lookup n == some .cell) = true then (n, NameKind.cell) else (n, k₀)) :: (r.map _)) = some k' ∧ _
    cases hx : x == n with
    | true =>
      simp only [List.lookup_cons, hx] at h
      cases h
      by_cases hc : (k₀ == NameKind.free && sc.kind == .function && sc.names.lookup n == some .cell) = true
      · rw [if_pos hc]
        simp only [List.lookup_cons, hx]
        simp only [Bool.and_eq_true, beq_iff_eq] at hc
        exact ⟨.cell, rfl, .inr ⟨hc.1.1, rfl⟩⟩
      · rw [if_neg hc]
        simp only [List.lookup_cons, hx]
        exact ⟨k₀, rfl, .inl rfl⟩
    | false =>
      simp only [List.lookup_cons, hx] at h
      by_cases hc : (k₀ == NameKind.free && sc.kind == .function && sc.names.lookup n == some .cell) = true
      · rw [if_pos hc]; simp only [List.lookup_cons, hx]; exact ih h
      · rw [if_neg hc]; simp only [List.lookup_cons, hx]; exact ih h
theorem blk_cok {C : Cf} {X X' : Cx} {N G : List Str} {P : Nat → Bool} {scope : Scope} {vis : List Nat} {G' : List Str} (k : Cok C X N P G) (f : Fam X X' scope) (h : blkB N scope vis G' = true) : Cok C X' N (fun i => vis.contains i) G' := by
  obtain ⟨s, H, Cc, cl, fp, rfl⟩ := f
  unfold blkB at h
  rw [Bool.and_eq_true, List.all_eq_true, List.all_eq_true] at h
  obtain ⟨h1, h2⟩ := h
  have rel : ∀ {x : Str} {k : NameKind}, scope.names.lookup x = some k → ∃ k', (compEnvC scope cl Cc X.env).scope.names.lookup x = some k' ∧ (k' = k ∨ (k = .free ∧ k' = .cell)) := fun h => rel_of (sc := X.env.scope) h
  refine ⟨k.hK, k.hN, k.nd, fun i x hi hx => ?_, fun i x hx => ?_, k.calm, k.hu, k.bt, k.hv⟩
  · have q := h1 i (by simpa using hi)
    rw [hx] at q
    simp only [Bool.and_eq_true, Bool.not_eq_true'] at q
    obtain ⟨⟨q1, q2⟩, q3⟩ := q
    refine ⟨?_, q2, q3⟩
    split at q1
    · rename_i e
      obtain ⟨k', e', z⟩ := rel e
      rcases z with rfl | ⟨z, _⟩
      · exact .inl e'
      · cases z
    · rename_i e
      obtain ⟨k', e', z⟩ := rel e
      rcases z with rfl | ⟨z, _⟩
      · exact .inr (.inl e')
      · cases z
    · rename_i e
      obtain ⟨k', e', z⟩ := rel e
      rcases z with rfl | ⟨_, rfl⟩
      · exact .inr (.inr e')
      · exact .inr (.inl e')
    · cases q1
  · have q := h2 x (List.mem_of_getElem? hx)
    simp only [Bool.and_eq_true, Bool.not_eq_true', decide_eq_false_iff_not] at q
    obtain ⟨⟨q1, q2⟩, q3⟩ := q
    refine ⟨?_, q2, q3⟩
    split at q1
    · rename_i e
      obtain ⟨k', e', z⟩ := rel e
      rcases z with rfl | ⟨z, _⟩
      · exact e'
      · cases z
    · cases q1
/-- the test of a comprehension -/
def Tts (C : Cf) (Z : Hp) (X : Cx) (ss : En) (ifs : List Expr) (b : Bool) : Prop := (ifs = [] ∧ b = true) ∨ ∃ c, ifs = [c] ∧ Te C Z X ss c b
theorem Tts.no {C : Cf} {Z : Hp} {X : Cx} {ss : En} : Tts C Z X ss [] true := .inl ⟨rfl, rfl⟩
theorem Tts.one {C : Cf} {Z : Hp} {X : Cx} {ss : En} {c : Expr} {b : Bool} (h : Cb C Z X ss c b) : Tts C Z X ss [c] b := .inr ⟨c, rfl, h.te⟩
def wTs (X : Cx) (ifs : List Expr) : TT := fun σ H Q => ∀ (pins : List (Addr × Obj)) (s : Shared), Inv X pins σ H s →
  wpAny (model X.prog X.w) X.A (forIn ifs true fun c r => if r = true then do let ok ← isTrue c X.env (eval c X.env); pure (ForInStep.yield ok) else pure (ForInStep.yield r)) (TP X pins σ Q) X.xe s
theorem Tts.run {C : Cf} {Z : Hp} {X : Cx} {ss : En} {ifs : List Expr} {b : Bool} (h : Tts C Z X ss ifs b) {σ : L2.St} {F H : Hp} {Q : Bool → Hp → Prop} (he : EnvOk C Z ss F H σ) (hq : ∀ F' H', Ext F H F' H' → Q b H') : wTs X ifs σ H Q := fun pins s I => by
  rcases h with ⟨rfl, rfl⟩ | ⟨c, rfl, h⟩
  · exact pts_nil.run pins s σ H Q I (hq F H (Ext.refl he.fh))
  · exact (pts_one pt_w).run pins s σ H Q I (h σ F H Q he hq)
section
variable {C : Cf} {Z : Hp} {X : Cx} {N G : List Str} {P : Nat → Bool} {ss ss' : En} {a b c e tg iter elt : Expr} {ifs : List Expr} {rest es : List Expr} {pos p p2 apos : Pos} {r r' ra rb rz : RM} {α β γ : Type} {z q : Bool}
/-- what a comprehension reads -/
def cT (X : Cx) (scope : Scope) (ifs : List Expr) : TT := fun σ H Q => ∀ X', Fam X X' scope → wTs X' ifs σ H Q
def cE (X : Cx) (scope : Scope) (elt : Expr) : TE := fun σ H Q => ∀ X', Fam X X' scope → wE X' elt σ H Q
theorem lc_read {scope : Scope} {i : Nat} {f : α → O} {fo : β → O} {xs : List α} {ys : List β} {pt : α → Option Bool} {fe : α → Option β} (hl : i < ss.length) (lf : ∀ x, Leaf (f x)) (hi : Ivc C Z X ss tg iter (xs.map f)) (hy : compO pt fe xs = some ys)
    (ht : ∀ X', Fam X X' scope → ∀ x b, x ∈ xs → pt x = some b → Tts C Z X' (ss.set i (some (f x))) ifs b) (he : ∀ X', Fam X X' scope → ∀ x y, x ∈ xs → pt x = some true → fe x = some y → Ev C Z X' (ss.set i (some (f x))) elt (rmO (fo y)))
    {σ : L2.St} {F H : Hp} {Q : VK} (en : EnvOk C Z ss F H σ) (hq : ∀ v F' H', Ext F H F' H' → (RM.new (oL fo ys)).ok C Z H v F' H' → Q v H') : tLc (wI X tg iter) (gName i) (cT X scope ifs) (cE X scope elt) [i] σ H Q := by
  refine hi σ F H _ en fun J F1 H1 Gx Y bd e1 wk hG hY => fun D hD => ?_
  -- the list made so far
  have L : (xs.map f).length = xs.length := List.length_map _
  refine lc_it wk (fun n Hn => ∃ Fn acc zs fp, Ext F1 H1 Fn Hn ∧ Fn D = none ∧ Hn D = some (.lst acc) ∧ Owns C Z Fn Hn (zs.map fo) acc fp ∧ (∀ a ∈ fp, H1 a = none ∧ a ≠ D) ∧ fp.Nodup ∧ compO pt fe (xs.take n) = some zs) ?_ ?_ ?_ ?_
  · refine ⟨F1, [], [], [], Ext.heap e1.fh fun b o q => by rw [upd_ne (ne_of_none q hD)]; exact q, e1.fh.free hD, upd_same, .nil, fun a q => absurd q List.not_mem_nil, List.nodup_nil, ?_⟩
    rw [List.take_zero]
    rfl
  · rintro n Hn hn ⟨Fn, acc, zs, fp, ex, _⟩
    exact hG Fn Hn ex
  · rintro n x Hn H' hn ⟨Fn, acc, zs, fp, ex, hd, ha, ow, fr, nd, hz⟩ hy'
    have hn' : n < xs.length := by rw [← L]; exact hn
    obtain ⟨e2, ox⟩ := hY n (f xs[n]) Hn x H' Fn (by rw [List.getElem?_map]; simp [hn']) ex hy'
    have hx : xs[n] ∈ xs := List.getElem_mem hn'
    show _ ∧ _
    have en1 : EnvOk C Z ss Fn H' σ := ((en.ext e1).ext ex).ext e2
    have wp0 : wipe σ [i] = σ.set i none := rfl
    have en2 : EnvOk C Z (ss.set i (some (f xs[n]))) Fn H' ((wipe σ [i]).set i (some x)) := by
      have q := en1.put0 hl ox
      rw [wp0, List.set_set]
      exact q
    refine ⟨by rw [wp0]; show ((σ.set i none).set i (some x)).set i none = _; rw [List.set_set, List.set_set], ?_⟩
    -- what the whole says of this turn
    have split : xs = xs.take n ++ (xs[n] :: xs.drop (n + 1)) := by
      have q := List.take_append_drop n xs
      rw [List.drop_eq_getElem_cons hn'] at q
      exact q.symm
    rw [split] at hy
    obtain ⟨us, vs, hu, hv, _⟩ := compO_append hy
    have tk : xs.take (n + 1) = xs.take n ++ [xs[n]] := by
      rw [List.take_add_one, List.getElem?_eq_getElem hn']
      rfl
    unfold compO at hv
    split at hv
    · cases hv
    · rename_i hp
      intro X' fm
      refine (ht X' fm _ _ hx hp).run en2 fun F3 H3 e3 => ?_
      rw [if_neg Bool.false_ne_true]
      have x3 := e2.trans e3
      refine ⟨F3, acc, zs, fp, ex.trans x3, x3.ow D (by rw [ha]; simp) hd, x3.hh _ _ ha, ow.ext x3, fr, nd, ?_⟩
      rw [tk]
      have q := compO_join hz (show compO pt fe [xs[n]] = some [] by unfold compO; rw [hp]; rfl)
      rw [q, List.append_nil]
    · rename_i hp
      split at hv
      · cases hv
      · rename_i y hf
        intro X' fm
        refine (ht X' fm _ _ hx hp).run en2 fun F3 H3 e3 => ?_
        rw [if_pos rfl]
        intro X'' fm2
        refine he X'' fm2 _ y hx hp hf _ F3 H3 _ (en2.ext e3) fun v F4 H4 e4 q4 => ?_
        obtain ⟨g, og, ng, dg⟩ := rmO_ok q4
        have x4 := (e2.trans e3).trans e4
        have ha4 := x4.hh _ _ ha
        have hd4 := x4.ow D (by rw [ha]; simp) hd
        have ow4 := ow.ext x4
        refine ⟨acc, ha4, ?_, ?_⟩
        · have q := compO_len hz
          rw [List.length_take] at q
          rw [← ow.length, List.length_map]
          have q2 : xs.length ≤ sizeLine := by rw [← L]; exact bd
          omega
        · have h3D : H3 D ≠ none := by rw [(e2.trans e3).hh _ _ ha]; simp
          have nu : ∀ b ∈ fp, b ≠ D := fun b q => (fr b q).2
          have ngD : ∀ b ∈ g, b ≠ D := fun b q z => by
            subst z
            exact h3D (ng _ q)
          have ts : Tst H4 (upd H4 D (.lst (acc ++ [v]))) := Tst.upd (by rw [ha4]; intro xs q; cases q)
          refine ⟨F4, acc ++ [v], zs ++ [y], fp ++ (g ++ []), ⟨(ex.trans x4).ff, fun b o q => ?_, fun b o q => ?_, (ex.trans x4).ow⟩, hd4, upd_same, ?_, ?_, ?_, ?_⟩
          · rw [upd_ne (ne_of_none q hD)]
            exact (ex.trans x4).hh b o q
          · rw [upd_ne (fun z => by subst z; rw [hd4] at q; cases q)]
            exact x4.fh b o q
          · rw [List.map_append]
            exact Owns.append (ow4.frame ts fun b q => upd_ne (nu b q)) (.cons (og.frame ts fun b q => upd_ne (ngD b q)) .nil)
          · intro b hb
            rcases List.mem_append.mp hb with q | q
            · exact fr b q
            · rw [List.append_nil] at q
              exact ⟨(ex.trans (e2.trans e3)).hh.free (ng b q), ngD b q⟩
          · rw [List.append_nil]
            refine List.nodup_append.mpr ⟨nd, dg, fun b hb d hd' z => ?_⟩
            subst z
            exact ((ow.ext (e2.trans e3)).gone b hb).2 (ng b hd')
          · rw [tk]
            exact compO_join hz (by unfold compO; rw [hp]; simp only [hf]; rfl)
  · rintro Hn ⟨Fn, acc, zs, fp, ex, hd, ha, ow, fr, nd, hz⟩
    rw [L, List.take_length] at hz
    rw [hy] at hz
    cases hz
    refine hq _ Fn Hn (e1.trans ex) ⟨D :: fp, .lst hd ha ow, fun b hb => ?_, List.nodup_cons.mpr ⟨fun q => (fr D q).2 rfl, nd⟩⟩
    rcases List.mem_cons.mp hb with rfl | hb
    · exact e1.hh.free hD
    · exact e1.hh.free (fr b hb).1
/-- [elt for x in iter if ..] -/
theorem Ev.lc {scope : Scope} {i : Nat} {x : Str} {f : α → O} {fo : β → O} {xs : List α} {ys : List β} {pt : α → Option Bool} {fe : α → Option β} (k : Cok C X N P G) (hy : compO pt fe xs = some ys) (hl : i < ss.length) (lf : ∀ x, Leaf (f x)) (ok : BlkOk X.N X.env.scope scope [(x, i)])
    (hg : ∀ (s : Shared) (H : Hp) (C : Addr) (cl : List (Str × Addr)) (fp : List Addr), PG (X.blk s H scope (compEnvC scope cl C X.env) fp) tg (gName i)) (hi : Ivc C Z X ss tg iter (xs.map f))
    (ht : ∀ X', Fam X X' scope → ∀ x b, x ∈ xs → pt x = some b → Tts C Z X' (ss.set i (some (f x))) ifs b) (he : ∀ X', Fam X X' scope → ∀ x y, x ∈ xs → pt x = some true → fe x = some y → Ev C Z X' (ss.set i (some (f x))) elt (rmO (fo y)))
    (hs : ∀ x, foldedSetIterable iter X.env x = pure x := by intro _; rfl) : Ev C Z X ss (.ListComp elt [⟨tg, iter, ifs, 0⟩] scope pos) (.new (oL fo ys)) := fun σ F H Q en hq pins s I =>
  (pe_lc (own := [(x, i)]) k.calm (by rw [k.hN]; exact k.nd) pi_w ok hg (tt := cT X scope ifs) (te := cE X scope elt) (fun s H Cc cl fp => ⟨fun pins s' σ' H' Q' I' h => h _ ⟨s, H, Cc, cl, fp, rfl⟩ pins s' I'⟩) (fun s H Cc cl fp => ⟨fun pins s' σ' H' Q' I' h => h _ ⟨s, H, Cc, cl, fp, rfl⟩ pins s' I'⟩) hs).run pins s σ H Q I (lc_read hl lf hi hy ht he en hq)

/-! ### what a block comes to -/
def Fl.bind {S S' R : Type} (o : Fl S' R) (k : S' → Fl S R) : Fl S R := match o with
  | .nx s => k s
  | .rt r => .rt r
  | .exc c => .exc c
  | .bad => .bad
/-- a side condition -/
def Fl.req {S R α : Type} (o : Option α) (k : α → Fl S R) : Fl S R := match o with
  | some a => k a
  | none => .bad
noncomputable def Fl.chk {S R : Type} (p : Prop) (k : Fl S R) : Fl S R := @ite _ p (Classical.propDecidable p) k .bad
/-- behind a call that may raise -/
def Fl.run {S R α : Type} (o : Res α) (k : α → Fl S R) : Fl S R := match o with
  | .ok a => k a
  | .exc c => .exc c
  | .bad => .bad
/-- a call in an expression -/
def Res.get {α : Type} : Res α → Option α
  | .ok a => some a
  | _ => none
theorem Res.get_ok {α : Type} {r : Res α} {a : α} (h : r.get = some a) : r = .ok a := by
  cases r with
  | ok b => cases h; rfl
  | exc c => cases h
  | bad => cases h
def forF {S R α : Type} (f : S → α → Fl S R) : List α → S → Fl S R
  | [], s => .nx s
  | x :: xs, s => (f s x).bind fun s' => forF f xs s'
/-- a while: n turns at most -/
def whileF {S R : Type} (t : S → Fl Bool R) (f : S → Fl S R) : Nat → S → Fl S R
  | 0, _ => .bad
  | n + 1, s => (t s).bind fun b => if b = true then (f s).bind fun s' => whileF t f n s' else .nx s
/-- the def hands back what its block returns; un: what it hands back at its end -/
def Fl.res {R : Type} (un : Option R) : Fl Unit R → Res R
  | .nx _ => match un with
    | some r => .ok r
    | none => .bad
  | .rt r => .ok r
  | .exc c => .exc c
  | .bad => .bad
/-- it does not go on -/
def Fl.Ex {S R : Type} (o : Fl S R) : Prop := ∀ s, o ≠ .nx s
theorem Fl.ex_rt {S R : Type} {r : R} : (Fl.rt r : Fl S R).Ex := fun _ h => nomatch h
theorem Fl.ex_exc {S R : Type} {c : Nat} : (Fl.exc c : Fl S R).Ex := fun _ h => nomatch h
theorem Fl.ex_bad {S R : Type} : (Fl.bad : Fl S R).Ex := fun _ h => nomatch h
theorem Fl.ex_ite {S R : Type} {c : Prop} [Decidable c] {a b : Fl S R} (h1 : a.Ex) (h2 : b.Ex) : (if c then a else b).Ex := by
  split
  · exact h1
  · exact h2
theorem Fl.ex_req {S R α : Type} {o : Option α} {k : α → Fl S R} (h : ∀ a, (k a).Ex) : (Fl.req o k).Ex := by
  cases o with
  | none => exact Fl.ex_bad
  | some a => exact h a
theorem Fl.ex_chk {S R : Type} {p : Prop} {k : Fl S R} (h : k.Ex) : (Fl.chk p k).Ex := @Fl.ex_ite S R p (Classical.propDecidable p) k .bad h Fl.ex_bad
theorem Fl.ex_run {S R α : Type} {o : Res α} {k : α → Fl S R} (h : ∀ a, (k a).Ex) : (Fl.run o k).Ex := by
  cases o with
  | ok a => exact h a
  | exc c => exact Fl.ex_exc
  | bad => exact Fl.ex_bad
theorem Fl.ex_bind {S S' R : Type} {o : Fl S' R} {k : S' → Fl S R} (h : ∀ a, (k a).Ex) : (o.bind k).Ex := by
  cases o with
  | nx s => exact h s
  | rt r => exact Fl.ex_rt
  | exc c => exact Fl.ex_exc
  | bad => exact Fl.ex_bad

/-! ### statements -/
/-- what is wished of an exception -/
def WXc (C : Cf) (W : Nat → Hp → Prop) : WX := fun cls d _ H => ∃ c, cls = C.ex c ∧ d = none ∧ W c H
variable {W : Nat → Hp → Prop} {S S' R : Type} {ES : S → En} {ES' : S' → En} {ER : R → RM} {st : Stmt} {blk sts A B : List Stmt} {fl : Fl S R} {spos : Pos}
/-- what is wished behind a block -/
def Post (C : Cf) (Z : Hp) (W : Nat → Hp → Prop) (ES : S → En) (ER : R → RM) (F H : Hp) (D : Ends) : Fl S R → Prop
  | .nx s => ∀ σ' F' H', Gr F H F' H' → EnvOk C Z (ES s) F' H' σ' → D.nx σ' H'
  | .rt r => ∀ v F' H', Gr F H F' H' → Same F' H' → (ER r).ok C Z Z v F' H' → D.rt v H'
  | .exc c => ∀ H', Same Z H' → W c H'
  | .bad => False
theorem Post.mono {F H F' H' : Hp} {D : Ends} (g : Gr F H F' H') {o : Fl S R} (h : Post C Z W ES ER F H D o) : Post C Z W ES ER F' H' D o := by
  cases o with
  | nx s => exact fun σ' F2 H2 g2 e => h σ' F2 H2 (g.trans g2) e
  | rt r => exact fun v F2 H2 g2 e q => h v F2 H2 (g.trans g2) e q
  | exc c => exact h
  | bad => exact h
theorem sts_iff : Sts C Z X W ss blk ES ER fl ↔ ∀ (σ : L2.St) (F H : Hp) (D : Ends), EnvOk C Z ss F H σ → Post C Z W ES ER F H D fl → wSs X blk D σ H := by
  unfold Sts
  constructor
  · intro h σ F H D he hp
    refine h σ F H D he ?_
    cases fl <;> exact hp
  · intro h σ F H D he hp
    refine h σ F H D he ?_
    cases fl <;> exact hp
theorem Sts.nil {s : S} (w : Wk ss (ES s)) : Sts C Z X W ss [] ES ER (.nx s) := sts_iff.mpr fun σ F H D he hp pins s I => pss_nil.run pins s σ H D I (hp σ F H (Gr.refl F H) (he.wk w))
theorem Sts.wk (w : Wk ss ss') (h : Sts C Z X W ss' blk ES ER fl) : Sts C Z X W ss blk ES ER fl := fun σ F H D he hp => h σ F H D (he.wk w) hp
/-- one statement, then the rest -/
theorem Sts.step {t : TS} (hs : PS X st t) (h : ∀ (σ : L2.St) (F H : Hp) (D : Ends), EnvOk C Z ss F H σ → Post C Z W ES ER F H D fl → t { D with nx := wSs X sts D } σ H) : Sts C Z X W ss (st :: sts) ES ER fl :=
  sts_iff.mpr fun σ F H D he hp pins s I => (pss_cons hs pss_w).run pins s σ H D I (h σ F H D he hp)
theorem Sts.req {o : Option α} {k : α → Fl S R} (h : ∀ a, o = some a → Sts C Z X W ss blk ES ER (k a)) : Sts C Z X W ss blk ES ER (Fl.req o k) := by
  cases o with
  | none => exact fun σ F H D he hp => hp.elim
  | some a => exact h a rfl
theorem Sts.chk {p : Prop} (h : p → Sts C Z X W ss blk ES ER fl) : Sts C Z X W ss blk ES ER (Fl.chk p fl) := by
  unfold Fl.chk
  split
  · exact h (by assumption)
  · exact fun σ F H D he hp => hp.elim
/-- the lists are not too long -/
theorem Sts.bd {n : Nat} (h : ∀ (σ : L2.St) (F H : Hp), EnvOk C Z ss F H σ → Bd H → n ≤ sizeLine) (k : n ≤ sizeLine → Sts C Z X W ss blk ES ER fl) : Sts C Z X W ss blk ES ER fl := fun σ F H D he hp pins s I =>
  k (h σ F H he (Inv.bd I)) σ F H D he hp pins s I
theorem bd_list {d : List D} {i : Nat} (hs : ss[i]? = some (some (.fz (.lst d)))) (σ : L2.St) (F H : Hp) (he : EnvOk C Z ss F H σ) (bd : Bd H) : d.length ≤ sizeLine := by
  obtain ⟨fp, sl, nd⟩ := he.sl
  obtain ⟨v, f1, f2, h1, h2, h3, h4⟩ := sl.get hs
  cases h2 with
  | fz r =>
    cases r with
    | lst hp hr => rw [hr.length]; exact bd _ _ (.inl (he.fh _ _ hp))
theorem bd_own {d : List O} {i : Nat} (hs : ss[i]? = some (some (.lst d))) (σ : L2.St) (F H : Hp) (he : EnvOk C Z ss F H σ) (bd : Bd H) : d.length ≤ sizeLine := by
  obtain ⟨fp, sl, nd⟩ := he.sl
  obtain ⟨v, f1, f2, h1, h2, h3, h4⟩ := sl.get hs
  cases h2 with
  | lst hf hp hr => rw [hr.length]; exact bd _ _ (.inl hp)
/-- x = e -/
theorem Sts.asg {x : Str} {o : O} {i : Nat} (k : Cok C X N P G) (d : Dok X N P) (he : Ev C Z X ss e (rmO o)) (hl : i < ss.length) (h : Sts C Z X W (ss.set i (some o)) sts ES ER fl) (hi : N[i]? = some x := by rfl) (hpi : P i = true := by rfl) (hs : swapsWith e (some (.Name x p)) spos.line X.env = pure false := by rfl) :
    Sts C Z X W ss (.Assign [.Name x p] e spos :: sts) ES ER fl :=
  Sts.step (ps_set (i := i) (by rw [k.hN]; exact k.nd) (by rw [k.hN]; exact hi) (d.loc i x hpi hi) pe_w hs (.inl (d.fn x))) fun σ F H D en hp => by
    refine he σ F H _ en fun v F1 H1 e1 q1 => ?_
    exact (sts_iff.mp h) _ F1 H1 D (en.putN e1 hl q1) (hp.mono e1.gr)
/-- x = [..] on one line -/
theorem Sts.asgC {x y : Str} {scope : Scope} {i j : Nat} {f : α → O} {fo : β → O} {xs : List α} {ys : List β} {pt : α → Option Bool} {fe : α → Option β} (k : Cok C X N P G) (d : Dok X N P) (hy : compO pt fe xs = some ys) (hl : i < ss.length) (hl2 : j < ss.length) (lf : ∀ x, Leaf (f x)) (ok : BlkOk X.N X.env.scope scope [(x, i)])
    (hg : ∀ (s : Shared) (H : Hp) (C : Addr) (cl : List (Str × Addr)) (fp : List Addr), PG (X.blk s H scope (compEnvC scope cl C X.env) fp) tg (gName i)) (hyl : X.env.scope.names.lookup y = some .local)
    (hsw : swapsWith (.ListComp elt [⟨tg, iter, ifs, 0⟩] scope pos) (some (.Name y p)) spos.line X.env = pure true) (hi : Ivc C Z X ss tg iter (xs.map f))
    (ht : ∀ X', Fam X X' scope → ∀ x b, x ∈ xs → pt x = some b → Tts C Z X' (ss.set i (some (f x))) ifs b) (he : ∀ X', Fam X X' scope → ∀ x y, x ∈ xs → pt x = some true → fe x = some y → Ev C Z X' (ss.set i (some (f x))) elt (rmO (fo y)))
    (h : Sts C Z X W (ss.set j (some (oL fo ys))) sts ES ER fl) (hj : N[j]? = some y := by rfl) (hs : ∀ x, foldedSetIterable iter X.env x = pure x := by intro _; rfl) : Sts C Z X W ss (.Assign [.Name y p] (.ListComp elt [⟨tg, iter, ifs, 0⟩] scope pos) spos :: sts) ES ER fl :=
  Sts.step (ps_setLc (own := [(x, i)]) k.calm (by rw [k.hN]; exact k.nd) (by rw [k.hN]; exact hj) hyl hsw pi_w ok hg (tt := cT X scope ifs) (te := cE X scope elt) (fun s H Cc cl fp => ⟨fun pins s' σ' H' Q' I' h => h _ ⟨s, H, Cc, cl, fp, rfl⟩ pins s' I'⟩) (fun s H Cc cl fp => ⟨fun pins s' σ' H' Q' I' h => h _ ⟨s, H, Cc, cl, fp, rfl⟩ pins s' I'⟩) hs) fun σ F H D en hp => by
    refine lc_read hl lf hi hy ht he en fun v F1 H1 e1 q1 => ?_
    exact (sts_iff.mp h) _ F1 H1 D (en.putN e1 hl2 (show (rmO (oL fo ys)).ok C Z H v F1 H1 from q1)) (hp.mono e1.gr)
/-- e, for what it does not do -/
theorem Sts.expr {rm : RM} (he : Ev C Z X ss e rm) (h : Sts C Z X W ss sts ES ER fl) (hs : swapsWith e none spos.line X.env = pure false := by rfl) : Sts C Z X W ss (.Expr e spos :: sts) ES ER fl :=
  Sts.step (ps_expr pe_w hs) fun σ F H D en hp => he σ F H _ en fun v F1 H1 e1 q1 => (sts_iff.mp h) _ F1 H1 D (en.ext e1) (hp.mono e1.gr)
/-- return e -/
theorem Sts.ret {r : R} (he : Ev C Z X ss e (ER r)) : Sts C Z X W ss (.Return (some e) spos :: sts) ES ER (.rt r) :=
  Sts.step (ps_ret pe_w) fun σ F H D en hp => he σ F H _ en fun v F1 H1 e1 q1 => hp v F1 H1 e1.gr e1.fh (RM.ok_old (en.zf.trans en.fh) q1)
/-- return x, x owned -/
theorem Sts.retO {r : R} {i : Nat} {x : Str} {o : O} (k : Cok C X N P G) (hr : ER r = .new o) (hi : N[i]? = some x := by rfl) (hs : ss[i]? = some (some o) := by rfl) (hp : P i = true := by rfl) : Sts C Z X W ss (.Return (some (.Name x p)) spos :: sts) ES ER (.rt r) :=
  Sts.step (ps_ret pe_w) fun σ F H D en hq => by
    obtain ⟨fp, sl, nd⟩ := en.sl
    obtain ⟨v, f1, f2, h1, h2, h3, h4⟩ := sl.get hs
    refine Ev.slot (o := o) k hi hp h1 (hq v F H (Gr.refl F H) en.fh ?_)
    rw [hr]
    exact ⟨f1, h2, fun a q => en.zf.free (h2.gone a q).1, (List.nodup_append.mp ((h4.nodup_iff).mpr nd)).1⟩
theorem Sts.retN {r : R} (hr : ER r = .frz dN) : Sts C Z X W ss (.Return none spos :: sts) ES ER (.rt r) :=
  Sts.step ps_retN fun σ F H D en hp => hp .non F H (Gr.refl F H) en.fh (by rw [hr]; exact .sc)
theorem Sts.pass (h : Sts C Z X W ss sts ES ER fl) : Sts C Z X W ss (.Pass spos :: sts) ES ER fl := Sts.step ps_pass fun σ F H D en hp => (sts_iff.mp h) _ F H D en hp
/-- if c: A (A does not go on); else the rest -/
theorem Sts.ifX {o1 : Fl S R} (ht : Cb C Z X ss c z) (hx : o1.Ex) (h1 : z = true → Sts C Z X W ss A ES ER o1) (h2 : z = false → Sts C Z X W ss sts ES ER fl) : Sts C Z X W ss (.If c A [] spos :: sts) ES ER (if z = true then o1 else fl) :=
  Sts.step (ps_if pt_w pss_w pss_nil) fun σ F H D en hp => ht.te σ F H _ en fun F1 H1 e1 => by
    cases z with
    | true =>
      rw [if_pos rfl]
      rw [if_pos rfl] at hp
      refine (sts_iff.mp (h1 rfl)) σ F1 H1 _ (en.ext e1) ?_
      have hp' := hp.mono e1.gr
      cases o1 with
      | nx s => exact absurd rfl (hx s)
      | rt r => exact hp'
      | exc c => exact hp'
      | bad => exact hp'
    | false =>
      rw [if_neg Bool.false_ne_true]
      rw [if_neg Bool.false_ne_true] at hp
      exact (sts_iff.mp (h2 rfl)) σ F1 H1 D (en.ext e1) (hp.mono e1.gr)
/-- if c: A else: B, neither goes on -/
theorem Sts.ifXX {o1 o2 : Fl S R} (ht : Cb C Z X ss c z) (hx : o1.Ex) (hx2 : o2.Ex) (h1 : z = true → Sts C Z X W ss A ES ER o1) (h2 : z = false → Sts C Z X W ss B ES ER o2) : Sts C Z X W ss (.If c A B spos :: sts) ES ER (if z = true then o1 else o2) :=
  Sts.step (ps_if pt_w pss_w pss_w) fun σ F H D en hp => ht.te σ F H _ en fun F1 H1 e1 => by
    cases z with
    | true =>
      rw [if_pos rfl]
      rw [if_pos rfl] at hp
      refine (sts_iff.mp (h1 rfl)) σ F1 H1 _ (en.ext e1) ?_
      have hp' := hp.mono e1.gr
      cases o1 with
      | nx s => exact absurd rfl (hx s)
      | rt r => exact hp'
      | exc c => exact hp'
      | bad => exact hp'
    | false =>
      rw [if_neg Bool.false_ne_true]
      rw [if_neg Bool.false_ne_true] at hp
      refine (sts_iff.mp (h2 rfl)) σ F1 H1 _ (en.ext e1) ?_
      have hp' := hp.mono e1.gr
      cases o2 with
      | nx s => exact absurd rfl (hx2 s)
      | rt r => exact hp'
      | exc c => exact hp'
      | bad => exact hp'
theorem Post.bind {F H F1 H1 : Hp} {D : Ends} {o : Fl S' R} {k : S' → Fl S R} (g : Gr F H F1 H1) (hk : ∀ s, Sts C Z X W (ES' s) sts ES ER (k s)) (hp : Post C Z W ES ER F H D (o.bind k)) : Post C Z W ES' ER F1 H1 { D with nx := wSs X sts D } o := by
  cases o with
  | nx s => exact fun σ' F2 H2 g2 e2 => (sts_iff.mp (hk s)) σ' F2 H2 D e2 (Post.mono (g.trans g2) hp)
  | rt r => exact Post.mono (o := .rt r) (ES := ES') g hp
  | exc c => exact hp
  | bad => exact hp
/-- if c: A else: B, then the rest -/
theorem Sts.ifJ {o1 o2 : Fl S' R} {k : S' → Fl S R} (ES' : S' → En) (ht : Cb C Z X ss c z) (h1 : z = true → Sts C Z X W ss A ES' ER o1) (h2 : z = false → Sts C Z X W ss B ES' ER o2) (hk : ∀ s, Sts C Z X W (ES' s) sts ES ER (k s)) :
    Sts C Z X W ss (.If c A B spos :: sts) ES ER (Fl.bind (if z = true then o1 else o2) k) :=
  Sts.step (ps_if pt_w pss_w pss_w) fun σ F H D en hp => ht.te σ F H _ en fun F1 H1 e1 => by
    cases z with
    | true =>
      rw [if_pos rfl]
      rw [if_pos rfl] at hp
      exact (sts_iff.mp (h1 rfl)) σ F1 H1 _ (en.ext e1) (Post.bind e1.gr hk hp)
    | false =>
      rw [if_neg Bool.false_ne_true]
      rw [if_neg Bool.false_ne_true] at hp
      exact (sts_iff.mp (h2 rfl)) σ F1 H1 _ (en.ext e1) (Post.bind e1.gr hk hp)
/-- for tg in iter: body, then the rest -/
theorem Sts.for_ {f : α → O} {xs : List α} {s0 : S'} {g : S' → α → Fl S' R} {k : S' → Fl S R} (ES' : S' → En) (ET : S' → α → En) (ck : Cok C X N P G) (d : Dok X N P) (lf : ∀ x, Leaf (f x)) (hi : Iv C Z X ss tg iter (xs.map f)) (w : Wk ss (ES' s0))
    (hg : ∀ s x, Gt C Z X (ES' s) tg (f x) (ET s x)) (hb : ∀ s x, x ∈ xs → Sts C Z X W (ET s x) A ES' ER (g s x)) (hk : ∀ s, Sts C Z X W (ES' s) sts ES ER (k s)) (hs : ∀ x, foldedSetIterable iter X.env x = pure x := by intro _; rfl) :
    Sts C Z X W ss (.For tg iter A [] spos :: sts) ES ER (Fl.bind (forF g xs s0) k) :=
  Sts.step (ps_for d.own ck.calm pi_w pg_w pss_w hs) fun σ F H D en hp => by
    refine hi σ F H _ en fun J F1 H1 Gx Y bd e1 wk hG hY => ?_
    have L : (xs.map f).length = xs.length := List.length_map _
    refine for_it wk (fun n σn Hn => ∃ s Fn, Gr F1 H1 Fn Hn ∧ EnvOk C Z (ES' s) Fn Hn σn ∧ Post C Z W ES' ER Fn Hn { D with nx := wSs X sts D } (forF g (xs.drop n) s)) ?_ ?_ ?_ ?_
    · refine ⟨s0, F1, Gr.refl F1 H1, (en.ext e1).wk w, ?_⟩
      rw [List.drop_zero]
      exact Post.bind e1.gr hk hp
    · rintro n σn Hn hn ⟨s, Fn, gr, en', _⟩
      exact hG Fn Hn gr en'.fh
    · rintro n x σn Hn H' hn ⟨s, Fn, gr, en', po⟩ hy
      have hn' : n < xs.length := by rw [← L]; exact hn
      obtain ⟨e2, ox⟩ := hY n (f xs[n]) Hn x H' Fn (by rw [List.getElem?_map]; simp [hn']) gr en'.fh hy
      refine hg s xs[n] σn Fn H' x _ (en'.ext e2) ox fun σ2 en2 => ?_
      rw [List.drop_eq_getElem_cons hn'] at po
      unfold forF at po
      refine (sts_iff.mp (hb s xs[n] (List.getElem_mem hn'))) σ2 Fn H' _ en2 ?_
      have po' := Post.mono e2.gr po
      generalize hgo : g s xs[n] = o at po'
      cases o with
      | nx s' => exact fun σ3 F3 H3 g3 e3 => ⟨s', F3, (gr.trans e2.gr).trans g3, e3, Post.mono g3 po'⟩
      | rt r => exact po'
      | exc c => exact po'
      | bad => exact po'
    · rintro σn Hn ⟨s, Fn, gr, en', po⟩
      rw [L, List.drop_length] at po
      exact po σn Fn Hn (Gr.refl Fn Hn) en'
/-- while c: body, then the rest; n turns at most -/
theorem Sts.while_ {s0 : S'} {n : Nat} {t : S' → Fl Bool R} {g : S' → Fl S' R} {k : S' → Fl S R} (ES' : S' → En) (d : Dok X N P) (w : Wk ss (ES' s0)) (ht : ∀ s, t s = .bad ∨ ∃ b, t s = .nx b ∧ Cb C Z X (ES' s) c b) (hb : ∀ s, Sts C Z X W (ES' s) A ES' ER (g s)) (hk : ∀ s, Sts C Z X W (ES' s) sts ES ER (k s)) :
    Sts C Z X W ss (.While c A [] spos :: sts) ES ER (Fl.bind (whileF t g n s0) k) :=
  Sts.step (ps_while d.own pt_w pss_w) fun σ F H D en hp => by
    have hp0 := Post.bind (Gr.refl F H) hk hp
    refine ⟨fun m σn Hn => ∃ s Fn, Gr F H Fn Hn ∧ EnvOk C Z (ES' s) Fn Hn σn ∧ Post C Z W ES' ER Fn Hn { D with nx := wSs X sts D } (whileF t g m s), ⟨n, s0, F, Gr.refl F H, en.wk w, hp0⟩, ?_⟩
    rintro m σn Hn ⟨s, Fn, gr, en', po⟩
    cases m with
    | zero => exact po.elim
    | succ m =>
      unfold whileF at po
      rcases ht s with e | ⟨b, e, hc⟩
      · rw [e] at po
        exact po.elim
      · rw [e] at po
        refine hc.te σn Fn Hn _ en' fun F1 H1 e1 => ?_
        have po' := Post.mono e1.gr po
        cases b with
        | false =>
          rw [if_neg Bool.false_ne_true]
          exact po' σn F1 H1 (Gr.refl F1 H1) (en'.ext e1)
        | true =>
          rw [if_pos rfl]
          have po2 : Post C Z W ES' ER F1 H1 { D with nx := wSs X sts D } ((g s).bind fun s' => whileF t g m s') := po'
          refine ⟨fun σ' H' => ∃ s' F', Gr F H F' H' ∧ EnvOk C Z (ES' s') F' H' σ' ∧ Post C Z W ES' ER F' H' { D with nx := wSs X sts D } (whileF t g m s'), fun σ' H' q => ⟨m, Nat.lt_succ_self m, q⟩, ?_⟩
          refine (sts_iff.mp (hb s)) σn F1 H1 _ (en'.ext e1) ?_
          generalize hgo : g s = o at po2
          cases o with
          | nx s' => exact fun σ3 F3 H3 g3 e3 => ⟨s', F3, (gr.trans e1.gr).trans g3, e3, Post.mono g3 po2⟩
          | rt r => exact po2
          | exc c => exact po2
          | bad => exact po2
end
end VL

set_option Elab.async false
set_option linter.all false
set_option maxRecDepth 100000
set_option maxHeartbeats 4000000
/-! VL7: what changes owned lists; defs. -/
namespace VL
open PySem PySem.Spec PyProof.Rows L2

theorem set_same {σ : L2.St} {i : Nat} {x : Option V} (h : σ[i]? = some x) : σ.set i x = σ := by
  refine List.ext_getElem? fun j => ?_
  by_cases q : i = j
  · subst q
    have hi := (List.getElem?_eq_some_iff.mp h).1
    rw [List.getElem?_set_self hi, h]
  · rw [List.getElem?_set_ne q]
section
variable {C : Cf} {Z F F' H H' F1 H1 : Hp} {ss : En} {σ : L2.St} {fp : List Addr}
theorem tst_upd {p : Addr} {vs vs' : List V} (h : H p = some (.lst vs)) : Tst H (upd H p (.lst vs')) := Tst.upd (by rw [h]; intro xs q; cases q)
/-- a slot is filled again -/
theorem EnvOk.back {i : Nat} {v : V} {o : O} {g f2 : List Addr} (s2 : Slots C Z F H (ss.set i none) σ f2) (hv : σ[i]? = some (some v)) (ho : Own C Z F H o v g) (hi : i < ss.length) (nd : (g ++ f2).Nodup) (zf : Same Z F) (fh : Same F H) : EnvOk C Z (ss.set i (some o)) F H σ := by
  have hi' : i < (ss.set i none).length := by simpa using hi
  obtain ⟨f3, s3, pm⟩ := s2.fill ho hi' (List.getElem?_set_self hi)
  rw [List.set_set, set_same hv] at s3
  exact ⟨zf, fh, f3, s3, (pm.nodup_iff).mpr nd⟩
/-- an owned list in a slot, and what may be put in its place -/
theorem Slots.rewr {i : Nat} {os : List O} (sl : Slots C Z F H ss σ fp) (nd : fp.Nodup) (zf : Same Z F) (fh : Same F H) (hs : ss[i]? = some (some (.lst os))) : ∃ p vs g f2, σ[i]? = some (some (.ref p)) ∧ F p = none ∧ H p = some (.lst vs) ∧ Owns C Z F H os vs g ∧ (p :: g ++ f2).Perm fp ∧ Slots C Z F H (ss.set i none) σ f2 ∧
    ∀ F1 H1, Ext F H F1 H1 → ∀ vs' os' g', Owns C Z F1 H1 os' vs' g' → (p :: g' ++ f2).Nodup → EnvOk C Z (ss.set i (some (.lst os'))) F1 (upd H1 p (.lst vs')) σ ∧ Gr F1 H1 F1 (upd H1 p (.lst vs')) := by
  obtain ⟨v, f1, f2, h1, h2, h3, h4⟩ := sl.get hs
  cases h2 with
  | lst hf hp hr =>
    rename_i p vs g
    refine ⟨p, vs, g, f2, h1, hf, hp, hr, h4, h3, fun F1 H1 ex vs' os' g' ow nd' => ?_⟩
    have hi : i < ss.length := (List.getElem?_eq_some_iff.mp hs).1
    have hp1 := ex.hh _ _ hp
    have hf1 := ex.ow p (by rw [hp]; simp) hf
    have ts := tst_upd (vs' := vs') hp1
    have n1 : ∀ a ∈ f2, a ≠ p := fun a q z => by
      subst z
      have := List.nodup_append.mp nd'
      exact this.2.2 a List.mem_cons_self a q rfl
    have n2 : ∀ a ∈ g', a ≠ p := fun a q z => by
      subst z
      have := (List.nodup_append.mp nd').1
      exact (List.nodup_cons.mp this).1 q
    have s2 := (h3.ext ex).frame ts fun a q => upd_ne (n1 a q)
    have o2 : Own C Z F1 (upd H1 p (.lst vs')) (.lst os') (.ref p) (p :: g') := .lst hf1 upd_same (ow.frame ts fun a q => upd_ne (n2 a q))
    refine ⟨EnvOk.back s2 h1 o2 hi nd' (zf.trans ex.ff) fun b o q => ?_, Same.refl F1, ts⟩
    rw [upd_ne (fun z => by subst z; rw [hf1] at q; cases q)]
    exact ex.fh b o q
theorem idx_first : ∀ {xs : List Int} {n : Int}, n ∈ xs → ∃ j : Nat, xs[j]? = some n ∧ (∀ m : Nat, m < j → xs[m]? ≠ some n) ∧ xs.erase n = xs.eraseIdx j
  | x :: xs, n, h => by
    by_cases e : x = n
    · subst e
      exact ⟨0, rfl, fun m hm => absurd hm (Nat.not_lt_zero m), by simp⟩
    · obtain ⟨j, h1, h2, h3⟩ := idx_first (xs := xs) (n := n) (by
        rcases List.mem_cons.mp h with q | q
        · exact absurd q.symm e
        · exact q)
      refine ⟨j + 1, by simpa using h1, fun m hm => ?_, by rw [List.erase_cons, if_neg (by simpa using e), h3]; rfl⟩
      cases m with
      | zero => simpa using e
      | succ m => simpa using h2 m (Nat.lt_of_succ_lt_succ hm)
theorem set_at {vs : List V} {n : Nat} {w : V} (h : vs[n]? = some w) : vs.set n w = vs := by
  refine List.ext_getElem? fun j => ?_
  by_cases q : n = j
  · subst q
    have hi := (List.getElem?_eq_some_iff.mp h).1
    rw [List.getElem?_set_self hi, h]
  · rw [List.getElem?_set_ne q]
/-- one item of owned ones -/
theorem Owns.at_ : ∀ {os : List O} {vs : List V} {fp : List Addr} {k : Nat} {o : O}, Owns C Z F H os vs fp → os[k]? = some o → ∃ v fa fb fc, vs[k]? = some v ∧ Own C Z F H o v fb ∧ fp = fa ++ (fb ++ fc) ∧
    ∀ F' H', (∀ (o : O) (v : V) (f : List Addr), (∀ a ∈ f, a ∈ fa ∨ a ∈ fc) → Own C Z F H o v f → Own C Z F' H' o v f) → ∀ o' v' fb', Own C Z F' H' o' v' fb' → Owns C Z F' H' (os.set k o') (vs.set k v') (fa ++ (fb' ++ fc))
  | _, _, _, _, _, .nil, e => by simp at e
  | _, _, _, 0, _, .cons (f1 := f1) (f2 := f2) a b, e => by
    simp at e
    subst e
    refine ⟨_, [], f1, f2, rfl, a, rfl, fun F' H' k o' v' fb' h => ?_⟩
    show Owns C Z F' H' (o' :: _) (v' :: _) (fb' ++ f2)
    refine .cons h ?_
    have all : ∀ {os : List O} {vs : List V} {f : List Addr}, (∀ a ∈ f, a ∈ f2) → Owns C Z F H os vs f → Owns C Z F' H' os vs f := by
      intro os
      induction os with
      | nil => intro vs f hf h; cases h; exact .nil
      | cons o os ih =>
        intro vs f hf h
        cases h with
        | cons a b => exact .cons (k _ _ _ (fun x q => .inr (hf x (List.mem_append_left _ q))) a) (ih (fun x q => hf x (List.mem_append_right _ q)) b)
    exact all (fun _ q => q) b
  | _, _, _, k + 1, _, .cons (f1 := f1) (f2 := f2) a b, e => by
    obtain ⟨v, fa, fb, fc, h1, h2, h3, h4⟩ := Owns.at_ (k := k) b (by simpa using e)
    refine ⟨v, f1 ++ fa, fb, fc, by simpa using h1, h2, by rw [h3, List.append_assoc], fun F' H' kk o' v' fb' h => ?_⟩
    rw [List.append_assoc]
    refine .cons (kk _ _ _ (fun x q => .inl (List.mem_append_left _ q)) a) (h4 F' H' (fun o v f hf h => kk o v f (fun x q => (hf x q).imp (List.mem_append_right _) id) h) o' v' fb' h)
end

section
variable {C : Cf} {Z : Hp} {X : Cx} {N G : List Str} {P : Nat → Bool} {ss ss' : En} {a b c e e2 tg iter elt : Expr} {rest es : List Expr} {pos p p2 apos : Pos} {r r' ra rb rz : RM} {α β γ : Type} {z q : Bool}
variable {W : Nat → Hp → Prop} {S S' R : Type} {ES : S → En} {ES' : S' → En} {ER : R → RM} {st : Stmt} {blk sts A B : List Stmt} {fl : Fl S R} {spos : Pos}
/-- x.append(e) -/
theorem Sts.append {x : Str} {o : O} {os : List O} (i : Nat) (k : Cok C X N P G) (he : Ev C Z X ss e (rmO o)) (hz : os.length < sizeLine) (h : Sts C Z X W (ss.set i (some (.lst (os ++ [o])))) sts ES ER fl) (hi : N[i]? = some x := by rfl) (hs : ss[i]? = some (some (.lst os)) := by rfl) (hp : P i = true := by rfl)
    (hfew : ((backTo pos (starEach [e] X.env)).all (fun x => !x.1) && (backToKw pos (keywordEach [] X.env)).all (fun x => x.1.isSome) && decide ([e].length + ([] : List Keyword).length + (if ([] : List Keyword).isEmpty then 0 else 1) < 30)) = true := by rfl)
    (hline : (apos.endLine == pos.line) = true := by rfl) (hst : starEach [e] X.env = (false, eval e X.env) :: starEach [] X.env := by rfl) : Sts C Z X W ss (.Expr (.Call (.Attribute (.Name x p) "append" apos) [e] [] pos) spos :: sts) ES ER fl :=
  Sts.step (ps_expr (pe_bm PySem.F.plainAttrs_list PySem.F.slot_list_append PySem.F.type_list_append mt_append pe_w (pa_cons pe_w pa_nil hst) rfl hfew hline hst rfl)) fun σ F H D en hq => by
    obtain ⟨fp, sl, nd⟩ := en.sl
    obtain ⟨l, vs, g, f2, h1, hf, h2, h3, h4, hr2, h5⟩ := sl.rewr nd en.zf en.fh hs
    refine Ev.slot (o := .lst os) k hi hp h1 ⟨.inl ⟨rfl, _, .of h2⟩, ?_⟩
    refine he σ F H _ en fun v F1 H1 e1 q1 => ?_
    obtain ⟨g2, og, n2, d2⟩ := rmO_ok q1
    refine ⟨l, vs, v, rfl, rfl, e1.hh _ _ h2, by rw [← h3.length]; exact hz, ?_⟩
    have old : ∀ a ∈ l :: g ++ f2, H a ≠ none := fun a q => (sl.gone a (h4.subset q)).2
    have nd0 : (l :: g ++ f2).Nodup := (h4.nodup_iff).mpr nd
    have big : (l :: (g ++ (g2 ++ [])) ++ f2).Nodup := by
      rw [List.append_nil]
      have pm : (l :: (g ++ g2) ++ f2).Perm (g2 ++ (l :: g ++ f2)) := by
        have q1 : (l :: (g ++ g2) ++ f2) = (l :: g) ++ (g2 ++ f2) := by simp
        have q2 : (g2 ++ (l :: g ++ f2)).Perm ((l :: g) ++ (g2 ++ f2)) := by
          rw [← List.append_assoc, ← List.append_assoc]
          exact List.Perm.append_right _ List.perm_append_comm
        rw [q1]
        exact q2.symm
      exact (pm.nodup_iff).mpr (List.nodup_append.mpr ⟨d2, nd0, fun y hy w hw z => by subst z; exact old y hw (n2 y hy)⟩)
    obtain ⟨en2, g3⟩ := h5 F1 H1 e1 (vs ++ [v]) (os ++ [o]) (g ++ (g2 ++ [])) (Owns.append (h3.ext e1) (.cons og .nil)) big
    exact (sts_iff.mp h) σ F1 _ D en2 (Post.mono (e1.gr.trans g3) hq)
/-- x.append(y), y owned, which is then no more said of -/
theorem Sts.appendO {x y : Str} {o : O} {os : List O} (i j : Nat) (k : Cok C X N P G) (hij : i ≠ j) (hz : os.length < sizeLine) (h : Sts C Z X W ((ss.set j none).set i (some (.lst (os ++ [o])))) sts ES ER fl) (hi : N[i]? = some x := by rfl) (hj : N[j]? = some y := by rfl) (hs : ss[i]? = some (some (.lst os)) := by rfl) (hsj : ss[j]? = some (some o) := by rfl) (hp : P i = true := by rfl) (hpj : P j = true := by rfl)
    (hline : (apos.endLine == pos.line) = true := by rfl) : Sts C Z X W ss (.Expr (.Call (.Attribute (.Name x p) "append" apos) [.Name y p2] [] pos) spos :: sts) ES ER fl :=
  Sts.step (ps_expr (pe_bm PySem.F.plainAttrs_list PySem.F.slot_list_append PySem.F.type_list_append mt_append pe_w (pa_cons pe_w pa_nil rfl) rfl rfl hline rfl rfl)) fun σ F H D en hq => by
    obtain ⟨fp, sl, nd⟩ := en.sl
    obtain ⟨v, f1, f2, a1, a2, a3, a4⟩ := sl.get hsj
    have nd1 : (f1 ++ f2).Nodup := (a4.nodup_iff).mpr nd
    have hs' : (ss.set j none)[i]? = some (some (.lst os)) := by rw [List.getElem?_set_ne (fun z => hij z.symm)]; exact hs
    obtain ⟨l, vs, g, f3, h1, hf, h2, h3, h4, hr2, h5⟩ := a3.rewr (List.nodup_append.mp nd1).2.1 en.zf en.fh hs'
    refine Ev.slot (o := .lst os) k hi hp h1 ⟨.inl ⟨rfl, _, .of h2⟩, ?_⟩
    refine Ev.slot (o := o) k hj hpj a1 ⟨l, vs, v, rfl, rfl, h2, by rw [← h3.length]; exact hz, ?_⟩
    have big : (l :: (g ++ (f1 ++ [])) ++ f3).Nodup := by
      rw [List.append_nil]
      have pm : (l :: (g ++ f1) ++ f3).Perm (f1 ++ (l :: g ++ f3)) := by
        have q1 : (l :: (g ++ f1) ++ f3) = (l :: g) ++ (f1 ++ f3) := by simp
        have q2 : (f1 ++ (l :: g ++ f3)).Perm ((l :: g) ++ (f1 ++ f3)) := by
          rw [← List.append_assoc, ← List.append_assoc]
          exact List.Perm.append_right _ List.perm_append_comm
        rw [q1]
        exact q2.symm
      exact (pm.nodup_iff).mpr (((List.Perm.append_left f1 h4).nodup_iff).mpr nd1)
    obtain ⟨en2, g3⟩ := h5 F H (Ext.refl en.fh) (vs ++ [v]) (os ++ [o]) (g ++ (f1 ++ [])) (Owns.append h3 (.cons a2 .nil)) big
    exact (sts_iff.mp h) σ F _ D en2 (Post.mono g3 hq)
/-- x[b].append(e), x a list of owned lists, e without objects of its own -/
theorem Sts.appendI {x : Str} {o : O} {os ps : List O} {m : Int} {n : Nat} (i : Nat) (k : Cok C X N P G) (hm : ixN os.length m = some n) (hn : os[n]? = some (.lst ps)) (hb : Ev C Z X ss b (.frz (dI m))) (lo : Leaf o) (he : Ev C Z X ss e (rmO o)) (hz : ps.length < sizeLine)
    (h : Sts C Z X W (ss.set i (some (.lst (os.set n (.lst (ps ++ [o])))))) sts ES ER fl) (hi : N[i]? = some x := by rfl) (hs : ss[i]? = some (some (.lst os)) := by rfl) (hp : P i = true := by rfl) (hpl : PlainIx b := by intro _ _; rfl)
    (hfew : ((backTo pos (starEach [e] X.env)).all (fun x => !x.1) && (backToKw pos (keywordEach [] X.env)).all (fun x => x.1.isSome) && decide ([e].length + ([] : List Keyword).length + (if ([] : List Keyword).isEmpty then 0 else 1) < 30)) = true := by rfl)
    (hline : (apos.endLine == pos.line) = true := by rfl) (hst : starEach [e] X.env = (false, eval e X.env) :: starEach [] X.env := by rfl) : Sts C Z X W ss (.Expr (.Call (.Attribute (.Subscript (.Name x p) b p2) "append" apos) [e] [] pos) spos :: sts) ES ER fl :=
  Sts.step (ps_expr (pe_bm PySem.F.plainAttrs_list PySem.F.slot_list_append PySem.F.type_list_append mt_append (pe_ix ix_list pe_w pe_w hpl) (pa_cons pe_w pa_nil hst) rfl hfew hline hst rfl)) fun σ F H D en hq => by
    obtain ⟨fp, sl, nd⟩ := en.sl
    obtain ⟨l, vs, g, f2, h1, hf, h2, h3, h4, hr2, h5⟩ := sl.rewr nd en.zf en.fh hs
    refine Ev.slot (o := .lst os) k hi hp h1 ?_
    refine hb σ F H _ en fun w F0 H0 e0 q0 => ?_
    cases q0
    obtain ⟨w, fa, fb, fc, w1, w2, w3, w4⟩ := h3.at_ hn
    refine ⟨l, vs, m, w, rfl, rfl, .of (e0.hh _ _ h2), by unfold atI; rw [← h3.length, hm]; exact w1, ?_⟩
    cases w2 with
    | lst wf wp wr =>
      rename_i l2 ws g2
      refine ⟨.inl ⟨rfl, _, .of (e0.hh _ _ wp)⟩, ?_⟩
      refine he σ F0 H0 _ (en.ext e0) fun v F1 H1 e1 q1 => ?_
      obtain ⟨g3, og, n3, d3⟩ := rmO_ok q1
      have eg := og.leaf lo
      subst eg
      have ex := e0.trans e1
      refine ⟨l2, ws, v, rfl, rfl, ex.hh _ _ wp, by rw [← wr.length]; exact hz, ?_⟩
      have nd0 : (l :: g ++ f2).Nodup := (h4.nodup_iff).mpr nd
      subst w3
      -- the inner list is changed
      have hl2 : l2 ∈ fa ++ ((l2 :: g2) ++ fc) := List.mem_append_right _ (List.mem_append_left _ List.mem_cons_self)
      have hne : l ≠ l2 := fun z => by
        have q := List.nodup_append.mp nd0
        exact (List.nodup_cons.mp q.1).1 (z ▸ hl2)
      have ts : Tst H1 (upd H1 l2 (.lst (ws ++ [v]))) := tst_upd (ex.hh _ _ wp)
      have ndg : (fa ++ ((l2 :: g2) ++ fc)).Nodup := (List.nodup_cons.mp (List.nodup_append.mp nd0).1).2
      have nf : ∀ a, a ∈ fa ∨ a ∈ fc → a ≠ l2 := fun a q z => by
        subst z
        have u := List.nodup_append.mp ndg
        rcases q with q | q
        · exact u.2.2 a q a (List.mem_append_left _ List.mem_cons_self) rfl
        · exact (List.nodup_append.mp u.2.1).2.2 a List.mem_cons_self a q rfl
      have ng2 : ∀ a ∈ g2, a ≠ l2 := fun a q z => by
        subst z
        have u := (List.nodup_append.mp (List.nodup_append.mp ndg).2.1).1
        exact (List.nodup_cons.mp u).1 q
      have in2 : Own C Z F1 (upd H1 l2 (.lst (ws ++ [v]))) (.lst (ps ++ [o])) (.ref l2) (l2 :: g2) := by
        have q := Owns.append (f := g2) (g := []) ((wr.ext ex).frame ts fun a q => upd_ne (ng2 a q)) (.cons (f1 := []) (f2 := []) (og.frame ts fun a q => absurd q List.not_mem_nil) .nil)
        rw [List.append_nil] at q
        exact .lst (ex.ow _ (by rw [wp]; simp) wf) upd_same q
      have ows := w4 F1 (upd H1 l2 (.lst (ws ++ [v]))) (fun o v f hf h => (h.ext ex).frame ts fun a q => upd_ne (nf a (hf a q))) (.lst (ps ++ [o])) (.ref l2) (l2 :: g2) in2
      rw [set_at w1] at ows
      -- the outer list is as it was
      have hlH : (upd H1 l2 (.lst (ws ++ [v]))) l = some (.lst vs) := by rw [upd_ne hne]; exact ex.hh _ _ h2
      have oo : Own C Z F1 (upd H1 l2 (.lst (ws ++ [v]))) (.lst (os.set n (.lst (ps ++ [o])))) (.ref l) (l :: (fa ++ ((l2 :: g2) ++ fc))) := .lst (ex.ow _ (by rw [h2]; simp) hf) hlH ows
      have n2 : ∀ a ∈ f2, a ≠ l2 := fun a q z => by
        subst z
        exact (List.nodup_append.mp nd0).2.2 a (List.mem_cons_of_mem _ hl2) a q rfl
      have hi' : i < ss.length := (List.getElem?_eq_some_iff.mp hs).1
      have en2 : EnvOk C Z (ss.set i (some (.lst (os.set n (.lst (ps ++ [o])))))) F1 (upd H1 l2 (.lst (ws ++ [v]))) σ := by
        refine EnvOk.back ((hr2.ext ex).frame ts fun a q => upd_ne (n2 a q)) h1 oo hi' nd0 (en.zf.trans ex.ff) fun b o q => ?_
        rw [upd_ne (fun z => by subst z; rw [ex.ow b (by rw [wp]; simp) wf] at q; cases q)]
        exact ex.fh b o q
      exact (sts_iff.mp h) σ F1 _ D en2 (Post.mono (ex.gr.trans ⟨Same.refl F1, ts⟩) hq)
/-- what a method without arguments makes of an owned list -/
theorem Sts.meth0 {x : Str} {nm : Str} {id : String} {f : V → List V → Hp → VK → Prop} {os os' : List O} (i : Nat) (k : Cok C X N P G) (pa : PlainAttrs "list") (slot : Slot "list" nm id) (hty : typeOf (.builtin id) = pure (.type "method_descriptor")) (hm : MtR X id f)
    (hr : ∀ (l : Addr) (F H : Hp) (vs : List V) (g : List Addr) (Q : VK), H l = some (.lst vs) → Owns C Z F H os vs g → (∀ vs' g', Owns C Z F H os' vs' g' → g'.Sublist g → Q .non (upd H l (.lst vs'))) → f (.ref l) [] H Q)
    (h : Sts C Z X W (ss.set i (some (.lst os'))) sts ES ER fl) (hi : N[i]? = some x := by rfl) (hs : ss[i]? = some (some (.lst os)) := by rfl) (hp : P i = true := by rfl) (hline : (apos.endLine == pos.line) = true := by rfl) : Sts C Z X W ss (.Expr (.Call (.Attribute (.Name x p) nm apos) [] [] pos) spos :: sts) ES ER fl :=
  Sts.step (ps_expr (pe_bm0 pa slot hty hm pe_w rfl hline)) fun σ F H D en hq => by
    obtain ⟨fp, sl, nd⟩ := en.sl
    obtain ⟨l, vs, g, f2, h1, hf, h2, h3, h4, hr2, h5⟩ := sl.rewr nd en.zf en.fh hs
    refine Ev.slot (o := .lst os) k hi hp h1 ⟨.inl ⟨rfl, _, .of h2⟩, ?_⟩
    refine hr l F H vs g _ h2 h3 fun vs' g' ow sub => ?_
    have nd0 : (l :: g ++ f2).Nodup := (h4.nodup_iff).mpr nd
    have nd1 : (l :: g' ++ f2).Nodup := nd0.sublist (List.Sublist.append (List.Sublist.cons_cons l sub) (List.Sublist.refl _))
    obtain ⟨en2, g3⟩ := h5 F H (Ext.refl en.fh) vs' os' g' ow nd1
    exact (sts_iff.mp h) σ F _ D en2 (Post.mono g3 hq)
theorem Sts.clear {x : Str} {os : List O} (i : Nat) (k : Cok C X N P G) (h : Sts C Z X W (ss.set i (some (.lst []))) sts ES ER fl) (hi : N[i]? = some x := by rfl) (hs : ss[i]? = some (some (.lst os)) := by rfl) (hp : P i = true := by rfl) (hline : (apos.endLine == pos.line) = true := by rfl) :
    Sts C Z X W ss (.Expr (.Call (.Attribute (.Name x p) "clear" apos) [] [] pos) spos :: sts) ES ER fl :=
  Sts.meth0 i k PySem.F.plainAttrs_list PySem.F.slot_list_clear PySem.F.type_list_clear mt_clear (fun l F H vs g Q h1 h2 hq => ⟨l, vs, rfl, rfl, h1, hq [] [] .nil (List.nil_sublist _)⟩) h hi hs hp hline
/-- x.reverse(), the items without objects of their own -/
theorem Sts.reverse {x : Str} {os : List O} (lf : ∀ o ∈ os, Leaf o) (i : Nat) (k : Cok C X N P G) (h : Sts C Z X W (ss.set i (some (.lst os.reverse))) sts ES ER fl) (hi : N[i]? = some x := by rfl) (hs : ss[i]? = some (some (.lst os)) := by rfl) (hp : P i = true := by rfl) (hline : (apos.endLine == pos.line) = true := by rfl) :
    Sts C Z X W ss (.Expr (.Call (.Attribute (.Name x p) "reverse" apos) [] [] pos) spos :: sts) ES ER fl :=
  Sts.meth0 i k PySem.F.plainAttrs_list PySem.F.slot_list_reverse PySem.F.type_list_reverse mt_reverse (fun l F H vs g Q h1 h2 hq => by
    have e := h2.leaf lf
    subst e
    exact ⟨l, vs, rfl, rfl, h1, hq _ _ h2.reverse (List.Sublist.refl _)⟩) h hi hs hp hline
/-- x.m(e), e read as it is -/
theorem Sts.meth1 {x : Str} {nm : Str} {id : String} {f : V → List V → Hp → VK → Prop} {os os' : List O} {rm : RM} (i : Nat) (k : Cok C X N P G) (pa : PlainAttrs "list") (slot : Slot "list" nm id) (hty : typeOf (.builtin id) = pure (.type "method_descriptor")) (hm : MtR X id f) (he : Ev C Z X ss e rm)
    (hr : ∀ (l : Addr) (v : V) (F H H0 : Hp) (vs : List V) (g : List Addr) (Q : VK), Same F H → H l = some (.lst vs) → Owns C Z F H os vs g → rm.ok C Z H0 v F H → (∀ vs' g', Owns C Z F H os' vs' g' → g'.Sublist g → Q .non (upd H l (.lst vs'))) → f (.ref l) [v] H Q)
    (h : Sts C Z X W (ss.set i (some (.lst os'))) sts ES ER fl) (hi : N[i]? = some x := by rfl) (hs : ss[i]? = some (some (.lst os)) := by rfl) (hp : P i = true := by rfl)
    (hfew : ((backTo pos (starEach [e] X.env)).all (fun x => !x.1) && (backToKw pos (keywordEach [] X.env)).all (fun x => x.1.isSome) && decide ([e].length + ([] : List Keyword).length + (if ([] : List Keyword).isEmpty then 0 else 1) < 30)) = true := by rfl)
    (hline : (apos.endLine == pos.line) = true := by rfl) (hst : starEach [e] X.env = (false, eval e X.env) :: starEach [] X.env := by rfl) : Sts C Z X W ss (.Expr (.Call (.Attribute (.Name x p) nm apos) [e] [] pos) spos :: sts) ES ER fl :=
  Sts.step (ps_expr (pe_bm pa slot hty hm pe_w (pa_cons pe_w pa_nil hst) rfl hfew hline hst rfl)) fun σ F H D en hq => by
    obtain ⟨fp, sl, nd⟩ := en.sl
    obtain ⟨l, vs, g, f2, h1, hf, h2, h3, h4, hr2, h5⟩ := sl.rewr nd en.zf en.fh hs
    refine Ev.slot (o := .lst os) k hi hp h1 ⟨.inl ⟨rfl, _, .of h2⟩, ?_⟩
    refine he σ F H _ en fun v F1 H1 e1 q1 => ?_
    refine hr l v F1 H1 H vs g _ e1.fh (e1.hh _ _ h2) (h3.ext e1) q1 fun vs' g' ow sub => ?_
    have nd0 : (l :: g ++ f2).Nodup := (h4.nodup_iff).mpr nd
    have nd1 : (l :: g' ++ f2).Nodup := nd0.sublist (List.Sublist.append (List.Sublist.cons_cons l sub) (List.Sublist.refl _))
    obtain ⟨en2, g3⟩ := h5 F1 H1 e1 vs' os' g' ow nd1
    exact (sts_iff.mp h) σ F1 _ D en2 (Post.mono (e1.gr.trans g3) hq)
/-- x.extend(e) -/
theorem Sts.extend {x : Str} {os ps : List O} (i : Nat) (k : Cok C X N P G) (he : Ev C Z X ss e (.itm ps)) (hz : os.length + ps.length ≤ sizeLine) (h : Sts C Z X W (ss.set i (some (.lst (os ++ ps)))) sts ES ER fl) (hi : N[i]? = some x := by rfl) (hs : ss[i]? = some (some (.lst os)) := by rfl) (hp : P i = true := by rfl)
    (hfew : ((backTo pos (starEach [e] X.env)).all (fun x => !x.1) && (backToKw pos (keywordEach [] X.env)).all (fun x => x.1.isSome) && decide ([e].length + ([] : List Keyword).length + (if ([] : List Keyword).isEmpty then 0 else 1) < 30)) = true := by rfl)
    (hline : (apos.endLine == pos.line) = true := by rfl) (hst : starEach [e] X.env = (false, eval e X.env) :: starEach [] X.env := by rfl) : Sts C Z X W ss (.Expr (.Call (.Attribute (.Name x p) "extend" apos) [e] [] pos) spos :: sts) ES ER fl :=
  Sts.meth1 i k PySem.F.plainAttrs_list PySem.F.slot_list_extend PySem.F.type_list_extend mt_extend he (fun l v F H H0 vs g Q fh h1 h2 h3 hq => by
    obtain ⟨m, ws, rfl, hm, ow⟩ := h3
    refine ⟨l, m, vs, ws, rfl, rfl, h1, hm, by rw [← h2.length, ← ow.length]; exact hz, ?_⟩
    exact hq _ (g ++ []) (Owns.append h2 ow) (by rw [List.append_nil]; exact List.Sublist.refl _)) h hi hs hp hfew hline hst
/-- x.remove(n): a list of ints -/
theorem Sts.remove {x : Str} {xs : List Int} {n : Int} (i : Nat) (k : Cok C X N P G) (he : Ev C Z X ss e (.frz (dI n))) (hn : n ∈ xs) (h : Sts C Z X W (ss.set i (some (oL (zz dI) (xs.erase n)))) sts ES ER fl) (hi : N[i]? = some x := by rfl) (hs : ss[i]? = some (some (oL (zz dI) xs)) := by rfl) (hp : P i = true := by rfl)
    (hfew : ((backTo pos (starEach [e] X.env)).all (fun x => !x.1) && (backToKw pos (keywordEach [] X.env)).all (fun x => x.1.isSome) && decide ([e].length + ([] : List Keyword).length + (if ([] : List Keyword).isEmpty then 0 else 1) < 30)) = true := by rfl)
    (hline : (apos.endLine == pos.line) = true := by rfl) (hst : starEach [e] X.env = (false, eval e X.env) :: starEach [] X.env := by rfl) : Sts C Z X W ss (.Expr (.Call (.Attribute (.Name x p) "remove" apos) [e] [] pos) spos :: sts) ES ER fl :=
  Sts.meth1 (os := xs.map (zz dI)) (os' := (xs.erase n).map (zz dI)) i k PySem.F.plainAttrs_list PySem.F.slot_list_remove PySem.F.type_list_remove mt_remove he (fun l v F H H0 vs g Q fh h1 h2 h3 hq => by
    cases h3
    have e := h2.leaf (leaf_zz xs)
    subst e
    have ev : vs = xs.map V.int := by
      have all : ∀ (xs : List Int) (vs : List V), Owns C Z F H (xs.map (zz dI)) vs [] → vs = xs.map V.int := by
        intro xs
        induction xs with
        | nil => intro vs h; cases h; rfl
        | cons y ys ih =>
          intro vs h
          generalize hz : ([] : List Addr) = f at h
          cases h with
          | cons a b =>
            rename_i f1 f2
            obtain ⟨e1, e2⟩ : f1 = [] ∧ f2 = [] := by simpa using hz.symm
            subst e1 e2
            cases a with
            | fz r =>
              cases r
              rw [ih _ b]
              rfl
      exact all xs vs h2
    subst ev
    obtain ⟨j, hget, hfst, her⟩ := idx_first hn
    refine ⟨l, xs, n, j, rfl, rfl, h1, hget, hfst, ?_⟩
    have q := hq ((xs.erase n).map V.int) [] (owns_ints _) (List.Sublist.refl _)
    rw [her] at q
    exact q) h hi hs hp hfew hline hst
/-- x[k] = e -/
theorem Sts.setix {x : Str} {o : O} {os : List O} {m : Int} {n : Nat} (i : Nat) (k : Cok C X N P G) (hm : ixN os.length m = some n) (he : Ev C Z X ss e (rmO o)) (hb : Ev C Z X ss b (.frz (dI m))) (h : Sts C Z X W (ss.set i (some (.lst (os.set n o)))) sts ES ER fl) (hn : n < os.length) (hi : N[i]? = some x := by rfl) (hs : ss[i]? = some (some (.lst os)) := by rfl) (hp : P i = true := by rfl)
    (hsw : swapsWithSole [.Subscript (.Name x p) b p2] e spos.line X.env = pure false := by rfl) (hw : swappedStores [.Subscript (.Name x p) b p2] e X.env = pure none := by rfl)
    (ha : ∀ v, assign (.Subscript (.Name x p) b p2) X.env v = (do
      let ov ← holding [v] (eval (.Name x p) X.env)
      let iv ← holding [v, ov] (eval b X.env)
      standAt p2
      holding [v, ov, iv] (setItem ov iv v)
      release [v, ov, iv] []) := by intro _; rfl) : Sts C Z X W ss (.Assign [.Subscript (.Name x p) b p2] e spos :: sts) ES ER fl :=
  Sts.step (ps_asg pe_w (pg_sub pe_w pe_w set_list ha) hsw hw) fun σ F H D en hq => by
    obtain ⟨fp, sl, nd⟩ := en.sl
    obtain ⟨l, vs, g, f2, h1, hf, h2, h3, h4, hr2, h5⟩ := sl.rewr nd en.zf en.fh hs
    refine he σ F H _ en fun v F1 H1 e1 q1 => ?_
    obtain ⟨g2, og, n2, d2⟩ := rmO_ok q1
    refine Ev.slot (o := .lst os) k hi hp h1 ?_
    refine hb σ F1 H1 _ (en.ext e1) fun w F2 H2 e2' q2 => ?_
    cases q2
    have ex := e1.trans e2'
    refine ⟨l, vs, m, n, rfl, rfl, ex.hh _ _ h2, by rw [← h3.length]; exact hm, ?_⟩
    obtain ⟨w, fa, fb, fc, w1, w2, w3, w4⟩ := h3.at_ (k := n) (o := os[n]) (by simp [hn])
    have old : ∀ a ∈ l :: g ++ f2, H a ≠ none := fun a q => (sl.gone a (h4.subset q)).2
    have nd0 : (l :: g ++ f2).Nodup := (h4.nodup_iff).mpr nd
    subst w3
    have big : (l :: (fa ++ (g2 ++ fc)) ++ f2).Nodup := by
      have sub0 : (l :: (fa ++ fc) ++ f2).Sublist (l :: (fa ++ (fb ++ fc)) ++ f2) :=
        List.Sublist.append (List.Sublist.cons_cons l (List.Sublist.append (List.Sublist.refl _) (List.sublist_append_right _ _))) (List.Sublist.refl _)
      have nd1 := nd0.sublist sub0
      have pm : (g2 ++ (l :: (fa ++ fc) ++ f2)).Perm (l :: (fa ++ (g2 ++ fc)) ++ f2) := by
        have q1 : (l :: (fa ++ (g2 ++ fc)) ++ f2) = (l :: fa) ++ (g2 ++ (fc ++ f2)) := by simp
        have q2 : (l :: (fa ++ fc) ++ f2) = (l :: fa) ++ (fc ++ f2) := by simp
        have q3 : (g2 ++ ((l :: fa) ++ (fc ++ f2))).Perm ((l :: fa) ++ (g2 ++ (fc ++ f2))) := by
          rw [← List.append_assoc, ← List.append_assoc (l :: fa)]
          exact List.Perm.append_right _ List.perm_append_comm
        rw [q1, q2]
        exact q3
      exact (pm.nodup_iff).mp (List.nodup_append.mpr ⟨d2, nd1, fun y hy w hw z => by subst z; exact old y (sub0.subset hw) (n2 y hy)⟩)
    have ow := w4 F2 H2 (fun o v f hf h => h.ext ex) o v g2 (og.ext e2')
    obtain ⟨en2, g3⟩ := h5 F2 H2 ex (vs.set n v) (os.set n o) (fa ++ (g2 ++ fc)) ow big
    exact (sts_iff.mp h) σ F2 _ D en2 (Post.mono (ex.gr.trans g3) hq)
/-- what is owned in a slot is frozen from here on -/
theorem Sts.freeze {o : O} {d : D} (i : Nat) (w : Er o d) (hs : ss[i]? = some (some o)) (h : Sts C Z X W (ss.set i (some (.fz d))) blk ES ER fl) : Sts C Z X W ss blk ES ER fl := sts_iff.mpr fun σ F H D en hq => by
  obtain ⟨fp, sl, nd⟩ := en.sl
  obtain ⟨v, f1, f2, a1, a2, a3, a4⟩ := sl.get hs
  have hi : i < ss.length := (List.getElem?_eq_some_iff.mp hs).1
  have n1 : ∀ a ∈ f1, F a = none := fun a q => (a2.gone a q).1
  have nd1 := (a4.nodup_iff).mpr nd
  have ff := frz_same (H := H) n1
  have s2 : Slots C Z (frz F H f1) H (ss.set i none) σ f2 := a3.refz ff fun a q => by
    rw [frz_out fun q1 => (List.nodup_append.mp nd1).2.2 a q1 a q rfl]
    exact (a3.gone a q).1
  have o2 : Own C Z (frz F H f1) H (.fz d) v [] := .fz (a2.freeze ff w fun a q u hu => by rw [frz_in q]; exact hu)
  have en2 := EnvOk.back s2 a1 o2 hi (List.nodup_append.mp nd1).2.1 (en.zf.trans ff) (frz_heap en.fh)
  exact (sts_iff.mp h) σ (frz F H f1) H D en2 (Post.mono ⟨ff, Tst.refl H⟩ hq)
theorem Sts.nfreeze {o : O} {d : D} (i : Nat) (w : Er o d) (fu : Full o) (hs : ss[i]? = some (some o)) (h : Sts C Z X W (ss.set i (some (.nz d))) blk ES ER fl) : Sts C Z X W ss blk ES ER fl := sts_iff.mpr fun σ F H D en hq => by
  obtain ⟨fp, sl, nd⟩ := en.sl
  obtain ⟨v, f1, f2, a1, a2, a3, a4⟩ := sl.get hs
  have hi : i < ss.length := (List.getElem?_eq_some_iff.mp hs).1
  have n1 : ∀ a ∈ f1, F a = none := fun a q => (a2.gone a q).1
  have nd1 := (a4.nodup_iff).mpr nd
  have ff := frz_same (H := H) n1
  have s2 : Slots C Z (frz F H f1) H (ss.set i none) σ f2 := a3.refz ff fun a q => by
    rw [frz_out fun q1 => (List.nodup_append.mp nd1).2.2 a q1 a q rfl]
    exact (a3.gone a q).1
  have o2 : Own C Z (frz F H f1) H (.nz d) v [] := .nz (a2.nfreeze ff w fu fun a q u hu => by
    rw [sub_new (en.zf.free (n1 a q)), frz_in q]
    exact hu)
  have en2 := EnvOk.back s2 a1 o2 hi (List.nodup_append.mp nd1).2.1 (en.zf.trans ff) (frz_heap en.fh)
  exact (sts_iff.mp h) σ (frz F H f1) H D en2 (Post.mono ⟨ff, Tst.refl H⟩ hq)
/-- x = y, y owned, which is then no more said of -/
theorem Sts.move {x y : Str} {o : O} (i j : Nat) (k : Cok C X N P G) (d : Dok X N P) (hij : i ≠ j) (h : Sts C Z X W ((ss.set j none).set i (some o)) sts ES ER fl) (hl : i < ss.length) (hi : N[i]? = some x := by rfl) (hpi : P i = true := by rfl) (hj : N[j]? = some y := by rfl) (hs : ss[j]? = some (some o) := by rfl) (hp : P j = true := by rfl) :
    Sts C Z X W ss (.Assign [.Name x p] (.Name y p2) spos :: sts) ES ER fl :=
  Sts.step (ps_set (i := i) (by rw [k.hN]; exact k.nd) (by rw [k.hN]; exact hi) (d.loc i x hpi hi) pe_w rfl (.inl (d.fn x))) fun σ F H D en hq => by
    obtain ⟨fp, sl, nd⟩ := en.sl
    obtain ⟨v, f1, f2, a1, a2, a3, a4⟩ := sl.get hs
    refine Ev.slot (o := o) k hj hp a1 ?_
    have nd1 := (a4.nodup_iff).mpr nd
    have hl' : i < (ss.set j none).length := by simpa using hl
    have en1 : EnvOk C Z (ss.set j none) F H σ := ⟨en.zf, en.fh, f2, a3, (List.nodup_append.mp nd1).2.1⟩
    obtain ⟨f3, s3, sb⟩ := a3.drop i
    have hi2 : i < ((ss.set j none).set i none).length := by simpa using hl
    obtain ⟨f4, s4, pm⟩ := s3.fill a2 hi2 (List.getElem?_set_self hl')
    rw [List.set_set] at s4
    have en2 : EnvOk C Z ((ss.set j none).set i (some o)) F H (σ.set i (some v)) := ⟨en.zf, en.fh, f4, s4, (pm.nodup_iff).mpr (nd1.sublist (List.Sublist.append (List.Sublist.refl _) sb))⟩
    exact (sts_iff.mp h) _ F H D en2 hq
end
end VL

set_option Elab.async false
set_option linter.all false
set_option maxRecDepth 100000
set_option maxHeartbeats 4000000
/-! VL8: exceptions out of calls, methods, instances made; a def by its body. -/
namespace VL
open PySem PySem.Spec PyProof.Rows L2

/-- as Res: what is wanted of an evaluation -/
def PostE (C : Cf) (Z : Hp) (W : Nat → Hp → Prop) (F H : Hp) (Q : VK) : Res RM → Prop
  | .ok rm => ∀ v F' H', Ext F H F' H' → rm.ok C Z H v F' H' → Q v H'
  | .exc c => ∀ H', Same Z H' → W c H'
  | .bad => False
def EvX (C : Cf) (Z : Hp) (X : Cx) (W : Nat → Hp → Prop) (ss : En) (e : Expr) (r : Res RM) : Prop :=
  ∀ (σ : L2.St) (F H : Hp) (Q : VK), EnvOk C Z ss F H σ → PostE C Z W F H Q r → wE X e σ H Q
def Res.bind {α β : Type} (r : Res α) (k : α → Res β) : Res β := match r with
  | .ok a => k a
  | .exc c => .exc c
  | .bad => .bad
def Res.req {α β : Type} (o : Option α) (k : α → Res β) : Res β := match o with
  | some a => k a
  | none => .bad

section
variable {C : Cf} {Z : Hp} {X : Cx} {N G : List Str} {P : Nat → Bool} {ss ss' : En} {a b c e e2 tg iter elt o : Expr} {rest es : List Expr} {pos p p2 apos : Pos} {ra rb rz rm : RM} {α β γ : Type} {z q : Bool}
variable {W : Nat → Hp → Prop} {S S' R : Type} {ES : S → En} {ES' : S' → En} {ER : R → RM} {st : Stmt} {blk sts A B : List Stmt} {fl : Fl S R} {spos : Pos}
theorem EvX.of (h : Ev C Z X ss e rm) : EvX C Z X W ss e (.ok rm) := fun σ F H Q he hq => h σ F H Q he hq
theorem EvX.ev (h : EvX C Z X W ss e (.ok rm)) : Ev C Z X ss e rm := fun σ F H Q he hq => h σ F H Q he hq
theorem EvX.bad : EvX C Z X W ss e .bad := fun σ F H Q he hq => hq.elim
theorem EvX.eq {r r' : Res RM} (h : EvX C Z X W ss e r) (q : r = r') : EvX C Z X W ss e r' := q ▸ h
theorem EvX.req {α : Type} {o : Option α} {k : α → Res RM} (h : ∀ a, o = some a → EvX C Z X W ss e (k a)) : EvX C Z X W ss e (Res.req o k) := by
  cases o with
  | none => exact EvX.bad
  | some a => exact h a rfl
theorem EvX.call {x : Str} {ds : List D} {r : Res RM} (tk : L2N.Takes X (WXc C W)) (k : Cok C X N P G) (i : Nat) (hc : Cal X.prog X.w X.K X.mg X.base X.A C x ds r) (ha : Ea C Z X ss (e :: es) ds) (hi : G[i]? = some x := by rfl) (he1 : starEach (e :: es) X.env = (false, eval e X.env) :: starEach es X.env := by rfl)
    (hpl : (backTo pos (starEach es X.env)).any (·.1) = false := by rfl) : EvX C Z X W ss (.Call (.Name x p) (e :: es) [] pos) (r.map backR) := fun σ F H Q he hq pins s I => by
  obtain ⟨n, f, fd, ps, sp, hr, FO, hm, hk, hb, hs⟩ := hc
  refine (pe_callS (E := L2.WE (WXc C W)) FO hr (k.gl i x hi).1 hm hk hb (fun σ => L2N.passAt tk σ) pa_w (k.gl i x hi).2.1 he1 hpl).run pins s σ H Q I ?_
  refine ha σ F H _ he fun vs F1 H1 e1 q1 => hs _ _ _ _ ⟨q1, ?_⟩
  cases r with
  | ok rm =>
    intro v H2 h2 q2
    obtain ⟨F2, e2, q3⟩ := okc_back ((he.ext e1).zf.trans e1.fh) e1.fh h2 q2
    exact hq v F2 H2 (e1.trans e2) (RM.ok_old e1.hh q3)
  | exc c =>
    intro H2 h2
    exact ⟨c, rfl, rfl, hq H2 (((he.ext e1).zf.trans e1.fh).trans h2)⟩
  | bad => exact hq.elim
/-- o.m(..) -/
theorem EvX.meth {m : Str} {cn : Nat} {d0 : List D} {ds : List D} {r : Res RM} {pl : Sem Bool} (tk : L2N.Takes X (WXc C W)) (k : Cok C X N P G) (hc : Met X.prog X.w X.K X.mg X.base X.A C cn m (.obj cn d0 :: ds) r) (hno : m ∉ C.fn cn) (ho : Ev C Z X ss o (.cur (.obj cn d0))) (ha : Ea C Z X ss (e :: es) ds)
    (hst : starEach (e :: es) X.env = (false, eval e X.env) :: starEach es X.env := by rfl) (hpl : (backTo pos (starEach es X.env)).any (·.1) = false := by rfl)
    (ht : eval (.Call (.Attribute o m apos) (e :: es) [] pos) X.env = (do
      let ov ← eval o X.env
      standAt apos.atName
      let (f, first) ← holding [ov] (getMethod ov m pl)
      callWith pos f first (backTo pos (starEach (e :: es) X.env)) (backToKw pos (keywordEach [] X.env))) := by rfl) : EvX C Z X W ss (.Call (.Attribute o m apos) (e :: es) [] pos) (r.map backR) := fun σ F H Q he hq pins s I => by
  obtain ⟨n, f, fd, ps, sp, hr, FO, cl, hm, hb, hs⟩ := hc
  refine (pe_meth (E := fun cls d H => ∃ c, cls = C.ex c ∧ d = none ∧ W c H) (dvs := []) (ds := []) pe_w cl hm FO hr hb .nil (L2N.passes_call tk fun _ _ _ _ h => h) pa_w hst hpl ht).run pins s σ H Q I ?_
  refine ho σ F H _ he fun v F1 H1 e1 q1 => ?_
  cases q1 with
  | obj hp hn hr0 =>
    refine ⟨_, _, _, rfl, hp, ?_, ?_⟩
    · cases h : List.lookup m _ with
      | none => rfl
      | some v =>
        have q := PySem.mem_of_lookup h
        exact absurd (hn ▸ List.mem_map.mpr ⟨(m, v), q, rfl⟩) hno
    · refine ha σ F1 H1 _ (he.ext e1) fun vs F2 H2 e2 q2 => ?_
      rw [List.append_nil]
      refine hs _ _ _ _ ⟨.cons (.obj (e2.hh _ _ hp) hn (hr0.mono e2.hh (.of e2.hh))) q2, ?_⟩
      have ex := e1.trans e2
      cases r with
      | ok rm =>
        intro v H3 h3 q3
        obtain ⟨F3, e3, q4⟩ := okc_back ((he.ext ex).zf.trans ex.fh) ex.fh h3 q3
        exact hq v F3 H3 (ex.trans e3) (RM.ok_old ex.hh q4)
      | exc c =>
        intro H3 h3
        exact ⟨c, rfl, rfl, hq H3 (((he.ext ex).zf.trans ex.fh).trans h3)⟩
      | bad => exact hq.elim
theorem EvX.meth0 {m : Str} {cn : Nat} {d0 : List D} {r : Res RM} {pl : Sem Bool} (tk : L2N.Takes X (WXc C W)) (k : Cok C X N P G) (hc : Met X.prog X.w X.K X.mg X.base X.A C cn m [.obj cn d0] r) (hno : m ∉ C.fn cn) (ho : Ev C Z X ss o (.cur (.obj cn d0)))
    (ht : eval (.Call (.Attribute o m apos) [] [] pos) X.env = (do
      let ov ← eval o X.env
      standAt apos.atName
      let (f, first) ← holding [ov] (getMethod ov m pl)
      callWith pos f first (backTo pos (starEach [] X.env)) (backToKw pos (keywordEach [] X.env))) := by rfl) : EvX C Z X W ss (.Call (.Attribute o m apos) [] [] pos) (r.map backR) := fun σ F H Q he hq pins s I => by
  obtain ⟨n, f, fd, ps, sp, hr, FO, cl, hm, hb, hs⟩ := hc
  refine (pe_meth0 (E := fun cls d H => ∃ c, cls = C.ex c ∧ d = none ∧ W c H) (dvs := []) (ds := []) pe_w cl hm FO hr hb .nil (L2N.passes_call tk fun _ _ _ _ h => h) ht).run pins s σ H Q I ?_
  refine ho σ F H _ he fun v F1 H1 e1 q1 => ?_
  cases q1 with
  | obj hp hn hr0 =>
    refine ⟨_, _, _, rfl, hp, ?_, ?_⟩
    · cases h : List.lookup m _ with
      | none => rfl
      | some v =>
        have q := PySem.mem_of_lookup h
        exact absurd (hn ▸ List.mem_map.mpr ⟨(m, v), q, rfl⟩) hno
    · refine hs _ _ _ _ ⟨.cons (.obj hp hn hr0) .nil, ?_⟩
      cases r with
      | ok rm =>
        intro v H3 h3 q3
        obtain ⟨F3, e3, q4⟩ := okc_back ((he.ext e1).zf.trans e1.fh) e1.fh h3 q3
        exact hq v F3 H3 (e1.trans e3) (RM.ok_old e1.hh q4)
      | exc c =>
        intro H3 h3
        exact ⟨c, rfl, rfl, hq H3 (((he.ext e1).zf.trans e1.fh).trans h3)⟩
      | bad => exact hq.elim
/-- where nothing is raised, W is at will -/
theorem takes_any : L2N.Takes X (WXc C fun _ _ => False) := fun u s' ⟨_, _, _, _, _, _, _, _, _, _, _, _, _, _, _, _, _, _, _, f⟩ => f.elim
theorem Ev.meth {m : Str} {cn : Nat} {d0 : List D} {ds : List D} {rm : RM} {pl : Sem Bool} (k : Cok C X N P G) (hc : Met X.prog X.w X.K X.mg X.base X.A C cn m (.obj cn d0 :: ds) (.ok rm)) (hno : m ∉ C.fn cn) (ho : Ev C Z X ss o (.cur (.obj cn d0))) (ha : Ea C Z X ss (e :: es) ds)
    (hst : starEach (e :: es) X.env = (false, eval e X.env) :: starEach es X.env := by rfl) (hpl : (backTo pos (starEach es X.env)).any (·.1) = false := by rfl)
    (ht : eval (.Call (.Attribute o m apos) (e :: es) [] pos) X.env = (do
      let ov ← eval o X.env
      standAt apos.atName
      let (f, first) ← holding [ov] (getMethod ov m pl)
      callWith pos f first (backTo pos (starEach (e :: es) X.env)) (backToKw pos (keywordEach [] X.env))) := by rfl) : Ev C Z X ss (.Call (.Attribute o m apos) (e :: es) [] pos) (backR rm) :=
  (EvX.meth (W := fun _ _ => False) (r := .ok rm) takes_any k hc hno ho ha hst hpl ht).ev
theorem Ev.meth0 {m : Str} {cn : Nat} {d0 : List D} {rm : RM} {pl : Sem Bool} (k : Cok C X N P G) (hc : Met X.prog X.w X.K X.mg X.base X.A C cn m [.obj cn d0] (.ok rm)) (hno : m ∉ C.fn cn) (ho : Ev C Z X ss o (.cur (.obj cn d0)))
    (ht : eval (.Call (.Attribute o m apos) [] [] pos) X.env = (do
      let ov ← eval o X.env
      standAt apos.atName
      let (f, first) ← holding [ov] (getMethod ov m pl)
      callWith pos f first (backTo pos (starEach [] X.env)) (backToKw pos (keywordEach [] X.env))) := by rfl) : Ev C Z X ss (.Call (.Attribute o m apos) [] [] pos) (backR rm) :=
  (EvX.meth0 (W := fun _ _ => False) (r := .ok rm) takes_any k hc hno ho ht).ev
/-- a part that may raise, then a step on its value -/
theorem EvX.one {f : V → Hp → VK → Prop} {r : Res RM} (ha : EvX C Z X W ss a r) {e : Expr} (hp : PE X e (fun σ H Q => wE X a σ H fun x H1 => f x H1 Q)) (g : RM → RM)
    (hr : ∀ (ra : RM), r = .ok ra → ∀ (x : V) (F H : Hp) (H0 : Hp) (Q : VK), Same F H → ra.ok C Z H0 x F H → (∀ v F' H', Ext F H F' H' → (g ra).ok C Z H v F' H' → Q v H') → f x H Q) : EvX C Z X W ss e (r.map g) := fun σ F H Q he hq pins s I => by
  refine hp.run pins s σ H Q I ?_
  refine ha σ F H _ he ?_
  cases r with
  | ok ra => exact fun x F1 H1 e1 q1 => hr ra rfl x F1 H1 H Q e1.fh q1 fun v F' H' e3 q3 => hq v F' H' (e1.trans e3) (RM.ok_old e1.hh q3)
  | exc c => exact hq
  | bad => exact hq
/-- the second of two may raise -/
theorem EvX.two {f : V → V → Hp → VK → Prop} {r : Res RM} (ha : Ev C Z X ss a ra) (hb : EvX C Z X W ss b r) {e : Expr} (hp : PE X e (tOp f (wE X a) (wE X b))) (g : RM → RM)
    (hr : ∀ (rb : RM), r = .ok rb → ∀ (x y : V) (F H : Hp) (H0 : Hp) (Q : VK), Same F H → ra.ok C Z H0 x F H → rb.ok C Z H0 y F H → (∀ v F' H', Ext F H F' H' → (g rb).ok C Z H v F' H' → Q v H') → f x y H Q) : EvX C Z X W ss e (r.map g) := fun σ F H Q he hq pins s I => by
  refine hp.run pins s σ H Q I ?_
  refine ha σ F H _ he fun x F1 H1 e1 q1 => ?_
  refine hb σ F1 H1 _ (he.ext e1) ?_
  cases r with
  | ok rb => exact fun y F2 H2 e2 q2 => hr rb rfl x y F2 H2 H Q e2.fh (RM.ok_ext e2 q1) (RM.ok_old e1.hh q2) fun v F' H' e3 q3 => hq v F' H' ((e1.trans e2).trans e3) (RM.ok_old (e1.trans e2).hh q3)
  | exc c => exact hq
  | bad => exact hq
/-! statements with such calls -/
theorem PostE.of {α : Type} {r : Res α} {m : α → RM} {k : α → Fl S R} {F H : Hp} {D : Ends} {Q : VK} (hp : Post C Z W ES ER F H D (Fl.run r k)) (h : ∀ a, r = .ok a → ∀ v F' H', Ext F H F' H' → (m a).ok C Z H v F' H' → Q v H') : PostE C Z W F H Q (r.map m) := by
  cases r with
  | ok a => exact h a rfl
  | exc c => exact hp
  | bad => exact hp
/-- x = e, e may raise -/
theorem Sts.asgX {α : Type} {x : Str} {f : α → O} {r : Res α} {m : α → RM} {g : α → Fl S R} {i : Nat} (k : Cok C X N P G) (d : Dok X N P) (he : EvX C Z X W ss e (r.map m)) (hm : ∀ a, m a = rmO (f a)) (hl : i < ss.length) (h : ∀ a, r = .ok a → Sts C Z X W (ss.set i (some (f a))) sts ES ER (g a)) (hi : N[i]? = some x := by rfl) (hpi : P i = true := by rfl)
    (hs : swapsWith e (some (.Name x p)) spos.line X.env = pure false := by rfl) : Sts C Z X W ss (.Assign [.Name x p] e spos :: sts) ES ER (Fl.run r g) :=
  Sts.step (ps_set (i := i) (by rw [k.hN]; exact k.nd) (by rw [k.hN]; exact hi) (d.loc i x hpi hi) pe_w hs (.inl (d.fn x))) fun σ F H D en hp => by
    refine he σ F H _ en (PostE.of hp fun a ha v F1 H1 e1 q1 => ?_)
    rw [hm] at q1
    subst ha
    exact (sts_iff.mp (h a rfl)) _ F1 H1 D (en.putN e1 hl q1) (Post.mono e1.gr hp)
theorem Sts.exprX {α : Type} {r : Res α} {m : α → RM} {g : α → Fl S R} (he : EvX C Z X W ss e (r.map m)) (h : ∀ a, r = .ok a → Sts C Z X W ss sts ES ER (g a)) (hs : swapsWith e none spos.line X.env = pure false := by rfl) : Sts C Z X W ss (.Expr e spos :: sts) ES ER (Fl.run r g) :=
  Sts.step (ps_expr pe_w hs) fun σ F H D en hp => by
    refine he σ F H _ en (PostE.of hp fun a ha v F1 H1 e1 q1 => ?_)
    subst ha
    exact (sts_iff.mp (h a rfl)) _ F1 H1 D (en.ext e1) (Post.mono e1.gr hp)
theorem Sts.retX {r : Res R} (he : EvX C Z X W ss e (r.map ER)) : Sts C Z X W ss (.Return (some e) spos :: sts) ES ER (Fl.run r fun a => .rt a) :=
  Sts.step (ps_ret pe_w) fun σ F H D en hp => by
    refine he σ F H _ en (PostE.of hp fun a ha v F1 H1 e1 q1 => ?_)
    subst ha
    exact hp v F1 H1 e1.gr e1.fh (RM.ok_old (en.zf.trans en.fh) q1)
/-- an exception of the text -/
structure Exn (C : Cf) (K : PySem.W.Frag) (mg : Str → Option Value) (x : Str) (c : Nat) : Prop where
  ex : ∃ a, C.ex c = .ref a ∧ mg x = some (.ref a) ∧ PySem.W.excIn K a [.type "ValueError", .type "Exception", .type "BaseException", .type "object"] "ValueError.__new__" = true ∧ PySem.W.keepIn K (.ref a) = true ∧
    PySem.W.subIn K (.ref a) (.type "BaseException") = some true ∧ PySem.W.typeIn K (.ref a) = some (.type "type")
theorem Sts.raise {x m : Str} {c j : Nat} (tk : L2N.Takes X (WXc C W)) (k : Cok C X N P G) (i : Nat) (hx : Exn C X.K X.mg x c) (hi : G[i]? = some x := by rfl) : Sts C Z X W ss (.Raise (some (.Call (.Name x p) [.Constant (.str m) j p2] [] pos)) none spos :: sts) ES ER (.exc c) := by
  obtain ⟨a, e1, e2, e3, e4, e5, e6⟩ := hx.ex
  exact Sts.step (L2N.ps_raise k.calm tk (L2N.pmk_own PySem.F.excBase_ValueError e3 e2 e4 (raises_own e5 e6) (k.gl i x hi).1 (k.gl i x hi).2.1)) fun σ F H D en hp => ⟨c, e1.symm, rfl, hp H (en.zf.trans en.fh)⟩
end

/-! ### a def by its body -/
/-- a look at a def's names -/
def defB (N G : List Str) (sc : Scope) : Bool :=
  (N.all fun x => (match sc.names.lookup x with
      | some .local => true
      | some .cell => true
      | _ => false) && !(x == ("__debug__" : Str)) && !(x == ("__classdict__" : Str))) &&
  G.all fun x => (match sc.names.lookup x with
      | some .globalImplicit => true
      | _ => false) && !(x == ("__debug__" : Str)) && !decide (x = "__name__")
def start0 (ds : List D) (n : Nat) : En := ds.map (fun d => some (.fz d)) ++ List.replicate (n - ds.length) none
theorem slots_start {C : Cf} {H : Hp} : ∀ {ds : List D} {vs : List V} (n : Nat), Rps C H H ds vs → Slots C H H H (ds.map (fun d => some (.fz d)) ++ List.replicate n none) (vs.map some ++ List.replicate n none) []
  | [], _, 0, h => by cases h; exact .nil
  | [], _, n + 1, h => by
    cases h
    exact .non (slots_start (ds := []) (vs := []) n .nil)
  | d :: ds, _, n, h => by
    cases h with
    | cons a b => exact .som (f1 := []) (f2 := []) (.fz a) (slots_start n b)
/-- what a caller gets: all of it is new, or flat, or just told -/
def RetOk : RM → Prop
  | .new o => Full o
  | .itm _ => False
  | .pins _ _ => False
  | .frz d => Flat d
  | _ => True
section
variable {P : Program} {w : World} {K : PySem.W.Frag} {mg : Str → Option Value} {base : Heap} {C : Cf}
theorem fn_walk {st : Stmt} {x qual : Str} {f : Addr} {fd : FuncData} {N ps G : List Str} {k : Nat} {ι R : Type} {ds : ι → List D} {o : ι → Fl Unit R} {un : Option R} {ER : ι → R → RM} (F : Fun K x qual st f fd) (S : FnScope N ps (defScope st)) (m : Nat) (B : defB (N.take m) G (defScope st) = true)
    (hK : C.K = K) (bt : Bt mg) (hl : ∀ i, (ds i).length = ps.length) (fu : ∀ i r, RetOk (ER i r)) (hun : ∀ i r, un = some r → ER i r = .frz dN)
    (body : ∀ (X : Cx) (Z : Hp) (W : Nat → Hp → Prop), X.prog = P → X.w = w → X.K = K → X.mg = mg → X.base = base → X.env.scope = defScope st → Cok C X N (fun i => Nat.blt i m) G → Dok X N (fun i => Nat.blt i m) → Room k X.A → L2N.Takes X (WXc C W) → X.stack = X.env :: X.outer → X.env.frame = some X.env.locals → ∀ i, Sts C Z X W (start0 (ds i) N.length) (defBody st) (fun _ => (List.replicate N.length none : En)) (ER i) (o i)) :
    FnOk P w K mg base (L2N.CX P w) (k + 1) f fd ps (fun vs H Q E => ∃ i, spM C (ds i) (((o i).res un).map (ER i)) vs H Q E) := by
  obtain ⟨oc, od, kV, doc, pm, an, cdv, ct, osl, rfl, lk, hcd⟩ := F.ex
  refine fn_of lk hcd S (fun vs H Q E h => ?_) fun A outer s H vs Q E hr hsp => ?_
  · obtain ⟨i, h, _⟩ := h
    rw [← h.length]
    exact hl i
  · obtain ⟨i, hv, hq⟩ := hsp
    refine ⟨_, pss_w, ?_⟩
    unfold defB at B
    rw [Bool.and_eq_true, List.all_eq_true, List.all_eq_true] at B
    obtain ⟨B1, B2⟩ := B
    have nm : ∀ (j : Nat) x, Nat.blt j m = true → N[j]? = some x → (Loc (defScope st) x) ∧ (x == ("__debug__" : Str)) = false ∧ (x == ("__classdict__" : Str)) = false := fun j x hj hx => by
      have q := B1 x (List.mem_of_getElem? (i := j) (by rw [List.getElem?_take, if_pos (Nat.blt_eq.mp hj)]; exact hx))
      simp only [Bool.and_eq_true, Bool.not_eq_true'] at q
      obtain ⟨⟨q1, q2⟩, q3⟩ := q
      refine ⟨?_, q2, q3⟩
      split at q1
      · exact .inl (by assumption)
      · exact .inr (by assumption)
      · cases q1
    have ck : Cok C (cxOf (L2N.CX P w) P w K mg base N qual (defScope st) f cdv A outer s H E) N (fun i => Nat.blt i m) G := by
      refine ⟨hK.symm, rfl, S.nd, fun j x hj hx => ?_, fun j x hx => ?_, rfl, hr.units, bt, Nat.lt_of_le_of_lt (Nat.le_trans (Nat.add_le_add_left (by decide : 65 ≤ 200) _) (Nat.add_le_add_right (Nat.le_add_right _ _) 200)) hr.un⟩
      · obtain ⟨h1, h2, h3⟩ := nm j x hj hx
        exact ⟨h1.elim .inl fun z => .inr (.inl z), h2, h3⟩
      · have q := B2 x (List.mem_of_getElem? hx)
        simp only [Bool.and_eq_true, Bool.not_eq_true', decide_eq_false_iff_not] at q
        obtain ⟨⟨q1, q2⟩, q3⟩ := q
        refine ⟨?_, q2, q3⟩
        split at q1
        · assumption
        · cases q1
    have dk : Dok (cxOf (L2N.CX P w) P w K mg base N qual (defScope st) f cdv A outer s H E) N (fun i => Nat.blt i m) := ⟨fun j x hj hx => (nm j x hj hx).1, fun _ => rfl, passes_of (K := fun e s'' => L2N.CX P w outer H s E e s'') rfl⟩
    have tk : L2N.Takes (cxOf (L2N.CX P w) P w K mg base N qual (defScope st) f cdv A outer s H E) (WXc C fun c H' => E (C.ex c) none H') :=
      L2N.Takes.imp (L2N.takes_of rfl rfl rfl rfl) fun cls d σ H' h => by
        obtain ⟨c, rfl, rfl, h⟩ := h
        exact h
    have en : EnvOk C H (start0 (ds i) N.length) H H (start N vs) := by
      refine ⟨Same.refl H, Same.refl H, [], ?_, List.nodup_nil⟩
      unfold start0 L2.start
      rw [← hv.length]
      exact slots_start _ hv
    refine (sts_iff.mp (body _ H (fun c H' => E (C.ex c) none H') rfl rfl rfl rfl rfl rfl ck dk hr tk rfl rfl i)) (start N vs) H H _ en ?_
    cases ho : o i with
    | nx u =>
      rw [ho] at hq
      intro σ' F' H' g e
      show Q .non H'
      cases un with
      | none => exact hq.elim
      | some r =>
        have hq' : ∀ v H', Same H H' → okc C H v H' (ER i r) → Q v H' := hq
        refine hq' .non H' (e.zf.trans e.fh) ?_
        rw [hun i r rfl]
        exact Rp.sc
    | rt r =>
      rw [ho] at hq
      intro v F' H' g s' q
      have hq' : ∀ v H', Same H H' → okc C H v H' (ER i r) → Q v H' := hq
      refine hq' v H' (g.ff.trans s') (okc_of g.ff s' ?_ q)
      have z := fu i r
      cases h : ER i r with
      | new o => rw [h] at z; exact z
      | itm o => rw [h] at z; exact z
      | pins d ls => rw [h] at z; exact z
      | frz o => rw [h] at z; exact z
      | cur o => trivial
      | nrz o => trivial
    | exc c =>
      rw [ho] at hq
      exact fun H' s' => hq H' s'
    | bad =>
      rw [ho] at hq
      exact hq.elim
/-- a def of the module, by what it comes to -/
def Cld (P : Program) (w : World) (K : PySem.W.Frag) (mg : Str → Option Value) (base : Heap) (k : Nat) (x : Str) (sp : Sp) : Prop :=
  ∃ (f : Addr) (fd : FuncData) (ps : List Str), FnOk P w K mg base (L2N.CX P w) k f fd ps sp ∧ mg x = some (.ref f) ∧ PySem.W.keepIn K (.ref f) = true ∧ Binds K fd ps []
theorem Cld.cal {j k : Nat} {x : Str} {sp : Sp} {A : Around} {ds : List D} {r : Res RM} (h : Cld P w K mg base j x sp) (hr : Room k A) (hj : j ≤ k) (hs : ∀ vs H Q E, spM C ds r vs H Q E → sp vs H Q E) : Cal P w K mg base A C x ds r := by
  obtain ⟨f, fd, ps, h1, h2, h3, h4⟩ := h
  exact ⟨j, f, fd, ps, sp, hr.mono hj, h1, h2, h3, h4, hs⟩
/-- a method of the class c -/
def Mtd (C : Cf) (P : Program) (w : World) (K : PySem.W.Frag) (mg : Str → Option Value) (base : Heap) (k : Nat) (c : Nat) (x : Str) (sp : Sp) : Prop :=
  ∃ (f : Addr) (fd : FuncData) (ps : List Str), FnOk P w K mg base (L2N.CX P w) k f fd ps sp ∧ Cls K (C.cl c) ∧ Meth K (C.cl c) x f ∧ Binds K fd ps []
theorem Mtd.met {j k c : Nat} {x : Str} {sp : Sp} {A : Around} {ds : List D} {r : Res RM} (h : Mtd C P w K mg base j c x sp) (hr : Room k A) (hj : j ≤ k) (hs : ∀ vs H Q E, spM C ds r vs H Q E → sp vs H Q E) : Met P w K mg base A C c x ds r := by
  obtain ⟨f, fd, ps, h1, h2, h3, h4⟩ := h
  exact ⟨j, f, fd, ps, sp, hr.mono hj, h1, h2, h3, h4, hs⟩
end
end VL

set_option Elab.async false
set_option linter.all false
set_option maxRecDepth 100000
set_option maxHeartbeats 4000000
/-! VL9: what the generator of the walks leans on. -/
namespace VL
open PySem PySem.Spec PyProof.Rows L2

/-- a name for a value -/
def Fl.lt {S R α : Type} (v : α) (k : α → Fl S R) : Fl S R := k v
def andO (a : Bool) (o : Option Bool) : Option Bool := if a = true then o else some false
def orO (a : Bool) (o : Option Bool) : Option Bool := if a = true then some true else o
theorem ite_some {α : Type} {p : Prop} [Decidable p] {o : Option α} {a : α} : (if p then o else none) = some a ↔ p ∧ o = some a := by
  by_cases h : p
  · rw [if_pos h]; exact ⟨fun q => ⟨h, q⟩, fun q => q.2⟩
  · rw [if_neg h]; exact ⟨fun q => (nomatch q), fun q => absurd q.1 h⟩
def repL {α : Type} (k : Nat) (xs : List α) : List α := (List.replicate k xs).flatten
theorem rep_map {α : Type} {f : α → O} {xs : List α} (k : Nat) : RM.new (.lst (List.replicate (k : Int).toNat (xs.map f)).flatten) = .new (oL f (repL k xs)) := by
  unfold oL repL
  rw [Int.toNat_natCast]
  congr 2
  induction k with
  | zero => rfl
  | succ k ih => rw [List.replicate_succ, List.replicate_succ, List.flatten_cons, List.flatten_cons, List.map_append, ih]
def dU (_ : Unit) : D := dN
theorem Fl.ex_lt {S R α : Type} {v : α} {k : α → Fl S R} (h : ∀ a, (k a).Ex) : (Fl.lt v k).Ex := h v
/-- a side condition in an expression -/
noncomputable def ifO {α : Type} (p : Prop) (o : Option α) : Option α := @ite _ p (Classical.propDecidable p) o none
theorem ifO_some {α : Type} {p : Prop} {o : Option α} {a : α} : ifO p o = some a ↔ p ∧ o = some a := by
  exact @ite_some α p (Classical.propDecidable p) o a
theorem ifO_pos {α : Type} {p : Prop} {o : Option α} (h : p) : ifO p o = o := by
  unfold ifO
  rw [if_pos h]
/-- where a list of ints has k -/
def idxI (xs : List Int) (k : Int) : Option Int := if k ∈ xs then some (xs.idxOf k : Int) else none

section
variable {C : Cf} {Z : Hp} {X : Cx} {N G : List Str} {P : Nat → Bool} {ss ss' : En} {a b c e e2 tg iter elt o : Expr} {rest es : List Expr} {pos p p2 apos : Pos} {ra rb rz rm : RM} {α β γ : Type} {z q : Bool}
variable {W : Nat → Hp → Prop} {S S' R : Type} {ES : S → En} {ES' : S' → En} {ER : R → RM} {st : Stmt} {blk sts A B : List Stmt} {fl : Fl S R} {spos : Pos}
theorem Sts.lt {v : α} {k : α → Fl S R} (h : ∀ x, x = v → Sts C Z X W ss blk ES ER (k x)) : Sts C Z X W ss blk ES ER (Fl.lt v k) := h v rfl
theorem Sts.asgL {x : Str} {v : α} (f : α → O) {fl : α → Fl S R} {i : Nat} (k : Cok C X N P G) (d : Dok X N P) (he : Ev C Z X ss e (rmO (f v))) (hl : i < ss.length) (h : ∀ y, y = v → Sts C Z X W (ss.set i (some (f y))) sts ES ER (fl y)) (hi : N[i]? = some x := by rfl) (hpi : P i = true := by rfl) (hs : swapsWith e (some (.Name x p)) spos.line X.env = pure false := by rfl) :
    Sts C Z X W ss (.Assign [.Name x p] e spos :: sts) ES ER (Fl.lt v fl) := Sts.asg k d he hl (h v rfl) hi hpi hs
theorem Cw.andO {w : Option Bool} {r : Bool} (h : Cb C Z X ss a z) (k : z = true → ∀ q, w = some q → Cw C Z X ss (.BoolOp .And (b :: rest) pos) q) (e : andO z w = some r) : Cw C Z X ss (.BoolOp .And (a :: b :: rest) pos) r := by
  cases z with
  | true =>
    have := Cw.and_ h fun _ => k rfl r (by unfold VL.andO at e; rw [if_pos rfl] at e; exact e)
    exact this
  | false =>
    unfold VL.andO at e
    rw [if_neg Bool.false_ne_true] at e
    cases e
    exact Cw.and_ (q := false) h fun q => nomatch q
theorem Cw.orO {w : Option Bool} {r : Bool} (h : Cb C Z X ss a z) (k : z = false → ∀ q, w = some q → Cw C Z X ss (.BoolOp .Or (b :: rest) pos) q) (e : orO z w = some r) : Cw C Z X ss (.BoolOp .Or (a :: b :: rest) pos) r := by
  cases z with
  | true =>
    unfold VL.orO at e
    rw [if_pos rfl] at e
    cases e
    exact Cw.or_ (q := true) h fun q => nomatch q
  | false =>
    unfold VL.orO at e
    rw [if_neg Bool.false_ne_true] at e
    exact Cw.or_ h fun _ => k rfl r e
theorem cal_ok {P : Program} {w : World} {K : PySem.W.Frag} {mg : Str → Option Value} {base : Heap} {A : Around} {x : Str} {ds : List D} {r : Res α} {m : α → RM} {y : α} (h : Cal P w K mg base A C x ds (r.map m)) (e : r.get = some y) : Cal P w K mg base A C x ds (.ok (m y)) := by
  rw [Res.get_ok e] at h
  exact h
theorem met_ok {P : Program} {w : World} {K : PySem.W.Frag} {mg : Str → Option Value} {base : Heap} {A : Around} {x : Str} {cn : Nat} {ds : List D} {r : Res α} {m : α → RM} {y : α} (h : Met P w K mg base A C cn x ds (r.map m)) (e : r.get = some y) : Met P w K mg base A C cn x ds (.ok (m y)) := by
  rw [Res.get_ok e] at h
  exact h
theorem blk_ok {scope sc : Scope} {own : List (Str × Nat)} (k : Cok C X N P G) (hsc : X.env.scope = sc) (h : BlkOk N sc scope own) : BlkOk X.N X.env.scope scope own := by
  rw [k.hN, hsc]
  exact h
/-- the item of an owned list, made here -/
theorem Ev.ixin {os : List O} {i : Int} {d : D} (hd : atI os i = some (.nz d)) (ha : Ev C Z X ss a (.itm os)) (hb : Ev C Z X ss b (.frz (dI i))) (hs : PlainIx b := by intro _ _; rfl) : Ev C Z X ss (.Subscript a b pos) (.nrz d) :=
  Ev.two ha hb (pe_ix ix_list pe_w pe_w hs) fun x y F H H0 Q s h1 h2 hq => by
    cases h2
    obtain ⟨p, vs, rfl, hp, hr⟩ := h1
    unfold atI at hd
    obtain ⟨j, hj, hd⟩ := Option.bind_eq_some_iff.mp hd
    obtain ⟨v, hv, rv⟩ := hr.get hd
    refine ⟨_, _, i, v, rfl, rfl, .of hp, ?_, ?_⟩
    · unfold atI
      rw [← hr.length, hj]
      exact hv
    · cases rv with
      | nz r => exact hq v F H (Ext.refl s) r
/-- xs.count(k) -/
theorem Ev.count {xs : List Int} {i : Int} (ho : Ev C Z X ss o (.cur (dL dI xs))) (he : Ev C Z X ss e (.frz (dI i))) (hfew : ((backTo pos (starEach [e] X.env)).all (fun x => !x.1) && (backToKw pos (keywordEach [] X.env)).all (fun x => x.1.isSome) && decide ([e].length + ([] : List Keyword).length + (if ([] : List Keyword).isEmpty then 0 else 1) < 30)) = true := by rfl)
    (hline : (apos.endLine == pos.line) = true := by rfl) (hst : starEach [e] X.env = (false, eval e X.env) :: starEach [] X.env := by rfl) (hbase : attributeBase o "count" X.env (eval o X.env) = eval o X.env := by rfl) :
    Ev C Z X ss (.Call (.Attribute o "count" apos) [e] [] pos) (.frz (dI (xs.count i : Nat))) := fun σ F H Q en hq pins s I =>
  (pe_bm PySem.F.plainAttrs_list PySem.F.slot_list_count PySem.F.type_list_count mt_lcount pe_w (pa_cons pe_w pa_nil hst) hbase hfew hline hst rfl).run pins s σ H Q I (by
    refine ho σ F H _ en fun v F1 H1 e1 q1 => ?_
    obtain ⟨l, rfl, hp⟩ := dI_list q1
    refine ⟨.inl ⟨rfl, _, .of hp⟩, ?_⟩
    refine he σ F1 H1 _ (en.ext e1) fun u F2 H2 e2 q2 => ?_
    cases q2
    exact ⟨l, xs, i, rfl, rfl, .of (e2.hh _ _ hp), hq _ F2 H2 (e1.trans e2) .sc⟩)
theorem firstMet_le (val : Nat → Int) (n : Nat) : (firstMet val n).length ≤ n := PyProof.Rows.firstMet_length_le val n
/-- len(set(xs)) -/
theorem Ev.lenset {xs : List Int} (hz : xs.length + 1 < scanBound) (k : Cok C X N P G) (i j : Nat) (ha : Ev C Z X ss a (.cur (dL dI xs))) (hi : G[i]? = some ("len" : Str) := by rfl) (hj : G[j]? = some ("set" : Str) := by rfl) {p2 q : Pos}
    (na : starEach [a] X.env = (false, eval a X.env) :: starEach [] X.env := by rfl) : Ev C Z X ss (.Call (.Name "len" p) [.Call (.Name "set" p2) [a] [] q] [] pos) (.frz (dI (ndist xs : Nat))) := fun σ F H Q en hq pins s I => by
  refine Call_ (ld_blt I (k.gl i _ hi).1 k.bt.len PySem.boot_len ?_)
  refine PyProof.Rows.callWith_builtin1 (PyProof.Rows.args_cons ?_ rfl) rfl rfl
  refine Call_ (ld_blt I (k.gl j _ hj).1 k.bt.set PyProof.Rows.boot_set ?_)
  refine PyProof.Rows.callWith_type1 (PyProof.Rows.args_cons (thn (ha σ F H _ en (fun v F1 H1 e1 q1 => ⟨F1, e1, q1⟩ : ∀ v F' H', Ext F H F' H' → _ → (fun v H' => ∃ F', Ext F H F' H' ∧ Rp C H' H' (dL dI xs) v) v H') pins s I) fun v s1 ⟨x, H1, I1, r1, q1⟩ => PyProof.Rows.args_nil ?_) na) na rfl
  obtain ⟨F1, e1, q1⟩ := q1
  obtain ⟨l, rfl, hp⟩ := dI_list q1
  cases r1
  obtain ⟨its, r, pl, hlen⟩ := I1.list (SqL.of hp)
  have hl : its.toArray.size = xs.length := by rw [List.size_toArray, ← r.length, List.length_map]
  refine call_set_list (I1.ok.hd k.calm) pl.isList (ns := xs) (by simpa using r.ints) (by rw [hl]; exact hz) fun h' tk hS hk => ?_
  rw [hl] at hS
  refine PyProof.Rows.args_nil ?_
  obtain ⟨o, es, ep, t, ho, hex, hd, _, _, _, hf, hn⟩ := hS
  have I2 : Inv X pins σ H1 { s1 with heap := h', toks := tk } := I1.kept fun b o e => hk b o (Heap.lt_size e) e
  have hle := firstMet_le (fun i => xs.getD i 0) xs.length
  refine call_len_set ho hex hd hf (by rw [hn]; unfold scanBound at hz; omega) ⟨.int (ndist xs : Nat), H1, I2.tok _, ⟨_, by rw [hn]; rfl⟩, hq _ F1 H1 e1 .sc⟩
end
end VL

set_option Elab.async false
set_option linter.all false
set_option maxRecDepth 100000
set_option maxHeartbeats 4000000
/-! VL10: objects made; the classes of the text. -/
namespace VL
open PySem PySem.Spec PyProof.Rows L2

/-- the promise of an __init__ that stores its parameters -/
def spIn (C : Cf) (c n : Nat) : Sp := fun vs H Q _ => ∃ (p dx : Addr) (us : List V), vs = .ref p :: us ∧ us.length = n ∧ H p = some (.ins (C.cl c) dx []) ∧ Q .non (upd H p (.ins (C.cl c) dx ((C.fn c).zip us)))
def Mkd (C : Cf) (P : Program) (w : World) (K : PySem.W.Frag) (mg : Str → Option Value) (base : Heap) (A : Around) (x : Str) (c n : Nat) : Prop :=
  ∃ (k : Nat) (f : Addr) (fd : FuncData) (ps : List Str), Mk K (C.cl c) f ∧ FnOk P w K mg base (L2N.CX P w) k f fd ps (spIn C c n) ∧ Room (k + 1) A ∧ mg x = some (.ref (C.cl c)) ∧ Binds K fd ps [] ∧ (C.fn c).length = n
theorem ext_new {F H : Hp} {p : Addr} {o : HO} (s : Same F H) (hp : H p = none) : Ext F H F (upd H p o) := Ext.heap s fun b o' q => by rw [upd_ne (ne_of_none q hp)]; exact q
theorem upd_upd {H : Hp} {p : Addr} {o o' : HO} : upd (upd H p o) p o' = upd H p o' := by
  funext b
  by_cases e : b = p
  · rw [e, upd_same, upd_same]
  · rw [upd_ne e, upd_ne e, upd_ne e]
section
variable {C : Cf} {Z : Hp} {X : Cx} {N G : List Str} {P : Nat → Bool} {ss ss' : En} {a b c e e2 tg iter elt o : Expr} {rest es : List Expr} {pos p p2 apos : Pos} {ra rb rz rm : RM} {α β γ : Type} {z q : Bool}
theorem Ev.mk {x : Str} {c n : Nat} {os : List O} (k : Cok C X N P G) (i : Nat) (hc : Mkd C X.prog X.w X.K X.mg X.base X.A x c n) (h : Ei C Z X ss (e :: es) os) (hn : os.length = n) (hi : G[i]? = some x := by rfl) (he : starEach (e :: es) X.env = (false, eval e X.env) :: starEach es X.env := by rfl)
    (hpl : (backTo pos (starEach es X.env)).any (·.1) = false := by rfl) : Ev C Z X ss (.Call (.Name x p) (e :: es) [] pos) (.new (.obj c os)) := fun σ F H Q en hq pins s I => by
  obtain ⟨k0, f, fd, ps, M, FO, hr, hm, hb, hfn⟩ := hc
  refine (pe_make (E := fun cls d H => ∃ c, cls = C.ex c ∧ d = none ∧ (fun (_ : Nat) (_ : Hp) => False) c H) (dvs := []) (ds := []) M FO hr (k.gl i x hi).1 hm hb .nil (L2N.passes_call takes_any fun _ _ _ _ h => h) pa_w (k.gl i x hi).2.1 he hpl).run pins s σ H Q I ?_
  refine h σ F H _ en fun vs fp F1 H1 e1 ow fr nd x dx hx hdx ne => ?_
  have x1 : Ext F1 H1 F1 (upd H1 dx (.own x)) := ext_new e1.fh hdx
  have hx2 : upd H1 dx (.own x) x = none := by rw [upd_ne ne.symm]; exact hx
  have l : vs.length = n := by rw [← ow.length]; exact hn
  refine ⟨x, dx, vs, by rw [List.append_nil], l, upd_same, rfl, ?_⟩
  rw [upd_upd]
  have x2 := x1.trans (ext_new (p := x) (o := .ins (C.cl c) dx ((C.fn c).zip vs)) x1.fh hx2)
  have fx : x ∉ fp := fun q => (ow.gone x q).2 hx
  refine hq _ F1 _ (e1.trans x2) ⟨x :: fp, .obj (e1.fh.free hx) upd_same ?_ ?_, fun b q => ?_, List.nodup_cons.mpr ⟨fx, nd⟩⟩
  · rw [List.map_fst_zip (by omega)]
  · rw [List.map_snd_zip (by omega)]
    exact ow.ext x2
  · rcases List.mem_cons.mp q with rfl | q
    · exact e1.hh.free hx
    · exact fr b q
end
section
variable {P : Program} {w : World} {K : PySem.W.Frag} {mg : Str → Option Value} {base : Heap} {C : Cf}
theorem putF_new {f : Str} {v : V} : ∀ {fs : List (Str × V)}, f ∉ fs.map (·.1) → putF f v fs = fs ++ [(f, v)]
  | [], _ => rfl
  | (g, w) :: fs, h => by
    simp only [List.map_cons, List.mem_cons, not_or] at h
    unfold putF
    rw [if_neg (fun e => h.1 e.symm), putF_new h.2]
    rfl
/-- def __init__(self, f1, f2): self.f1 = f1; self.f2 = f2 -/
theorem init2 {st : Stmt} {qual : Str} {f : Addr} {fd : FuncData} {f1 f2 : Str} {c : Nat} (F : Fun K "__init__" qual st f fd) (hK : C.K = K) (S : FnScope ["self", f1, f2] ["self", f1, f2] (defScope st)) (cl : Ccl C K c) (hfn : C.fn c = [f1, f2]) {q1 q2 q3 q4 q5 q6 q7 q8 : Pos}
    (hb : defBody st = [.Assign [.Attribute (.Name "self" q1) f1 q2] (.Name f1 q3) q4, .Assign [.Attribute (.Name "self" q5) f2 q6] (.Name f2 q7) q8])
    (v0 : (defScope st).names.lookup ("self" : Str) = some .local) (v1 : (defScope st).names.lookup f1 = some .local) (v2 : (defScope st).names.lookup f2 = some .local) (d1 : (f1 == ("__debug__" : Str)) = false ∧ (f1 == ("__classdict__" : Str)) = false) (d2 : (f2 == ("__debug__" : Str)) = false ∧ (f2 == ("__classdict__" : Str)) = false) :
    FnOk P w K mg base (L2N.CX P w) 1 f fd ["self", f1, f2] (spIn C c 2) := by
  obtain ⟨oc, od, kV, doc, pm, an, cdv, ct, osl, rfl, lk, hcd⟩ := F.ex
  refine fn_of lk hcd S (fun vs H Q E h => ?_) fun A outer s H vs Q E hr hsp => ?_
  · obtain ⟨p, dx, us, rfl, hl, _⟩ := h
    simp [hl]
  · obtain ⟨p, dx, us, rfl, hl, hp, hq⟩ := hsp
    obtain ⟨u1, u2, rfl⟩ : ∃ u1 u2, us = [u1, u2] := by
      match us, hl with
      | [u1, u2], _ => exact ⟨u1, u2, rfl⟩
    rw [hb]
    refine ⟨_, pss_cons (ps_fld (pv 0 rfl (.inl v0)) (pv 1 rfl (.inl v1) d1.1 d1.2) rfl) (pss_one (ps_fld (pv 0 rfl (.inl v0)) (pv 2 rfl (.inl v2) d2.1 d2.2) rfl)), ?_⟩
    have n1 := (cl.no 0 f1 (by rw [hfn]; rfl)).1
    have n2 := cl.no 1 f2 (by rw [hfn]; rfl)
    have ne : f1 ≠ f2 := fun e => n2.2 0 (by decide) (by rw [hfn, e]; rfl)
    rw [hfn] at hq
    refine ⟨_, rfl, _, rfl, p, C.cl c, dx, [], rfl, hp, cl.cl, n1, (by decide), _, rfl, _, rfl, p, C.cl c, dx, _, rfl, upd_same, cl.cl, n2.1, (by show 1 < 1000; decide), ?_⟩
    rw [upd_upd]
    have e : putF f2 u2 (putF f1 u1 []) = [(f1, u1), (f2, u2)] := by
      rw [putF_new (f := f1) (fs := []) (by simp), putF_new (f := f2) (by simp [ne.symm])]
      rfl
    show Q .non _
    rw [e]
    exact hq
end

/-! ### the web -/
structure Web where
  many : Int
  rows : List (List Int)
def dW (x : Web) : D := .obj 0 [dI x.many, dL (dL dI) x.rows]
def oW (x : Web) : O := .obj 0 [zz dI x.many, oL (oL (zz dI)) x.rows]
theorem er_W (x : Web) : Er (oW x) (dW x) := .obj (.cons (er_z _) (.cons (er_L (er_L er_z) _) .nil))
theorem fu_W (x : Web) : Full (oW x) := .obj (.cons (fu_z (fun _ => Flat.sc) _) (.cons (fu_L (fu_L (fu_z fun _ => Flat.sc)) _) .nil))
end VL

set_option Elab.async false
set_option linter.all false
set_option maxRecDepth 100000
set_option maxHeartbeats 4000000
/-! VL11: the statements by typed data, as the generator writes them. -/
namespace VL
open PySem PySem.Spec PyProof.Rows L2

noncomputable def Fl.app {S R α : Type} (xs : List α) (v : α) (k : List α → Fl S R) : Fl S R := Fl.chk (xs.length < sizeLine) (k (xs ++ [v]))
noncomputable def appI? {α : Type} (xss : List (List α)) (m : Int) (v : α) : Option (List (List α)) := (ixN xss.length m).bind fun n => (xss[n]?).bind fun ys => ifO (ys.length < sizeLine) (some (xss.set n (ys ++ [v])))
noncomputable def setI? {α : Type} (xs : List α) (m : Int) (v : α) : Option (List α) := (ixN xs.length m).bind fun n => ifO (n < xs.length) (some (xs.set n v))
noncomputable def ext? {α : Type} (xs ys : List α) : Option (List α) := ifO (xs.length + ys.length ≤ sizeLine) (some (xs ++ ys))
def leafS : Option O → Bool
  | none => true
  | some (.fz _) => true
  | some (.nz _) => true
  | _ => false
def vOB : Option Bool → V
  | none => .non
  | some b => .bl b
theorem dO_B (o : Option Bool) : dO dB o = .sc (vOB o) := by cases o <;> rfl
theorem flatV_OB (o : Option Bool) : flatV (vOB o) = true := by cases o <;> rfl
section
variable {C : Cf} {Z : Hp} {X : Cx} {N G : List Str} {P : Nat → Bool} {ss ss' : En} {a b c e e2 tg iter elt o : Expr} {rest es : List Expr} {pos p p2 apos : Pos} {ra rb rz rm : RM} {α β γ : Type} {z q : Bool}
variable {W : Nat → Hp → Prop} {S S' R : Type} {ES : S → En} {ES' : S' → En} {ER : R → RM} {st : Stmt} {blk sts A B : List Stmt} {fl : Fl S R} {spos : Pos}
theorem Sts.bad : Sts C Z X W ss blk ES ER (.bad : Fl S R) := fun σ F H D he hp => hp.elim
theorem Sts.appL {x : Str} {f : α → O} {xs : List α} {v : α} {kf : List α → Fl S R} (i : Nat) (k : Cok C X N P G) (he : Ev C Z X ss e (rmO (f v))) (h : ∀ y, y = xs ++ [v] → Sts C Z X W (ss.set i (some (oL f y))) sts ES ER (kf y)) (hi : N[i]? = some x := by rfl) (hs : ss[i]? = some (some (oL f xs)) := by rfl) (hp : P i = true := by rfl)
    (hfew : ((backTo pos (starEach [e] X.env)).all (fun x => !x.1) && (backToKw pos (keywordEach [] X.env)).all (fun x => x.1.isSome) && decide ([e].length + ([] : List Keyword).length + (if ([] : List Keyword).isEmpty then 0 else 1) < 30)) = true := by rfl)
    (hline : (apos.endLine == pos.line) = true := by rfl) (hst : starEach [e] X.env = (false, eval e X.env) :: starEach [] X.env := by rfl) : Sts C Z X W ss (.Expr (.Call (.Attribute (.Name x p) "append" apos) [e] [] pos) spos :: sts) ES ER (Fl.app xs v kf) := by
  unfold Fl.app
  refine Sts.chk fun hz => ?_
  · refine Sts.append (os := xs.map f) i k he (by simpa using hz) ?_ hi hs hp hfew hline hst
    have q := h _ rfl
    unfold oL at q
    rw [List.map_append] at q
    exact q
theorem Sts.appOL {x y : Str} {f : α → O} {xs : List α} {v : α} {kf : List α → Fl S R} (i j : Nat) (k : Cok C X N P G) (hij : i ≠ j) (h : ∀ y, y = xs ++ [v] → Sts C Z X W ((ss.set j none).set i (some (oL f y))) sts ES ER (kf y)) (hi : N[i]? = some x := by rfl) (hj : N[j]? = some y := by rfl) (hs : ss[i]? = some (some (oL f xs)) := by rfl) (hsj : ss[j]? = some (some (f v)) := by rfl) (hp : P i = true := by rfl) (hpj : P j = true := by rfl)
    (hline : (apos.endLine == pos.line) = true := by rfl) : Sts C Z X W ss (.Expr (.Call (.Attribute (.Name x p) "append" apos) [.Name y p2] [] pos) spos :: sts) ES ER (Fl.app xs v kf) := by
  unfold Fl.app
  refine Sts.chk fun hz => ?_
  · refine Sts.appendO (os := xs.map f) i j k hij (by simpa using hz) ?_ hi hj hs hsj hp hpj hline
    have q := h _ rfl
    unfold oL at q
    rw [List.map_append] at q
    exact q
theorem Sts.appIL {x : Str} {f : α → O} {xss : List (List α)} {m : Int} {v : α} {kf : List (List α) → Fl S R} (i : Nat) (k : Cok C X N P G) (hb : Ev C Z X ss b (.frz (dI m))) (lo : ∀ x, Leaf (f x)) (he : Ev C Z X ss e (rmO (f v)))
    (h : ∀ y, appI? xss m v = some y → Sts C Z X W (ss.set i (some (oL (oL f) y))) sts ES ER (kf y)) (hi : N[i]? = some x := by rfl) (hs : ss[i]? = some (some (oL (oL f) xss)) := by rfl) (hp : P i = true := by rfl) (hpl : PlainIx b := by intro _ _; rfl)
    (hfew : ((backTo pos (starEach [e] X.env)).all (fun x => !x.1) && (backToKw pos (keywordEach [] X.env)).all (fun x => x.1.isSome) && decide ([e].length + ([] : List Keyword).length + (if ([] : List Keyword).isEmpty then 0 else 1) < 30)) = true := by rfl)
    (hline : (apos.endLine == pos.line) = true := by rfl) (hst : starEach [e] X.env = (false, eval e X.env) :: starEach [] X.env := by rfl) : Sts C Z X W ss (.Expr (.Call (.Attribute (.Subscript (.Name x p) b p2) "append" apos) [e] [] pos) spos :: sts) ES ER (Fl.req (appI? xss m v) kf) := by
  cases hq : appI? xss m v with
  | none => exact Sts.bad
  | some y =>
    have hq0 := hq
    unfold appI? at hq
    obtain ⟨n, hn, hq⟩ := Option.bind_eq_some_iff.mp hq
    obtain ⟨ys, hy, hq⟩ := Option.bind_eq_some_iff.mp hq
    obtain ⟨hz, hq⟩ := ifO_some.mp hq
    cases hq
    refine Sts.appendI (os := xss.map (oL f)) (ps := ys.map f) (o := f v) (m := m) (n := n) i k (by rw [List.length_map]; exact hn) (by rw [List.getElem?_map, hy]; rfl) hb (lo v) he (by simpa using hz) ?_ hi hs hp hpl hfew hline hst
    have q := h _ hq0
    unfold oL at q
    rw [List.map_set, List.map_append] at q
    exact q
theorem Sts.clearL {x : Str} {f : α → O} {xs : List α} {kf : List α → Fl S R} (i : Nat) (k : Cok C X N P G) (h : ∀ y, y = [] → Sts C Z X W (ss.set i (some (oL f y))) sts ES ER (kf y)) (hi : N[i]? = some x := by rfl) (hs : ss[i]? = some (some (oL f xs)) := by rfl) (hp : P i = true := by rfl) (hline : (apos.endLine == pos.line) = true := by rfl) :
    Sts C Z X W ss (.Expr (.Call (.Attribute (.Name x p) "clear" apos) [] [] pos) spos :: sts) ES ER (Fl.lt [] kf) := Sts.clear (os := xs.map f) i k (h [] rfl) hi hs hp hline
theorem Sts.revL {x : Str} {f : α → O} {xs : List α} {kf : List α → Fl S R} (lo : ∀ x, Leaf (f x)) (i : Nat) (k : Cok C X N P G) (h : ∀ y, y = xs.reverse → Sts C Z X W (ss.set i (some (oL f y))) sts ES ER (kf y)) (hi : N[i]? = some x := by rfl) (hs : ss[i]? = some (some (oL f xs)) := by rfl) (hp : P i = true := by rfl) (hline : (apos.endLine == pos.line) = true := by rfl) :
    Sts C Z X W ss (.Expr (.Call (.Attribute (.Name x p) "reverse" apos) [] [] pos) spos :: sts) ES ER (Fl.lt xs.reverse kf) := Sts.reverse (os := xs.map f) (fun o ho => by obtain ⟨x, _, rfl⟩ := List.mem_map.mp ho; exact lo x) i k (by
      have q := h _ rfl
      unfold oL at q
      rw [List.map_reverse] at q
      exact q) hi hs hp hline
theorem Sts.extL {x : Str} {f : α → O} {xs ys : List α} {kf : List α → Fl S R} (i : Nat) (k : Cok C X N P G) (he : Ev C Z X ss e (.itm (ys.map f))) (h : ∀ y, ext? xs ys = some y → Sts C Z X W (ss.set i (some (oL f y))) sts ES ER (kf y)) (hi : N[i]? = some x := by rfl) (hs : ss[i]? = some (some (oL f xs)) := by rfl) (hp : P i = true := by rfl)
    (hfew : ((backTo pos (starEach [e] X.env)).all (fun x => !x.1) && (backToKw pos (keywordEach [] X.env)).all (fun x => x.1.isSome) && decide ([e].length + ([] : List Keyword).length + (if ([] : List Keyword).isEmpty then 0 else 1) < 30)) = true := by rfl)
    (hline : (apos.endLine == pos.line) = true := by rfl) (hst : starEach [e] X.env = (false, eval e X.env) :: starEach [] X.env := by rfl) : Sts C Z X W ss (.Expr (.Call (.Attribute (.Name x p) "extend" apos) [e] [] pos) spos :: sts) ES ER (Fl.req (ext? xs ys) kf) := by
  cases hq : ext? xs ys with
  | none => exact Sts.bad
  | some y =>
    have q := h y hq
    unfold ext? at hq
    obtain ⟨hz, hq⟩ := ifO_some.mp hq
    cases hq
    refine Sts.extend (os := xs.map f) (ps := ys.map f) i k he (by simpa using hz) ?_ hi hs hp hfew hline hst
    unfold oL at q
    rw [List.map_append] at q
    exact q
theorem Sts.setL {x : Str} {f : α → O} {xs : List α} {m : Int} {v : α} {kf : List α → Fl S R} (i : Nat) (k : Cok C X N P G) (he : Ev C Z X ss e (rmO (f v))) (hb : Ev C Z X ss b (.frz (dI m))) (h : ∀ y, setI? xs m v = some y → Sts C Z X W (ss.set i (some (oL f y))) sts ES ER (kf y)) (hi : N[i]? = some x := by rfl) (hs : ss[i]? = some (some (oL f xs)) := by rfl) (hp : P i = true := by rfl)
    (hsw : swapsWithSole [.Subscript (.Name x p) b p2] e spos.line X.env = pure false := by rfl) (hw : swappedStores [.Subscript (.Name x p) b p2] e X.env = pure none := by rfl)
    (ha : ∀ v, assign (.Subscript (.Name x p) b p2) X.env v = (do
      let ov ← holding [v] (eval (.Name x p) X.env)
      let iv ← holding [v, ov] (eval b X.env)
      standAt p2
      holding [v, ov, iv] (setItem ov iv v)
      release [v, ov, iv] []) := by intro _; rfl) : Sts C Z X W ss (.Assign [.Subscript (.Name x p) b p2] e spos :: sts) ES ER (Fl.req (setI? xs m v) kf) := by
  cases hq : setI? xs m v with
  | none => exact Sts.bad
  | some y =>
    have q := h y hq
    unfold setI? at hq
    obtain ⟨n, hn, hq⟩ := Option.bind_eq_some_iff.mp hq
    obtain ⟨hz, hq⟩ := ifO_some.mp hq
    cases hq
    refine Sts.setix (os := xs.map f) (o := f v) i k (by rw [List.length_map]; exact hn) he hb ?_ (by simpa using hz) hi hs hp hsw hw ha
    unfold oL at q
    rw [List.map_set] at q
    exact q
theorem Slots.all {F H : Hp} : ∀ {ss : En} {σ : L2.St} {fp : List Addr}, ss.all leafS = true → Same F H → Slots C Z F H ss σ fp → Slots C Z H H ss σ []
  | [], _, _, _, _, h => by cases h; exact .nil
  | x :: ss, _, _, hl, fh, h => by
    simp only [List.all_cons, Bool.and_eq_true] at hl
    cases h with
    | non h => exact .non (Slots.all hl.2 fh h)
    | som o h =>
      refine .som (f1 := []) (f2 := []) ?_ (Slots.all hl.2 fh h)
      cases o with
      | fz r => exact .fz (r.mono fh (Tst.refl _))
      | nz r => exact .nz (r.mono (fun b o q => by
          unfold VL.sub at q ⊢
          split
          · rename_i e
            rw [e] at q
            exact fh _ _ q
          · rename_i e
            rw [e] at q
            exact q) (Tst.refl _))
      | lst => exact absurd hl.1 Bool.false_ne_true
      | tup => exact absurd hl.1 Bool.false_ne_true
      | obj => exact absurd hl.1 Bool.false_ne_true
      | dic => exact absurd hl.1 Bool.false_ne_true
      | flst => exact absurd hl.1 Bool.false_ne_true
      | pin => exact absurd hl.1 Bool.false_ne_true
/-- x = e, where nothing is owned: all is frozen -/
theorem Sts.asgA {x : Str} {v : α} (f : α → D) {fl : α → Fl S R} {i : Nat} (k : Cok C X N P G) (d : Dok X N P) (he : Ev C Z X ss e (.cur (f v))) (hl : i < ss.length) (ha : ss.all leafS = true) (h : ∀ y, y = v → Sts C Z X W (ss.set i (some (.fz (f y)))) sts ES ER (fl y)) (hi : N[i]? = some x := by rfl) (hpi : P i = true := by rfl) (hs : swapsWith e (some (.Name x p)) spos.line X.env = pure false := by rfl) :
    Sts C Z X W ss (.Assign [.Name x p] e spos :: sts) ES ER (Fl.lt v fl) :=
  Sts.step (ps_set (i := i) (by rw [k.hN]; exact k.nd) (by rw [k.hN]; exact hi) (d.loc i x hpi hi) pe_w hs (.inl (d.fn x))) fun σ F H D en hp => by
    refine he σ F H _ en fun v F1 H1 e1 q1 => ?_
    have en1 := en.ext e1
    obtain ⟨fp, sl, nd⟩ := en1.sl
    have en2 : EnvOk C Z ss H1 H1 σ := ⟨en1.zf.trans en1.fh, Same.refl H1, [], Slots.all ha en1.fh sl, List.nodup_nil⟩
    exact (sts_iff.mp (h _ rfl)) _ H1 H1 D (en2.put0 hl (.fz q1)) (Post.mono ⟨e1.ff.trans e1.fh, e1.gr.tt⟩ hp)
end
end VL

set_option Elab.async false
set_option linter.all false
set_option maxRecDepth 100000
set_option maxHeartbeats 4000000
/-! VL12: small rules of the generator. -/
namespace VL
open PySem PySem.Spec PyProof.Rows L2
theorem Fl.ex_app {S R α : Type} {xs : List α} {v : α} {k : List α → Fl S R} (h : ∀ a, (k a).Ex) : (Fl.app xs v k).Ex := Fl.ex_chk (h _)
theorem sw_cell {elt : Expr} {gs : List Comprehension} {scope : Scope} {pos py : Pos} {y : Str} {l : Nat} {env : Env} (hy : env.scope.names.lookup y = some .cell) : swapsWith (.ListComp elt gs scope pos) (some (.Name y py)) l env = pure false := by
  have h : (env.kindOf y == some NameKind.local) = false := by
    unfold Env.kindOf
    rw [hy]
    rfl
  unfold swapsWith
  simp [h]
section
variable {C : Cf} {Z : Hp} {X : Cx} {N G : List Str} {P : Nat → Bool} {ss ss' : En} {a b c e e2 tg iter elt o : Expr} {rest es ifs : List Expr} {pos p p2 apos : Pos} {ra rb rz rm : RM} {α β γ : Type} {z q : Bool}
variable {W : Nat → Hp → Prop} {S S' R : Type} {ES : S → En} {ES' : S' → En} {ER : R → RM} {st : Stmt} {blk sts A B : List Stmt} {fl : Fl S R} {spos : Pos}
theorem Ev.globI (k : Cok C X N P G) (i : Nat) {x : Str} {v : Int} (hm : ∃ t, X.mg x = some (.int v t)) (hi : G[i]? = some x := by rfl) : Ev C Z X ss (.Name x pos) (.frz (dI v)) := by
  obtain ⟨t, h⟩ := hm
  exact Ev.glob k i h ⟨t, rfl⟩ hi
theorem Sts.asgCL {x y : Str} {scope : Scope} {i j : Nat} {f : α → O} {fo : β → O} {xs : List α} {ys : List β} {pt : α → Option Bool} {fe : α → Option β} {kf : List β → Fl S R} (k : Cok C X N P G) (d : Dok X N P) (hy : compO pt fe xs = some ys) (hl : i < ss.length) (hl2 : j < ss.length) (lf : ∀ x, Leaf (f x)) (ok : BlkOk X.N X.env.scope scope [(x, i)])
    (hg : ∀ (s : Shared) (H : Hp) (C : Addr) (cl : List (Str × Addr)) (fp : List Addr), PG (X.blk s H scope (compEnvC scope cl C X.env) fp) tg (gName i)) (hyl : X.env.scope.names.lookup y = some .local)
    (hsw : swapsWith (.ListComp elt [⟨tg, iter, ifs, 0⟩] scope pos) (some (.Name y p)) spos.line X.env = pure true) (hi : Ivc C Z X ss tg iter (xs.map f))
    (ht : ∀ X', Fam X X' scope → ∀ x b, x ∈ xs → pt x = some b → Tts C Z X' (ss.set i (some (f x))) ifs b) (he : ∀ X', Fam X X' scope → ∀ x y, x ∈ xs → pt x = some true → fe x = some y → Ev C Z X' (ss.set i (some (f x))) elt (rmO (fo y)))
    (h : ∀ y, y = ys → Sts C Z X W (ss.set j (some (oL fo y))) sts ES ER (kf y)) (hj : N[j]? = some y := by rfl) (hs : ∀ x, foldedSetIterable iter X.env x = pure x := by intro _; rfl) : Sts C Z X W ss (.Assign [.Name y p] (.ListComp elt [⟨tg, iter, ifs, 0⟩] scope pos) spos :: sts) ES ER (Fl.lt ys kf) :=
  Sts.asgC k d hy hl hl2 lf ok hg hyl hsw hi ht he (h ys rfl) hj hs
end
/-- what comes back, used or not -/
theorem EvX.back {C : Cf} {Z : Hp} {X : Cx} {W : Nat → Hp → Prop} {ss : En} {e : Expr} {R : Type} {r : Res R} {m : R → RM} (h : EvX C Z X W ss e ((r.map m).map backR)) : EvX C Z X W ss e (r.map fun a => backR (m a)) := by
  cases r <;> exact h
end VL
namespace VL
open PySem PySem.Spec PyProof.Rows L2
/-! the rules of lists by typed data -/
section
variable {C : Cf} {Z : Hp} {X : Cx} {N G : List Str} {P : Nat → Bool} {ss ss' : En} {a b c e e2 tg iter elt o : Expr} {rest es ifs : List Expr} {pos p p2 apos : Pos} {ra rb rz rm : RM} {α β γ : Type} {z q : Bool}
theorem Ev.displ {f : α → O} {xs : List α} (hz : xs.length ≤ sizeLine) (h : Ei C Z X ss es (xs.map f)) : Ev C Z X ss (.List es pos) (.new (oL f xs)) := Ev.list (by simpa using hz) h
theorem Ev.sliceL {f : α → O} {xs : List α} {lo hi : Option Expr} {l u : Option Int} (ha : Ev C Z X ss a (.itm (xs.map f))) (hl : Pa C Z X ss lo l) (hu : Pa C Z X ss hi u) : Ev C Z X ss (.Subscript a (.Slice lo hi none p2) pos) (.new (oL f (cut xs l u))) :=
  (Ev.slice ha hl hu).eq (by unfold oL; rw [cut_map])
theorem Ev.revL {f : α → O} {xs : List α} {k : Nat} {p1 p3 : Pos} (ha : Ev C Z X ss a (.itm (xs.map f))) : Ev C Z X ss (.Subscript a (.Slice none none (some (.UnaryOp .USub (.Constant (.int 1) k p1) p2)) p3) pos) (.new (oL f xs.reverse)) :=
  (Ev.rev (p4 := p1) ha).eq (by unfold oL; rw [List.map_reverse])
theorem Ev.catL {f : α → O} {xs ys : List α} (h : xs.length + ys.length ≤ sizeLine) (ha : Ev C Z X ss a (.itm (xs.map f))) (hb : Ev C Z X ss b (.itm (ys.map f))) : Ev C Z X ss (.BinOp a .Add b pos) (.new (oL f (xs ++ ys))) :=
  (Ev.cat (by simpa using h) ha hb).eq (by unfold oL; rw [List.map_append])
theorem Ev.repLL {f : α → O} {xs : List α} {k : Nat} (hk : k < 1000) (h : xs.length * k ≤ sizeLine) (ha : Ev C Z X ss a (.itm (xs.map f))) (hb : Ev C Z X ss b (.frz (dI k))) : Ev C Z X ss (.BinOp a .Mult b pos) (.new (oL f (repL k xs))) :=
  (Ev.rep (by omega) (by omega) (by simpa using h) ha hb).eq (rep_map k)
theorem leaf_map {f : α → O} (h : ∀ x, Leaf (f x)) (xs : List α) : ∀ o ∈ xs.map f, Leaf o := fun o q => by
  obtain ⟨x, _, rfl⟩ := List.mem_map.mp q
  exact h x
/-- a new list, for its items -/
theorem Ev.itmL {f : α → O} {xs : List α} (h : Ev C Z X ss e (.new (oL f xs))) (l : ∀ x, Leaf (f x)) : Ev C Z X ss e (.itm (xs.map f)) := Ev.itm_new h (leaf_map l xs)
theorem Ev.owiL {f : α → O} {xs : List α} (k : Cok C X N P G) (i : Nat) {x : Str} (l : ∀ x, Leaf (f x)) (hi : N[i]? = some x := by rfl) (hs : ss[i]? = some (some (oL f xs)) := by rfl) (hp : P i = true := by rfl) : Ev C Z X ss (.Name x pos) (.itm (xs.map f)) :=
  Ev.owi (os := xs.map f) k i (leaf_map l xs) hi hs hp
end
end VL
namespace VL
open PySem PySem.Spec PyProof.Rows L2
theorem Ev.mkW {C : Cf} {Z : Hp} {X : Cx} {N G : List Str} {P : Nat → Bool} {ss : En} {e e2 : Expr} {pos p : Pos} {x : Str} {m : Int} {r : List (List Int)} (k : Cok C X N P G) (i : Nat) (hc : Mkd C X.prog X.w X.K X.mg X.base X.A x 0 2) (hm : Ev C Z X ss e (.frz (dI m))) (hr : Ev C Z X ss e2 (.new (oL (oL (zz dI)) r))) (hi : G[i]? = some x := by rfl)
    (he : starEach [e, e2] X.env = (false, eval e X.env) :: starEach [e2] X.env := by rfl) (h2 : starEach [e2] X.env = (false, eval e2 X.env) :: starEach [] X.env := by rfl) (hpl : (backTo pos (starEach [e2] X.env)).any (·.1) = false := by rfl) : Ev C Z X ss (.Call (.Name x p) [e, e2] [] pos) (.new (oW ⟨m, r⟩)) :=
  Ev.mk (c := 0) (n := 2) (os := [zz dI m, oL (oL (zz dI)) r]) k i hc (Ei.cons (o := zz dI m) hm (Ei.cons (o := oL (oL (zz dI)) r) hr Ei.nil h2) he) rfl hi he hpl
end VL

set_option Elab.async false
set_option linter.all false
set_option maxRecDepth 100000
set_option maxHeartbeats 4000000
/-! VL13: for the end. -/
namespace VL
open PySem PySem.Spec PyProof.Rows L2
def Mke (C : Cf) (P : Program) (w : World) (K : PySem.W.Frag) (mg : Str → Option Value) (base : Heap) (x : Str) (c n : Nat) : Prop :=
  ∃ (f : Addr) (fd : FuncData) (ps : List Str), Mk K (C.cl c) f ∧ FnOk P w K mg base (L2N.CX P w) 1 f fd ps (spIn C c n) ∧ mg x = some (.ref (C.cl c)) ∧ Binds K fd ps [] ∧ (C.fn c).length = n
theorem Mke.mkd {C : Cf} {P : Program} {w : World} {K : PySem.W.Frag} {mg : Str → Option Value} {base : Heap} {x : Str} {c n k : Nat} {A : Around} (h : Mke C P w K mg base x c n) (hr : Room k A) (hk : 2 ≤ k) : Mkd C P w K mg base A x c n := by
  obtain ⟨f, fd, ps, h1, h2, h3, h4, h5⟩ := h
  exact ⟨1, f, fd, ps, h1, h2, hr.mono hk, h3, h4, h5⟩
theorem ccl_of {C : Cf} {K : PySem.W.Frag} {c : Nat} (cl : Cls K (C.cl c)) (no : ∀ f ∈ C.fn c, PySem.W.findIn K (.ref (C.cl c)) f = some none) (nd : (C.fn c).Nodup) : Ccl C K c := by
  refine ⟨cl, fun i f hf => ⟨no f (List.mem_of_getElem? hf), fun j hj e => ?_⟩⟩
  obtain ⟨h1, h2⟩ := List.getElem?_eq_some_iff.mp hf
  obtain ⟨h3, h4⟩ := List.getElem?_eq_some_iff.mp e
  exact absurd (h4.trans h2.symm) (List.pairwise_iff_getElem.mp nd j i h3 h1 hj)
end VL

set_option Elab.async false
set_option linter.all false
set_option maxRecDepth 100000
set_option maxHeartbeats 4000000
/-! VL14: what may be None, pairs handed back, whiles, dicts, the verdict. -/
namespace VL
open PySem PySem.Spec PyProof.Rows L2
def oO {α : Type} (f : α → O) : Option α → O
  | none => .fz dN
  | some x => f x
theorem er_O {α : Type} {f : α → O} {g : α → D} (h : ∀ x, Er (f x) (g x)) : ∀ o : Option α, Er (oO f o) (dO g o)
  | none => .fz
  | some x => h x
theorem fu_O {α : Type} {f : α → O} (h : ∀ x, Full (f x)) : ∀ o : Option α, Full (oO f o)
  | none => .fz .sc
  | some x => h x
/-- turns enough -/
def fuel : Nat := 100000
/-- a dict of ints, by its entries -/
def dGet (kvs : List (Int × Int)) (k : Int) : Option Int := (kvs.find? fun p => decide (p.1 = k)).map (·.2)
def dHas (kvs : List (Int × Int)) (k : Int) : Bool := (dGet kvs k).isSome
def dPut (kvs : List (Int × Int)) (k v : Int) : List (Int × Int) := if (kvs.any fun p => decide (p.1 = k)) = true then kvs.map (fun p => if p.1 = k then (p.1, v) else p) else kvs ++ [(k, v)]
theorem inl_dec {a k : Int} : decide ((Sum.inl a : Key) = Sum.inl k) = decide (a = k) := by
  by_cases h : a = k
  · simp [h]
  · simp [h]
theorem dkv_get (kvs : List (Int × Int)) (k : Int) : valV (dkv kvs) (Sum.inl k : Key) = (dGet kvs k).map V.int := by
  unfold valV dkv dGet
  induction kvs with
  | nil => rfl
  | cons p kvs ih =>
    simp only [List.map_cons, List.find?_cons, inl_dec]
    cases decide (p.1 = k) with
    | true => rfl
    | false => exact ih
theorem dkv_put (kvs : List (Int × Int)) (k v : Int) : putK (dkv kvs) (Sum.inl k : Key) (V.int v) = dkv (dPut kvs k v) := by
  have e1 : ((dkv kvs).any fun kv => decide (kv.1 = (Sum.inl k : Key))) = kvs.any fun p => decide (p.1 = k) := by
    unfold dkv
    induction kvs with
    | nil => rfl
    | cons p kvs ih => simp only [List.map_cons, List.any_cons, inl_dec]; rw [ih]
  unfold putK dPut
  rw [e1]
  split
  · unfold dkv
    rw [List.map_map, List.map_map]
    refine List.map_congr_left fun p _ => ?_
    simp only [Function.comp]
    by_cases h : p.1 = k
    · rw [if_pos (by rw [h]), if_pos h]
    · rw [if_neg (fun e => h (Sum.inl.inj e)), if_neg h]
  · unfold dkv
    rw [List.map_append]
    rfl
section
variable {C : Cf} {Z : Hp} {X : Cx} {N G : List Str} {P : Nat → Bool} {ss ss' : En} {a b c e e2 tg iter elt o : Expr} {rest es ifs : List Expr} {pos p p2 apos : Pos} {ra rb rz rm : RM} {α β γ : Type} {z q : Bool}
variable {W : Nat → Hp → Prop} {S S' R : Type} {ES : S → En} {ES' : S' → En} {ER : R → RM} {st : Stmt} {blk sts A B : List Stmt} {fl : Fl S R} {spos : Pos}
theorem Ev.gotz {g : α → D} {ov : Option α} {x : α} (h : ov = some x) (he : Ev C Z X ss e (.frz (dO g ov))) : Ev C Z X ss e (.frz (g x)) := by subst h; exact he
theorem Ev.gotn {g : α → D} {ov : Option α} {x : α} (h : ov = some x) (he : Ev C Z X ss e (.nrz (dO g ov))) : Ev C Z X ss e (.nrz (g x)) := by subst h; exact he
theorem Ev.gotc {g : α → D} {ov : Option α} {x : α} (h : ov = some x) (he : Ev C Z X ss e (.cur (dO g ov))) : Ev C Z X ss e (.cur (g x)) := by subst h; exact he
theorem Ev.gotw {f : α → O} {ov : Option α} {x : α} (h : ov = some x) (he : Ev C Z X ss e (.new (oO f ov))) : Ev C Z X ss e (.new (f x)) := by subst h; exact he
theorem Ev.new_fz {d : D} (he : Ev C Z X ss e (.frz d)) : Ev C Z X ss e (.new (.fz d)) := he.imp0 fun _ _ _ _ _ _ q => ⟨[], .fz q, fun _ h => absurd h List.not_mem_nil, List.nodup_nil⟩
/-- of a tuple that was made here -/
theorem Ev.ixtn {ds : List D} {i : Int} {d : D} (hd : atI ds i = some d) (ha : Ev C Z X ss a (.nrz (.tup ds))) (hb : Ev C Z X ss b (.frz (dI i))) (hs : PlainIx b := by intro _ _; rfl) : Ev C Z X ss (.Subscript a b pos) (.nrz d) :=
  Ev.two ha hb (pe_ix ix_tup pe_w pe_w hs) fun x y F H H0 Q s h1 h2 hq => by
    cases h2
    cases h1 with
    | tup hp hr =>
      unfold atI at hd
      obtain ⟨j, hj, hd⟩ := Option.bind_eq_some_iff.mp hd
      obtain ⟨v, hv, rv⟩ := hr.get hd
      refine ⟨_, _, i, v, rfl, rfl, .of hp, ?_, hq v F H (Ext.refl s) rv⟩
      unfold atI
      rw [← hr.length, hj]
      exact hv
/-- return (x, y), both owned -/
theorem Sts.retP {r : R} {i j m : Nat} {x y : Str} {o1 o2 : O} {p1 : Pos} (k : Cok C X N P G) (hij : i ≠ j) (hr : ER r = .new (.tup [o1, o2])) (hi : N[i]? = some x := by rfl) (hj : N[j]? = some y := by rfl) (hs : ss[i]? = some (some o1) := by rfl) (hs2 : ss[j]? = some (some o2) := by rfl) (hp : P i = true := by rfl) (hpj : P j = true := by rfl)
    (hst : starEach [.Name x p, .Name y p2] X.env = (false, eval (.Name x p) X.env) :: starEach [.Name y p2] X.env := by rfl) (hst2 : starEach [.Name y p2] X.env = (false, eval (.Name y p2) X.env) :: starEach [] X.env := by rfl) : Sts C Z X W ss (.Return (some (.Tuple [.Name x p, .Name y p2] m pos)) spos :: sts) ES ER (.rt r) :=
  Sts.step (ps_ret (pe_tup (pa_cons pe_w (pa_cons pe_w pa_nil hst2) hst))) fun σ F H D en hq => by
    obtain ⟨fp, sl, nd⟩ := en.sl
    obtain ⟨v, f1, f2, h1, h2, h3, h4⟩ := sl.get hs
    have hs2' : (ss.set i none)[j]? = some (some o2) := by rw [List.getElem?_set_ne hij]; exact hs2
    obtain ⟨w, g1, g2, k1, k2, k3, k4⟩ := h3.get hs2'
    refine Ev.slot (o := o1) k hi hp h1 ?_
    refine Ev.slot (o := o2) k hj hpj k1 ⟨by show 2 ≤ sizeLine; decide, fun q hq0 => ?_⟩
    have x1 : Ext F H F (upd H q (.tup [v, w])) := Ext.heap en.fh fun b o q' => by rw [upd_ne (ne_of_none q' hq0)]; exact q'
    have nd1 : (f1 ++ f2).Nodup := (h4.nodup_iff).mpr nd
    have nd2 : (g1 ++ g2).Nodup := (k4.nodup_iff).mpr (List.nodup_append.mp nd1).2.1
    refine hq (.ref q) F _ x1.gr x1.fh ?_
    rw [hr]
    refine ⟨f1 ++ (g1 ++ []), .tup upd_same (.cons (h2.ext x1) (.cons (k2.ext x1) .nil)), fun b hb => ?_, ?_⟩
    · rcases List.mem_append.mp hb with q' | q'
      · exact en.zf.free (h2.gone b q').1
      · rw [List.append_nil] at q'
        exact en.zf.free (k2.gone b q').1
    · rw [List.append_nil]
      refine List.nodup_append.mpr ⟨(List.nodup_append.mp nd1).1, (List.nodup_append.mp nd2).1, fun b hb d hd e => ?_⟩
      subst e
      exact (List.nodup_append.mp nd1).2.2 b hb b (k4.subset (List.mem_append_left _ hd)) rfl
/-! the test of a while -/
theorem tst_nx {z : Bool} (h : Cb C Z X ss e z) : (Fl.nx z : Fl Bool R) = .bad ∨ ∃ b, (Fl.nx z : Fl Bool R) = .nx b ∧ Cb C Z X ss e b := .inr ⟨z, rfl, h⟩
theorem tst_req {ov : Option α} {k : α → Fl Bool R} (h : ∀ a, ov = some a → (k a = .bad ∨ ∃ b, k a = .nx b ∧ Cb C Z X ss e b)) : Fl.req ov k = .bad ∨ ∃ b, Fl.req ov k = .nx b ∧ Cb C Z X ss e b := by
  cases ov with
  | none => exact .inl rfl
  | some a => exact h a rfl
theorem tst_chk {pr : Prop} {k : Fl Bool R} (h : pr → (k = .bad ∨ ∃ b, k = .nx b ∧ Cb C Z X ss e b)) : Fl.chk pr k = .bad ∨ ∃ b, Fl.chk pr k = .nx b ∧ Cb C Z X ss e b := by
  unfold Fl.chk
  split
  · exact h (by assumption)
  · exact .inl rfl
/-! dicts -/
theorem op_dIn (hu : X.A.units + 1 < cLine) : OpR X (compareOp .In) (fun x y H Q => ∃ a o, y = .ref a ∧ DGet H a x o ∧ Q (.bl o.isSome) H) := by
  intro pins s σ H x y v u Q I rx ry h
  obtain ⟨a, o, rfl, g, q⟩ := h
  cases ry
  exact d_in hu I g rx fun s' I' => ⟨.bl o.isSome, H, I', rfl, q⟩
theorem op_dNotIn (hu : X.A.units + 1 < cLine) : OpR X (compareOp .NotIn) (fun x y H Q => ∃ a o, y = .ref a ∧ DGet H a x o ∧ Q (.bl (!o.isSome)) H) := by
  intro pins s σ H x y v u Q I rx ry h
  obtain ⟨a, o, rfl, g, q⟩ := h
  cases ry
  exact d_notIn hu I g rx fun s' I' => ⟨.bl (!o.isSome), H, I', rfl, q⟩
theorem Cok.hu1 (k : Cok C X N P G) : X.A.units + 1 < cLine := Nat.lt_of_le_of_lt (Nat.add_le_add_left (by decide : 1 ≤ 64) _) k.hu
theorem dic_get {F H : Hp} {kvs : List (Int × Int)} {y : V} {i : Int} (s : Same F H) (h : Rp C H H (.dic kvs) y) : ∃ a, y = .ref a ∧ DGet H a (.int i) ((dGet kvs i).map V.int) := by
  cases h with
  | dic hp => exact ⟨_, rfl, by rw [← dkv_get]; exact DGet.k (k := Sum.inl i) hp⟩
theorem Cb.inD {i : Int} {kvs : List (Int × Int)} (k : Cok C X N P G) (hm : behindInMarks .In b = false) (ha : Ev C Z X ss a (.frz (dI i))) (hb : Ev C Z X ss b (.cur (.dic kvs))) : Cb C Z X ss (.Compare a [.In] [b] pos) (dHas kvs i) :=
  Cb.cmp (op_dIn k.hu1) hm ha hb fun x y F H H0 Q s h1 h2 hq => by
    cases h1
    obtain ⟨q, rfl, g⟩ := dic_get (i := i) s h2
    refine ⟨_, _, rfl, g, ?_⟩
    rw [Option.isSome_map]
    exact hq
theorem Cb.niD {i : Int} {kvs : List (Int × Int)} (k : Cok C X N P G) (hm : behindInMarks .NotIn b = false) (ha : Ev C Z X ss a (.frz (dI i))) (hb : Ev C Z X ss b (.cur (.dic kvs))) : Cb C Z X ss (.Compare a [.NotIn] [b] pos) (!dHas kvs i) :=
  Cb.cmp (op_dNotIn k.hu1) hm ha hb fun x y F H H0 Q s h1 h2 hq => by
    cases h1
    obtain ⟨q, rfl, g⟩ := dic_get (i := i) s h2
    refine ⟨_, _, rfl, g, ?_⟩
    rw [Option.isSome_map]
    exact hq
end
end VL

set_option Elab.async false
set_option linter.all false
set_option maxRecDepth 100000
set_option maxHeartbeats 4000000
/-! VL15: dicts in slots, the verdict. -/
namespace VL
open PySem PySem.Spec PyProof.Rows L2
section
variable {C : Cf} {Z F H : Hp} {X : Cx} {N G : List Str} {P : Nat → Bool} {ss ss' : En} {a b c e e2 tg iter elt o : Expr} {rest es ifs : List Expr} {pos p p2 apos : Pos} {ra rb rz rm : RM} {α β γ : Type} {z q : Bool} {σ : L2.St} {fp : List Addr}
variable {W : Nat → Hp → Prop} {S S' R : Type} {ES : S → En} {ES' : S' → En} {ER : R → RM} {st : Stmt} {blk sts A B : List Stmt} {fl : Fl S R} {spos : Pos}
theorem ix_dk (hu : X.A.units + 1 < cLine) : IxR X (fun x y H Q => ∃ (l : Addr) (kvs : List (Int × Int)) (i j : Int), x = .ref l ∧ y = .int i ∧ H l = some (.dK (dkv kvs)) ∧ dGet kvs i = some j ∧ Q (.int j) H) := by
  intro value slice pins s σ H x y v u Q I rx ry h hs
  obtain ⟨l, kvs, i, j, rfl, rfl, hl, hg, q⟩ := h
  cases rx
  obtain ⟨z, hd, vs, rel, dd⟩ := dk_rd I.hok (.inl hl)
  refine tail_any dd.mapOf.typeIs slot_dict_getitem.lookup (d_getItem (y := .int i) (v := .int j) hu I ?_ ry fun w' s' I' r' => ⟨.int j, H, I', r', q⟩) hs
  have := DGet.k (k := Sum.inl i) hl
  rw [dkv_get, hg] at this
  exact this
/-- d[i] -/
theorem Ev.ixD {kvs : List (Int × Int)} {i j : Int} (k : Cok C X N P G) (hd : dGet kvs i = some j) (ha : Ev C Z X ss a (.cur (.dic kvs))) (hb : Ev C Z X ss b (.frz (dI i))) (hs : PlainIx b := by intro _ _; rfl) : Ev C Z X ss (.Subscript a b pos) (.frz (dI j)) :=
  Ev.two ha hb (pe_ix (ix_dk k.hu1) pe_w pe_w hs) fun x y F H H0 Q s h1 h2 hq => by
    cases h2
    cases h1 with
    | dic hp => exact ⟨_, kvs, i, j, rfl, rfl, hp, hd, hq _ F H (Ext.refl s) .sc⟩
/-- {a: b} -/
theorem Ev.dict1 {i j : Int} (ha : Ev C Z X ss a (.frz (dI i))) (hb : Ev C Z X ss b (.frz (dI j))) : Ev C Z X ss (.Dict [some a] [b] pos) (.new (.dic [(i, j)])) := fun σ F H Q en hq pins s I =>
  (pe_disp (pps_cons pe_w pe_w pps_nil) rfl rfl (by simp) (show (1 : Nat) ≤ 15 by decide)).run pins s σ H Q I fun q hq0 => by
    have x0 : Ext F H F (upd H q (.dK [])) := ext_new en.fh hq0
    refine ha σ F _ _ (en.ext x0) fun v F1 H1 e1 q1 => ?_
    cases q1
    refine hb σ F1 H1 _ ((en.ext x0).ext e1) fun v F2 H2 e2 q2 => ?_
    cases q2
    have ex := e1.trans e2
    have hp2 : H2 q = some (.dK []) := ex.hh _ _ upd_same
    refine ⟨hp2, [(Sum.inl i, V.int j)], rfl, (show (1 : Nat) ≤ 15 by decide), ?_⟩
    have hF : F q = none := en.fh.free hq0
    have hF2 : F2 q = none := ex.ow q (by rw [upd_same]; simp) hF
    have sm : ∀ b o, b ≠ q → H2 b = some o → upd H2 q (.dK (mergeK [] [((Sum.inl i : Key), V.int j)])) b = some o := fun b o n h => by rw [upd_ne n]; exact h
    refine hq _ F2 _ ⟨ex.ff, fun b o h => ?_, fun b o h => ?_, fun b hb hf => ?_⟩ ⟨[q], .dic hF2 (by rw [upd_same]; rfl), fun b hb => ?_, by simp⟩
    · have n : b ≠ q := ne_of_none h hq0
      exact sm b o n (ex.hh b o (by rw [upd_ne n]; exact h))
    · exact sm b o (fun n => by rw [n, hF2] at h; cases h) (ex.fh b o h)
    · have n : b ≠ q := fun n => hb (by rw [n]; exact hq0)
      exact ex.ow b (by rw [upd_ne n]; exact hb) hf
    · rw [List.mem_singleton.mp hb]
      exact hq0
theorem Slots.rewrD {i : Nat} {kvs : List (Int × Int)} (sl : Slots C Z F H ss σ fp) (nd : fp.Nodup) (zf : Same Z F) (fh : Same F H) (hs : ss[i]? = some (some (.dic kvs))) : ∃ p : Addr, σ[i]? = some (some (.ref p)) ∧ F p = none ∧ H p = some (.dK (dkv kvs)) ∧
    ∀ F1 H1, Ext F H F1 H1 → ∀ kvs', EnvOk C Z (ss.set i (some (.dic kvs'))) F1 (upd H1 p (.dK (dkv kvs'))) σ ∧ Gr F1 H1 F1 (upd H1 p (.dK (dkv kvs'))) := by
  obtain ⟨v, f1, f2, h1, h2, h3, h4⟩ := sl.get hs
  cases h2 with
  | dic hf hp =>
    rename_i p
    refine ⟨p, h1, hf, hp, fun F1 H1 ex kvs' => ?_⟩
    have hi : i < ss.length := (List.getElem?_eq_some_iff.mp hs).1
    have hp1 := ex.hh _ _ hp
    have hf1 := ex.ow p (by rw [hp]; simp) hf
    have ts : Tst H1 (upd H1 p (.dK (dkv kvs'))) := Tst.upd (by rw [hp1]; intro xs q; cases q)
    have nd' : ([p] ++ f2).Nodup := (h4.nodup_iff).mpr nd
    have n1 : ∀ a ∈ f2, a ≠ p := fun a q z => by
      subst z
      exact (List.nodup_append.mp nd').2.2 a List.mem_cons_self a q rfl
    have s2 := (h3.ext ex).frame ts fun a q => upd_ne (n1 a q)
    refine ⟨EnvOk.back s2 h1 (.dic hf1 upd_same) hi nd' (zf.trans ex.ff) fun b o q => ?_, Same.refl F1, ts⟩
    rw [upd_ne (fun z => by subst z; rw [hf1] at q; cases q)]
    exact ex.fh b o q
/-- d[b] = e -/
theorem Sts.putD {x : Str} {kvs : List (Int × Int)} {m v : Int} {kf : List (Int × Int) → Fl S R} (i : Nat) (k : Cok C X N P G) (he : Ev C Z X ss e (.frz (dI v))) (hb : Ev C Z X ss b (.frz (dI m))) (h : ∀ y, y = dPut kvs m v → Sts C Z X W (ss.set i (some (.dic y))) sts ES ER (kf y)) (hi : N[i]? = some x := by rfl) (hs : ss[i]? = some (some (.dic kvs)) := by rfl) (hp : P i = true := by rfl)
    (hsw : swapsWithSole [.Subscript (.Name x p) b p2] e spos.line X.env = pure false := by rfl) (hw : swappedStores [.Subscript (.Name x p) b p2] e X.env = pure none := by rfl)
    (ha : ∀ v, assign (.Subscript (.Name x p) b p2) X.env v = (do
      let ov ← holding [v] (eval (.Name x p) X.env)
      let iv ← holding [v, ov] (eval b X.env)
      standAt p2
      holding [v, ov, iv] (setItem ov iv v)
      release [v, ov, iv] []) := by intro _; rfl) : Sts C Z X W ss (.Assign [.Subscript (.Name x p) b p2] e spos :: sts) ES ER (Fl.chk (kvs.length < sizeLine) (Fl.lt (dPut kvs m v) kf)) :=
  Sts.chk fun hz => Sts.step (ps_asg pe_w (pg_sub pe_w pe_w (set_dict k.hu1) ha) hsw hw) fun σ F H D en hq => by
    obtain ⟨fp, sl, nd⟩ := en.sl
    obtain ⟨l, h1, hf, h2, h5⟩ := sl.rewrD nd en.zf en.fh hs
    refine he σ F H _ en fun w F1 H1 e1 q1 => ?_
    cases q1
    refine Ev.slot (o := .dic kvs) k hi hp h1 ?_
    refine hb σ F1 H1 _ (en.ext e1) fun w F2 H2 e2' q2 => ?_
    cases q2
    have ex := e1.trans e2'
    obtain ⟨en2, g3⟩ := h5 F2 H2 ex (dPut kvs m v)
    refine ⟨l, _, rfl, DPut.k (k := Sum.inl m) (ex.hh _ _ h2) (by show (kvs.map _).length < _; rw [List.length_map]; exact hz), ?_⟩
    rw [dkv_put]
    exact (sts_iff.mp (h _ rfl)) σ F2 _ D en2 (Post.mono (ex.gr.trans g3) hq)
/-- a field of what was made here -/
theorem Ev.fldn {k : Nat} {ds : List D} {f : Str} {d : D} (cl : Ccl C X.K k) (i : Nat) (hf : (C.fn k)[i]? = some f) (hd : ds[i]? = some d) (ha : Ev C Z X ss a (.nrz (.obj k ds))) (hb : attributeBase a f X.env (eval a X.env) = eval a X.env := by rfl) :
    Ev C Z X ss (.Attribute a f pos) (.nrz d) := Ev.one ha (pe_fld pe_w hb) fun x F H H0 Q s h hq => by
  cases h with
  | obj hp hn hr =>
    obtain ⟨v, hv, rv⟩ := hr.get hd
    refine ⟨_, _, _, _, v, rfl, s _ _ (sub_le _ _ hp), cl.cl, (cl.no i f hf).1, lookup_at (by rw [hn]; exact hf) (by rw [hn]; exact (cl.no i f hf).2) hv, hq v F H (Ext.refl s) rv⟩
end
/-! ### the verdict -/
structure Ver where
  order : Option (List Int)
  ring : Option (List Int)
  crowd : Option (List Int)
  colours : Option (List Int)
  many : Int
def dOL (o : Option (List Int)) : D := dO (dL dI) o
def dV (x : Ver) : D := .obj 1 [dOL x.order, dOL x.ring, dOL x.crowd, dOL x.colours, dI x.many]
theorem Ev.mkV {C : Cf} {Z : Hp} {X : Cx} {N G : List Str} {P : Nat → Bool} {ss : En} {a1 a2 a3 a4 a5 : Expr} {pos p : Pos} {x : Str} {o1 o2 o3 o4 : Option (List Int)} {m : Int} (k : Cok C X N P G) (i : Nat) (hc : Mkd C X.prog X.w X.K X.mg X.base X.A x 1 5)
    (h1 : Ev C Z X ss a1 (.nrz (dO (dL dI) o1))) (h2 : Ev C Z X ss a2 (.nrz (dO (dL dI) o2))) (h3 : Ev C Z X ss a3 (.nrz (dO (dL dI) o3))) (h4 : Ev C Z X ss a4 (.nrz (dO (dL dI) o4))) (h5 : Ev C Z X ss a5 (.frz (dI m))) (hi : G[i]? = some x := by rfl)
    (s1 : starEach [a1, a2, a3, a4, a5] X.env = (false, eval a1 X.env) :: starEach [a2, a3, a4, a5] X.env := by rfl) (s2 : starEach [a2, a3, a4, a5] X.env = (false, eval a2 X.env) :: starEach [a3, a4, a5] X.env := by rfl) (s3 : starEach [a3, a4, a5] X.env = (false, eval a3 X.env) :: starEach [a4, a5] X.env := by rfl)
    (s4 : starEach [a4, a5] X.env = (false, eval a4 X.env) :: starEach [a5] X.env := by rfl) (s5 : starEach [a5] X.env = (false, eval a5 X.env) :: starEach [] X.env := by rfl)
    (hpl : (backTo pos (starEach [a2, a3, a4, a5] X.env)).any (·.1) = false := by rfl) : Ev C Z X ss (.Call (.Name x p) [a1, a2, a3, a4, a5] [] pos) (.nrz (dV ⟨o1, o2, o3, o4, m⟩)) :=
  Ev.nrz_new (o := .obj 1 [.nz (dOL o1), .nz (dOL o2), .nz (dOL o3), .nz (dOL o4), zz dI m])
    (Ev.mk (c := 1) (n := 5) (os := [.nz (dOL o1), .nz (dOL o2), .nz (dOL o3), .nz (dOL o4), zz dI m]) k i hc (Ei.cons (o := .nz (dOL o1)) h1 (Ei.cons (o := .nz (dOL o2)) h2 (Ei.cons (o := .nz (dOL o3)) h3 (Ei.cons (o := .nz (dOL o4)) h4 (Ei.cons (o := zz dI m) h5 Ei.nil s5) s4) s3) s2) s1) rfl hi s1 hpl)
    (.obj (.cons .nz (.cons .nz (.cons .nz (.cons .nz (.cons .fz .nil)))))) (.obj (.cons .nz (.cons .nz (.cons .nz (.cons .nz (.cons (.fz .sc) .nil))))))
section
variable {P : Program} {w : World} {K : PySem.W.Frag} {mg : Str → Option Value} {base : Heap} {C : Cf}
/-- def __init__(self, f1, .., f5): self.f1 = f1; ..; self.f5 = f5 -/
theorem init5 {st : Stmt} {qual : Str} {f : Addr} {fd : FuncData} {f1 f2 f3 f4 f5 : Str} {c : Nat} (F : Fun K "__init__" qual st f fd) (hK : C.K = K) (S : FnScope ["self", f1, f2, f3, f4, f5] ["self", f1, f2, f3, f4, f5] (defScope st)) (cl : Ccl C K c) (hfn : C.fn c = [f1, f2, f3, f4, f5])
    {q1 q2 q3 q4 q5 q6 q7 q8 q9 q10 q11 q12 q13 q14 q15 q16 q17 q18 q19 q20 : Pos}
    (hb : defBody st = [.Assign [.Attribute (.Name "self" q1) f1 q2] (.Name f1 q3) q4, .Assign [.Attribute (.Name "self" q5) f2 q6] (.Name f2 q7) q8, .Assign [.Attribute (.Name "self" q9) f3 q10] (.Name f3 q11) q12, .Assign [.Attribute (.Name "self" q13) f4 q14] (.Name f4 q15) q16, .Assign [.Attribute (.Name "self" q17) f5 q18] (.Name f5 q19) q20])
    (v0 : (defScope st).names.lookup ("self" : Str) = some .local) (v1 : (defScope st).names.lookup f1 = some .local) (v2 : (defScope st).names.lookup f2 = some .local) (v3 : (defScope st).names.lookup f3 = some .local) (v4 : (defScope st).names.lookup f4 = some .local) (v5 : (defScope st).names.lookup f5 = some .local)
    (d1 : (f1 == ("__debug__" : Str)) = false ∧ (f1 == ("__classdict__" : Str)) = false) (d2 : (f2 == ("__debug__" : Str)) = false ∧ (f2 == ("__classdict__" : Str)) = false) (d3 : (f3 == ("__debug__" : Str)) = false ∧ (f3 == ("__classdict__" : Str)) = false) (d4 : (f4 == ("__debug__" : Str)) = false ∧ (f4 == ("__classdict__" : Str)) = false) (d5 : (f5 == ("__debug__" : Str)) = false ∧ (f5 == ("__classdict__" : Str)) = false) :
    FnOk P w K mg base (L2N.CX P w) 1 f fd ["self", f1, f2, f3, f4, f5] (spIn C c 5) := by
  obtain ⟨oc, od, kV, doc, pm, an, cdv, ct, osl, rfl, lk, hcd⟩ := F.ex
  refine fn_of lk hcd S (fun vs H Q E h => ?_) fun A outer s H vs Q E hr hsp => ?_
  · obtain ⟨p, dx, us, rfl, hl, _⟩ := h
    simp [hl]
  · obtain ⟨p, dx, us, rfl, hl, hp, hq⟩ := hsp
    obtain ⟨u1, u2, u3, u4, u5, rfl⟩ : ∃ u1 u2 u3 u4 u5, us = [u1, u2, u3, u4, u5] := by
      match us, hl with
      | [u1, u2, u3, u4, u5], _ => exact ⟨u1, u2, u3, u4, u5, rfl⟩
    rw [hb]
    refine ⟨_, pss_cons (ps_fld (pv 0 rfl (.inl v0)) (pv 1 rfl (.inl v1) d1.1 d1.2) rfl) (pss_cons (ps_fld (pv 0 rfl (.inl v0)) (pv 2 rfl (.inl v2) d2.1 d2.2) rfl) (pss_cons (ps_fld (pv 0 rfl (.inl v0)) (pv 3 rfl (.inl v3) d3.1 d3.2) rfl)
      (pss_cons (ps_fld (pv 0 rfl (.inl v0)) (pv 4 rfl (.inl v4) d4.1 d4.2) rfl) (pss_one (ps_fld (pv 0 rfl (.inl v0)) (pv 5 rfl (.inl v5) d5.1 d5.2) rfl))))), ?_⟩
    have n1 := cl.no 0 f1 (by rw [hfn]; rfl)
    have n2 := cl.no 1 f2 (by rw [hfn]; rfl)
    have n3 := cl.no 2 f3 (by rw [hfn]; rfl)
    have n4 := cl.no 3 f4 (by rw [hfn]; rfl)
    have n5 := cl.no 4 f5 (by rw [hfn]; rfl)
    have e21 : f1 ≠ f2 := fun e => n2.2 0 (by decide) (by rw [hfn, e]; rfl)
    have e31 : f1 ≠ f3 := fun e => n3.2 0 (by decide) (by rw [hfn, e]; rfl)
    have e32 : f2 ≠ f3 := fun e => n3.2 1 (by decide) (by rw [hfn, e]; rfl)
    have e41 : f1 ≠ f4 := fun e => n4.2 0 (by decide) (by rw [hfn, e]; rfl)
    have e42 : f2 ≠ f4 := fun e => n4.2 1 (by decide) (by rw [hfn, e]; rfl)
    have e43 : f3 ≠ f4 := fun e => n4.2 2 (by decide) (by rw [hfn, e]; rfl)
    have e51 : f1 ≠ f5 := fun e => n5.2 0 (by decide) (by rw [hfn, e]; rfl)
    have e52 : f2 ≠ f5 := fun e => n5.2 1 (by decide) (by rw [hfn, e]; rfl)
    have e53 : f3 ≠ f5 := fun e => n5.2 2 (by decide) (by rw [hfn, e]; rfl)
    have e54 : f4 ≠ f5 := fun e => n5.2 3 (by decide) (by rw [hfn, e]; rfl)
    rw [hfn] at hq
    have k1 : putF f1 u1 [] = [(f1, u1)] := rfl
    have k2 : putF f2 u2 [(f1, u1)] = [(f1, u1), (f2, u2)] := putF_new (by simp [e21.symm])
    have k3 : putF f3 u3 [(f1, u1), (f2, u2)] = [(f1, u1), (f2, u2), (f3, u3)] := putF_new (by simp [e31.symm, e32.symm])
    have k4 : putF f4 u4 [(f1, u1), (f2, u2), (f3, u3)] = [(f1, u1), (f2, u2), (f3, u3), (f4, u4)] := putF_new (by simp [e41.symm, e42.symm, e43.symm])
    have k5 : putF f5 u5 [(f1, u1), (f2, u2), (f3, u3), (f4, u4)] = [(f1, u1), (f2, u2), (f3, u3), (f4, u4), (f5, u5)] := putF_new (by simp [e51.symm, e52.symm, e53.symm, e54.symm])
    refine ⟨_, rfl, _, rfl, p, C.cl c, dx, [], rfl, hp, cl.cl, n1.1, (by decide), ?_⟩
    rw [k1]
    refine ⟨_, rfl, _, rfl, p, C.cl c, dx, _, rfl, upd_same, cl.cl, n2.1, (by show 1 < 1000; decide), ?_⟩
    rw [k2, upd_upd]
    refine ⟨_, rfl, _, rfl, p, C.cl c, dx, _, rfl, upd_same, cl.cl, n3.1, (by show 2 < 1000; decide), ?_⟩
    rw [k3, upd_upd]
    refine ⟨_, rfl, _, rfl, p, C.cl c, dx, _, rfl, upd_same, cl.cl, n4.1, (by show 3 < 1000; decide), ?_⟩
    rw [k4, upd_upd]
    refine ⟨_, rfl, _, rfl, p, C.cl c, dx, _, rfl, upd_same, cl.cl, n5.1, (by show 4 < 1000; decide), ?_⟩
    rw [k5, upd_upd]
    exact hq
end
end VL

set_option Elab.async false
set_option linter.all false
set_option maxRecDepth 100000
set_option maxHeartbeats 4000000
/-! VL16: a def that hands back its parameter. -/
namespace VL
open PySem PySem.Spec PyProof.Rows L2
/-- a def of two parameters that hands back the second one itself -/
def CalP (P : Program) (w : World) (K : PySem.W.Frag) (mg : Str → Option Value) (base : Heap) (A : Around) (C : Cf) (x : Str) (d1 d2 : D) (r : Addr → Res RM) : Prop :=
  ∃ (k : Nat) (f : Addr) (fd : FuncData) (ps : List Str) (sp : Sp), Room k A ∧ FnOk P w K mg base (L2N.CX P w) k f fd ps sp ∧ mg x = some (.ref f) ∧ PySem.W.keepIn K (.ref f) = true ∧ Binds K fd ps [] ∧ ∀ p vs H Q E, spM C [d1, .par p d2] (r p) vs H Q E → sp vs H Q E
theorem Cld.calP {P : Program} {w : World} {K : PySem.W.Frag} {mg : Str → Option Value} {base : Heap} {C : Cf} {j k : Nat} {x : Str} {sp : Sp} {A : Around} {d1 d2 : D} {r : Addr → Res RM} (h : Cld P w K mg base j x sp) (hr : Room k A) (hj : j ≤ k) (hs : ∀ p vs H Q E, spM C [d1, .par p d2] (r p) vs H Q E → sp vs H Q E) : CalP P w K mg base A C x d1 d2 r := by
  obtain ⟨f, fd, ps, h1, h2, h3, h4⟩ := h
  exact ⟨j, f, fd, ps, sp, hr.mono hj, h1, h2, h3, h4, hs⟩
section
variable {C : Cf} {Z F H : Hp} {X : Cx} {N G : List Str} {P : Nat → Bool} {ss ss' : En} {a b c e e2 tg iter elt o : Expr} {rest es ifs : List Expr} {pos p p2 apos : Pos} {ra rb rz rm : RM} {α β γ : Type} {z q : Bool} {σ : L2.St} {fp : List Addr}
theorem Ev.unpar {q : Addr} {d : D} (h : Ev C Z X ss e (.frz (.par q d))) : Ev C Z X ss e (.frz d) := h.imp0 fun _ _ _ _ _ _ r => by
  cases r with
  | par r => exact r
theorem calP_ok {P : Program} {w : World} {K : PySem.W.Frag} {mg : Str → Option Value} {base : Heap} {A : Around} {x : Str} {d1 d2 : D} {r : Res α} {m : Addr → α → RM} {y : α} (h : CalP P w K mg base A C x d1 d2 (fun p => r.map (m p))) (e : r.get = some y) : CalP P w K mg base A C x d1 d2 (fun p => .ok (m p y)) := by
  rw [Res.get_ok e] at h
  exact h
theorem Ev.callP {x : Str} {d1 : D} {g : α → D} {xs ys : List α} (k : Cok C X N P G) (i : Nat) (hc : CalP X.prog X.w X.K X.mg X.base X.A C x d1 (dL g xs) (fun p => .ok (.cur (.par p (dL g ys))))) (e0 : ys = xs) (ha : Ev C Z X ss a (.cur d1)) (hb : Ev C Z X ss b (.frz (dL g xs))) (hi : G[i]? = some x := by rfl)
    (he1 : starEach [a, b] X.env = (false, eval a X.env) :: starEach [b] X.env := by rfl) (he2 : starEach [b] X.env = (false, eval b X.env) :: starEach [] X.env := by rfl)
    (hpl : (backTo pos (starEach [b] X.env)).any (·.1) = false := by rfl) : Ev C Z X ss (.Call (.Name x p) [a, b] [] pos) (.frz (dL g ys)) := fun σ F H Q he hq pins s I => by
  subst e0
  obtain ⟨n, f, fd, ps, sp, hr, FO, hm, hk, hbd, hs⟩ := hc
  refine (pe_callS (E := fun _ _ _ _ => False) FO hr (k.gl i x hi).1 hm hk hbd (fun σ => pass_none) (pa_cons pe_w (pa_cons pe_w pa_nil he2) he1) (k.gl i x hi).2.1 he1 hpl).run pins s σ H Q I ?_
  refine ha σ F H _ he fun v1 F1 H1 e1 q1 => hb σ F1 H1 _ (he.ext e1) fun v2 F2 H2 e2 q2 => ?_
  obtain ⟨l, vs, rfl, hl, hv⟩ : ∃ (l : Addr) (vs : List V), v2 = .ref l ∧ F2 l = some (.lst vs) ∧ Rps C F2 H2 (ys.map g) vs := by
    cases q2 with
    | lst h r => exact ⟨_, _, rfl, h, r⟩
  have r1 : Rp C H2 H2 d1 v1 := RM.ok_ext (r := .cur d1) e2 q1
  refine hs l _ _ _ _ ⟨.cons r1 (.cons (.par (Rp.lst (e2.fh _ _ hl) (hv.mono e2.fh (Tst.refl _)))) .nil), fun v H3 h3 q3 => ?_⟩
  have q4 : Rp C H3 H3 (.par l (dL g ys)) v := q3
  cases q4
  have x3 : Ext F2 H2 F2 H3 := Ext.heap e2.fh h3
  exact hq (.ref l) F2 H3 ((e1.trans e2).trans x3) (Rp.lst hl (hv.mono (Same.refl F2) (.of h3)))
end
theorem get_par {α R : Type} {o : Option α} {c : α → Bool} {e : Nat} {x r : R} (h : ((Fl.req o fun a => (if c a = true then Fl.exc e else Fl.rt x : Fl Unit R)).res (none : Option R)).get = some r) : r = x := by
  cases o with
  | none => cases h
  | some a =>
    have h' : ((if c a = true then Fl.exc e else Fl.rt x : Fl Unit R).res (none : Option R)).get = some r := h
    cases hc : c a with
    | true => rw [hc, if_pos rfl] at h'; cases h'
    | false => rw [hc, if_neg Bool.false_ne_true] at h'; cases h'; rfl
end VL

set_option Elab.async false
set_option linter.all false
set_option maxRecDepth 100000
set_option maxHeartbeats 4000000
/-! VL17: more statements by typed data. -/
namespace VL
open PySem PySem.Spec PyProof.Rows L2
section
variable {C : Cf} {Z F H : Hp} {X : Cx} {N G : List Str} {P : Nat → Bool} {ss ss' : En} {a b c e e2 tg iter elt o : Expr} {rest es ifs : List Expr} {pos p p2 apos : Pos} {ra rb rz rm : RM} {α β γ : Type} {z q : Bool} {σ : L2.St} {fp : List Addr}
variable {W : Nat → Hp → Prop} {S S' R : Type} {ES : S → En} {ES' : S' → En} {ER : R → RM} {st : Stmt} {blk sts A B : List Stmt} {fl : Fl S R} {spos : Pos}
theorem Sts.remL {x : Str} {xs : List Int} {n : Int} {kf : List Int → Fl S R} (i : Nat) (k : Cok C X N P G) (he : Ev C Z X ss e (.frz (dI n))) (h : ∀ y, y = xs.erase n → Sts C Z X W (ss.set i (some (oL (zz dI) y))) sts ES ER (kf y)) (hi : N[i]? = some x := by rfl) (hs : ss[i]? = some (some (oL (zz dI) xs)) := by rfl) (hp : P i = true := by rfl)
    (hfew : ((backTo pos (starEach [e] X.env)).all (fun x => !x.1) && (backToKw pos (keywordEach [] X.env)).all (fun x => x.1.isSome) && decide ([e].length + ([] : List Keyword).length + (if ([] : List Keyword).isEmpty then 0 else 1) < 30)) = true := by rfl)
    (hline : (apos.endLine == pos.line) = true := by rfl) (hst : starEach [e] X.env = (false, eval e X.env) :: starEach [] X.env := by rfl) : Sts C Z X W ss (.Expr (.Call (.Attribute (.Name x p) "remove" apos) [e] [] pos) spos :: sts) ES ER (Fl.chk (n ∈ xs) (Fl.lt (xs.erase n) kf)) :=
  Sts.chk fun hn => Sts.remove i k he hn (h _ rfl) hi hs hp hfew hline hst
theorem Ev.rmO_O {g : α → O} {v : Option (List α)} (h : Ev C Z X ss e (.new (oO (oL g) v))) : Ev C Z X ss e (rmO (oO (oL g) v)) := by
  cases v with
  | none => exact Ev.frz_new h .fz
  | some x => exact h
end
end VL
namespace VL
open PySem PySem.Spec PyProof.Rows L2
section
variable {C : Cf} {Z F H : Hp} {X : Cx} {ss : En} {e o : Expr} {pos p apos : Pos}
/-- xs.index(k) -/
theorem Ev.index {xs : List Int} {i j : Int} (hj : idxI xs i = some j) (ho : Ev C Z X ss o (.cur (dL dI xs))) (he : Ev C Z X ss e (.frz (dI i))) (hfew : ((backTo pos (starEach [e] X.env)).all (fun x => !x.1) && (backToKw pos (keywordEach [] X.env)).all (fun x => x.1.isSome) && decide ([e].length + ([] : List Keyword).length + (if ([] : List Keyword).isEmpty then 0 else 1) < 30)) = true := by rfl)
    (hline : (apos.endLine == pos.line) = true := by rfl) (hst : starEach [e] X.env = (false, eval e X.env) :: starEach [] X.env := by rfl) (hbase : attributeBase o "index" X.env (eval o X.env) = eval o X.env := by rfl) :
    Ev C Z X ss (.Call (.Attribute o "index" apos) [e] [] pos) (.frz (dI j)) := fun σ F H Q en hq pins s I =>
  (pe_bm PySem.F.plainAttrs_list PySem.F.slot_list_index PySem.F.type_list_index mt_index pe_w (pa_cons pe_w pa_nil hst) hbase hfew hline hst rfl).run pins s σ H Q I (by
    refine ho σ F H _ en fun v F1 H1 e1 q1 => ?_
    obtain ⟨l, rfl, hp⟩ := dI_list q1
    refine ⟨.inl ⟨rfl, _, .of hp⟩, ?_⟩
    refine he σ F1 H1 _ (en.ext e1) fun u F2 H2 e2 q2 => ?_
    cases q2
    unfold idxI at hj
    obtain ⟨hmem, hj⟩ := ite_some.mp hj
    cases hj
    obtain ⟨n, h1, h2, _⟩ := idx_first hmem
    have hn : xs.idxOf i = n := by
      have hl := List.idxOf_lt_length_of_mem hmem
      have g := List.getElem_idxOf hl
      rcases Nat.lt_trichotomy (xs.idxOf i) n with q | q | q
      · exact absurd (by rw [List.getElem?_eq_getElem hl, g]) (h2 _ q)
      · exact q
      · have hlt : n < xs.length := (List.getElem?_eq_some_iff.mp h1).1
        have e3 := (List.getElem?_eq_some_iff.mp h1).2
        have := List.not_of_lt_findIdx (p := (· == i)) (xs := xs) (i := n) (by simpa [List.idxOf] using q)
        simp [e3] at this
    refine ⟨l, xs.map V.int, .int i, n, .int i, rfl, rfl, .of (e2.hh _ _ hp), rfl, all_flat_int xs, by rw [List.getElem?_map, h1]; rfl, by simp [eqV], fun m w hm hw => ?_, hq _ F2 H2 (e1.trans e2) (by rw [← hn]; exact .sc)⟩
    rw [List.getElem?_map] at hw
    obtain ⟨y, hy, rfl⟩ := Option.map_eq_some_iff.mp hw
    have := h2 m hm
    rw [hy] at this
    simp only [eqV, beq_eq_false_iff_ne, ne_eq]
    exact fun e4 => this (by rw [e4]))
end
end VL

set_option Elab.async false
set_option linter.all false
set_option maxRecDepth 100000
set_option maxHeartbeats 4000000
/-! VL18: an owned list in an owned pair is changed. -/
namespace VL
open PySem PySem.Spec PyProof.Rows L2
section
variable {C : Cf} {Z : Hp} {X : Cx} {N G : List Str} {P : Nat → Bool} {ss ss' : En} {a b c e e2 tg iter elt : Expr} {rest es : List Expr} {pos p p2 apos : Pos} {r r' ra rb rz : RM} {α β γ : Type} {z q : Bool}
variable {W : Nat → Hp → Prop} {S S' R : Type} {ES : S → En} {ES' : S' → En} {ER : R → RM} {st : Stmt} {blk sts A B : List Stmt} {fl : Fl S R} {spos : Pos}
/-- x[m].append(e), x a tuple -/
theorem Sts.appendT {x : Str} {o : O} {os ps : List O} {m : Int} {n : Nat} (i : Nat) (k : Cok C X N P G) (hm : ixN os.length m = some n) (hn : os[n]? = some (.lst ps)) (hb : Ev C Z X ss b (.frz (dI m))) (lo : Leaf o) (he : Ev C Z X ss e (rmO o)) (hz : ps.length < sizeLine)
    (h : Sts C Z X W (ss.set i (some (.tup (os.set n (.lst (ps ++ [o])))))) sts ES ER fl) (hi : N[i]? = some x) (hs : ss[i]? = some (some (.tup os))) (hp : P i = true) (hpl : PlainIx b)
    (hfew : ((backTo pos (starEach [e] X.env)).all (fun x => !x.1) && (backToKw pos (keywordEach [] X.env)).all (fun x => x.1.isSome) && decide ([e].length + ([] : List Keyword).length + (if ([] : List Keyword).isEmpty then 0 else 1) < 30)) = true)
    (hline : (apos.endLine == pos.line) = true) (hst : starEach [e] X.env = (false, eval e X.env) :: starEach [] X.env) : Sts C Z X W ss (.Expr (.Call (.Attribute (.Subscript (.Name x p) b p2) "append" apos) [e] [] pos) spos :: sts) ES ER fl :=
  Sts.step (ps_expr (pe_bm PySem.F.plainAttrs_list PySem.F.slot_list_append PySem.F.type_list_append mt_append (pe_ix ix_tup pe_w pe_w hpl) (pa_cons pe_w pa_nil hst) rfl hfew hline hst rfl)) fun σ F H D en hq => by
    obtain ⟨fp, sl, nd⟩ := en.sl
    obtain ⟨vt, f1, f2, h1, h2', hr2, h4⟩ := sl.get hs
    cases h2' with
    | tup h2 h3 =>
    rename_i l vs
    refine Ev.slot (o := .tup os) k hi hp h1 ?_
    refine hb σ F H _ en fun w F0 H0 e0 q0 => ?_
    cases q0
    obtain ⟨w, fa, fb, fc, w1, w2, w3, w4⟩ := h3.at_ hn
    refine ⟨l, vs, m, w, rfl, rfl, .of (e0.hh _ _ h2), by unfold atI; rw [← h3.length, hm]; exact w1, ?_⟩
    cases w2 with
    | lst wf wp wr =>
      rename_i l2 ws g2
      refine ⟨.inl ⟨rfl, _, .of (e0.hh _ _ wp)⟩, ?_⟩
      refine he σ F0 H0 _ (en.ext e0) fun v F1 H1 e1 q1 => ?_
      obtain ⟨g3, og, n3, d3⟩ := rmO_ok q1
      have eg := og.leaf lo
      subst eg
      have ex := e0.trans e1
      refine ⟨l2, ws, v, rfl, rfl, ex.hh _ _ wp, by rw [← wr.length]; exact hz, ?_⟩
      have nd0 : (f1 ++ f2).Nodup := (h4.nodup_iff).mpr nd
      subst w3
      have hl2 : l2 ∈ fa ++ ((l2 :: g2) ++ fc) := List.mem_append_right _ (List.mem_append_left _ List.mem_cons_self)
      have hne : l ≠ l2 := fun z => by
        subst z
        rw [wp] at h2
        cases h2
      have ts : Tst H1 (upd H1 l2 (.lst (ws ++ [v]))) := tst_upd (ex.hh _ _ wp)
      have ndg : (fa ++ ((l2 :: g2) ++ fc)).Nodup := (List.nodup_append.mp nd0).1
      have nf : ∀ a, a ∈ fa ∨ a ∈ fc → a ≠ l2 := fun a q z => by
        subst z
        have u := List.nodup_append.mp ndg
        rcases q with q | q
        · exact u.2.2 a q a (List.mem_append_left _ List.mem_cons_self) rfl
        · exact (List.nodup_append.mp u.2.1).2.2 a List.mem_cons_self a q rfl
      have ng2 : ∀ a ∈ g2, a ≠ l2 := fun a q z => by
        subst z
        have u := (List.nodup_append.mp (List.nodup_append.mp ndg).2.1).1
        exact (List.nodup_cons.mp u).1 q
      have in2 : Own C Z F1 (upd H1 l2 (.lst (ws ++ [v]))) (.lst (ps ++ [o])) (.ref l2) (l2 :: g2) := by
        have q := Owns.append (f := g2) (g := []) ((wr.ext ex).frame ts fun a q => upd_ne (ng2 a q)) (.cons (f1 := []) (f2 := []) (og.frame ts fun a q => absurd q List.not_mem_nil) .nil)
        rw [List.append_nil] at q
        exact .lst (ex.ow _ (by rw [wp]; simp) wf) upd_same q
      have ows := w4 F1 (upd H1 l2 (.lst (ws ++ [v]))) (fun o v f hf h => (h.ext ex).frame ts fun a q => upd_ne (nf a (hf a q))) (.lst (ps ++ [o])) (.ref l2) (l2 :: g2) in2
      rw [set_at w1] at ows
      have hlH : (upd H1 l2 (.lst (ws ++ [v]))) l = some (.tup vs) := by rw [upd_ne hne]; exact ex.hh _ _ h2
      have oo : Own C Z F1 (upd H1 l2 (.lst (ws ++ [v]))) (.tup (os.set n (.lst (ps ++ [o])))) (.ref l) (fa ++ ((l2 :: g2) ++ fc)) := .tup hlH ows
      have n2 : ∀ a ∈ f2, a ≠ l2 := fun a q z => by
        subst z
        exact (List.nodup_append.mp nd0).2.2 a hl2 a q rfl
      have hi' : i < ss.length := (List.getElem?_eq_some_iff.mp hs).1
      have en2 : EnvOk C Z (ss.set i (some (.tup (os.set n (.lst (ps ++ [o])))))) F1 (upd H1 l2 (.lst (ws ++ [v]))) σ := by
        refine EnvOk.back ((hr2.ext ex).frame ts fun a q => upd_ne (n2 a q)) h1 oo hi' nd0 (en.zf.trans ex.ff) fun b o q => ?_
        rw [upd_ne (fun z => by subst z; rw [ex.ow b (by rw [wp]; simp) wf] at q; cases q)]
        exact ex.fh b o q
      exact (sts_iff.mp h) σ F1 _ D en2 (Post.mono (ex.gr.trans ⟨Same.refl F1, ts⟩) hq)
noncomputable def Fl.app1 {S R α β : Type} (x : List α × β) (v : α) (k : List α × β → Fl S R) : Fl S R := Fl.app x.1 v fun y => k (y, x.2)
noncomputable def Fl.app2 {S R α β : Type} (x : β × List α) (v : α) (k : β × List α → Fl S R) : Fl S R := Fl.app x.2 v fun y => k (x.1, y)
theorem Fl.ex_app1 {S R α β : Type} {x : List α × β} {v : α} {k : List α × β → Fl S R} (h : ∀ a, (k a).Ex) : (Fl.app1 x v k).Ex := Fl.ex_chk (h _)
theorem Fl.ex_app2 {S R α β : Type} {x : β × List α} {v : α} {k : β × List α → Fl S R} (h : ∀ a, (k a).Ex) : (Fl.app2 x v k).Ex := Fl.ex_chk (h _)
theorem Sts.appT1 {x : Str} {f : α → O} {g : β → O} {w : List α × β} {v : α} {kf : List α × β → Fl S R} {j : Nat} {p3 : Pos} (i : Nat) (k : Cok C X N P G) (lo : ∀ x, Leaf (f x)) (he : Ev C Z X ss e (rmO (f v))) (h : ∀ y, y = (w.1 ++ [v], w.2) → Sts C Z X W (ss.set i (some (oP (oL f) g y))) sts ES ER (kf y)) (hi : N[i]? = some x := by rfl) (hs : ss[i]? = some (some (oP (oL f) g w)) := by rfl) (hp : P i = true := by rfl) (hpl : PlainIx (.Constant (.int 0) j p3) := by intro _ _; rfl)
    (hfew : ((backTo pos (starEach [e] X.env)).all (fun x => !x.1) && (backToKw pos (keywordEach [] X.env)).all (fun x => x.1.isSome) && decide ([e].length + ([] : List Keyword).length + (if ([] : List Keyword).isEmpty then 0 else 1) < 30)) = true := by rfl)
    (hline : (apos.endLine == pos.line) = true := by rfl) (hst : starEach [e] X.env = (false, eval e X.env) :: starEach [] X.env := by rfl) : Sts C Z X W ss (.Expr (.Call (.Attribute (.Subscript (.Name x p) (.Constant (.int 0) j p3) p2) "append" apos) [e] [] pos) spos :: sts) ES ER (Fl.app1 w v kf) := by
  unfold Fl.app1 Fl.app
  refine Sts.chk fun hz => ?_
  refine Sts.appendT (os := [oL f w.1, g w.2]) (ps := w.1.map f) (o := f v) (m := 0) (n := 0) i k rfl rfl Ev.int (lo v) he (by simpa using hz) ?_ hi hs hp hpl hfew hline hst
  have q := h _ rfl
  unfold oP oL at q
  rw [List.map_append] at q
  exact q
theorem Sts.appT2 {x : Str} {f : α → O} {g : β → O} {w : β × List α} {v : α} {kf : β × List α → Fl S R} {j : Nat} {p3 : Pos} (i : Nat) (k : Cok C X N P G) (lo : ∀ x, Leaf (f x)) (he : Ev C Z X ss e (rmO (f v))) (h : ∀ y, y = (w.1, w.2 ++ [v]) → Sts C Z X W (ss.set i (some (oP g (oL f) y))) sts ES ER (kf y)) (hi : N[i]? = some x := by rfl) (hs : ss[i]? = some (some (oP g (oL f) w)) := by rfl) (hp : P i = true := by rfl) (hpl : PlainIx (.Constant (.int 1) j p3) := by intro _ _; rfl)
    (hfew : ((backTo pos (starEach [e] X.env)).all (fun x => !x.1) && (backToKw pos (keywordEach [] X.env)).all (fun x => x.1.isSome) && decide ([e].length + ([] : List Keyword).length + (if ([] : List Keyword).isEmpty then 0 else 1) < 30)) = true := by rfl)
    (hline : (apos.endLine == pos.line) = true := by rfl) (hst : starEach [e] X.env = (false, eval e X.env) :: starEach [] X.env := by rfl) : Sts C Z X W ss (.Expr (.Call (.Attribute (.Subscript (.Name x p) (.Constant (.int 1) j p3) p2) "append" apos) [e] [] pos) spos :: sts) ES ER (Fl.app2 w v kf) := by
  unfold Fl.app2 Fl.app
  refine Sts.chk fun hz => ?_
  refine Sts.appendT (os := [g w.1, oL f w.2]) (ps := w.2.map f) (o := f v) (m := 1) (n := 1) i k rfl rfl Ev.int (lo v) he (by simpa using hz) ?_ hi hs hp hpl hfew hline hst
  have q := h _ rfl
  unfold oP oL at q
  rw [List.map_append] at q
  exact q
end
end VL

set_option Elab.async false
set_option linter.all false
set_option maxRecDepth 100000
set_option maxHeartbeats 4000000
/-! VL19: pairs put in order. -/
namespace VL
open PySem PySem.Spec PyProof.Rows L2
def kP (H : Hp) : V → Int × Int := fun v => match v with
  | .ref t => match H t with
    | some (.tup [.int a, .int b]) => (a, b)
    | _ => (0, 0)
  | _ => (0, 0)
theorem rps_pairs {C : Cf} {F H : Hp} : ∀ {xs : List (Int × Int)} {vs : List V}, Rps C F H (xs.map (dP dI dI)) vs → vs.map (kP H) = xs ∧ ∀ v ∈ vs, ∃ t, v = .ref t ∧ H t = some (.tup [.int (kP H v).1, .int (kP H v).2])
  | [], _, h => by cases h; exact ⟨rfl, fun v hv => absurd hv List.not_mem_nil⟩
  | x :: xs, _, h => by
    cases h with
    | cons a b =>
      obtain ⟨e, q⟩ := rps_pairs b
      cases a with
      | tup hp hr =>
        cases hr with
        | cons r1 hr =>
          cases hr with
          | cons r2 hr =>
            cases hr
            cases r1
            cases r2
            rename_i p
            have k : kP H (.ref p) = x := by simp only [kP, hp]
            refine ⟨by rw [List.map_cons, k, e], fun v hv => ?_⟩
            rcases List.mem_cons.mp hv with rfl | hv
            · exact ⟨p, rfl, by rw [k]; exact hp⟩
            · exact q v hv
theorem owns_pairs {C : Cf} {Z F H : Hp} : ∀ {ys : List V}, (∀ v ∈ ys, ∃ t, v = .ref t ∧ H t = some (.tup [.int (kP H v).1, .int (kP H v).2])) → Owns C Z F H ((ys.map (kP H)).map (zz (dP dI dI))) ys []
  | [], _ => .nil
  | y :: ys, h => by
    obtain ⟨t, e, q⟩ := h y List.mem_cons_self
    subst e
    exact .cons (f1 := []) (f2 := []) (.fz (.tup q (.cons .sc (.cons .sc .nil)))) (owns_pairs fun v hv => h v (List.mem_cons_of_mem _ hv))
end VL
namespace VL
open PySem PySem.Spec PyProof.Rows L2
section
variable {C : Cf} {Z : Hp} {X : Cx} {N G : List Str} {P : Nat → Bool} {ss : En} {a : Expr} {pos p : Pos}
/-- sorted(xs), xs pairs of ints -/
theorem Ev.sortedP {xs : List (Int × Int)} (k : Cok C X N P G) (i : Nat) (hi : G[i]? = some ("sorted" : Str) := by rfl) (ha : Ev C Z X ss a (.cur (dL (dP dI dI) xs))) (na : starEach [a] X.env = (false, eval a X.env) :: starEach [] X.env := by rfl) : Ev C Z X ss (.Call (.Name "sorted" p) [a] [] pos) (.new (oL (zz (dP dI dI)) (psort xs))) :=
  Ev.cb1 k i cr_sortedPO hi k.bt.sorted boot_sorted ha na fun v F H H0 Q s h hq => by
    obtain ⟨l, vs, rfl, hl, hr⟩ : ∃ (l : Addr) (vs : List V), v = .ref l ∧ H l = some (.lst vs) ∧ Rps C H H (xs.map (dP dI dI)) vs := by
      cases h with
      | lst hp hr => exact ⟨_, _, rfl, hp, hr⟩
    obtain ⟨e, q⟩ := rps_pairs hr
    refine ⟨l, vs, kP H, rfl, .of hl, q, fun ys p h1 h2 hp => ?_⟩
    have pm : (ys.map (kP H)).Perm xs := by rw [← e]; exact h2.perm.map _
    have so : (ys.map (kP H)).Pairwise (fun a b => ple a b = true) := by
      rw [List.pairwise_map]
      refine h1.imp fun {x y} hlt => ?_
      have hlt : ¬SrtO.lexB (kP H y) (kP H x) = true := by
        have z : SrtO.lexB (kP H y) (kP H x) = false := hlt
        rw [z]
        decide
      rw [SrtO.lexB_iff] at hlt
      unfold ple
      simp only [Bool.or_eq_true, Bool.and_eq_true, decide_eq_true_eq]
      omega
    have x := new_list s hp (owns_pairs (C := C) (Z := Z) (F := F) (H := H) (ys := ys) fun v hv => q v (h2.perm.subset hv))
    rw [psort_eq pm so] at x
    exact hq _ _ _ x.1 x.2
end
end VL

set_option Elab.async false
set_option linter.all false
set_option maxRecDepth 100000
set_option maxHeartbeats 4000000
/-! VL20: xs[:0:-1]. -/
namespace VL
open PySem PySem.Spec PyProof.Rows L2
theorem rev0_bounds (n : Nat) : sliceBounds none (some 0) (some (-1)) n = ((n : Int) - 1, max (-1) (min 0 ((n : Int) - 1)), -1) := by
  simp [sliceBounds]
theorem rev0_range (n : Nat) : sliceRange ((n : Int) - 1) (max (-1) (min 0 ((n : Int) - 1))) (-1) = (List.range (n - 1)).map fun k => n - 1 - k := by
  unfold sliceRange
  have h1 : ¬ ((-1 : Int) > 0) := by decide
  by_cases h : (n : Int) - 1 > max (-1) (min 0 ((n : Int) - 1))
  · have e : (((n : Int) - 1 - max (-1) (min 0 ((n : Int) - 1)) - -1 - 1) / (- -1)).toNat = n - 1 := by
      rw [show (- -1 : Int) = 1 by decide, Int.ediv_one]
      omega
    simp only [h1, if_false, h, if_true, e]
    apply List.map_congr_left
    intro k hk
    have := List.mem_range.mp hk
    omega
  · have e : n - 1 = 0 := by omega
    simp only [h1, if_false, h, e]
    rfl
theorem fm_congr {α β : Type} {f g : α → Option β} : ∀ {l : List α}, (∀ k ∈ l, f k = g k) → l.filterMap f = l.filterMap g
  | [], _ => rfl
  | x :: l, h => by
    rw [List.filterMap_cons, List.filterMap_cons, h x (by simp), fm_congr fun k hk => h k (by simp [hk])]
theorem rev0_pick (items : Array Value) : slicePick items none (some 0) (some (-1)) = items.toList.tail.reverse.toArray := by
  unfold slicePick
  rw [rev0_bounds]
  show ((sliceRange ((items.size : Int) - 1) (max (-1) (min 0 ((items.size : Int) - 1))) (-1)).filterMap (items[·]?)).toArray = _
  rw [rev0_range]
  congr 1
  have hl : items.toList.length = items.size := by simp
  generalize hn : items.size = n at hl
  have e : (List.range (n - 1)).filterMap ((items[·]?) ∘ fun k => n - 1 - k) = items.toList.tail.reverse := by
    have h2 : ∀ k ∈ List.range (n - 1), ((items[·]?) ∘ fun k => n - 1 - k) k = (items.toList.tail.reverse)[k]? := fun k hk => by
      have := List.mem_range.mp hk
      show items[n - 1 - k]? = _
      rw [List.getElem?_reverse (by rw [List.length_tail]; omega), List.length_tail, List.getElem?_tail, ← Array.getElem?_toList]
      congr 1
      omega
    rw [fm_congr h2]
    have h3 := PySem.W.krv_all (items.toList.tail.reverse.toArray)
    have h4 : (items.toList.tail.reverse.toArray).size = n - 1 := by simp [hn]
    rw [h4] at h3
    simpa using h3
  rw [List.filterMap_map]
  exact e
section
variable {X : Cx}
def tRev0 (K : PySem.W.Frag) (te : TE) : TE := fun σ H Q => te σ H fun x H1 => ∃ a xs, x = .ref a ∧ SqL K H1 a xs ∧ ∀ p, H1 p = none → Q (.ref p) (upd H1 p (.lst xs.tail.reverse))
theorem Vals.tail : ∀ {xs : List V} {us : List Value}, Vals xs us → Vals xs.tail us.tail
  | _, _, .nil => .nil
  | _, _, .cons _ b => b
theorem pe_rev0 {e : Expr} {te : TE} {k k0 : Nat} {p0 p1 p2 p3 pos : Pos} (he : PE X e te) : PE X (.Subscript e (.Slice none (some (.Constant (.int 0) k0 p0)) (some (.UnaryOp .USub (.Constant (.int 1) k p1) p2)) p3) pos) (tRev0 X.K te) := by
  refine ⟨fun pins s σ H Q I h => ?_⟩
  refine Subscript_ (thn (he.run pins s σ H _ I h) fun v s1 ⟨x, H1, I1, r1, q1⟩ => ?_)
  obtain ⟨a, xs, ex, hx, q⟩ := q1
  subst ex
  cases r1
  have hst : PO X (some (.UnaryOp .USub (.Constant (.int 1) k p1) p2)) (tPart (tUn (rU fun i => .int (-i)) (tC (.int 1)))) := po_some (pe_un un_neg pe_int)
  have hup : PO X (some (.Constant (.int 0) k0 p0)) (tPart (tC (.int 0))) := po_some pe_int
  refine wpAny_Slice (thn (po_none.run pins s1 σ H1 (fun o H2 => o = none ∧ H2 = H1) I1 ⟨rfl, rfl⟩) fun vl s2 ⟨l, H2, I2, pl, el, e2⟩ => ?_)
  subst el e2
  refine thn (hup.run pins s2 σ H2 (fun o H3 => o = some 0 ∧ H3 = H2) I2 ⟨0, rfl, rfl, rfl⟩) fun vu s3 ⟨u, H3, I3, pu, eu, e3⟩ => ?_
  subst eu e3
  refine thn (hst.run pins s3 σ H3 (fun o H4 => o = some (-1) ∧ H4 = H3) I3 ⟨1, rfl, -1, rfl, rfl, rfl⟩) fun vs s4 ⟨o, H4, I4, ps, eo, e4⟩ => ?_
  subst eo e4
  have I5 : Inv X pins σ H4 { s4 with heap := s4.heap.push { cls := .type "slice", data := .fields #[vl, vu, vs] } } := I4.kept (t' := s4.toks) fun b ob q => Heap.get?_push_of_some _ q
  obtain ⟨its, r, ht, hz⟩ := I5.list hx
  have hlen := r.length
  show wpAny (model X.prog X.w) X.A (subscriptTail e (.Slice none (some (.Constant (.int 0) k0 p0)) (some (.UnaryOp .USub (.Constant (.int 1) k p1) p2)) p3) (.ref a) (.ref s4.heap.objs.size)) (EP X pins σ Q) X.xe { s4 with heap := s4.heap.push { cls := .type "slice", data := .fields #[vl, vu, vs] } }
  refine tail_any (ops := [.ref a, .ref s4.heap.objs.size]) ht.isList.typeIs (PySem.slot_list_getitem.lookup) ?_ (by with_unfolding_all rfl)
  refine wpAny_getItem_list_slice ht.isList (Heap.IsSliceOf.new _ vl vu vs) pl pu ps (by decide) ?_ (by rw [List.size_toArray]; omega)
  rw [rev0_pick]
  refine ⟨.ref _, _, I5.laid (t' := s4.toks) (o := .lst xs.tail.reverse) (fun b ob q => Heap.get?_push_of_some _ q) (Nat.le_refl _) ?_, rfl, q _ (I5.hok.fresh (Nat.le_refl _))⟩
  exact ⟨by rw [List.length_reverse, List.length_tail]; omega, _, 0, (Vals.tail r).reverse, Heap.get?_push_size _ rfl⟩
end
section
variable {C : Cf} {Z : Hp} {X : Cx} {ss : En} {a : Expr} {pos : Pos}
theorem Ev.rev0 {os : List O} {k k0 : Nat} {p0 p1 p2 p3 : Pos} (ha : Ev C Z X ss a (.itm os)) : Ev C Z X ss (.Subscript a (.Slice none (some (.Constant (.int 0) k0 p0)) (some (.UnaryOp .USub (.Constant (.int 1) k p1) p2)) p3) pos) (.new (.lst os.tail.reverse)) := fun σ F H Q he hq pins s I =>
  (pe_rev0 pe_w).run pins s σ H Q I (ha σ F H _ he fun v F1 H1 e1 q1 => by
    obtain ⟨p, vs, rfl, hp, hr⟩ := q1
    refine ⟨p, vs, rfl, .of hp, fun q hq' => ?_⟩
    have hr2 := hr.drop 1
    rw [List.drop_one, List.drop_one] at hr2
    have z := new_list e1.fh hq' hr2.reverse
    exact hq _ _ _ (e1.trans z.1) (RM.ok_old e1.hh z.2))
end
end VL

set_option Elab.async false
set_option linter.all false
set_option maxRecDepth 100000
set_option maxHeartbeats 4000000
/-! VL21: sorted(set(xs)), xs a list of ints. -/
namespace VL
open PySem PySem.Spec PyProof.Rows L2
/-- a new set's object -/
abbrev nset (w : World) : Obj := ⟨.type "set", none, .set #[] 0 (.fresh 0 0 (!w.params.followText "set-order")), #[]⟩
section
variable {P : Program} {w : World} {A : Around} {E : Value → Shared → Prop} {s : Shared}
set_option maxHeartbeats 3200000 in
theorem set_of_list {l : Addr} {items : Array Value} (ns : List Int) {Q : Value → Shared → Prop} (hh : A.handled = none) (hl : s.heap.IsList l items)
    (hit : IntsAre items.toList ns) (hb : ns.length + 1 < scanBound)
    (h : ∀ (h' : Heap) (tk c : Nat), SetR w h' s.heap.objs.size (fun j => decide (j ∈ ns)) c → c ≤ ns.length →
      (∀ b o, s.heap.get? b = some o → h'.get? b = some o) → Q (.ref s.heap.objs.size) { s with heap := h', toks := tk }) :
    wpAny (model P w) A (call (.type "set") [.ref l]) Q E s := by
  have isz : items.size = ns.length := by
    have q := hit.length
    rwa [Array.length_toList] at q
  obtain ⟨c, tl, hmro⟩ := F.called_set.mro
  have a1 := F.called_set.made
  have a2 := F.called_set.sub
  refine wpAny_call (codeAny_of_tree ?_)
  show wpAny _ _ (callAny (.type "set") _) _ _ _
  refine wpAny_pure ⟨Code.quiet_builtin _ (by decide +kernel), codeAny_builtin F.entry_type_call ?_⟩
  rw [Around.under_plain (weight_type_call_type "set" [.ref l] []) rfl]
  have a3 := F.called_set.notType
  have a4 := F.called_set.canCreate
  have a5 := F.typeCall_set_1 (.ref l)
  repeat (any_goals (first | assumption | wp_step))
  refine codeAny_mono (code_set_led1 (.ref l) (E := E) (Q₁ := fun ob s1 => ob = .ref s.heap.objs.size ∧ s1 = { s with heap := s.heap.push (nset w) }) ⟨rfl, rfl⟩) fun r s1 hr => ?_
  cases r with
  | error e => exact hr
  | ok fl =>
    cases fl with
    | ret ob =>
      obtain ⟨rfl, rfl⟩ := hr
      have g0 : (s.heap.push (nset w)).get? s.heap.objs.size = some (nset w) := Heap.get?_push_size _ rfl
      have ty : Shared.TypeIs { s with heap := s.heap.push (nset w) } (.ref s.heap.objs.size) "set" := ⟨_, g0, rfl⟩
      have i1 := F.called_set.init.lookup
      have i2 := F.called_set.init.bind (.ref s.heap.objs.size)
      repeat (any_goals (first | assumption | wp_step))
      refine codeAny_mono (codeAny_call_builtin (R := wants (fun r s2 => r = .none ∧ ∃ h' tk c, s2 = { s with heap := h', toks := tk } ∧ SetR w h' s.heap.objs.size (fun j => decide (j ∈ ns)) c ∧ c ≤ ns.length ∧
          (∀ b o, s.heap.get? b = some o → h'.get? b = some o)) E) F.called_set.init.plain F.entry_set_init (check_set_init_1 ty ?_)) fun r2 s2 hr2 => ?_
      · obtain ⟨ol, o1, o2, nl, o3⟩ := hl
        obtain ⟨oc, od, odt, osl⟩ := ol
        simp only at o2 o3
        subst o2 o3
        have ol' : (s.heap.push (nset w)).get? l = some ⟨.type "list", od, .seq items nl, osl⟩ := Heap.get?_push_of_some _ o1
        have b1 := F.sub_list_set
        have b2 := F.sub_list_frozenset
        have b3 : (Value.type "list" == Value.type "dict") = false := by decide
        have l1 : (s.heap.push (nset w)).IsList l items := ⟨_, ol', rfl, nl, rfl⟩
        unfold Builtin.«set.__init__» noKeywords Builtin.Frozenset.updateFrom
        generalize hPI : pyIter = PI
        wp_walk
        subst hPI
        refine wpAny_pyIter_list l1 (wpAny_bind (wpAny_runValue ?_))
        have lS : l < s.heap.objs.size := Heap.lt_size o1
        have h3 : A.in1.in1.in1.handled = none := by simp [hh]
        have ne1 : l ≠ (s.heap.push (nset w)).objs.size := by rw [Heap.size_push]; exact Nat.ne_of_lt (Nat.lt_succ_of_lt lS)
        have ne2 : s.heap.objs.size ∉ [(s.heap.push (nset w)).objs.size, l] := by
          rw [Heap.size_push]
          intro q
          rcases List.mem_cons.mp q with q | q
          · exact absurd q (Nat.ne_of_lt (Nat.lt_succ_self _))
          · exact absurd (List.mem_singleton.mp q) (Nat.ne_of_gt lS)
        have vals : ∀ (i : Nat) (v : Value), items[i]? = some v → ∃ k t, ns[i]? = some k ∧ v = .int k t := fun i v hv => by
          have hi : i < ns.length := by rw [← isz]; exact (Array.getElem?_eq_some_iff.mp hv).1
          obtain ⟨t, e⟩ := IntsAre.int_at hit i v (by rw [Array.getElem?_toList]; exact hv)
          refine ⟨ns[i], t, List.getElem?_eq_getElem hi, ?_⟩
          rw [e, List.getD_eq_getElem?_getD, List.getElem?_eq_getElem hi]
          rfl
        refine set_update_ints ((Walks.list h3 _ l ne1 items).toS) s.heap.objs.size ne2 ns isz hb vals (items.size - 0) 0 _ (by omega) (Nat.zero_le _) ⟨⟨_, Heap.get?_push_size _ rfl, rfl, rfl⟩, (l1.push _)⟩ ?_ ?_
        · exact ⟨0, Nat.le_refl 0, setR_new_at (Heap.get?_push_of_some _ g0)⟩
        · intro s' c' hm hc' hS'
          obtain ⟨h', g2, d', tk', os'⟩ := s'
          cases (show g2 = s.gens from hm.gens)
          cases (show d' = s.drawn from hm.drawn)
          cases (show os' = s.os from hm.os)
          show wpAny _ _ _ _ _ _
          refine wpAny_pure ?_
          show wpAny _ _ (ret Value.none) _ _ _
          rw [isz] at hc'
          refine wpAny_pure ⟨rfl, h', tk', c', rfl, hS', hc', fun b o e => ?_⟩
          have b0 : b < s.heap.objs.size := Heap.lt_size e
          refine hm.heap b o (fun q => ?_) (Heap.get?_push_of_some _ (Heap.get?_push_of_some _ e))
          rcases List.mem_cons.mp q with q | q
          · exact absurd q (Nat.ne_of_lt b0)
          · have q2 := List.mem_singleton.mp q
            rw [Heap.size_push] at q2
            exact absurd q2 (Nat.ne_of_lt (Nat.lt_succ_of_lt b0))
      · cases r2 with
        | error e => exact hr2
        | ok fl2 =>
          cases fl2 with
          | ret r =>
            obtain ⟨rfl, h', tk, c', rfl, hS', hc', hk'⟩ := hr2
            repeat (any_goals (first | assumption | wp_step))
            exact h _ _ _ hS' hc' hk'
          | _ => exact hr2.elim
    | _ => exact hr.elim
end
/-- each once -/
def dd : List Int → List Int
  | [] => []
  | x :: xs => if x ∈ dd xs then dd xs else x :: dd xs
theorem dd_mem {x : Int} : ∀ {xs : List Int}, x ∈ dd xs ↔ x ∈ xs
  | [] => Iff.rfl
  | y :: xs => by
    unfold dd
    split
    · next h =>
      rw [dd_mem, List.mem_cons]
      refine ⟨.inr, fun q => ?_⟩
      rcases q with rfl | q
      · exact dd_mem.mp h
      · exact q
    · rw [List.mem_cons, List.mem_cons, dd_mem]
theorem dd_nodup : ∀ xs : List Int, (dd xs).Nodup
  | [] => List.nodup_nil
  | y :: xs => by
    unfold dd
    split
    · exact dd_nodup xs
    · next h => exact List.nodup_cons.mpr ⟨h, dd_nodup xs⟩
/-- the members, rising -/
def usort (xs : List Int) : List Int := isort (dd xs)
theorem usort_mem {xs : List Int} {x : Int} : x ∈ usort xs ↔ x ∈ xs := by
  unfold usort
  rw [(isort_perm _).mem_iff, dd_mem]
theorem usort_lt (xs : List Int) : (usort xs).Pairwise (· < ·) := by
  have h1 := isort_sorted (dd xs)
  have h2 : (isort (dd xs)).Nodup := (isort_perm _).nodup_iff.mpr (dd_nodup xs)
  exact (h1.and h2).imp fun ⟨a, b⟩ => by omega
theorem usort_eq {xs ns : List Int} (h : ns.Pairwise (· < ·)) (hm : ∀ k, k ∈ ns ↔ k ∈ xs) : ns = usort xs := by
  have na : ns.Nodup := h.imp fun q => by omega
  have nb : (usort xs).Nodup := (usort_lt xs).imp fun q => by omega
  exact sorted_unique ((List.perm_ext_iff_of_nodup na nb).mpr fun x => (hm x).trans usort_mem.symm) (h.imp fun q => by omega) ((usort_lt xs).imp fun q => by omega)
/-- few members -/
def Few (xs : List Int) : Prop := ∃ L : List Int, (∀ x ∈ xs, x ∈ L) ∧ L.length < 64
theorem few_len : ∀ {a b : List Int}, a.Nodup → (∀ x ∈ a, x ∈ b) → a.length ≤ b.length
  | [], _, _, _ => Nat.zero_le _
  | x :: a, b, nd, h => by
    have hx := h x (by simp)
    have n := List.nodup_cons.mp nd
    have q := few_len (b := b.erase x) n.2 fun y hy => (List.mem_erase_of_ne (fun e => n.1 (by rw [← e]; exact hy))).mpr (h y (by simp [hy]))
    rw [List.length_erase_of_mem hx] at q
    have := List.length_pos_of_mem hx
    rw [List.length_cons]
    omega
section
variable {C : Cf} {Z : Hp} {X : Cx} {N G : List Str} {P : Nat → Bool} {ss : En} {a : Expr} {pos p : Pos}
theorem Ev.sortedSet {xs : List Int} (hz : xs.length + 1 < scanBound) (hw : Few xs) (k : Cok C X N P G) (i j : Nat) (ha : Ev C Z X ss a (.cur (dL dI xs))) (hi : G[i]? = some ("sorted" : Str) := by rfl) (hj : G[j]? = some ("set" : Str) := by rfl) {p2 q : Pos}
    (na : starEach [a] X.env = (false, eval a X.env) :: starEach [] X.env := by rfl) : Ev C Z X ss (.Call (.Name "sorted" p) [.Call (.Name "set" p2) [a] [] q] [] pos) (.new (oL (zz dI) (usort xs))) := fun σ F H Q en hq pins s I => by
  refine Call_ (ld_blt I (k.gl i _ hi).1 k.bt.sorted boot_sorted ?_)
  refine PyProof.Rows.callWith_builtin1 (PyProof.Rows.args_cons ?_ rfl) rfl rfl
  refine Call_ (ld_blt I (k.gl j _ hj).1 k.bt.set PyProof.Rows.boot_set ?_)
  refine PyProof.Rows.callWith_type1 (PyProof.Rows.args_cons (thn (ha σ F H _ en (fun v F1 H1 e1 q1 => ⟨F1, e1, q1⟩ : ∀ v F' H', Ext F H F' H' → _ → (fun v H' => ∃ F', Ext F H F' H' ∧ Rp C H' H' (dL dI xs) v) v H') pins s I) fun v s1 ⟨x, H1, I1, r1, q1⟩ => PyProof.Rows.args_nil ?_) na) na rfl
  obtain ⟨F1, e1, q1⟩ := q1
  obtain ⟨l, rfl, hp⟩ := dI_list q1
  cases r1
  obtain ⟨its, r, pl, hlen⟩ := I1.list (SqL.of hp)
  have hl : its.toArray.size = xs.length := by rw [List.size_toArray, ← r.length, List.length_map]
  refine set_of_list xs (I1.ok.hd k.calm) pl.isList (by simpa using r.ints) hz fun h' tk c hS hc hk => ?_
  refine PyProof.Rows.args_nil ?_
  have I2 : Inv X pins σ H1 { s1 with heap := h', toks := tk } := I1.kept fun b o e => hk b o e
  have c64 : c < 64 := by
    obtain ⟨L, hL, h64⟩ := hw
    obtain ⟨o, es, ep, t, ho, hx, hd, g, nd, hm, hb, hf, hn, _⟩ := hS
    have := few_len nd fun x hx => hL x (of_decide_eq_true ((hm x).mpr hx))
    rw [List.length_map, Array.length_toList] at this
    omega
  refine sorted_set hS (I2.ok.hd k.calm) c64 fun s' p out c2 ns kk g o hp hg hi hs hm hl2 => ?_
  have e : ns = usort xs := usort_eq hs fun k => (hm k).trans decide_eq_true_iff
  have hlen : (ns.map V.int).length ≤ sizeLine := by rw [List.length_map, hl2, sizeLine_eq]; omega
  have hn : H1 p = none := I2.hok.fresh hp
  have J : Inv X pins σ (upd H1 p (.lst (ns.map V.int))) { ({ s1 with heap := h', toks := tk } : Shared) with heap := s'.heap, gens := s'.gens, drawn := s'.drawn, toks := s'.toks } :=
    I2.call (ch := []) (Un.laid kk hp hn) (I2.hok.laid kk hp ⟨hlen, out.toList, c2, vals_of_ints hi, hg⟩) (by rw [g]; exact I2.bare) (fun _ z => nomatch z)
  have es : s' = { ({ s1 with heap := h', toks := tk } : Shared) with heap := s'.heap, gens := s'.gens, drawn := s'.drawn, toks := s'.toks } := by
    cases s'
    cases o
    rfl
  rw [es]
  subst e
  have x := new_list e1.fh hn (owns_ints (C := C) (Z := Z) (F := F1) (H := H1) (usort xs))
  exact ⟨.ref p, _, J, rfl, hq _ _ _ (e1.trans x.1) (RM.ok_old e1.hh x.2)⟩
end
end VL

set_option Elab.async false
set_option linter.all false
set_option maxRecDepth 100000
set_option maxHeartbeats 4000000
/-! VL22: an owned list at a place within an owned tree. -/
namespace VL
open PySem PySem.Spec PyProof.Rows L2
def kids : O → List O
  | .lst os => os
  | .tup os => os
  | .obj _ os => os
  | _ => []
def withKids : O → List O → O
  | .lst _, os => .lst os
  | .tup _, os => .tup os
  | .obj c _, os => .obj c os
  | o, _ => o
def oAt : List Nat → O → Option O
  | [], o => some o
  | n :: π, o => ((kids o)[n]?).bind (oAt π)
def oPut : List Nat → O → O → O
  | [], _, o' => o'
  | n :: π, o, o' => match (kids o)[n]? with
    | some c => withKids o ((kids o).set n (oPut π c o'))
    | none => o
/-- the value at a place -/
inductive Vat (C : Cf) (H : Hp) : V → List Nat → V → Prop
  | nil {v : V} : Vat C H v [] v
  | lst {l : Addr} {vs : List V} {n : Nat} {w u : V} {π : List Nat} : H l = some (.lst vs) → vs[n]? = some w → Vat C H w π u → Vat C H (.ref l) (n :: π) u
  | tup {l : Addr} {vs : List V} {n : Nat} {w u : V} {π : List Nat} : H l = some (.tup vs) → vs[n]? = some w → Vat C H w π u → Vat C H (.ref l) (n :: π) u
  | obj {c : Nat} {l dx : Addr} {fs : List (Str × V)} {n : Nat} {w u : V} {π : List Nat} : H l = some (.ins (C.cl c) dx fs) → (fs.map (·.2))[n]? = some w → Vat C H w π u → Vat C H (.ref l) (n :: π) u
section
variable {C : Cf} {Z F H : Hp}
theorem Vat.det {v u u' : V} {π : List Nat} (a : Vat C H v π u) (b : Vat C H v π u') : u = u' := by
  induction a with
  | nil => cases b; rfl
  | lst h1 h2 _ ih =>
    cases b with
    | lst g1 g2 b => rw [h1] at g1; cases g1; rw [h2] at g2; cases g2; exact ih b
    | tup g1 g2 b => rw [h1] at g1; cases g1
    | obj g1 g2 b => rw [h1] at g1; cases g1
  | tup h1 h2 _ ih =>
    cases b with
    | lst g1 g2 b => rw [h1] at g1; cases g1
    | tup g1 g2 b => rw [h1] at g1; cases g1; rw [h2] at g2; cases g2; exact ih b
    | obj g1 g2 b => rw [h1] at g1; cases g1
  | obj h1 h2 _ ih =>
    cases b with
    | lst g1 g2 b => rw [h1] at g1; cases g1
    | tup g1 g2 b => rw [h1] at g1; cases g1
    | obj g1 g2 b =>
      rw [h1] at g1
      injection (Option.some.inj g1) with _ _ e3
      subst e3
      rw [h2] at g2
      cases g2
      exact ih b
theorem Vat.app {v u w : V} {π ρ : List Nat} (a : Vat C H v π u) (b : Vat C H u ρ w) : Vat C H v (π ++ ρ) w := by
  induction a with
  | nil => exact b
  | lst h1 h2 _ ih => exact .lst h1 h2 (ih b)
  | tup h1 h2 _ ih => exact .tup h1 h2 (ih b)
  | obj h1 h2 _ ih => exact .obj h1 h2 (ih b)
theorem oAt_app : ∀ {π ρ : List Nat} {o c : O}, oAt π o = some c → oAt (π ++ ρ) o = oAt ρ c
  | [], _, _, _, h => by cases h; rfl
  | n :: π, ρ, o, c, h => by
    unfold oAt at h
    obtain ⟨d, h1, h2⟩ := Option.bind_eq_some_iff.mp h
    show ((kids o)[n]?).bind (oAt (π ++ ρ)) = _
    rw [h1]
    exact oAt_app h2
/-- the tree at a place -/
theorem Own.sub : ∀ {π : List Nat} {o c : O} {v : V} {fp : List Addr}, Own C Z F H o v fp → oAt π o = some c → ∃ u g fa fc, Vat C H v π u ∧ Own C Z F H c u g ∧ fp = fa ++ (g ++ fc) ∧
    ∀ F' H', (∀ (o : O) (v : V) (f : List Addr), (∀ a ∈ f, a ∈ fa ∨ a ∈ fc) → Own C Z F H o v f → Own C Z F' H' o v f) → (∀ a ∈ fa, F' a = none ∧ H' a = H a) → Tst H H' → ∀ c' g', Own C Z F' H' c' u g' → Own C Z F' H' (oPut π o c') v (fa ++ (g' ++ fc))
  | [], o, c, v, fp, h, e => by
    cases e
    refine ⟨v, fp, [], [], .nil, h, by simp, fun F' H' _ _ _ c' g' h' => ?_⟩
    rw [List.nil_append, List.append_nil]
    exact h'
  | n :: π, o, c, v, fp, h, e => by
    unfold oAt at e
    obtain ⟨d, e1, e2⟩ := Option.bind_eq_some_iff.mp e
    have put : ∀ c', oPut (n :: π) o c' = withKids o ((kids o).set n (oPut π d c')) := fun c' => by
      show (match (kids o)[n]? with | some c => withKids o ((kids o).set n (oPut π c c')) | none => o) = _
      rw [e1]
    cases h with
    | fz _ => cases e1
    | nz _ => cases e1
    | dic _ _ => cases e1
    | flst _ _ => cases e1
    | pin _ => cases e1
    | lst hf hp hr =>
      obtain ⟨w, fa, fb, fc, w1, w2, w3, w4⟩ := hr.at_ e1
      obtain ⟨u, g, fa2, fc2, v1, v2, v3, v4⟩ := Own.sub w2 e2
      rename_i l vs os fp'
      refine ⟨u, g, l :: (fa ++ fa2), fc2 ++ fc, .lst hp w1 v1, v2, by rw [w3, v3]; simp, fun F' H' k ka ts c' g' h' => ?_⟩
      rw [put]
      have i1 := v4 F' H' (fun o v f hf h => k o v f (fun a q => (hf a q).imp (fun z => List.mem_cons_of_mem _ (List.mem_append_right _ z)) (fun z => List.mem_append_left _ z)) h) (fun a q => ka a (List.mem_cons_of_mem _ (List.mem_append_right _ q))) ts c' g' h'
      have i2 := w4 F' H' (fun o v f hf h => k o v f (fun a q => (hf a q).imp (fun z => List.mem_cons_of_mem _ (List.mem_append_left _ z)) (fun z => List.mem_append_right _ z)) h) _ _ _ i1
      rw [set_at w1] at i2
      have q := ka l List.mem_cons_self
      have i3 := Own.lst (C := C) (Z := Z) (H := H') q.1 (q.2.trans hp) i2
      have eq : l :: (fa ++ ((fa2 ++ (g' ++ fc2)) ++ fc)) = l :: (fa ++ fa2) ++ (g' ++ (fc2 ++ fc)) := by simp
      rw [← eq]
      exact i3
    | tup hp hr =>
      obtain ⟨w, fa, fb, fc, w1, w2, w3, w4⟩ := hr.at_ e1
      obtain ⟨u, g, fa2, fc2, v1, v2, v3, v4⟩ := Own.sub w2 e2
      refine ⟨u, g, fa ++ fa2, fc2 ++ fc, .tup hp w1 v1, v2, by rw [w3, v3]; simp, fun F' H' k ka ts c' g' h' => ?_⟩
      rw [put]
      have i1 := v4 F' H' (fun o v f hf h => k o v f (fun a q => (hf a q).imp (fun z => List.mem_append_right _ z) (fun z => List.mem_append_left _ z)) h) (fun a q => ka a (List.mem_append_right _ q)) ts c' g' h'
      have i2 := w4 F' H' (fun o v f hf h => k o v f (fun a q => (hf a q).imp (fun z => List.mem_append_left _ z) (fun z => List.mem_append_right _ z)) h) _ _ _ i1
      rw [set_at w1] at i2
      have i3 := Own.tup (C := C) (Z := Z) (F := F') (ts _ _ hp) i2
      have eq : fa ++ ((fa2 ++ (g' ++ fc2)) ++ fc) = (fa ++ fa2) ++ (g' ++ (fc2 ++ fc)) := by simp
      rw [← eq]
      exact i3
    | obj hf hp hn hr =>
      obtain ⟨w, fa, fb, fc, w1, w2, w3, w4⟩ := hr.at_ e1
      obtain ⟨u, g, fa2, fc2, v1, v2, v3, v4⟩ := Own.sub w2 e2
      rename_i cc l dx fs os fp'
      refine ⟨u, g, l :: (fa ++ fa2), fc2 ++ fc, .obj hp w1 v1, v2, by rw [w3, v3]; simp, fun F' H' k ka ts c' g' h' => ?_⟩
      rw [put]
      have i1 := v4 F' H' (fun o v f hf h => k o v f (fun a q => (hf a q).imp (fun z => List.mem_cons_of_mem _ (List.mem_append_right _ z)) (fun z => List.mem_append_left _ z)) h) (fun a q => ka a (List.mem_cons_of_mem _ (List.mem_append_right _ q))) ts c' g' h'
      have i2 := w4 F' H' (fun o v f hf h => k o v f (fun a q => (hf a q).imp (fun z => List.mem_cons_of_mem _ (List.mem_append_left _ z)) (fun z => List.mem_append_right _ z)) h) _ _ _ i1
      rw [set_at w1] at i2
      have q := ka l List.mem_cons_self
      have i3 := Own.obj (C := C) (Z := Z) (H := H') q.1 (q.2.trans hp) hn i2
      have eq : l :: (fa ++ ((fa2 ++ (g' ++ fc2)) ++ fc)) = l :: (fa ++ fa2) ++ (g' ++ (fc2 ++ fc)) := by simp
      rw [← eq]
      exact i3
end
section
variable {C : Cf} {Z : Hp} {X : Cx} {N G : List Str} {P : Nat → Bool} {ss ss' : En} {a b c e e2 tg iter elt : Expr} {rest es : List Expr} {pos p p2 apos : Pos} {r r' ra rb rz : RM} {α β γ : Type} {z q : Bool}
variable {W : Nat → Hp → Prop} {S S' R : Type} {ES : S → En} {ES' : S' → En} {ER : R → RM} {st : Stmt} {blk sts A B : List Stmt} {fl : Fl S R} {spos : Pos}
/-- a names the place π of the slot i -/
def Lv (C : Cf) (Z : Hp) (X : Cx) (ss : En) (a : Expr) (i : Nat) (π : List Nat) : Prop :=
  ∀ (σ : L2.St) (F H : Hp) (Q : VK), EnvOk C Z ss F H σ → (∀ u F' H', Ext F H F' H' → (∃ v0, σ[i]? = some (some v0) ∧ Vat C H' v0 π u) → Q u H') → wE X a σ H Q
theorem Lv.name (k : Cok C X N P G) (i : Nat) {x : Str} {o : O} (hi : N[i]? = some x := by rfl) (hs : ss[i]? = some (some o) := by rfl) (hp : P i = true := by rfl) : Lv C Z X ss (.Name x pos) i [] := fun σ F H Q he hq => by
  obtain ⟨fp, sl, nd⟩ := he.sl
  obtain ⟨v, f1, f2, h1, h2, h3, h4⟩ := sl.get hs
  exact Ev.slot (o := o) k hi hp h1 (hq v F H (Ext.refl he.fh) ⟨v, h1, .nil⟩)
/-- the slot's tree, at that value -/
theorem Lv.own {σ : L2.St} {F H F' H' : Hp} {i : Nat} {π : List Nat} {o c : O} {u : V} (he : EnvOk C Z ss F H σ) (x : Ext F H F' H') (hs : ss[i]? = some (some o)) (hat : oAt π o = some c) (h : ∃ v0, σ[i]? = some (some v0) ∧ Vat C H' v0 π u) : ∃ g, Own C Z F' H' c u g := by
  obtain ⟨v0, h0, va⟩ := h
  obtain ⟨fp, sl, nd⟩ := he.sl
  obtain ⟨v, f1, f2, h1, h2, h3, h4⟩ := sl.get hs
  rw [h0] at h1
  cases h1
  obtain ⟨u', g, fa, fc, v1, v2, _⟩ := (h2.ext x).sub hat
  rw [va.det v1]
  exact ⟨g, v2⟩
theorem Lv.ixl {i : Nat} {π : List Nat} {o : O} {os : List O} {m : Int} {n : Nat} (h : Lv C Z X ss a i π) (hs : ss[i]? = some (some o)) (hat : oAt π o = some (.lst os)) (hm : ixN os.length m = some n) (hn : n < os.length) (hb : Ev C Z X ss b (.frz (dI m))) (hpl : PlainIx b := by intro _ _; rfl) : Lv C Z X ss (.Subscript a b pos) i (π ++ [n]) := fun σ F H Q he hq pins s I =>
  (pe_ix ix_list pe_w pe_w hpl).run pins s σ H Q I (h σ F H _ he fun u F1 H1 e1 h1 => hb σ F1 H1 _ (he.ext e1) fun w F2 H2 e2 q2 => by
    cases q2
    obtain ⟨g, ow⟩ := Lv.own (he.ext e1) e2 hs hat (h1.imp fun v0 ⟨a, b⟩ => ⟨a, by
      have mono : ∀ {v u : V} {π : List Nat}, Vat C H1 v π u → Vat C H2 v π u := by
        intro v u π hv
        induction hv with
        | nil => exact .nil
        | lst g1 g2 _ ih => exact .lst (e2.hh _ _ g1) g2 ih
        | tup g1 g2 _ ih => exact .tup (e2.hh _ _ g1) g2 ih
        | obj g1 g2 _ ih => exact .obj (e2.hh _ _ g1) g2 ih
      exact mono b⟩)
    cases ow with
    | lst hf hp hr =>
      rename_i l vs g
      have hl : n < vs.length := by rw [← hr.length]; exact hn
      refine ⟨l, vs, m, vs[n], rfl, rfl, .of hp, by unfold atI; rw [← hr.length, hm]; exact List.getElem?_eq_getElem hl, hq _ F2 H2 (e1.trans e2) ?_⟩
      obtain ⟨v0, h0, va⟩ := h1
      refine ⟨v0, h0, ?_⟩
      have mono : ∀ {v u : V} {π : List Nat}, Vat C H1 v π u → Vat C H2 v π u := by
        intro v u π hv
        induction hv with
        | nil => exact .nil
        | lst g1 g2 _ ih => exact .lst (e2.hh _ _ g1) g2 ih
        | tup g1 g2 _ ih => exact .tup (e2.hh _ _ g1) g2 ih
        | obj g1 g2 _ ih => exact .obj (e2.hh _ _ g1) g2 ih
      exact (mono va).app (.lst hp (List.getElem?_eq_getElem hl) .nil))
theorem Lv.ixt {i : Nat} {π : List Nat} {o : O} {os : List O} {m : Int} {n : Nat} (h : Lv C Z X ss a i π) (hs : ss[i]? = some (some o)) (hat : oAt π o = some (.tup os)) (hm : ixN os.length m = some n) (hn : n < os.length) (hb : Ev C Z X ss b (.frz (dI m))) (hpl : PlainIx b := by intro _ _; rfl) : Lv C Z X ss (.Subscript a b pos) i (π ++ [n]) := fun σ F H Q he hq pins s I =>
  (pe_ix ix_tup pe_w pe_w hpl).run pins s σ H Q I (h σ F H _ he fun u F1 H1 e1 h1 => hb σ F1 H1 _ (he.ext e1) fun w F2 H2 e2 q2 => by
    cases q2
    have mono : ∀ {v u : V} {π : List Nat}, Vat C H1 v π u → Vat C H2 v π u := by
      intro v u π hv
      induction hv with
      | nil => exact .nil
      | lst g1 g2 _ ih => exact .lst (e2.hh _ _ g1) g2 ih
      | tup g1 g2 _ ih => exact .tup (e2.hh _ _ g1) g2 ih
      | obj g1 g2 _ ih => exact .obj (e2.hh _ _ g1) g2 ih
    obtain ⟨g, ow⟩ := Lv.own (he.ext e1) e2 hs hat (h1.imp fun v0 ⟨a, b⟩ => ⟨a, mono b⟩)
    cases ow with
    | tup hp hr =>
      rename_i l vs
      have hl : n < vs.length := by rw [← hr.length]; exact hn
      refine ⟨l, vs, m, vs[n], rfl, rfl, .of hp, by unfold atI; rw [← hr.length, hm]; exact List.getElem?_eq_getElem hl, hq _ F2 H2 (e1.trans e2) ?_⟩
      obtain ⟨v0, h0, va⟩ := h1
      exact ⟨v0, h0, (mono va).app (.tup hp (List.getElem?_eq_getElem hl) .nil)⟩)
theorem Lv.fld {i : Nat} {π : List Nat} {o : O} {os : List O} {kc : Nat} {f : Str} {j : Nat} (h : Lv C Z X ss a i π) (hs : ss[i]? = some (some o)) (hat : oAt π o = some (.obj kc os)) (cl : Ccl C X.K kc) (hf : (C.fn kc)[j]? = some f) (hj : j < os.length) (hb : attributeBase a f X.env (eval a X.env) = eval a X.env := by rfl) : Lv C Z X ss (.Attribute a f pos) i (π ++ [j]) := fun σ F H Q he hq pins s I =>
  (pe_fld pe_w hb).run pins s σ H Q I (h σ F H _ he fun u F1 H1 e1 h1 => by
    obtain ⟨g, ow⟩ := Lv.own he e1 hs hat h1
    cases ow with
    | obj hf2 hp hn hr =>
      rename_i l dx fs fp
      have hl : j < (fs.map (·.2)).length := by rw [← hr.length]; exact hj
      have hv : (fs.map (·.2))[j]? = some (fs.map (·.2))[j] := List.getElem?_eq_getElem hl
      refine ⟨_, _, _, _, (fs.map (·.2))[j], rfl, hp, cl.cl, (cl.no j f hf).1, lookup_at (by rw [hn]; exact hf) (by rw [hn]; exact (cl.no j f hf).2) hv, hq _ F1 H1 e1 ?_⟩
      obtain ⟨v0, h0, va⟩ := h1
      exact ⟨v0, h0, va.app (.obj hp hv .nil)⟩)
/-- a.append(e), a names a place -/
theorem Sts.appendP {o o' : O} {ps : List O} {π : List Nat} (i : Nat) (hl : Lv C Z X ss a i π) (hs : ss[i]? = some (some o)) (hat : oAt π o = some (.lst ps)) (he : Ev C Z X ss e (rmO o')) (hz : ps.length < sizeLine) (h : Sts C Z X W (ss.set i (some (oPut π o (.lst (ps ++ [o']))))) sts ES ER fl)
    (hbase : attributeBase a "append" X.env (eval a X.env) = eval a X.env := by rfl)
    (hfew : ((backTo pos (starEach [e] X.env)).all (fun x => !x.1) && (backToKw pos (keywordEach [] X.env)).all (fun x => x.1.isSome) && decide ([e].length + ([] : List Keyword).length + (if ([] : List Keyword).isEmpty then 0 else 1) < 30)) = true := by rfl)
    (hline : (apos.endLine == pos.line) = true := by rfl) (hst : starEach [e] X.env = (false, eval e X.env) :: starEach [] X.env := by rfl) (hsw : swapsWith (.Call (.Attribute a "append" apos) [e] [] pos) none spos.line X.env = pure false := by rfl) : Sts C Z X W ss (.Expr (.Call (.Attribute a "append" apos) [e] [] pos) spos :: sts) ES ER fl :=
  Sts.step (ps_expr (pe_bm PySem.F.plainAttrs_list PySem.F.slot_list_append PySem.F.type_list_append mt_append pe_w (pa_cons pe_w pa_nil hst) hbase hfew hline hst rfl) hsw) fun σ F H D en hq => by
    obtain ⟨fp, sl, nd⟩ := en.sl
    obtain ⟨vt, f1, f2, h1, h2, hr2, h4⟩ := sl.get hs
    refine hl σ F H _ en fun u F0 H0 e0 hu => ?_
    obtain ⟨v0, hv0, va⟩ := hu
    rw [h1] at hv0
    cases hv0
    obtain ⟨u', g, fa, fc, v1, v2, v3, v4⟩ := (h2.ext e0).sub hat
    cases va.det v1
    cases v2 with
    | lst pf ph po =>
    rename_i p vs g
    refine ⟨.inl ⟨rfl, _, .of ph⟩, ?_⟩
    refine he σ F0 H0 _ (en.ext e0) fun v F1 H1 e1 q1 => ?_
    obtain ⟨g2, og, n2, d2⟩ := rmO_ok q1
    refine ⟨p, vs, v, rfl, rfl, e1.hh _ _ ph, by rw [← po.length]; exact hz, ?_⟩
    have ex := e0.trans e1
    subst v3
    have nd0 : ((fa ++ ((p :: g) ++ fc)) ++ f2).Nodup := (h4.nodup_iff).mpr nd
    have old : ∀ y ∈ (fa ++ ((p :: g) ++ fc)) ++ f2, H0 y ≠ none := fun y hy => by
      have q := (sl.gone y (h4.subset hy)).2
      exact fun z => q (e0.hh.free z)
    have ts : Tst H1 (upd H1 p (.lst (vs ++ [v]))) := tst_upd (e1.hh _ _ ph)
    have np : ∀ y, y ∈ fa ∨ y ∈ g ∨ y ∈ fc ∨ y ∈ f2 → y ≠ p := fun y hy z => by
      subst z
      have u := List.nodup_append.mp nd0
      have u1 := List.nodup_append.mp u.1
      have u2 := List.nodup_append.mp u1.2.1
      rcases hy with q | q | q | q
      · exact u1.2.2 y q y (List.mem_append_left _ List.mem_cons_self) rfl
      · exact (List.nodup_cons.mp u2.1).1 q
      · exact u2.2.2 y List.mem_cons_self y q rfl
      · exact u.2.2 y (List.mem_append_right _ (List.mem_append_left _ List.mem_cons_self)) y q rfl
    have np2 : ∀ y ∈ g2, y ≠ p := fun y hy z => by
      subst z
      have := n2 y hy
      rw [ph] at this
      cases this
    have in2 : Own C Z F1 (upd H1 p (.lst (vs ++ [v]))) (.lst (ps ++ [o'])) (.ref p) (p :: (g ++ (g2 ++ []))) := by
      have q := Owns.append ((po.ext e1).frame ts fun y q => upd_ne (np y (.inr (.inl q)))) (.cons (og.frame ts fun y q => upd_ne (np2 y q)) .nil)
      exact .lst (e1.ow _ (by rw [ph]; simp) pf) upd_same q
    have oo := v4 F1 (upd H1 p (.lst (vs ++ [v]))) (fun o v f hf h => (h.ext e1).frame ts fun y q => upd_ne (np y ((hf y q).imp id fun z => .inr (.inl z)))) (fun y hy => by
      have y0 := old y (List.mem_append_left _ (List.mem_append_left _ hy))
      have yF := (sl.gone y (h4.subset (List.mem_append_left _ (List.mem_append_left _ hy))))
      refine ⟨ex.ow y yF.2 yF.1, ?_⟩
      rw [upd_ne (np y (.inl hy))]
      cases hy0 : H0 y with
      | none => exact absurd hy0 y0
      | some o => exact e1.hh _ _ hy0) (fun b xs hb => ts b xs (e1.hh _ _ hb)) _ _ in2
    have hi' : i < ss.length := (List.getElem?_eq_some_iff.mp hs).1
    have big : ((fa ++ ((p :: (g ++ (g2 ++ []))) ++ fc)) ++ f2).Nodup := by
      rw [List.append_nil]
      have pm : ((fa ++ ((p :: (g ++ g2)) ++ fc)) ++ f2).Perm (g2 ++ ((fa ++ ((p :: g) ++ fc)) ++ f2)) := by
        have q1 : ((fa ++ ((p :: (g ++ g2)) ++ fc)) ++ f2) = (fa ++ (p :: g)) ++ (g2 ++ (fc ++ f2)) := by simp
        have q2 : (g2 ++ ((fa ++ ((p :: g) ++ fc)) ++ f2)) = (g2 ++ (fa ++ (p :: g))) ++ (fc ++ f2) := by simp
        rw [q1, q2, ← List.append_assoc]
        exact List.Perm.append_right _ List.perm_append_comm
      exact (pm.nodup_iff).mpr (List.nodup_append.mpr ⟨d2, nd0, fun y hy w hw z => by subst z; exact old y hw (n2 y hy)⟩)
    have en2 : EnvOk C Z (ss.set i (some (oPut π o (.lst (ps ++ [o']))))) F1 (upd H1 p (.lst (vs ++ [v]))) σ := by
      refine EnvOk.back ((hr2.ext ex).frame ts fun y q => upd_ne (np y (.inr (.inr (.inr q))))) h1 oo hi' big (en.zf.trans ex.ff) fun b ob q => ?_
      rw [upd_ne (fun z => by subst z; rw [e1.ow b (by rw [ph]; simp) pf] at q; cases q)]
      exact ex.fh b ob q
    exact (sts_iff.mp h) σ F1 _ D en2 (Post.mono (ex.gr.trans ⟨Same.refl F1, ts⟩) hq)
/-- by typed data -/
theorem Sts.appP {f : α → O} {w : α} {xs : List β} {h : β → O} {v : β} {kf : α → Fl S R} (w' : α) (i : Nat) {π : List Nat} (hl : Lv C Z X ss a i π) (hat : oAt π (f w) = some (oL h xs)) (hput : oPut π (f w) (oL h (xs ++ [v])) = f w') (he : Ev C Z X ss e (rmO (h v)))
    (hk : ∀ y, y = w' → Sts C Z X W (ss.set i (some (f y))) sts ES ER (kf y)) (hs : ss[i]? = some (some (f w)) := by rfl)
    (hbase : attributeBase a "append" X.env (eval a X.env) = eval a X.env := by rfl)
    (hfew : ((backTo pos (starEach [e] X.env)).all (fun x => !x.1) && (backToKw pos (keywordEach [] X.env)).all (fun x => x.1.isSome) && decide ([e].length + ([] : List Keyword).length + (if ([] : List Keyword).isEmpty then 0 else 1) < 30)) = true := by rfl)
    (hline : (apos.endLine == pos.line) = true := by rfl) (hst : starEach [e] X.env = (false, eval e X.env) :: starEach [] X.env := by rfl) (hsw : swapsWith (.Call (.Attribute a "append" apos) [e] [] pos) none spos.line X.env = pure false := by rfl) : Sts C Z X W ss (.Expr (.Call (.Attribute a "append" apos) [e] [] pos) spos :: sts) ES ER (Fl.chk (xs.length < sizeLine) (Fl.lt w' kf)) :=
  Sts.chk fun hz => by
    refine Sts.appendP (o' := h v) i hl hs hat he (by simpa using hz) ?_ hbase hfew hline hst hsw
    have e1 : (O.lst (xs.map h ++ [h v])) = oL h (xs ++ [v]) := by unfold oL; rw [List.map_append]; rfl
    rw [e1, hput]
    exact hk w' rfl
end
end VL

set_option Elab.async false
set_option linter.all false
set_option maxRecDepth 100000
set_option maxHeartbeats 4000000
/-! VL23: rows in an owned pair changed; one of two defs called. -/
namespace VL
open PySem PySem.Spec PyProof.Rows L2
theorem at_nat {α : Type} {xs : List α} {n : Nat} {x : α} (h : atI xs (n : Int) = some x) : ixN xs.length (n : Int) = some n ∧ n < xs.length ∧ xs[n]? = some x := by
  unfold atI at h
  obtain ⟨j, hj, hx⟩ := Option.bind_eq_some_iff.mp h
  have hj' := hj
  unfold ixN at hj
  rw [if_pos (by omega)] at hj
  by_cases q : (n : Int) < xs.length
  · rw [if_pos q] at hj
    have e : j = n := by
      have := Option.some.inj hj
      omega
    subst e
    exact ⟨hj', by omega, hx⟩
  · rw [if_neg q] at hj
    cases hj
theorem oPut_ix {α : Type} {f : α → O} {xs : List α} {n : Nat} {x y : α} (hx : xs[n]? = some x) : oPut [n] (oL f xs) (f y) = oL f (xs.set n y) := by
  show (match (xs.map f)[n]? with | some c => O.lst ((xs.map f).set n (f y)) | none => oL f xs) = _
  rw [List.getElem?_map, hx]
  show O.lst ((xs.map f).set n (f y)) = O.lst ((xs.set n y).map f)
  rw [List.map_set]
theorem oAt_ix {α : Type} {f : α → O} {xs : List α} {n : Nat} {x : α} (hx : xs[n]? = some x) : oAt [n] (oL f xs) = some (f x) := by
  show ((xs.map f)[n]?).bind (oAt []) = _
  rw [List.getElem?_map, hx]
  rfl
def Res.vd {α : Type} (r : Res α) : Res Unit := match r with
  | .ok _ => .ok ()
  | .exc c => .exc c
  | .bad => .bad
/-- the one or the other -/
def pick2 (m : Int) (a b : Res Unit) : Res Unit := if m = 0 then a else if m = 1 then b else .bad
section
variable {C : Cf} {Z : Hp} {X : Cx} {N G : List Str} {P : Nat → Bool} {ss ss' : En} {a b c e e2 tg iter elt fe : Expr} {rest es : List Expr} {pos p p2 apos : Pos} {r r' ra rb rz : RM} {α β γ : Type} {z q : Bool}
variable {W : Nat → Hp → Prop} {S S' R : Type} {ES : S → En} {ES' : S' → En} {ER : R → RM} {st : Stmt} {blk sts A B : List Stmt} {fl : Fl S R} {spos : Pos}
/-- x[1][m].append(e), x an owned pair -/
theorem Sts.appT2I {x : Str} {g : α → O} {f : γ → O} {w : α × List (List γ)} {m : Nat} {row : List γ} {v : γ} {kf : α × List (List γ) → Fl S R} {j1 j2 : Nat} {q1 q2 p3 : Pos} (i : Nat) (k : Cok C X N P G) (hrow : atI w.2 (m : Int) = some row) (he : Ev C Z X ss e (rmO (f v)))
    (hk : ∀ y, y = (w.1, w.2.set m (row ++ [v])) → Sts C Z X W (ss.set i (some (oP g (oL (oL f)) y))) sts ES ER (kf y)) (hi : N[i]? = some x := by rfl) (hs : ss[i]? = some (some (oP g (oL (oL f)) w)) := by rfl) (hp : P i = true := by rfl)
    (hfew : ((backTo pos (starEach [e] X.env)).all (fun x => !x.1) && (backToKw pos (keywordEach [] X.env)).all (fun x => x.1.isSome) && decide ([e].length + ([] : List Keyword).length + (if ([] : List Keyword).isEmpty then 0 else 1) < 30)) = true := by rfl)
    (hline : (apos.endLine == pos.line) = true := by rfl) (hst : starEach [e] X.env = (false, eval e X.env) :: starEach [] X.env := by rfl) :
    Sts C Z X W ss (.Expr (.Call (.Attribute (.Subscript (.Subscript (.Name x p) (.Constant (.int 1) j1 q1) p2) (.Constant (.int (m : Int)) j2 q2) p3) "append" apos) [e] [] pos) spos :: sts) ES ER (Fl.chk (row.length < sizeLine) (Fl.lt (w.1, w.2.set m (row ++ [v])) kf)) := by
  obtain ⟨h1, h2, h3⟩ := at_nat hrow
  have l0 : Lv C Z X ss (.Name x p) i [] := Lv.name k i hi hs hp
  have l1 : Lv C Z X ss (.Subscript (.Name x p) (.Constant (.int 1) j1 q1) p2) i [1] := Lv.ixt (n := 1) l0 hs (os := [g w.1, oL (oL f) w.2]) rfl rfl (show (1 : Nat) < 2 by decide) Ev.int (by intro _ _; rfl)
  have l2 : Lv C Z X ss (.Subscript (.Subscript (.Name x p) (.Constant (.int 1) j1 q1) p2) (.Constant (.int (m : Int)) j2 q2) p3) i [1, m] := Lv.ixl (n := m) l1 hs (os := w.2.map (oL f)) rfl (by rw [List.length_map]; exact h1) (by rw [List.length_map]; exact h2) Ev.int (by intro _ _; rfl)
  refine Sts.appP (f := oP g (oL (oL f))) (w := w) (h := f) (v := v) (w.1, w.2.set m (row ++ [v])) i l2 ?_ ?_ he hk hs rfl hfew hline hst rfl
  · exact (show oAt [1, m] (oP g (oL (oL f)) w) = oAt [m] (oL (oL f) w.2) from rfl).trans (oAt_ix h3)
  · exact congrArg (fun o => O.tup [g w.1, o]) (oPut_ix (f := oL f) (y := row ++ [v]) h3)
/-- a def, by its place -/
def CalA (P : Program) (w : World) (K : PySem.W.Frag) (mg : Str → Option Value) (base : Heap) (A : Around) (C : Cf) (f : Addr) (ds : List D) (r : Res RM) : Prop :=
  ∃ (k : Nat) (fd : FuncData) (ps : List Str) (sp : Sp), Room k A ∧ FnOk P w K mg base (L2N.CX P w) k f fd ps sp ∧ PySem.W.keepIn K (.ref f) = true ∧ Binds K fd ps [] ∧ ∀ vs H Q E, spM C ds r vs H Q E → sp vs H Q E
theorem EvX.callF {f : Addr} {ds : List D} {r : Res RM} (tk : L2N.Takes X (WXc C W)) (hc : CalA X.prog X.w X.K X.mg X.base X.A C f ds r) (hf : Ev C Z X ss fe (.frz (.sc (.ref f)))) (ha : Ea C Z X ss (e :: es) ds)
    (ht : eval (.Call fe (e :: es) [] pos) X.env = (do callWith pos (← eval fe X.env) [] (backTo pos (starEach (e :: es) X.env)) (backToKw pos (keywordEach [] X.env))) := by rfl)
    (he1 : starEach (e :: es) X.env = (false, eval e X.env) :: starEach es X.env := by rfl) (hpl : (backTo pos (starEach es X.env)).any (·.1) = false := by rfl) : EvX C Z X W ss (.Call fe (e :: es) [] pos) (r.map backR) := fun σ F H Q he hq pins s I => by
  obtain ⟨n, fd, ps, sp, hr, FO, hk, hb, hs⟩ := hc
  refine Call_ (thn (hf σ F H (fun v H' => v = .ref f ∧ ∃ F', Ext F H F' H') he (fun v F' H' x q => by cases q; exact ⟨rfl, F', x⟩) pins s I) fun u s1 ⟨y, H1, I1, ry, q⟩ => ?_) ht
  obtain ⟨rfl, F1, e1⟩ := q
  cases ry
  refine PySem.W.callWith_K (h₀ := X.base) I1.ok.mod.kin hk (thn (ha σ F1 H1 (fun vs H2 => sp vs H2 Q (L2.WE (WXc C W) σ)) (he.ext e1) (fun vs F2 H2 e2 q2 => hs _ _ _ _ ⟨q2, ?_⟩) pos pins s1 I1) fun us s2 ⟨vs, H2, I2, r2, q2⟩ => ⟨I2.kIn, run_fnS (E := L2.WE (WXc C W)) FO hr hb (L2N.passAt tk σ) I2 r2 q2⟩) he1 hpl
  have e12 := e1.trans e2
  cases r with
  | ok rm =>
    intro v H3 h3 q3
    obtain ⟨F3, e3, q4⟩ := okc_back ((he.ext e12).zf.trans e12.fh) e12.fh h3 q3
    exact hq v F3 H3 (e12.trans e3) (RM.ok_old e12.hh q4)
  | exc c =>
    intro H3 h3
    exact ⟨c, rfl, rfl, hq H3 (((he.ext e12).zf.trans e12.fh).trans h3)⟩
  | bad => exact hq.elim
/-- [x, y][m](..) -/
theorem Sts.pickX {x y : Str} {m : Int} {ds : List D} {r1 : Res α} {r2 : Res β} {m1 : α → RM} {m2 : β → RM} {g : Unit → Fl S R} {p1 p3 p4 p5 : Pos} (tk : L2N.Takes X (WXc C W)) (k : Cok C X N P G) (i j : Nat) (h1 : Cal X.prog X.w X.K X.mg X.base X.A C x ds (r1.map m1)) (h2 : Cal X.prog X.w X.K X.mg X.base X.A C y ds (r2.map m2))
    (hb : Ev C Z X ss b (.frz (dI m))) (ha : Ea C Z X ss (e :: es) ds) (h : pick2 m r1.vd r2.vd = .ok () → Sts C Z X W ss sts ES ER (g ())) (hi : G[i]? = some x := by rfl) (hj : G[j]? = some y := by rfl) (hpb : PlainIx b := by intro _ _; rfl)
    (ht : eval (.Call (.Subscript (.List [.Name x p1, .Name y p3] p4) b p5) (e :: es) [] pos) X.env = (do callWith pos (← eval (.Subscript (.List [.Name x p1, .Name y p3] p4) b p5) X.env) [] (backTo pos (starEach (e :: es) X.env)) (backToKw pos (keywordEach [] X.env))) := by rfl)
    (he1 : starEach (e :: es) X.env = (false, eval e X.env) :: starEach es X.env := by rfl) (hpl : (backTo pos (starEach es X.env)).any (·.1) = false := by rfl)
    (hsw : swapsWith (.Call (.Subscript (.List [.Name x p1, .Name y p3] p4) b p5) (e :: es) [] pos) none spos.line X.env = pure false := by rfl) :
    Sts C Z X W ss (.Expr (.Call (.Subscript (.List [.Name x p1, .Name y p3] p4) b p5) (e :: es) [] pos) spos :: sts) ES ER (Fl.run (pick2 m r1.vd r2.vd) g) := by
  obtain ⟨n1, f1, fd1, ps1, sp1, a1, a2, a3, a4, a5, a6⟩ := h1
  obtain ⟨n2, f2, fd2, ps2, sp2, b1, b2, b3, b4, b5, b6⟩ := h2
  have c1 : CalA X.prog X.w X.K X.mg X.base X.A C f1 ds (r1.map m1) := ⟨n1, fd1, ps1, sp1, a1, a2, a4, a5, a6⟩
  have c2 : CalA X.prog X.w X.K X.mg X.base X.A C f2 ds (r2.map m2) := ⟨n2, fd2, ps2, sp2, b1, b2, b4, b5, b6⟩
  have e1 : Ev C Z X ss (.Name x p1) (.frz (.sc (.ref f1))) := Ev.glob k i (v := .ref f1) a3 rfl hi
  have e2 : Ev C Z X ss (.Name y p3) (.frz (.sc (.ref f2))) := Ev.glob k j (v := .ref f2) b3 rfl hj
  have dl : Ev C Z X ss (.List [.Name x p1, .Name y p3] p4) (.new (oL (fun v => .fz (.sc v)) [V.ref f1, V.ref f2])) :=
    Ev.displ (show (2 : Nat) ≤ sizeLine by decide) (Ei.cons e1 (Ei.cons e2 Ei.nil rfl) rfl)
  have it := Ev.itmL dl (fun _ => trivial)
  have go : ∀ {γ : Type} (f : Addr) (r : Res γ) (mm : γ → RM), CalA X.prog X.w X.K X.mg X.base X.A C f ds (r.map mm) → atI [V.ref f1, V.ref f2] m = some (V.ref f) → (r.vd = .ok () → Sts C Z X W ss sts ES ER (g ())) → Sts C Z X W ss (.Expr (.Call (.Subscript (.List [.Name x p1, .Name y p3] p4) b p5) (e :: es) [] pos) spos :: sts) ES ER (Fl.run r.vd g) := fun f r mm hc ha2 hk => by
    have ef : Ev C Z X ss (.Subscript (.List [.Name x p1, .Name y p3] p4) b p5) (.frz (.sc (.ref f))) := Ev.ixi (atI_map (f := fun v => O.fz (.sc v)) ha2) it hb hpb
    have ec := EvX.callF (W := W) tk hc ef ha ht he1 hpl
    refine Sts.step (ps_expr pe_w hsw) fun σ F H D en hp => ?_
    refine ec σ F H _ en ?_
    cases r with
    | ok v => exact fun v F1 H1 x1 _ => (sts_iff.mp (hk rfl)) _ F1 H1 D (en.ext x1) (Post.mono x1.gr hp)
    | exc c => exact hp
    | bad => exact hp
  unfold pick2 at h ⊢
  by_cases q0 : m = 0
  · subst q0
    rw [if_pos rfl] at h ⊢
    exact go f1 r1 m1 c1 rfl h
  · rw [if_neg q0] at h ⊢
    by_cases q1 : m = 1
    · subst q1
      rw [if_pos rfl] at h ⊢
      exact go f2 r2 m2 c2 rfl h
    · rw [if_neg q1]
      exact fun σ F H D he hp => hp.elim
end
end VL

set_option Elab.async false
set_option linter.all false
set_option maxRecDepth 100000
set_option maxHeartbeats 4000000
/-! VL24: xs.index(x) of nested lists. -/
namespace VL
open PySem PySem.Spec PyProof.Rows L2
def idxD {α : Type} [DecidableEq α] (xs : List α) (x : α) : Option Int := if x ∈ xs then some (xs.idxOf x : Int) else none
theorem idxOf_first {α : Type} [DecidableEq α] {xs : List α} {x : α} (h : x ∈ xs) : xs[xs.idxOf x]? = some x ∧ ∀ m : Nat, m < xs.idxOf x → xs[m]? ≠ some x := by
  have hl := List.idxOf_lt_length_of_mem h
  refine ⟨by rw [List.getElem?_eq_getElem hl, List.getElem_idxOf hl], fun m hm e => ?_⟩
  have hlt : m < xs.length := by omega
  have e3 := (List.getElem?_eq_some_iff.mp e).2
  have := List.not_of_lt_findIdx (p := (· == x)) (xs := xs) (i := m) (by simpa [List.idxOf] using hm)
  simp [e3] at this
section
variable {C : Cf} {Z F H : Hp} {X : Cx} {N G : List Str} {P : Nat → Bool} {ss : En} {e o : Expr} {pos p apos : Pos} {α : Type}
theorem Ev.indexD [DecidableEq α] {g : α → D} {k : α → PyData} {n : Nat} {xs : List α} {x : α} {j : Int} (ck : Cok C X N P G) (h : EqC g k n) (hn : n + 1 ≤ 64) (hj : idxD xs x = some j) (ho : Ev C Z X ss o (.cur (dL g xs))) (he : Ev C Z X ss e (.cur (g x)))
    (hfew : ((backTo pos (starEach [e] X.env)).all (fun x => !x.1) && (backToKw pos (keywordEach [] X.env)).all (fun x => x.1.isSome) && decide ([e].length + ([] : List Keyword).length + (if ([] : List Keyword).isEmpty then 0 else 1) < 30)) = true := by rfl)
    (hline : (apos.endLine == pos.line) = true := by rfl) (hst : starEach [e] X.env = (false, eval e X.env) :: starEach [] X.env := by rfl) (hbase : attributeBase o "index" X.env (eval o X.env) = eval o X.env := by rfl) :
    Ev C Z X ss (.Call (.Attribute o "index" apos) [e] [] pos) (.frz (dI j)) := fun σ F H Q en hq pins s I =>
  (pe_bm PySem.F.plainAttrs_list PySem.F.slot_list_index PySem.F.type_list_index (mt_indexD ck.hv) pe_w (pa_cons pe_w pa_nil hst) hbase hfew hline hst rfl).run pins s σ H Q I (by
    refine ho σ F H _ en fun v F1 H1 e1 q1 => ?_
    obtain ⟨l, vs, rfl, hp, hr⟩ : ∃ (l : Addr) (vs : List V), v = .ref l ∧ H1 l = some (.lst vs) ∧ Rps C H1 H1 (xs.map g) vs := by
      cases q1 with
      | lst hp hr => exact ⟨_, _, rfl, hp, hr⟩
    refine ⟨.inl ⟨rfl, _, .of hp⟩, ?_⟩
    refine he σ F1 H1 _ (en.ext e1) fun u F2 H2 e2 q2 => ?_
    unfold idxD at hj
    by_cases hm : x ∈ xs
    · rw [if_pos hm] at hj
      cases hj
      obtain ⟨a1, a2⟩ := idxOf_first hm
      have hd : Rp C H2 H2 (dL g xs) (.ref l) := Rp.lst (e2.hh _ _ hp) (hr.mono e2.hh (.of e2.hh))
      have hL := eqC_L h
      refine ⟨l, u, k x, xs.map k, xs.idxOf x, k x, rfl, rfl, hL.dp (Same.refl _) hd, h.dp (Same.refl _) q2, shaped_of hL hn xs, shaped_of h (by omega) x, by rw [List.getElem?_map, a1]; rfl, ?_, fun m z hm2 hz => ?_, hq _ F2 H2 (e1.trans e2) .sc⟩
      · rw [h.eq]
        exact decide_eq_true rfl
      · rw [List.getElem?_map] at hz
        obtain ⟨y, hy, rfl⟩ := Option.map_eq_some_iff.mp hz
        rw [h.eq]
        exact decide_eq_false fun e4 => a2 m hm2 (by rw [hy, e4])
    · rw [if_neg hm] at hj
      cases hj)
end
end VL

set_option Elab.async false
set_option linter.all false
set_option maxRecDepth 100000
set_option maxHeartbeats 4000000
/-! VL25: try, except, the clauses with and without a name. -/
namespace VL
open PySem PySem.Spec PyProof.Rows L2
/-- the ends behind a clause with a name in slot i -/
abbrev endAs (i : Nat) (D : Ends) : Ends := { nx := fun σ H => D.nx (σ.set i none) H, rt := D.rt, bk := fun σ H => D.bk (σ.set i none) H, ct := fun σ H => D.ct (σ.set i none) H }
abbrev Cls3 := List (Value × Option Nat × (Addr → Value → Option Addr → L2.TS))
/-- what the clauses wish of an exception -/
def wMix (K : PySem.W.Frag) (Wout : WX) (D : Ends) : Cls3 → WX
  | [] => Wout
  | (c, oi, ts) :: r => fun cls d σ H => ∃ b, PySem.W.exmOne K cls c = some b ∧ (b = true → ∀ a, H a = none → match oi with
      | none => ts a cls d D σ H
      | some i => ts a cls d (endAs i D) (σ.set i (some (.ref a))) H) ∧ (b = false → wMix K Wout D r cls d σ H)
inductive HdM (X : Cx) : List ExceptHandler → Cls3 → Prop
  | nil : HdM X [] []
  | no {x : Str} {c : Value} {ts : Addr → Value → Option Addr → L2.TS} {b0 : Stmt} {suite : List Stmt} {np p : Pos} {hds : List ExceptHandler} {l : Cls3} (hc : Names X x c)
      (hsu : ∀ (a : Addr) (oe : Obj) (cls : Value) (d : Option Addr) (pn : List (Addr × Obj)), L2N.Zn cls d oe → (∃ vs, oe.data = .fields vs) → PSs (X.suite a ((a, oe) :: pn)) (b0 :: suite) (ts a cls d)) (r : HdM X hds l) :
      HdM X (.ExceptHandler (some (.Name x np)) none (b0 :: suite) p :: hds) ((c, none, ts) :: l)
  | as_ {x n : Str} {i : Nat} {c : Value} {ts : Addr → Value → Option Addr → L2.TS} {b0 : Stmt} {suite : List Stmt} {np p : Pos} {hds : List ExceptHandler} {l : Cls3} (hc : Names X x c) (hi : X.N[i]? = some n) (hln : X.env.kindOf n = some .local)
      (hsu : ∀ (a : Addr) (oe : Obj) (cls : Value) (d : Option Addr) (pn : List (Addr × Obj)), L2N.Zn cls d oe → (∃ vs, oe.data = .fields vs) → PSs (X.suite a ((a, oe) :: pn)) (b0 :: suite) (ts a cls d)) (r : HdM X hds l) :
      HdM X (.ExceptHandler (some (.Name x np)) (some n) (b0 :: suite) p :: hds) ((c, some i, ts) :: l)
section
variable {X : Cx} {body : List Stmt} {h0 : ExceptHandler} {hds : List ExceptHandler} {l : Cls3} {pos : Pos} {tb : WX → L2.TS} {Wout : WX}
theorem ps_mix (hs : X.stack = X.env :: X.outer) (hf : X.env.frame = some X.env.locals) (hN : X.N.Nodup) (tk : L2N.Takes X Wout)
    (hb : ∀ (W : WX) (pn : List (Addr × Obj)) (xe : Value → Shared → Prop), L2N.Takes (X.tr pn xe) W → PassesOwn (model X.prog X.w) X.A X.env xe → PSs (X.tr pn xe) body (tb W))
    (hh : HdM X (h0 :: hds) l) : PS X (.Try body (h0 :: hds) [] [] pos) (fun D σ H => tb (wMix X.K Wout D l) D σ H) := by
  refine ⟨fun pins s σ H D I h => ?_⟩
  have ok := I.ok
  have fr : X.A.frames = some (X.env :: X.outer) := by rw [ok.frames, hs]
  refine wpAny_Try_except ?_
  let XE : Value → Shared → Prop := fun e s1 => wpAny (model X.prog X.w) X.A (noteFrame e X.env) (fun _ s2 => wpAny (model X.prog X.w) X.A (setFlight e none) (fun _ s3 => wpAny (model X.prog X.w) X.A (handleBy e X.env (h0 :: hds)) (SP X pins D) X.xe s3) X.xe s2) X.xe s1
  refine wpAny_mono ((hb (wMix X.K Wout D l) (X.pn ++ pins) XE (fun u s' xx => ?_) PassesOwn.looking).run [] s σ H D (I.toTry _) h) (fun f s1 sp => ?_) (fun e s1 he => he)
  · obtain ⟨a, B, sI, pins', σ', H', cls, d, rfl, J', nb, up, sky, na, os, ag, w⟩ := xx
    have J : Inv X pins σ' H' sI := J'.ofTry ok
    have sky2 : L2.Sky B (X.env :: X.outer) a (L2N.Zn cls d) X.env.locals s'.heap := by rw [← hs]; exact sky
    show wpAny (model X.prog X.w) X.A (noteFrame (.ref a) X.env) _ _ _
    refine L2N.Sky.land L2N.Zn.steady fr hf sky2 fun h3 fl3 up3 => ?_
    have J3 : Inv X pins σ' H' { s' with heap := h3 } := J.landed nb fl3.1 (up.trans up3) os ag
    obtain ⟨oe3, vs3, he3, hz3, hd3⟩ := fl3.there
    have nfr : a ∉ frs (X.env :: X.outer) := fun hm => by
      obtain ⟨_, o', e', hnf⟩ := fl3.2.2.1.mem hm
      rw [he3] at e'
      cases e'
      exact hnf _ hd3
    have nL : a ≠ X.env.locals := fun z => nfr (List.mem_filterMap.mpr ⟨X.env, List.mem_cons_self, by rw [hf, z]⟩)
    have nF : a ∉ X.fs := fun hm => by
      obtain ⟨e, he, q⟩ := List.mem_filterMap.mp hm
      exact nfr (List.mem_filterMap.mpr ⟨e, List.mem_cons_of_mem _ he, q⟩)
    have S3 := J3.suite he3 hd3 na nL nF
    have LT : PySem.W.Looks (model X.prog X.w) h3 (typeOf (.ref a)) cls := fun A Q E s k q => wpAny_typeOf_ref (k _ _ he3) (by rw [hz3.1]; exact q)
    have test : ∀ {x : Str} {c : Value} {np : Pos} {Q : Value → Shared → Prop} {E : Value → Shared → Prop}, Names X x c → Q c { s' with heap := h3 } → wpAny (model X.prog X.w) (X.A.mark (some (.ref a))) (eval (.Name x np) X.env) Q E { s' with heap := h3 } := fun hc q => by
      obtain ⟨g1, g2, hm | ⟨hm, hv, hnn⟩⟩ := hc
      · exact ld_glob (X := X.suite a ((a, oe3) :: (X.pn ++ pins))) S3 g1 hm q g2
      · exact ld_blt (X := X.suite a ((a, oe3) :: (X.pn ++ pins))) S3 g1 hm hv q hnn g2
    have go : ∀ {hds' : List ExceptHandler} {l' : Cls3}, HdM X hds' l' → wMix X.K Wout D l' cls d σ' H' → wpAny (model X.prog X.w) X.A (handleBy (.ref a) X.env hds') (SP X pins D) X.xe { s' with heap := h3 } := by
      intro hds' l' hk
      induction hk with
      | nil =>
        intro w
        refine wpAny_handleBy_nil ?_
        obtain ⟨k1, k2, k3, oe, vs, T, oT, ts', he, hz, hd, h1, hr⟩ := id fl3
        unfold PySem.passOn
        refine wpAny_bind (wpAny_field he hd h1 ?_)
        rw [if_neg (show ¬((Value.ref T == Value.none) = true) by simp)]
        have fin : wpAny (model X.prog X.w) X.A (setFlight (.ref a) X.env.frame) (fun _ s4 => wpAny (model X.prog X.w) X.A (throw (.ref a) : Sem Flow) (SP X pins D) X.xe s4) X.xe { s' with heap := h3 } := by
          rw [hf]
          refine HandSPX.setFlight_upZ fl3 fun h4 hh4 up4 => wpAny_throw (tk _ _ ?_)
          exact ⟨a, B, sI, pins, σ', H', cls, d, rfl, J, nb, (up.trans up3).trans up4, .inr (.inr (by rw [hs]; exact hh4)), na, os, ag, w⟩
        first
          | exact wpAny_bind (wpAny_pure (wpAny_bind fin))
          | exact wpAny_bind fin
      | @no x c ts b0 suite np p hds2 l2 hc hsu r ih =>
        intro w
        obtain ⟨b, hb1, yes, no⟩ := w
        refine wpAny_handleBy_cons (codeAny_handlers_test ?_) (by intro q; cases q)
        refine test hc ((PySem.W.exm_one (M := model X.prog X.w) (J3.kIn) LT hb1).here ?_)
        cases b with
        | true =>
          refine codeAny_handlers_suite (HandSPX.lands_againZ fl3 fun h4 fl4 up4 => ?_)
          have J4 : Inv X pins σ' H' { s' with heap := h4 } := J.landed nb fl4.1 ((up.trans up3).trans up4) os ag
          obtain ⟨oe4, vs4, he4, hz4, hd4⟩ := fl4.there
          refine wpAny_mono ((hsu a oe4 cls d (X.pn ++ pins) hz4 ⟨_, hd4⟩).run [] _ _ H' _ (J4.suite he4 hd4 na nL nF) (yes rfl a na)) (fun f s6 sp => ?_) (fun _ _ z => False.elim z)
          cases f with
          | ret u =>
            obtain ⟨v6, σ6, H6, S6, r6, q6⟩ := sp
            exact ⟨_, _, _, S6.unsuite ok, r6, q6⟩
          | next =>
            obtain ⟨σ6, H6, S6, q6⟩ := sp
            exact ⟨_, _, S6.unsuite ok, q6⟩
          | brk =>
            obtain ⟨σ6, H6, S6, q6⟩ := sp
            exact ⟨_, _, S6.unsuite ok, q6⟩
          | cont =>
            obtain ⟨σ6, H6, S6, q6⟩ := sp
            exact ⟨_, _, S6.unsuite ok, q6⟩
        | false =>
          show wpAny _ X.A (handleBy (.ref a) X.env hds2) _ _ _
          exact ih (no rfl)
      | @as_ x n i c ts b0 suite np p hds2 l2 hc hi hln hsu r ih =>
        intro w
        obtain ⟨b, hb1, yes, no⟩ := w
        refine wpAny_handleBy_cons (codeAny_handlers_test ?_) (by intro q; cases q)
        refine test hc ((PySem.W.exm_one (M := model X.prog X.w) (J3.kIn) LT hb1).here ?_)
        cases b with
        | true =>
          refine codeAny_handlers_suite_as (HandSPX.lands_againZ fl3 fun h4 fl4 up4 => ?_)
          have J4 : Inv X pins σ' H' { s' with heap := h4 } := J.landed nb fl4.1 ((up.trans up3).trans up4) os ag
          obtain ⟨oe4, vs4, he4, hz4, hd4⟩ := fl4.there
          have hloc : Loc X.env.scope n := .inl hln
          refine store_ok (X := X.suite a ((a, oe4) :: (X.pn ++ pins))) (v := .ref a) (J4.suite he4 hd4 na nL nF) hN hi hloc rfl (fun s5 S5 => ?_) (.inr hln)
          refine wpAny_mono ((hsu a oe4 cls d (X.pn ++ pins) hz4 ⟨_, hd4⟩).run [] s5 _ H' _ S5 (yes rfl a na)) (fun f s6 sp => ?_) (fun _ _ z => False.elim z)
          have fin : ∀ {σ6 : L2.St} {H6 : Hp} {Q : Shared → Prop}, Inv (X.suite a ((a, oe4) :: (X.pn ++ pins))) [] σ6 H6 s6 → (∀ s7, Inv X pins (σ6.set i none) H6 s7 → Q s7) →
              wpAny (model X.prog X.w) X.A (do bindName X.env n .none; unbindBehindTheSuite X.env n p) (fun _ s7 => Q s7) X.xe s6 := fun S6 hq => gone_ok (S6.unsuite ok) hN hi hln hq
          cases f with
          | ret u =>
            obtain ⟨v6, σ6, H6, S6, r6, q6⟩ := sp
            exact fin S6 fun s7 J7 => ⟨_, _, _, J7, r6, q6⟩
          | next =>
            obtain ⟨σ6, H6, S6, q6⟩ := sp
            exact fin S6 fun s7 J7 => ⟨_, _, J7, q6⟩
          | brk =>
            obtain ⟨σ6, H6, S6, q6⟩ := sp
            exact fin S6 fun s7 J7 => ⟨_, _, J7, q6⟩
          | cont =>
            obtain ⟨σ6, H6, S6, q6⟩ := sp
            exact fin S6 fun s7 J7 => ⟨_, _, J7, q6⟩
        | false =>
          show wpAny _ X.A (handleBy (.ref a) X.env hds2) _ _ _
          exact ih (no rfl)
    exact go hh w
  · cases f with
    | ret u =>
      obtain ⟨v, σ', H', J', r, q⟩ := sp
      exact ⟨v, σ', H', J'.ofTry ok, r, q⟩
    | next =>
      obtain ⟨σ', H', J', q⟩ := sp
      exact wpAny_execs_nil ⟨σ', H', J'.ofTry ok, q⟩
    | brk =>
      obtain ⟨σ', H', J', q⟩ := sp
      exact ⟨σ', H', J'.ofTry ok, q⟩
    | cont =>
      obtain ⟨σ', H', J', q⟩ := sp
      exact ⟨σ', H', J'.ofTry ok, q⟩
end
/-- whether the class c is one of t: 0 is above all -/
def isX (c t : Nat) : Bool := decide (t = 0 ∨ t = c)
/-- what is told of the exceptions' classes -/
structure Xc (C : Cf) (K : PySem.W.Frag) : Prop where
  ec : ∀ c, c < 6 → ∃ D, C.ex c = .ref D ∧ ExcC K D
  kit : ∀ c t, c < 6 → t < 6 → PySem.W.kitOne K (C.ex c) (C.ex t) = some (isX c t)
  exm : ∀ c t, c < 6 → t < 6 → PySem.W.exmOne K (C.ex c) (C.ex t) = some (isX c t)
  ve : ∀ c, c < 6 → PySem.W.kitOne K (C.ex c) (.type "ValueError") = some true
/-- the clauses, by the class of the exception: the first one that takes it -/
def hndF {S R : Type} (c : Nat) : List (Nat × Fl S R) → Fl S R
  | [] => .exc c
  | (t, fl) :: r => if isX c t = true then fl else hndF c r
/-- it returns -/
def Fl.Rt {S R : Type} (o : Fl S R) : Prop := (∀ s, o ≠ .nx s) ∧ ∀ c, o ≠ .exc c
theorem Fl.rt_rt {S R : Type} {r : R} : (Fl.rt r : Fl S R).Rt := ⟨fun _ h => (nomatch h), fun _ h => nomatch h⟩
theorem Fl.rt_bad {S R : Type} : (Fl.bad : Fl S R).Rt := ⟨fun _ h => (nomatch h), fun _ h => nomatch h⟩
theorem Fl.rt_ite {S R : Type} {c : Prop} [Decidable c] {a b : Fl S R} (h1 : a.Rt) (h2 : b.Rt) : (if c then a else b).Rt := by
  split
  · exact h1
  · exact h2
theorem Fl.rt_req {S R α : Type} {o : Option α} {k : α → Fl S R} (h : ∀ a, (k a).Rt) : (Fl.req o k).Rt := by
  cases o with
  | none => exact Fl.rt_bad
  | some a => exact h a
theorem Fl.rt_chk {S R : Type} {p : Prop} {k : Fl S R} (h : k.Rt) : (Fl.chk p k).Rt := @Fl.rt_ite S R p (Classical.propDecidable p) k .bad h Fl.rt_bad
theorem Fl.rt_lt {S R α : Type} {v : α} {k : α → Fl S R} (h : ∀ a, (k a).Rt) : (Fl.lt v k).Rt := h v
def Fl.tr {S R : Type} (q : Res Unit) (hs : Nat → List (Nat × Fl S R)) (k : Fl S R) : Fl S R := match q with
  | .ok _ => k
  | .exc c => if c < 6 then hndF c (hs c) else .bad
  | .bad => .bad
section
variable {C : Cf} {Z : Hp} {X : Cx} {N G : List Str} {P : Nat → Bool} {ss ss' : En} {a b c e e2 tg iter elt fe : Expr} {rest es : List Expr} {pos p p2 apos : Pos} {r r' ra rb rz : RM} {α β γ : Type} {z q : Bool}
variable {W : Nat → Hp → Prop} {S S' R : Type} {ES : S → En} {ES' : S' → En} {ER : R → RM} {st : Stmt} {blk sts A B : List Stmt} {fl : Fl S R} {spos : Pos}
theorem Cok.tr (k : Cok C X N P G) (pn : List (Addr × Obj)) (xe : Value → Shared → Prop) : Cok C (X.tr pn xe) N P G := ⟨k.hK, k.hN, k.nd, k.vis, k.gl, k.calm, k.hu, k.bt, k.hv⟩
/-- as EvX, the wish may look at the slots -/
def EvT (C : Cf) (Z : Hp) (X : Cx) (WW : WX) (ss : En) (e : Expr) (r : Res RM) : Prop :=
  ∀ (σ : L2.St) (F H : Hp) (Q : VK), EnvOk C Z ss F H σ → (match r with
    | .ok rm => ∀ v F' H', Ext F H F' H' → rm.ok C Z H v F' H' → Q v H'
    | .exc c => ∀ H', Same H H' → WW (C.ex c) none σ H'
    | .bad => False) → wE X e σ H Q
/-- a block that changes no slot -/
def Tb (C : Cf) (Z : Hp) (X : Cx) (WW : WX) (ss : En) (b : List Stmt) (r : Res Unit) : Prop :=
  ∀ (σ : L2.St) (F H : Hp) (D : Ends), EnvOk C Z ss F H σ → (match r with
    | .ok _ => ∀ F' H', Ext F H F' H' → D.nx σ H'
    | .exc c => ∀ H', Same H H' → WW (C.ex c) none σ H'
    | .bad => False) → wSs X b D σ H
theorem EvT.call {WW : WX} {x : Str} {ds : List D} {r : Res RM} (tk : L2N.Takes X WW) (k : Cok C X N P G) (i : Nat) (hc : Cal X.prog X.w X.K X.mg X.base X.A C x ds r) (ha : Ea C Z X ss (e :: es) ds) (hi : G[i]? = some x := by rfl) (he1 : starEach (e :: es) X.env = (false, eval e X.env) :: starEach es X.env := by rfl)
    (hpl : (backTo pos (starEach es X.env)).any (·.1) = false := by rfl) : EvT C Z X WW ss (.Call (.Name x p) (e :: es) [] pos) (r.map backR) := fun σ F H Q he hq pins s I => by
  obtain ⟨n, f, fd, ps, sp, hr, FO, hm, hk, hb, hs⟩ := hc
  refine (pe_callS (E := L2.WE WW) FO hr (k.gl i x hi).1 hm hk hb (fun σ => L2N.passAt tk σ) pa_w (k.gl i x hi).2.1 he1 hpl).run pins s σ H Q I ?_
  refine ha σ F H _ he fun vs F1 H1 e1 q1 => hs _ _ _ _ ⟨q1, ?_⟩
  cases r with
  | ok rm =>
    intro v H2 h2 q2
    obtain ⟨F2, e2, q3⟩ := okc_back ((he.ext e1).zf.trans e1.fh) e1.fh h2 q2
    exact hq v F2 H2 (e1.trans e2) (RM.ok_old e1.hh q3)
  | exc c => exact fun H2 h2 => hq H2 (e1.hh.trans h2)
  | bad => exact hq.elim
theorem Tb.expr {WW : WX} {r : Res α} {m : α → RM} (h : EvT C Z X WW ss e ((r.map m).map backR)) (hs : swapsWith e none spos.line X.env = pure false := by rfl) : Tb C Z X WW ss [.Expr e spos] r.vd := fun σ F H D he hq pins s I =>
  (pss_cons (ps_expr pe_w hs) pss_nil).run pins s σ H D I (h σ F H _ he (by
    cases r with
    | ok v => exact fun _ F' H' x _ => hq F' H' x
    | exc c => exact hq
    | bad => exact hq))
/-- a suite, for whatever exception -/
def tsS (X : Cx) (suite : List Stmt) : Addr → Value → Option Addr → L2.TS := fun a cls d D σ H => ∀ (oe : Obj) (pn : List (Addr × Obj)), L2N.Zn cls d oe → (∃ vs, oe.data = .fields vs) → wSs (X.suite a ((a, oe) :: pn)) suite D σ H
/-- what the clauses come to -/
inductive HS (C : Cf) (Z : Hp) (X : Cx) (ss : En) (ES : S → En) (ER : R → RM) (c : Nat) : List ExceptHandler → Cls3 → List (Nat × Fl S R) → Prop
  | nil : HS C Z X ss ES ER c [] [] []
  | no {x : Str} {t : Nat} {b0 : Stmt} {suite : List Stmt} {np p : Pos} {hds : List ExceptHandler} {L : Cls3} {l : List (Nat × Fl S R)} {fl : Fl S R} (hc : Names X x (C.ex t)) (ht : t < 6) (hx : fl.Rt)
      (hsu : ∀ (a : Addr) (oe : Obj) (pn : List (Addr × Obj)), L2N.Zn (C.ex c) none oe → (∃ vs, oe.data = .fields vs) → Sts C Z (X.suite a ((a, oe) :: pn)) (fun _ _ => False) ss (b0 :: suite) ES ER fl) (r : HS C Z X ss ES ER c hds L l) :
      HS C Z X ss ES ER c (.ExceptHandler (some (.Name x np)) none (b0 :: suite) p :: hds) ((C.ex t, none, tsS X (b0 :: suite)) :: L) ((t, fl) :: l)
  | as_ {x n : Str} {i t : Nat} {b0 : Stmt} {suite : List Stmt} {np p : Pos} {hds : List ExceptHandler} {L : Cls3} {l : List (Nat × Fl S R)} {fl : Fl S R} (hc : Names X x (C.ex t)) (ht : t < 6) (hx : fl.Rt) (hi : X.N[i]? = some n) (hln : X.env.kindOf n = some .local) (hl : i < ss.length)
      (hsu : ∀ (a : Addr) (oe : Obj) (pn : List (Addr × Obj)), L2N.Zn (C.ex c) none oe → (∃ vs, oe.data = .fields vs) → Sts C Z (X.suite a ((a, oe) :: pn)) (fun _ _ => False) (ss.set i (some (.fz (.sc (.ref a))))) (b0 :: suite) ES ER fl) (r : HS C Z X ss ES ER c hds L l) :
      HS C Z X ss ES ER c (.ExceptHandler (some (.Name x np)) (some n) (b0 :: suite) p :: hds) ((C.ex t, some i, tsS X (b0 :: suite)) :: L) ((t, fl) :: l)
theorem HS.hd {c : Nat} {hds : List ExceptHandler} {L : Cls3} {l : List (Nat × Fl S R)} (h : HS C Z X ss ES ER c hds L l) : HdM X hds L := by
  induction h with
  | nil => exact .nil
  | no hc ht hx hsu r ih => exact .no hc (fun a oe cls d pn hz hf => ⟨fun pins s σ H D I h => h oe pn hz hf pins s I⟩) ih
  | as_ hc ht hx hi hln hl hsu r ih => exact .as_ hc hi hln (fun a oe cls d pn hz hf => ⟨fun pins s σ H D I h => h oe pn hz hf pins s I⟩) ih
/-- where a block returns, the other ends are at will -/
theorem Post.ends {W' : Nat → Hp → Prop} {F H : Hp} {D D' : Ends} {o : Fl S R} (hx : o.Rt) (hr : D'.rt = D.rt) (hp : Post C Z W ES ER F H D o) : Post C Z W' ES ER F H D' o := by
  cases o with
  | nx s => exact absurd rfl (hx.1 s)
  | rt r =>
    intro v F' H' g s q
    rw [hr]
    exact hp v F' H' g s q
  | exc c => exact absurd rfl (hx.2 c)
  | bad => exact hp
theorem HS.wish {c : Nat} {hds : List ExceptHandler} {L : Cls3} {l : List (Nat × Fl S R)} (h : HS C Z X ss ES ER c hds L l) (xc : Xc C X.K) (hc : c < 6) {σ : L2.St} {F H : Hp} {D : Ends} (en : EnvOk C Z ss F H σ) (hp : Post C Z W ES ER F H D (hndF c l)) :
    wMix X.K (WXc C W) D L (C.ex c) none σ H := by
  induction h with
  | nil => exact ⟨c, rfl, rfl, hp H (en.zf.trans en.fh)⟩
  | @no x t b0 suite np p hds L l fl hN ht hx hsu r ih =>
    refine ⟨isX c t, xc.exm c t hc ht, fun q a ha oe pn hz hf => ?_, fun q => ?_⟩
    · unfold hndF at hp
      rw [if_pos q] at hp
      exact (sts_iff.mp (hsu a oe pn hz hf)) σ F H D en (Post.ends hx rfl hp)
    · unfold hndF at hp
      rw [if_neg (by rw [q]; decide)] at hp
      exact ih hp
  | @as_ x n i t b0 suite np p hds L l fl hN ht hx hi hln hl hsu r ih =>
    refine ⟨isX c t, xc.exm c t hc ht, fun q a ha => ?_, fun q => ?_⟩
    · unfold hndF at hp
      rw [if_pos q] at hp
      exact fun oe pn hz hf => (sts_iff.mp (hsu a oe pn hz hf)) (σ.set i (some (.ref a))) F H (endAs i D) (en.put0 hl (.fz .sc)) (Post.ends (D := D) hx rfl hp)
    · unfold hndF at hp
      rw [if_neg (by rw [q]; decide)] at hp
      exact ih hp
theorem HS.nonx {c : Nat} {hds : List ExceptHandler} {L : Cls3} {l : List (Nat × Fl S R)} (h : HS C Z X ss ES ER c hds L l) : ∀ s, hndF c l ≠ .nx s := by
  induction h with
  | nil => exact fun s h => nomatch h
  | no hN ht hx hsu r ih =>
    unfold hndF
    split
    · exact hx.1
    · exact ih
  | as_ hN ht hx hi hln hl hsu r ih =>
    unfold hndF
    split
    · exact hx.1
    · exact ih
/-- try: a block that changes no slot; except .. -/
theorem Sts.try_ {q : Res Unit} {h0 : ExceptHandler} {hds : List ExceptHandler} {L : Cls3} {hs : Nat → List (Nat × Fl S R)} (tk : L2N.Takes X (WXc C W)) (k : Cok C X N P G) (hst : X.stack = X.env :: X.outer) (hfr : X.env.frame = some X.env.locals) (xc : Xc C X.K)
    (hb : ∀ (WW : WX) (pn : List (Addr × Obj)) (xe : Value → Shared → Prop), L2N.Takes (X.tr pn xe) WW → PassesOwn (model X.prog X.w) X.A X.env xe → Tb C Z (X.tr pn xe) WW ss A q)
    (hh : ∀ c, c < 6 → HS C Z X ss ES ER c (h0 :: hds) L (hs c)) (hk : q = .ok () → Sts C Z X W ss sts ES ER fl) : Sts C Z X W ss (.Try A (h0 :: hds) [] [] pos :: sts) ES ER (Fl.tr q hs fl) := by
  have hd := (hh 0 (by decide)).hd
  refine Sts.step (ps_mix (tb := fun WW D σ H => ∀ (pn : List (Addr × Obj)) (xe : Value → Shared → Prop), L2N.Takes (X.tr pn xe) WW → PassesOwn (model X.prog X.w) X.A X.env xe → wSs (X.tr pn xe) A D σ H) hst hfr (by rw [k.hN]; exact k.nd) tk
    (fun WW pn xe t o => ⟨fun pins s σ H D I h => h pn xe t o pins s I⟩) hd) fun σ F H D en hp => ?_
  intro pn xe t o
  refine hb _ pn xe t o σ F H _ en ?_
  cases q with
  | ok u => exact fun F' H' x => (sts_iff.mp (hk rfl)) σ F' H' D (en.ext x) (Post.mono x.gr hp)
  | bad => exact hp
  | exc c =>
    intro H' hH
    have hp' : Post C Z W ES ER F H D (if c < 6 then hndF c (hs c) else .bad) := hp
    by_cases hc : c < 6
    · rw [if_pos hc] at hp'
      have x := Ext.heap en.fh hH
      have hx := (hh c hc).nonx
      refine (hh c hc).wish xc hc (en.ext x) ?_
      have hm := Post.mono x.gr hp'
      revert hm hx
      generalize hndF c (hs c) = o
      intro hx hm
      cases o with
      | nx s => exact absurd rfl (hx s)
      | rt r => exact hm
      | exc c' => exact hm
      | bad => exact hm
    · rw [if_neg hc] at hp'
      exact hp'.elim
end
end VL

set_option Elab.async false
set_option linter.all false
set_option maxRecDepth 100000
set_option maxHeartbeats 4000000
/-! VL26: what stands in an except suite; the exceptions' classes. -/
namespace VL
open PySem PySem.Spec PyProof.Rows L2
section
variable {C : Cf} {Z : Hp} {X : Cx} {N G : List Str} {P : Nat → Bool} {ss : En} {a b c e : Expr} {pos p p1 p2 : Pos} {ea : Addr} {oe : Obj} {pn : List (Addr × Obj)}
/-- a name in a suite -/
theorem Ev.fzs (k : Cok C X N P G) (i : Nat) {x : Str} {d : D} (hi : N[i]? = some x := by rfl) (hs : ss[i]? = some (some (.fz d)) := by rfl) (hp : P i = true := by rfl) : Ev C Z (X.suite ea pn) ss (.Name x pos) (.frz d) := fun σ F H Q he hq => by
  obtain ⟨fp, sl, nd⟩ := he.sl
  obtain ⟨v, f1, f2, h1, h2, h3, h4⟩ := sl.get hs
  cases h2 with
  | fz r => exact fun pins s I => (pe_var (X := X.suite ea pn) (i := i) (by show X.N[i]? = _; rw [k.hN]; exact hi) (k.vis i x hp hi).1 (k.vis i x hp hi).2.1 (k.vis i x hp hi).2.2).run pins s σ H Q I ⟨v, h1, hq v F H (Ext.refl he.fh) r⟩
/-- isinstance(e, T), e the exception that the suite holds, T a class of the text -/
theorem Ev.isE {cx t : Nat} {x T : Str} (k : Cok C X N P G) (xc : Xc C X.K) (hc : cx < 6) (ht : t < 6) (hz : L2N.Zn (C.ex cx) none oe) (hf : ∃ vs, oe.data = .fields vs) (i j1 j2 : Nat) (hm : X.mg T = some (C.ex t)) (hi : N[i]? = some x := by rfl) (hs : ss[i]? = some (some (.fz (.sc (.ref ea)))) := by rfl) (hp : P i = true := by rfl)
    (h1 : G[j1]? = some ("isinstance" : Str) := by rfl) (h2 : G[j2]? = some T := by rfl) (st : starEach [.Name x p1, .Name T p2] X.env = (false, eval (.Name x p1) X.env) :: starEach [.Name T p2] X.env := by rfl) (st2 : starEach [.Name T p2] X.env = (false, eval (.Name T p2) X.env) :: starEach [] X.env := by rfl) :
    Ev C Z (X.suite ea ((ea, oe) :: pn)) ss (.Call (.Name "isinstance" p) [.Name x p1, .Name T p2] [] pos) (.frz (dB (isX cx t))) := fun σ F H Q he hq pins s I => by
  obtain ⟨D, eD, EC⟩ := xc.ec cx hc
  obtain ⟨Dt, eT, _⟩ := xc.ec t ht
  obtain ⟨fp, sl, nd⟩ := he.sl
  obtain ⟨v, f1, f2, g1, g2, g3, g4⟩ := sl.get hs
  cases g2 with
  | fz r =>
    cases r
    rw [eD] at hz
    have hz2 : Zc (.ref D) none oe := ⟨hz.1, hz.2.1⟩
    have p1' : PE (X.suite ea ((ea, oe) :: pn)) (.Name x p1) (tVar i) := pe_var (X := X.suite ea ((ea, oe) :: pn)) (by show X.N[i]? = _; rw [k.hN]; exact hi) (k.vis i x hp hi).1 (k.vis i x hp hi).2.1 (k.vis i x hp hi).2.2
    have p2' : PE (X.suite ea ((ea, oe) :: pn)) (.Name T p2) (tC (V.ref Dt)) := pe_glob (X := X.suite ea ((ea, oe) :: pn)) (v := .ref Dt) (u := .ref Dt) (k.gl j2 T h2).1 (by rw [← eT]; exact hm) rfl (k.gl j2 T h2).2.1
    refine (pe_callB (X := X.suite ea ((ea, oe) :: pn)) (call_isE EC hz2 hf) (k.gl j1 _ h1).1 k.bt.isinstance boot_isinstance (pa_cons p1' (pa_cons p2' pa_nil st2) st) (by decide) (by decide) st rfl).run pins s σ H Q I ?_
    refine ⟨.ref ea, g1, .ref Dt, .ref Dt, isX cx t, rfl, fun u h => h, ?_, hq _ F H (Ext.refl he.fh) .sc⟩
    have q := xc.kit cx t hc ht
    rw [eD, eT] at q
    exact q
/-- isinstance(e, ValueError) -/
theorem Ev.isEV {cx : Nat} {x : Str} (k : Cok C X N P G) (xc : Xc C X.K) (hc : cx < 6) (hz : L2N.Zn (C.ex cx) none oe) (hf : ∃ vs, oe.data = .fields vs) (i j1 j2 : Nat) (hm : X.mg "ValueError" = none) (hi : N[i]? = some x := by rfl) (hs : ss[i]? = some (some (.fz (.sc (.ref ea)))) := by rfl) (hp : P i = true := by rfl)
    (h1 : G[j1]? = some ("isinstance" : Str) := by rfl) (h2 : G[j2]? = some ("ValueError" : Str) := by rfl) (st : starEach [.Name x p1, .Name "ValueError" p2] X.env = (false, eval (.Name x p1) X.env) :: starEach [.Name "ValueError" p2] X.env := by rfl) (st2 : starEach [.Name "ValueError" p2] X.env = (false, eval (.Name "ValueError" p2) X.env) :: starEach [] X.env := by rfl) :
    Ev C Z (X.suite ea ((ea, oe) :: pn)) ss (.Call (.Name "isinstance" p) [.Name x p1, .Name "ValueError" p2] [] pos) (.frz (dB true)) := fun σ F H Q he hq pins s I => by
  obtain ⟨D, eD, EC⟩ := xc.ec cx hc
  obtain ⟨fp, sl, nd⟩ := he.sl
  obtain ⟨v, f1, f2, g1, g2, g3, g4⟩ := sl.get hs
  cases g2 with
  | fz r =>
    cases r
    rw [eD] at hz
    have hz2 : Zc (.ref D) none oe := ⟨hz.1, hz.2.1⟩
    have p1' : PE (X.suite ea ((ea, oe) :: pn)) (.Name x p1) (tVar i) := pe_var (X := X.suite ea ((ea, oe) :: pn)) (by show X.N[i]? = _; rw [k.hN]; exact hi) (k.vis i x hp hi).1 (k.vis i x hp hi).2.1 (k.vis i x hp hi).2.2
    have p2' : PE (X.suite ea ((ea, oe) :: pn)) (.Name "ValueError" p2) (tC (V.ty "ValueError")) := pe_bltn (X := X.suite ea ((ea, oe) :: pn)) (v := .ty "ValueError") (u := .type "ValueError") (k.gl j2 _ h2).1 hm (by decide +kernel) rfl (by decide) (by decide)
    refine (pe_callB (X := X.suite ea ((ea, oe) :: pn)) (call_isE EC hz2 hf) (k.gl j1 _ h1).1 k.bt.isinstance boot_isinstance (pa_cons p1' (pa_cons p2' pa_nil st2) st) (by decide) (by decide) st rfl).run pins s σ H Q I ?_
    refine ⟨.ref ea, g1, .ty "ValueError", .type "ValueError", true, rfl, fun u h => h, ?_, hq _ F H (Ext.refl he.fh) .sc⟩
    have q := xc.ve cx hc
    rw [eD] at q
    exact q
end
/-! the facts -/
theorem kitCls_own {K : PySem.W.Frag} {D T : Addr} {b : Bool} (hd : PySem.W.hasDictIn K T = true) (ht : PySem.W.typeIn K (.ref T) = some (.type "type")) (h : PySem.W.subIn K (.ref D) (.ref T) = some b) : PySem.W.kitCls K (.ref D) (.ref T) = some b := by
  obtain ⟨cd, hc, _⟩ := PySem.W.any_some hd
  have e : ((PySem.W.clsIn K T).isSome && PySem.W.typeIn K (.ref T) == some (.type "type")) = true := by rw [hc, ht]; rfl
  show (if ((PySem.W.clsIn K T).isSome && PySem.W.typeIn K (.ref T) == some (.type "type")) = true then PySem.W.subIn K (.ref D) (.ref T) else none) = some b
  rw [if_pos e]
  exact h
theorem xc_of {C : Cf} {K : PySem.W.Frag} (E : Nat → Addr) (he : ∀ c, c < 6 → C.ex c = .ref (E c)) (hE : ∀ c, c < 6 → ExcC K (E c)) (hd : ∀ c, c < 6 → PySem.W.typeIn K (.ref (E c)) = some (.type "type"))
    (hs : ∀ c t, c < 6 → t < 6 → PySem.W.subIn K (.ref (E c)) (.ref (E t)) = some (isX c t)) (hv : ∀ c, c < 6 → PySem.W.subIn K (.ref (E c)) (.type "ValueError") = some true) (hm : PySem.W.kitMeta "ValueError" = true) : Xc C K := by
  have cls : ∀ c t, c < 6 → t < 6 → PySem.W.kitCls K (.ref (E c)) (.ref (E t)) = some (isX c t) := fun c t hc ht => kitCls_own (hE t ht).hd (hd t ht) (hs c t hc ht)
  refine ⟨fun c hc => ⟨E c, he c hc, hE c hc⟩, fun c t hc ht => ?_, fun c t hc ht => ?_, fun c hc => ?_⟩
  · rw [he c hc, he t ht]
    unfold PySem.W.kitOne
    split
    · next q =>
      have e : E c = E t := by simpa using q
      have s1 := hs c t hc ht
      have s2 := hs c c hc hc
      rw [← e, s2] at s1
      have : isX c c = true := by unfold isX; simp
      rw [this] at s1
      exact s1
    · exact cls c t hc ht
  · rw [he c hc, he t ht]
    exact PySem.W.exm_ref (hE t ht).hs (hE t ht).hd (hd t ht) (hs c t hc ht)
  · rw [he c hc]
    unfold PySem.W.kitOne
    split
    · rfl
    · show (if PySem.W.kitMeta "ValueError" = true then PySem.W.subIn K (.ref (E c)) (.type "ValueError") else none) = some true
      rw [if_pos hm]
      exact hv c hc
end VL

set_option Elab.async false
set_option linter.all false
set_option maxRecDepth 100000
set_option maxHeartbeats 4000000
/-! VL27: what raises within an expression. -/
namespace VL
open PySem PySem.Spec PyProof.Rows L2
/-- e raises c -/
def Rz (C : Cf) (Z : Hp) (X : Cx) (W : Nat → Hp → Prop) (ss : En) (e : Expr) (c : Nat) : Prop :=
  ∀ (σ : L2.St) (F H : Hp) (Q : VK), EnvOk C Z ss F H σ → (∀ H', Same Z H' → W c H') → wE X e σ H Q
def RzT (C : Cf) (Z : Hp) (X : Cx) (W : Nat → Hp → Prop) (ss : En) (e : Expr) (c : Nat) : Prop :=
  ∀ (σ : L2.St) (F H : Hp) (Q : Bool → Hp → Prop), EnvOk C Z ss F H σ → (∀ H', Same Z H' → W c H') → wT X e σ H Q
theorem get_of {α : Type} {r : Res α} {v : α} (h : r = .ok v) : r.get = some v := by subst h; rfl
theorem get_parR {α R : Type} {r0 : Res α} {c : α → Bool} {e : Nat} {x r : R} (h : ((Fl.run r0 fun a => (if c a = true then Fl.exc e else Fl.rt x : Fl Unit R)).res (none : Option R)).get = some r) : r = x := by
  cases r0 with
  | exc q => cases h
  | bad => cases h
  | ok a =>
    have h' : ((if c a = true then Fl.exc e else Fl.rt x : Fl Unit R).res (none : Option R)).get = some r := h
    cases hc : c a with
    | true => rw [hc, if_pos rfl] at h'; cases h'
    | false => rw [hc, if_neg Bool.false_ne_true] at h'; cases h'; rfl
section
variable {C : Cf} {Z : Hp} {X : Cx} {N G : List Str} {P : Nat → Bool} {ss ss' : En} {a b e e2 tg iter elt fe : Expr} {rest es : List Expr} {pos p p2 apos : Pos} {r r' ra rb rz : RM} {α β γ : Type} {z q : Bool} {c : Nat}
variable {W : Nat → Hp → Prop} {S S' R : Type} {ES : S → En} {ES' : S' → En} {ER : R → RM} {st : Stmt} {blk sts A B : List Stmt} {fl : Fl S R} {spos : Pos}
theorem Rz.of (h : EvX C Z X W ss e (.exc c)) : Rz C Z X W ss e c := fun σ F H Q he hq => h σ F H Q he hq
theorem Rz.call {x : Str} {ds : List D} {r : Res α} {m : α → RM} (tk : L2N.Takes X (WXc C W)) (k : Cok C X N P G) (i : Nat) (hc : Cal X.prog X.w X.K X.mg X.base X.A C x ds (r.map m)) (h : r = .exc c) (ha : Ea C Z X ss (e :: es) ds) (hi : G[i]? = some x := by rfl)
    (he1 : starEach (e :: es) X.env = (false, eval e X.env) :: starEach es X.env := by rfl) (hpl : (backTo pos (starEach es X.env)).any (·.1) = false := by rfl) : Rz C Z X W ss (.Call (.Name x p) (e :: es) [] pos) c := by
  subst h
  exact Rz.of (EvX.call tk k i hc ha hi he1 hpl)
theorem Rz.meth {m : Str} {cn : Nat} {d0 : List D} {ds : List D} {o : Expr} {r : Res α} {mm : α → RM} {pl : Sem Bool} (tk : L2N.Takes X (WXc C W)) (k : Cok C X N P G) (hc : Met X.prog X.w X.K X.mg X.base X.A C cn m (.obj cn d0 :: ds) (r.map mm)) (h : r = .exc c) (hno : m ∉ C.fn cn) (ho : Ev C Z X ss o (.cur (.obj cn d0))) (ha : Ea C Z X ss (e :: es) ds)
    (hst : starEach (e :: es) X.env = (false, eval e X.env) :: starEach es X.env := by rfl) (hpl : (backTo pos (starEach es X.env)).any (·.1) = false := by rfl)
    (ht : eval (.Call (.Attribute o m apos) (e :: es) [] pos) X.env = (do
      let ov ← eval o X.env
      standAt apos.atName
      let (f, first) ← holding [ov] (getMethod ov m pl)
      callWith pos f first (backTo pos (starEach (e :: es) X.env)) (backToKw pos (keywordEach [] X.env))) := by rfl) : Rz C Z X W ss (.Call (.Attribute o m apos) (e :: es) [] pos) c := by
  subst h
  exact Rz.of (EvX.meth tk k hc hno ho ha hst hpl ht)
theorem Rz.callP {x : Str} {d1 : D} {g : α → D} {xs : List α} {r : Res β} {m : Addr → β → RM} (tk : L2N.Takes X (WXc C W)) (k : Cok C X N P G) (i : Nat) (hc : CalP X.prog X.w X.K X.mg X.base X.A C x d1 (dL g xs) (fun p => r.map (m p))) (h : r = .exc c) (ha : Ev C Z X ss a (.cur d1)) (hb : Ev C Z X ss b (.frz (dL g xs))) (hi : G[i]? = some x := by rfl)
    (he1 : starEach [a, b] X.env = (false, eval a X.env) :: starEach [b] X.env := by rfl) (he2 : starEach [b] X.env = (false, eval b X.env) :: starEach [] X.env := by rfl)
    (hpl : (backTo pos (starEach [b] X.env)).any (·.1) = false := by rfl) : Rz C Z X W ss (.Call (.Name x p) [a, b] [] pos) c := fun σ F H Q he hq pins s I => by
  subst h
  obtain ⟨n, f, fd, ps, sp, hr, FO, hm, hk, hbd, hs⟩ := hc
  refine (pe_callS (E := L2.WE (WXc C W)) FO hr (k.gl i x hi).1 hm hk hbd (fun σ => L2N.passAt tk σ) (pa_cons pe_w (pa_cons pe_w pa_nil he2) he1) (k.gl i x hi).2.1 he1 hpl).run pins s σ H Q I ?_
  refine ha σ F H _ he fun v1 F1 H1 e1 q1 => hb σ F1 H1 _ (he.ext e1) fun v2 F2 H2 e2 q2 => ?_
  obtain ⟨l, vs, rfl, hl, hv⟩ : ∃ (l : Addr) (vs : List V), v2 = .ref l ∧ F2 l = some (.lst vs) ∧ Rps C F2 H2 (xs.map g) vs := by
    cases q2 with
    | lst h r => exact ⟨_, _, rfl, h, r⟩
  have r1 : Rp C H2 H2 d1 v1 := RM.ok_ext (r := .cur d1) e2 q1
  have e12 := e1.trans e2
  refine hs l _ _ _ _ ⟨.cons r1 (.cons (.par (Rp.lst (e2.fh _ _ hl) (hv.mono e2.fh (Tst.refl _)))) .nil), ?_⟩
  intro H3 h3
  exact ⟨c, rfl, rfl, hq H3 (((he.ext e12).zf.trans e12.fh).trans h3)⟩
theorem RzT.isN {j : Nat} (h : Rz C Z X W ss a c) : RzT C Z X W ss (.Compare a [.Is] [.Constant .none j p2] pos) c := fun σ F H Q he hq pins s I =>
  (pt_cmpR op_isN pe_w pe_w (nomark _)).run pins s σ H Q I (h σ F H _ he hq)
theorem RzT.notN {j : Nat} (h : Rz C Z X W ss a c) : RzT C Z X W ss (.Compare a [.IsNot] [.Constant .none j p2] pos) c := fun σ F H Q he hq pins s I =>
  (pt_cmpR op_notN pe_w pe_w (nomark _)).run pins s σ H Q I (h σ F H _ he hq)
theorem Rz.ix (ha : Ev C Z X ss a ra) (h : Rz C Z X W ss b c) (hs : PlainIx b := by intro _ _; rfl) : Rz C Z X W ss (.Subscript a b pos) c := fun σ F H Q he hq pins s I =>
  (pe_ix ix_list pe_w pe_w hs).run pins s σ H Q I (ha σ F H _ he fun v F1 H1 e1 _ => h σ F1 H1 _ (he.ext e1) hq)
theorem Rz.in_ (hm : behindInMarks .In b = false) (ha : Ev C Z X ss a ra) (h : Rz C Z X W ss b c) : Rz C Z X W ss (.Compare a [.In] [b] pos) c := fun σ F H Q he hq pins s I =>
  (pe_cmpR op_in_seq pe_w pe_w hm).run pins s σ H Q I (ha σ F H _ he fun v F1 H1 e1 _ => h σ F1 H1 _ (he.ext e1) hq)
theorem Rz.list1 (k : Cok C X N P G) (i : Nat) (h : Rz C Z X W ss a c) (hi : G[i]? = some ("list" : Str) := by rfl) (na : starEach [a] X.env = (false, eval a X.env) :: starEach [] X.env := by rfl) : Rz C Z X W ss (.Call (.Name "list" p) [a] [] pos) c := fun σ F H Q he hq pins s I =>
  (pe_callTy call_list_of (k.gl i _ hi).1 k.bt.list boot_list (pa_cons pe_w pa_nil na) (k.gl i _ hi).2.2 (k.gl i _ hi).2.1 na rfl).run pins s σ H Q I (h σ F H _ he hq)
/-- a call that may raise, ahead of what else the statement does -/
theorem Sts.runS {r : Res α} {g : α → Fl S R} (h1 : ∀ y, r = .ok y → Sts C Z X W ss blk ES ER (g y)) (h2 : ∀ c, r = .exc c → Sts C Z X W ss blk ES ER (.exc c)) : Sts C Z X W ss blk ES ER (Fl.run r g) := by
  cases r with
  | ok y => exact h1 y rfl
  | exc c => exact h2 c rfl
  | bad => exact fun σ F H D he hp => hp.elim
theorem Sts.rzRet (h : Rz C Z X W ss e c) : Sts C Z X W ss (.Return (some e) spos :: sts) ES ER (.exc c) := Sts.step (ps_ret pe_w) fun σ F H D en hp => h σ F H _ en hp
theorem Sts.rzExpr (h : Rz C Z X W ss e c) (hs : swapsWith e none spos.line X.env = pure false := by rfl) : Sts C Z X W ss (.Expr e spos :: sts) ES ER (.exc c) := Sts.step (ps_expr pe_w hs) fun σ F H D en hp => h σ F H _ en hp
theorem Sts.rzIf (h : RzT C Z X W ss e c) : Sts C Z X W ss (.If e A B spos :: sts) ES ER (.exc c) := Sts.step (ps_if pt_w pss_w pss_w) fun σ F H D en hp => h σ F H _ en hp
theorem Sts.rzFor (k : Cok C X N P G) (d : Dok X N P) (h : Rz C Z X W ss iter c) (hs : ∀ x, foldedSetIterable iter X.env x = pure x := by intro _; rfl) : Sts C Z X W ss (.For tg iter A [] spos :: sts) ES ER (.exc c) :=
  Sts.step (ps_for d.own k.calm pi_w pg_w pss_w hs) fun σ F H D en hp pins s I => (pi_list pe_w).run pins s σ H _ I (h σ F H _ en hp)
end
end VL

set_option Elab.async false
set_option linter.all false
set_option maxRecDepth 100000
set_option maxHeartbeats 4000000
/-! VL28: a verdict that its maker hands over whole: what was frozen in the maker is the caller's own. -/
namespace VL
open PySem PySem.Spec PyProof.Rows L2
section
variable {P : Program} {w : World} {K : PySem.W.Frag} {mg : Str → Option Value} {base : Heap} {C : Cf}
/-- fn_walk, the result being told by ER2 to the caller -/
theorem fn_walkF {st : Stmt} {x qual : Str} {f : Addr} {fd : FuncData} {N ps G : List Str} {k : Nat} {ι R : Type} {ds : ι → List D} {o : ι → Fl Unit R} {un : Option R} {ER ER2 : ι → R → RM} (F : Fun K x qual st f fd) (S : FnScope N ps (defScope st)) (m : Nat) (B : defB (N.take m) G (defScope st) = true)
    (hK : C.K = K) (bt : Bt mg) (hl : ∀ i, (ds i).length = ps.length) (fin : ∀ i r v (F H Z : Hp), Same Z F → Same F H → RM.ok C Z Z v F H (ER i r) → okc C Z v H (ER2 i r)) (hun : un = none)
    (body : ∀ (X : Cx) (Z : Hp) (W : Nat → Hp → Prop), X.prog = P → X.w = w → X.K = K → X.mg = mg → X.base = base → X.env.scope = defScope st → Cok C X N (fun i => Nat.blt i m) G → Dok X N (fun i => Nat.blt i m) → Room k X.A → L2N.Takes X (WXc C W) → X.stack = X.env :: X.outer → X.env.frame = some X.env.locals → ∀ i, Sts C Z X W (start0 (ds i) N.length) (defBody st) (fun _ => (List.replicate N.length none : En)) (ER i) (o i)) :
    FnOk P w K mg base (L2N.CX P w) (k + 1) f fd ps (fun vs H Q E => ∃ i, spM C (ds i) (((o i).res un).map (ER2 i)) vs H Q E) := by
  subst hun
  obtain ⟨oc, od, kV, doc, pm, an, cdv, ct, osl, rfl, lk, hcd⟩ := F.ex
  refine fn_of lk hcd S (fun vs H Q E h => ?_) fun A outer s H vs Q E hr hsp => ?_
  · obtain ⟨i, h, _⟩ := h
    rw [← h.length]
    exact hl i
  · obtain ⟨i, hv, hq⟩ := hsp
    refine ⟨_, pss_w, ?_⟩
    unfold defB at B
    rw [Bool.and_eq_true, List.all_eq_true, List.all_eq_true] at B
    obtain ⟨B1, B2⟩ := B
    have nm : ∀ (j : Nat) x, Nat.blt j m = true → N[j]? = some x → (Loc (defScope st) x) ∧ (x == ("__debug__" : Str)) = false ∧ (x == ("__classdict__" : Str)) = false := fun j x hj hx => by
      have q := B1 x (List.mem_of_getElem? (i := j) (by rw [List.getElem?_take, if_pos (Nat.blt_eq.mp hj)]; exact hx))
      simp only [Bool.and_eq_true, Bool.not_eq_true'] at q
      obtain ⟨⟨q1, q2⟩, q3⟩ := q
      refine ⟨?_, q2, q3⟩
      split at q1
      · exact .inl (by assumption)
      · exact .inr (by assumption)
      · cases q1
    have ck : Cok C (cxOf (L2N.CX P w) P w K mg base N qual (defScope st) f cdv A outer s H E) N (fun i => Nat.blt i m) G := by
      refine ⟨hK.symm, rfl, S.nd, fun j x hj hx => ?_, fun j x hx => ?_, rfl, hr.units, bt, Nat.lt_of_le_of_lt (Nat.le_trans (Nat.add_le_add_left (by decide : 65 ≤ 200) _) (Nat.add_le_add_right (Nat.le_add_right _ _) 200)) hr.un⟩
      · obtain ⟨h1, h2, h3⟩ := nm j x hj hx
        exact ⟨h1.elim .inl fun z => .inr (.inl z), h2, h3⟩
      · have q := B2 x (List.mem_of_getElem? hx)
        simp only [Bool.and_eq_true, Bool.not_eq_true', decide_eq_false_iff_not] at q
        obtain ⟨⟨q1, q2⟩, q3⟩ := q
        refine ⟨?_, q2, q3⟩
        split at q1
        · assumption
        · cases q1
    have dk : Dok (cxOf (L2N.CX P w) P w K mg base N qual (defScope st) f cdv A outer s H E) N (fun i => Nat.blt i m) := ⟨fun j x hj hx => (nm j x hj hx).1, fun _ => rfl, passes_of (K := fun e s'' => L2N.CX P w outer H s E e s'') rfl⟩
    have tk : L2N.Takes (cxOf (L2N.CX P w) P w K mg base N qual (defScope st) f cdv A outer s H E) (WXc C fun c H' => E (C.ex c) none H') :=
      L2N.Takes.imp (L2N.takes_of rfl rfl rfl rfl) fun cls d σ H' h => by
        obtain ⟨c, rfl, rfl, h⟩ := h
        exact h
    have en : EnvOk C H (start0 (ds i) N.length) H H (start N vs) := by
      refine ⟨Same.refl H, Same.refl H, [], ?_, List.nodup_nil⟩
      unfold start0 L2.start
      rw [← hv.length]
      exact slots_start _ hv
    refine (sts_iff.mp (body _ H (fun c H' => E (C.ex c) none H') rfl rfl rfl rfl rfl rfl ck dk hr tk rfl rfl i)) (start N vs) H H _ en ?_
    cases ho : o i with
    | nx u =>
      rw [ho] at hq
      exact fun σ' F' H' g e => hq.elim
    | rt r =>
      rw [ho] at hq
      intro v F' H' g s' q
      have hq' : ∀ v H', Same H H' → okc C H v H' (ER2 i r) → Q v H' := hq
      exact hq' v H' (g.ff.trans s') (fin i r v F' H' H g.ff s' q)
    | exc c =>
      rw [ho] at hq
      exact fun H' s' => hq H' s'
    | bad =>
      rw [ho] at hq
      exact hq.elim
end
/-! ### the verdict, owned -/
/-- at its maker: ring and crowd frozen there -/
def oVj (x : Ver) : O := .obj 1 [oO (oL (zz dI)) x.order, .nz (dOL x.ring), .nz (dOL x.crowd), oO (oL (zz dI)) x.colours, zz dI x.many]
/-- at the caller: all lists its own -/
def oVo (x : Ver) : O := .obj 1 [oO (oL (zz dI)) x.order, oO (oL (zz dI)) x.ring, oO (oL (zz dI)) x.crowd, oO (oL (zz dI)) x.colours, zz dI x.many]
def ERj (x : Ver) : RM := match x.crowd with
  | none => .new (oVj x)
  | some _ => match x.ring with
    | none => .new (oVj x)
    | some _ => .itm [.lst []]
theorem er_OI (o : Option (List Int)) : Er (oO (oL (zz dI)) o) (dOL o) := er_O (er_L er_z) o
theorem fu_OI (o : Option (List Int)) : Full (oO (oL (zz dI)) o) := fu_O (fu_L (fu_z fun _ => Flat.sc)) o
theorem er_Vo (x : Ver) : Er (oVo x) (dV x) := .obj (.cons (er_OI _) (.cons (er_OI _) (.cons (er_OI _) (.cons (er_OI _) (.cons (er_z _) .nil)))))
theorem fu_Vo (x : Ver) : Full (oVo x) := .obj (.cons (fu_OI _) (.cons (fu_OI _) (.cons (fu_OI _) (.cons (fu_OI _) (.cons (fu_z (fun _ => Flat.sc) _) .nil)))))
section
variable {C : Cf} {Z Z' F F' H : Hp}
theorem owns_zI : ∀ {xs : List Int} {vs : List V} {fp : List Addr}, Owns C Z F H (xs.map (zz dI)) vs fp → vs = xs.map V.int ∧ fp = []
  | [], _, _, h => by cases h; exact ⟨rfl, rfl⟩
  | x :: xs, _, _, h => by
    cases h with
    | cons a b =>
      obtain ⟨e1, e2⟩ := owns_zI b
      cases a with
      | fz r =>
        cases r
        rw [e1, e2]
        exact ⟨rfl, rfl⟩
theorem zI_owns : ∀ {xs : List Int}, Owns C Z F H (xs.map (zz dI)) (xs.map V.int) []
  | [] => .nil
  | _ :: _ => .cons (f1 := []) (f2 := []) (.fz .sc) zI_owns
theorem own_int {p : Addr} {xs : List Int} (hf : F p = none) (hp : H p = some (.lst (xs.map V.int))) : Own C Z F H (oL (zz dI) xs) (.ref p) [p] := .lst hf hp zI_owns
/-- owned here: so anywhere where it is not frozen -/
theorem own_OI {o : Option (List Int)} {v : V} {fp : List Addr} (h : Own C Z F H (oO (oL (zz dI)) o) v fp) : Own C (fun _ => none) (fun _ => none) H (oO (oL (zz dI)) o) v fp := by
  cases o with
  | none =>
    cases h with
    | fz r =>
      cases r
      exact .fz .sc
  | some xs =>
    cases h with
    | lst hf hp hr =>
      obtain ⟨e1, e2⟩ := owns_zI hr
      rw [e1] at hp
      rw [e2]
      exact own_int rfl hp
/-- frozen here and made here: owned at the caller -/
theorem own_NI {o : Option (List Int)} {v : V} (s : Same F H) (h : Rp C (sub Z F) H (dOL o) v) : ∃ fp, Own C (fun _ => none) (fun _ => none) H (oO (oL (zz dI)) o) v fp ∧ (∀ a ∈ fp, F a ≠ none ∧ Z a = none) ∧ fp.Nodup ∧ (o = none → fp = []) := by
  cases o with
  | none =>
    cases h
    exact ⟨[], .fz .sc, fun _ q => absurd q List.not_mem_nil, List.nodup_nil, fun _ => rfl⟩
  | some xs =>
    obtain ⟨p, rfl, hp⟩ := dI_list h
    have hz : F p = some (.lst (xs.map V.int)) := sub_le _ _ hp
    refine ⟨[p], own_int rfl (s _ _ hz), fun a q => ?_, by simp, fun h => nomatch h⟩
    rw [List.mem_singleton.mp q]
    refine ⟨by rw [hz]; simp, ?_⟩
    unfold sub at hp
    split at hp
    · assumption
    · cases hp
/-- the maker's hand-over -/
theorem okc_V {x : Ver} {v : V} (zf : Same Z F) (fh : Same F H) (h : RM.ok C Z Z v F H (ERj x)) : okc C Z v H (.new (oVo x)) := by
  have key : (x.ring = none ∨ x.crowd = none) → RM.ok C Z Z v F H (.new (oVj x)) → okc C Z v H (.new (oVo x)) := fun hx h => by
    obtain ⟨fp, ow, f1, nd⟩ := h
    cases ow with
    | obj hf hp hn hr =>
      rename_i p dx fs fp
      have gone := hr.gone
      generalize hvs : fs.map (·.2) = vs at hr
      cases hr with
      | cons a1 hr =>
      cases hr with
      | cons a2 hr =>
      cases hr with
      | cons a3 hr =>
      cases hr with
      | cons a4 hr =>
      cases hr with
      | cons a5 hr =>
      cases hr with
      | nil =>
      cases a2 with
      | nz a2 =>
      cases a3 with
      | nz a3 =>
      cases a5 with
      | fz a5 =>
      rename_i v1 g1 v2 v3 v4 g4 v5
      cases a5
      obtain ⟨g2, b2, n2, d2, z2⟩ := own_NI fh a2
      obtain ⟨g3, b3, n3, d3, z3⟩ := own_NI fh a3
      have b1 := own_OI a1
      have b4 := own_OI a4
      have k1 := a1.gone
      have k4 := a4.gone
      have h23 : g2 = [] ∨ g3 = [] := hx.imp z2 z3
      have nd' := List.nodup_cons.mp nd
      have nd1 := List.nodup_append.mp nd'.2
      have e4 : ([] : List Addr) ++ (g4 ++ ([] ++ [])) = g4 := by simp
      have nd14 : (g1 ++ g4).Nodup := by
        have := nd'.2
        simpa using this
      have p14 : p ∉ g1 ∧ p ∉ g4 := by
        have := nd'.1
        simp only [List.nil_append, List.append_nil, List.mem_append, not_or] at this
        exact this
      have nd14' := List.nodup_append.mp nd14
      refine ⟨fun _ => none, p :: (g1 ++ (g2 ++ (g3 ++ (g4 ++ ([] ++ []))))), fun a q => absurd rfl q, fun a o q => (nomatch q), .obj rfl hp hn ?_, fun a q => ?_, ?_⟩
      · rw [hvs]
        exact .cons b1 (.cons b2 (.cons b3 (.cons b4 (.cons (.fz .sc) .nil))))
      · rcases List.mem_cons.mp q with rfl | q
        · exact zf.free hf
        · rcases List.mem_append.mp q with q | q
          · exact zf.free (k1 a q).1
          · rcases List.mem_append.mp q with q | q
            · exact (n2 a q).2
            · rcases List.mem_append.mp q with q | q
              · exact (n3 a q).2
              · rw [List.append_nil, List.append_nil] at q
                exact zf.free (k4 a q).1
      · rw [List.append_nil, List.append_nil]
        have o1 : ∀ a ∈ g1, F a = none := fun a q => (k1 a q).1
        have o4 : ∀ a ∈ g4, F a = none := fun a q => (k4 a q).1
        have x2 : ∀ a ∈ g2, F a ≠ none := fun a q => (n2 a q).1
        have x3 : ∀ a ∈ g3, F a ≠ none := fun a q => (n3 a q).1
        refine List.nodup_cons.mpr ⟨fun q => ?_, ?_⟩
        · simp only [List.mem_append] at q
          rcases q with q | q | q | q
          · exact p14.1 q
          · exact x2 _ q hf
          · exact x3 _ q hf
          · exact p14.2 q
        · refine List.nodup_append.mpr ⟨nd14'.1, List.nodup_append.mpr ⟨d2, List.nodup_append.mpr ⟨d3, nd14'.2.1, fun a qa b qb e => ?_⟩, fun a qa b qb e => ?_⟩, fun a qa b qb e => ?_⟩
          · subst e
            exact x3 _ qa (o4 _ qb)
          · subst e
            rcases List.mem_append.mp qb with q | q
            · rcases h23 with h | h
              · rw [h] at qa; cases qa
              · rw [h] at q; cases q
            · exact x2 _ qa (o4 _ q)
          · subst e
            rcases List.mem_append.mp qb with q | q
            · exact x2 _ q (o1 _ qa)
            · rcases List.mem_append.mp q with q | q
              · exact x3 _ q (o1 _ qa)
              · exact nd14'.2.2 a qa a q rfl
  unfold ERj at h
  split at h
  · rename_i e
    exact key (.inr e) h
  · split at h
    · rename_i e
      exact key (.inl e) h
    · obtain ⟨p, vs, _, _, hr⟩ := h
      generalize hfp : ([] : List Addr) = fp at hr
      cases hr with
      | cons a b =>
        cases a with
        | lst _ _ _ => cases hfp
end
section
variable {C : Cf} {Z : Hp} {X : Cx} {N G : List Str} {P : Nat → Bool} {ss ss' : En} {a b c e e2 tg iter elt : Expr} {rest es : List Expr} {pos p p2 p3 apos : Pos} {r r' ra rb rz : RM} {α β γ : Type} {z q : Bool}
variable {W : Nat → Hp → Prop} {S S' R : Type} {ES : S → En} {ES' : S' → En} {ER : R → RM} {st : Stmt} {blk sts A B : List Stmt} {fl : Fl S R} {spos : Pos}
/-- a component of a new tuple -/
theorem Ev.ixtw {os : List O} {i : Int} {n : Nat} {o : O} (hn : ixN os.length i = some n) (ho : os[n]? = some o) (ha : Ev C Z X ss a (.new (.tup os))) (hb : Ev C Z X ss b (.frz (dI i))) (hs : PlainIx b := by intro _ _; rfl) : Ev C Z X ss (.Subscript a b pos) (rmO o) := fun σ F H Q he hq pins s I =>
  (pe_ix ix_tup pe_w pe_w hs).run pins s σ H Q I (ha σ F H _ he fun u F1 H1 e1 q1 => hb σ F1 H1 _ (he.ext e1) fun w F2 H2 e2 q2 => by
    cases q2
    obtain ⟨fp, ow, f1, nd⟩ := RM.ok_ext e2 q1
    cases ow with
    | tup hp hr =>
      obtain ⟨v, fa, fb, fc, w1, w2, w3, _⟩ := hr.at_ ho
      refine ⟨_, _, i, v, rfl, rfl, .of hp, ?_, hq v F2 H2 (e1.trans e2) (ok_rmO w2 (fun a q => f1 a ?_) ?_)⟩
      · unfold atI
        rw [← hr.length, hn]
        exact w1
      · rw [w3]
        exact List.mem_append_right _ (List.mem_append_left _ q)
      · rw [w3] at nd
        exact (List.nodup_append.mp (List.nodup_append.mp nd).2.1).1)
/-- return C(y, ..), y owned -/
theorem Sts.retMk {r : R} {g i c n : Nat} {x y : Str} {o : O} {os : List O} (k : Cok C X N P G) (hc : Mkd C X.prog X.w X.K X.mg X.base X.A x c n) (hr : ER r = .new (.obj c (o :: os))) (h : Ei C Z X ss es os) (hn : (o :: os).length = n) (hi : N[i]? = some y := by rfl) (hs : ss[i]? = some (some o) := by rfl) (hp : P i = true := by rfl) (hg : G[g]? = some x := by rfl)
    (he : starEach (.Name y p2 :: es) X.env = (false, eval (.Name y p2) X.env) :: starEach es X.env := by rfl) (hpl : (backTo pos (starEach es X.env)).any (·.1) = false := by rfl) : Sts C Z X W ss (.Return (some (.Call (.Name x p) (.Name y p2 :: es) [] pos)) spos :: sts) ES ER (.rt r) :=
  Sts.step (ps_ret pe_w) fun σ F H D en hq => by
    obtain ⟨fp0, sl, nd0⟩ := en.sl
    obtain ⟨v0, f1, f2, h1, h2, h3, h4⟩ := sl.get hs
    have nd1 : (f1 ++ f2).Nodup := (h4.nodup_iff).mpr nd0
    intro pins s I
    obtain ⟨k0, f, fd, ps, M, FO, hrm, hm, hb, hfn⟩ := hc
    refine (pe_make (E := fun cls d H => ∃ c, cls = C.ex c ∧ d = none ∧ (fun (_ : Nat) (_ : Hp) => False) c H) (dvs := []) (ds := []) M FO hrm (k.gl g x hg).1 hm hb .nil (L2N.passes_call takes_any fun _ _ _ _ h => h) pa_w (k.gl g x hg).2.1 he hpl).run pins s σ H _ I ?_
    intro ppos pins2 s2 I2
    refine (pa_cons pe_w pa_w he).run ppos pins2 s2 σ H _ I2 ?_
    refine Ev.slot (o := o) k hi hp h1 ?_
    refine h σ F H _ en fun vs fp F1 H1 e1 ow fr nd z dx hx hdx ne => ?_
    have x1 : Ext F1 H1 F1 (upd H1 dx (.own z)) := ext_new e1.fh hdx
    have hx2 : upd H1 dx (.own z) z = none := by rw [upd_ne ne.symm]; exact hx
    have l : (v0 :: vs).length = n := by rw [← hn, List.length_cons, List.length_cons, ow.length]
    refine ⟨z, dx, v0 :: vs, by rw [List.append_nil], l, upd_same, rfl, ?_⟩
    rw [upd_upd]
    have x2 := x1.trans (ext_new (p := z) (o := .ins (C.cl c) dx ((C.fn c).zip (v0 :: vs))) x1.fh hx2)
    have fx : z ∉ fp := fun q => (ow.gone z q).2 hx
    have fx1 : z ∉ f1 := fun q => (h2.gone z q).2 (e1.hh.free hx)
    have ex := e1.trans x2
    refine hq _ F1 _ ex.gr ex.fh ?_
    rw [hr]
    refine ⟨z :: (f1 ++ fp), .obj (e1.fh.free hx) upd_same ?_ ?_, fun b q => ?_, List.nodup_cons.mpr ⟨fun q => (List.mem_append.mp q).elim fx1 fx, List.nodup_append.mpr ⟨(List.nodup_append.mp nd1).1, nd, fun b qb d qd e => ?_⟩⟩⟩
    · rw [List.map_fst_zip (by omega)]
    · rw [List.map_snd_zip (by omega)]
      exact .cons (h2.ext ex) (ow.ext x2)
    · rcases List.mem_cons.mp q with rfl | q
      · exact (en.zf.trans en.fh).free (e1.hh.free hx)
      · rcases List.mem_append.mp q with q | q
        · exact en.zf.free (h2.gone b q).1
        · exact (en.zf.trans en.fh).free (fr b q)
    · subst e
      exact (h2.gone b qb).2 (fr b qd)
end
/-! places in an owned verdict -/
theorem at_V0 {w : Ver} {xs : List Int} (h : w.order = some xs) : oAt [0] (oVo w) = some (oL (zz dI) xs) := by
  show some (oO (oL (zz dI)) w.order) = _
  rw [h]
  rfl
theorem at_V1 {w : Ver} {xs : List Int} (h : w.ring = some xs) : oAt [1] (oVo w) = some (oL (zz dI) xs) := by
  show some (oO (oL (zz dI)) w.ring) = _
  rw [h]
  rfl
theorem at_V2 {w : Ver} {xs : List Int} (h : w.crowd = some xs) : oAt [2] (oVo w) = some (oL (zz dI) xs) := by
  show some (oO (oL (zz dI)) w.crowd) = _
  rw [h]
  rfl
theorem at_V3 {w : Ver} {xs : List Int} (h : w.colours = some xs) : oAt [3] (oVo w) = some (oL (zz dI) xs) := by
  show some (oO (oL (zz dI)) w.colours) = _
  rw [h]
  rfl
end VL

set_option Elab.async false
set_option linter.all false
set_option maxRecDepth 100000
set_option maxHeartbeats 4000000
/-! VL29: a def called with the exception that a suite holds; methods in a try; branches in a try. -/
namespace VL
open PySem PySem.Spec PyProof.Rows L2
/-- X, while an exception is handled -/
abbrev hotX (X : Cx) (pn : List (Addr × Obj)) : Cx := { X with calm := false, pn := pn }
/-- isinstance of a pinned exception -/
theorem call_isP {X : Cx} {a D : Addr} {oe : Obj} (hm : (a, oe) ∈ X.pn) (C : ExcC X.K D) (hz : Zc (.ref D) none oe) (hf : ∃ vs, oe.data = .fields vs) : CallR X (.builtin "isinstance") (rIsE X.K D a) := by
  intro pins s σ H xs us Q I r h
  obtain ⟨c, cv, b, rfl, hcv, e, q⟩ := h
  cases r with
  | cons rx rr =>
  cases rr with
  | cons rt rr =>
  cases rr
  cases rx
  have ec := hcv _ rt
  subst ec
  have hget := (I.pin (a, oe) (List.mem_append.mpr (.inl hm))).1
  obtain ⟨vs, hv⟩ := hf
  have J : PySem.W.InstAt s.heap a oe D none := by
    obtain ⟨oc, od, oda, osl⟩ := oe
    obtain ⟨h1, h2⟩ := hz
    dsimp only at h1 h2 hv
    subst h1 h2 hv
    exact ⟨hget, rfl, rfl, trivial⟩
  exact PySem.W.kia_one (PySem.W.handS_kitx_exc C.hg C.hk C.hs C.hd C.ha C.hn C.ht C.hm) I.kIn J e (fun z => nomatch z) fun tk => ⟨.bl b, H, I.kept (t' := tk) fun _ _ z => z, rfl, q⟩
section
variable {C : Cf} {Z : Hp} {X : Cx} {N G : List Str} {P : Nat → Bool} {ss : En} {a b c e o : Expr} {es : List Expr} {pos p p1 p2 apos : Pos} {ea : Addr} {oe : Obj} {pn : List (Addr × Obj)}
/-- isinstance(e, T) in a def that was called so -/
theorem Ev.isP {cx t : Nat} {x T : Str} (k : Cok C X N P G) (xc : Xc C X.K) (hc : cx < 6) (ht : t < 6) (hz : L2N.Zn (C.ex cx) none oe) (hf : ∃ vs, oe.data = .fields vs) (hmem : (ea, oe) ∈ pn) (i j1 j2 : Nat) (hm : X.mg T = some (C.ex t)) (hi : N[i]? = some x := by rfl) (hs : ss[i]? = some (some (.fz (.sc (.ref ea)))) := by rfl) (hp : P i = true := by rfl)
    (h1 : G[j1]? = some ("isinstance" : Str) := by rfl) (h2 : G[j2]? = some T := by rfl) (st : starEach [.Name x p1, .Name T p2] X.env = (false, eval (.Name x p1) X.env) :: starEach [.Name T p2] X.env := by rfl) (st2 : starEach [.Name T p2] X.env = (false, eval (.Name T p2) X.env) :: starEach [] X.env := by rfl) :
    Ev C Z (hotX X pn) ss (.Call (.Name "isinstance" p) [.Name x p1, .Name T p2] [] pos) (.frz (dB (isX cx t))) := fun σ F H Q he hq pins s I => by
  obtain ⟨D, eD, EC⟩ := xc.ec cx hc
  obtain ⟨Dt, eT, _⟩ := xc.ec t ht
  obtain ⟨fp, sl, nd⟩ := he.sl
  obtain ⟨v, f1, f2, g1, g2, g3, g4⟩ := sl.get hs
  cases g2 with
  | fz r =>
    cases r
    rw [eD] at hz
    have hz2 : Zc (.ref D) none oe := ⟨hz.1, hz.2.1⟩
    have p1' : PE (hotX X pn) (.Name x p1) (tVar i) := pe_var (X := hotX X pn) (by show X.N[i]? = _; rw [k.hN]; exact hi) (k.vis i x hp hi).1 (k.vis i x hp hi).2.1 (k.vis i x hp hi).2.2
    have p2' : PE (hotX X pn) (.Name T p2) (tC (V.ref Dt)) := pe_glob (X := hotX X pn) (v := .ref Dt) (u := .ref Dt) (k.gl j2 T h2).1 (by rw [← eT]; exact hm) rfl (k.gl j2 T h2).2.1
    refine (pe_callB (X := hotX X pn) (call_isP hmem EC hz2 hf) (k.gl j1 _ h1).1 k.bt.isinstance boot_isinstance (pa_cons p1' (pa_cons p2' pa_nil st2) st) (by decide) (by decide) st rfl).run pins s σ H Q I ?_
    refine ⟨.ref ea, g1, .ref Dt, .ref Dt, isX cx t, rfl, fun u h => h, ?_, hq _ F H (Ext.refl he.fh) .sc⟩
    have q := xc.kit cx t hc ht
    rw [eD, eT] at q
    exact q
end
/-- what a def promises where p's object is handled -/
structure FnE (P : Program) (w : World) (K : PySem.W.Frag) (mg : Str → Option Value) (base : Heap) (k : Nat) (f : Addr) (fd : FuncData) (ps : List Str) (p : Addr × Obj) (sp : Sp) : Prop where
  len : ∀ vs H Q E, sp vs H Q E → vs.length = ps.length
  run : ∀ (A : Around) (outer : List Env) (s : Shared) (H : Hp) (args : Args) (us : List Value) (vs : List V) (Q : VK) (E : XK), L2H.RoomH k A → L2H.Hot1 A p → L2H.PinOk outer H s p → Env0 P w K mg base A outer s H → BindsTo s fd args (ps.zip us) → Vals vs us → sp vs H Q E →
    codeAny (model P w) A (.call (.ref f) args) (CR (L2N.CX P w) outer P w H s Q E) s
section
variable {P : Program} {w : World} {K : PySem.W.Frag} {mg : Str → Option Value} {base : Heap} {C : Cf}
theorem fnE_of {k : Nat} {f : Addr} {name qual : Str} {params : Arguments} {body : List Stmt} {scope : Scope} {dV kV doc pm cdv ct oc : Value} {an od : Option Addr} {osl : Array (Option Value)} {N ps : List Str} {sp : Sp} {p : Addr × Obj}
    (lk : K.lookup f = some ⟨oc, od, .func (PySem.W.fnOf name qual params body scope dV kV doc pm an cdv ct), osl⟩) (hcd : PySem.W.codeIn K cdv qual = true) (S : FnScope N ps scope) (len : ∀ vs H Q E, sp vs H Q E → vs.length = ps.length)
    (hbody : ∀ (A : Around) (outer : List Env) (s : Shared) (H : Hp) (vs : List V) (Q : VK) (E : XK), L2H.RoomH k (A.deeper (envOfC qual scope s.heap.objs.size f cdv)) → sp vs H Q E →
      wSs (L2H.cxH (L2N.CX P w) P w K mg base N qual scope f cdv A outer s H E p) body { nx := fun _ H' => Q .non H', rt := Q } (L2.start N vs) H) :
    FnE P w K mg base (k + 1) f (PySem.W.fnOf name qual params body scope dV kV doc pm an cdv ct) ps p sp := by
  refine ⟨len, fun A outer s H args us vs Q E hr hot hpin e0 hb r hsp => ?_⟩
  have KX : K.In s.heap := e0.mod.kin.keeps fun b o e => (e0.bs b o e).1
  have lim : s.heap.NoLimit := e0.mod.nolimit.keeps fun b o e => (e0.bs b o e).1
  have hkind : ∀ y ∈ ps.zip us, scope.names.lookup y.1 = some .local ∨ (scope.names.lookup y.1 = some .cell ∧ ((cellsFrom (s.heap.objs.size + 1) scope.names []).lookup y.1).isSome = true) := fun ⟨n, v⟩ hy =>
    (S.par n (List.of_mem_zip hy).1).imp id fun q => ⟨q, PySem.W.cellsFrom_some _ _ _ (.inl q)⟩
  refine codeAny_call_function hr.depth (KX _ _ lk) rfl S.co S.gen rfl (PySem.W.codeRec_of KX hcd) (hb _ _ _ _ ?_)
  refine wpAny_newFunctionEnv_cells S.kind hkind fun env he s1 x => ?_
  subst he
  refine ⟨lim.keeps x.toInCall.keep, codeAny_func ?_⟩
  have I : Inv (L2H.cxH (L2N.CX P w) P w K mg base N qual scope f cdv A outer s H E p) [] (L2.start N vs) H s1 := L2H.inv_startH S hpin e0 (len _ _ _ _ hsp) r x
  refine wpAny_mono (hbody A outer s H vs Q E (hr.deeper _) hsp [] s1 I) (fun fl s' hs => ?_) fun e s' hs => hs
  cases fl with
  | ret u =>
    obtain ⟨v, σ', H', J, rv, q⟩ := hs
    exact ⟨v, H', J.os, J.bare, J.base, J.hok, rv, q⟩
  | next =>
    obtain ⟨σ', H', J, q⟩ := hs
    exact ⟨.non, H', J.os, J.bare, J.base, J.hok, rfl, q⟩
  | brk =>
    obtain ⟨_, _, _, q⟩ := hs
    exact q.elim
  | cont =>
    obtain ⟨_, _, _, q⟩ := hs
    exact q.elim
/-- the promise of a def that looks at the exception -/
def spE (ea : Addr) (r : Res Bool) : Sp := fun vs H Q _ => vs = [.ref ea] ∧ ∃ b, r = .ok b ∧ ∀ H', Same H H' → Q (.bl b) H'
theorem fn_walkE {st : Stmt} {x qual pe : Str} {f : Addr} {fd : FuncData} {N G : List Str} {k : Nat} {ea : Addr} {oe : Obj} {o : Fl Unit Bool} (F : Fun K x qual st f fd) (S : FnScope N [pe] (defScope st)) (m : Nat) (B : defB (N.take m) G (defScope st) = true) (hK : C.K = K) (bt : Bt mg)
    (body : ∀ (X : Cx) (Z : Hp) (pn : List (Addr × Obj)), X.prog = P → X.w = w → X.K = K → X.mg = mg → X.base = base → X.env.scope = defScope st → Cok C X N (fun i => Nat.blt i m) G → (ea, oe) ∈ pn →
      Sts C Z (hotX X pn) (fun _ _ => False) (start0 [.sc (.ref ea)] N.length) (defBody st) (fun _ => (List.replicate N.length none : En)) (fun r : Bool => .frz (dB r)) o) :
    FnE P w K mg base (k + 1) f fd [pe] (ea, oe) (spE ea (o.res none)) := by
  obtain ⟨oc, od, kV, doc, pm, an, cdv, ct, osl, rfl, lk, hcd⟩ := F.ex
  refine fnE_of lk hcd S (fun vs H Q E h => by obtain ⟨rfl, _⟩ := h; rfl) fun A outer s H vs Q E hr hsp => ?_
  obtain ⟨rfl, b, hb, hq⟩ := hsp
  unfold defB at B
  rw [Bool.and_eq_true, List.all_eq_true, List.all_eq_true] at B
  obtain ⟨B1, B2⟩ := B
  have hu : (A.deeper (envOfC qual (defScope st) s.heap.objs.size f cdv)).units + 65 < cLine := by
    have := hr.un
    omega
  have ck : Cok C (cxOf (L2N.CX P w) P w K mg base N qual (defScope st) f cdv A outer s H E) N (fun i => Nat.blt i m) G := by
    refine ⟨hK.symm, rfl, S.nd, fun j x hj hx => ?_, fun j x hx => ?_, rfl, Nat.lt_of_le_of_lt (Nat.le_succ _) hu, bt, hu⟩
    · have q := B1 x (List.mem_of_getElem? (i := j) (by rw [List.getElem?_take, if_pos (Nat.blt_eq.mp hj)]; exact hx))
      simp only [Bool.and_eq_true, Bool.not_eq_true'] at q
      obtain ⟨⟨q1, q2⟩, q3⟩ := q
      refine ⟨?_, q2, q3⟩
      split at q1
      · exact .inl (by assumption)
      · exact .inr (.inl (by assumption))
      · cases q1
    · have q := B2 x (List.mem_of_getElem? hx)
      simp only [Bool.and_eq_true, Bool.not_eq_true', decide_eq_false_iff_not] at q
      obtain ⟨⟨q1, q2⟩, q3⟩ := q
      refine ⟨?_, q2, q3⟩
      split at q1
      · assumption
      · cases q1
  have en : EnvOk C H (start0 [.sc (.ref ea)] N.length) H H (L2.start N [.ref ea]) := by
    refine ⟨Same.refl H, Same.refl H, [], ?_, List.nodup_nil⟩
    unfold start0 L2.start
    exact slots_start (C := C) (H := H) (ds := [.sc (.ref ea)]) (vs := [.ref ea]) _ (.cons .sc .nil)
  have main := (sts_iff.mp (body _ H [(ea, oe)] rfl rfl rfl rfl rfl rfl ck List.mem_cons_self)) (L2.start N [.ref ea]) H H { nx := fun _ H' => Q .non H', rt := Q } en
  refine main ?_
  cases o with
  | nx u => cases hb
  | exc c => cases hb
  | bad => cases hb
  | rt r =>
    cases hb
    intro v F' H' g s' q
    cases q
    exact hq H' (g.ff.trans s')
/-- such a def, at hand -/
def CalE (P : Program) (w : World) (K : PySem.W.Frag) (mg : Str → Option Value) (base : Heap) (A : Around) (C : Cf) (x : Str) (m : Nat → Res Bool) : Prop :=
  ∃ (k : Nat) (f : Addr) (fd : FuncData) (ps : List Str), L2H.RoomH k A ∧ (∀ (cx : Nat) (ea : Addr) (oe : Obj), cx < 6 → L2N.Zn (C.ex cx) none oe → (∃ vs, oe.data = .fields vs) → FnE P w K mg base k f fd ps (ea, oe) (spE ea (m cx))) ∧ mg x = some (.ref f) ∧ PySem.W.keepIn K (.ref f) = true ∧ Binds K fd ps []
def Cle (P : Program) (w : World) (K : PySem.W.Frag) (mg : Str → Option Value) (base : Heap) (C : Cf) (k : Nat) (x : Str) (m : Nat → Res Bool) : Prop :=
  ∃ (f : Addr) (fd : FuncData) (ps : List Str), (∀ (cx : Nat) (ea : Addr) (oe : Obj), cx < 6 → L2N.Zn (C.ex cx) none oe → (∃ vs, oe.data = .fields vs) → FnE P w K mg base k f fd ps (ea, oe) (spE ea (m cx))) ∧ mg x = some (.ref f) ∧ PySem.W.keepIn K (.ref f) = true ∧ Binds K fd ps []
theorem Cle.cal {j k : Nat} {x : Str} {A : Around} {m : Nat → Res Bool} (h : Cle P w K mg base C j x m) (hr : Room k A) (hj : j ≤ k) : CalE P w K mg base A C x m := by
  obtain ⟨f, fd, ps, h1, h2, h3, h4⟩ := h
  exact ⟨j, f, fd, ps, (L2H.roomH_of hr).mono hj, h1, h2, h3, h4⟩
end
section
variable {C : Cf} {Z : Hp} {X : Cx} {N G : List Str} {P : Nat → Bool} {ss : En} {a b c e o : Expr} {es : List Expr} {pos p p1 p2 apos q : Pos} {ea : Addr} {oe : Obj} {pn : List (Addr × Obj)}
theorem run_fnE {k : Nat} {f : Addr} {fd : FuncData} {ps : List Str} {sp : Sp} {pp : Addr × Obj} {E : XK} {pins : List (Addr × Obj)} {σ : L2.St} {H : Hp} {s : Shared} {Q : VK} {us : List Value} {vs : List V} (F : FnE X.prog X.w X.K X.mg X.base k f fd ps pp sp) (hr : L2H.RoomH k X.A) (hot : L2H.Hot1 X.A pp) (hp : pp ∈ X.pn) (hb : Binds X.K fd ps []) (hx : PassesAt (L2N.CX X.prog X.w) X σ E)
    (I : Inv X pins σ H s) (r : Vals vs us) (h : sp vs H Q E) : wpAny (model X.prog X.w) X.A (call (.ref f) us) (EP X pins σ Q) X.xe s := by
  have bd := hb s us I.kIn (by rw [List.append_nil, ← r.length]; exact F.len _ _ _ _ h)
  rw [List.append_nil] at bd
  have P1 := I.pin pp (List.mem_append_left _ hp)
  have hpin : L2H.PinOk X.stack H s pp := ⟨P1.1, P1.2.1, fun hm => (List.mem_cons.mp (I.stkSub pp.1 hm)).elim P1.2.2.1 P1.2.2.2.1, P1.2.2.2.2⟩
  refine wpAny_call (codeAny_mono (F.run X.A X.stack s H ⟨us, []⟩ us vs Q E hr hot hpin I.env0 bd r h) fun r s' hq => ?_)
  cases r with
  | error e => exact hx pins H s e s' I hq
  | ok fl =>
    cases fl with
    | ret u => exact I.after hq
    | next => exact hq.elim
    | brk => exact hq.elim
    | cont => exact hq.elim
/-- f(e), e the exception that the suite holds -/
theorem Ev.callE {cx : Nat} {fx x : Str} {m : Nat → Res Bool} {b : Bool} (k : Cok C X N P G) (g i : Nat) (hc : cx < 6) (hz : L2N.Zn (C.ex cx) none oe) (hf : ∃ vs, oe.data = .fields vs) (hcal : CalE X.prog X.w X.K X.mg X.base X.A C fx m) (hv : (m cx).get = some b) (hg : G[g]? = some fx := by rfl) (hi : N[i]? = some x := by rfl) (hs : ss[i]? = some (some (.fz (.sc (.ref ea)))) := by rfl) (hp : P i = true := by rfl)
    (st : starEach [.Name x p1] X.env = (false, eval (.Name x p1) X.env) :: starEach [] X.env := by rfl) : Ev C Z (X.suite ea ((ea, oe) :: pn)) ss (.Call (.Name fx q) [.Name x p1] [] pos) (.frz (dB b)) := fun σ F H Q he hq pins s I => by
  obtain ⟨k0, f, fd, ps, hr, hF, hm, hk, hb⟩ := hcal
  obtain ⟨fp, sl, nd⟩ := he.sl
  obtain ⟨v, f1, f2, g1, g2, g3, g4⟩ := sl.get hs
  cases g2 with
  | fz r =>
    cases r
    have p1' : PE (X.suite ea ((ea, oe) :: pn)) (.Name x p1) (tVar i) := pe_var (X := X.suite ea ((ea, oe) :: pn)) (by show X.N[i]? = _; rw [k.hN]; exact hi) (k.vis i x hp hi).1 (k.vis i x hp hi).2.1 (k.vis i x hp hi).2.2
    have pa : PA (X.suite ea ((ea, oe) :: pn)) [.Name x p1] _ := pa_cons p1' pa_nil st
    have hot : L2H.Hot1 (X.suite ea ((ea, oe) :: pn)).A (ea, oe) := by
      obtain ⟨vs, hv⟩ := hf
      exact ⟨rfl, vs, hv, hz.2.2 vs hv⟩
    refine wpAny_Call_Name_kw (ld_glob (X := X.suite ea ((ea, oe) :: pn)) I (k.gl g fx hg).1 hm ?_ (k.gl g fx hg).2.1)
    refine PySem.W.callWith_K (h₀ := X.base) I.ok.mod.kin hk (thn (pa.run pos pins s σ H (fun vs H1 => vs = [.ref ea] ∧ H1 = H) I ⟨.ref ea, g1, rfl, rfl⟩) fun us s1 ⟨vs, H1, I1, r, q⟩ => ⟨I1.kIn, ?_⟩) st rfl
    obtain ⟨rfl, rfl⟩ := q
    refine run_fnE (X := X.suite ea ((ea, oe) :: pn)) (E := fun cls d H' => WXc C (fun _ _ => False) cls d σ H') (hF cx ea oe hc hz hf) ⟨hr.dp, hr.un⟩ hot List.mem_cons_self hb (L2N.passAt takes_any σ) I1 r ⟨rfl, b, ?_, fun H' hH => hq _ F H' (Ext.heap he.fh hH) .sc⟩
    cases hmc : m cx with
    | ok b' => rw [hmc] at hv; cases hv; rfl
    | exc c => rw [hmc] at hv; cases hv
    | bad => rw [hmc] at hv; cases hv
/-- o.m(..) in a try -/
theorem EvT.meth {WW : WX} {m : Str} {cn : Nat} {d0 : List D} {ds : List D} {r : Res RM} {pl : Sem Bool} (tk : L2N.Takes X WW) (k : Cok C X N P G) (hc : Met X.prog X.w X.K X.mg X.base X.A C cn m (.obj cn d0 :: ds) r) (hno : m ∉ C.fn cn) (ho : Ev C Z X ss o (.cur (.obj cn d0))) (ha : Ea C Z X ss (e :: es) ds)
    (hst : starEach (e :: es) X.env = (false, eval e X.env) :: starEach es X.env := by rfl) (hpl : (backTo pos (starEach es X.env)).any (·.1) = false := by rfl)
    (ht : eval (.Call (.Attribute o m apos) (e :: es) [] pos) X.env = (do
      let ov ← eval o X.env
      standAt apos.atName
      let (f, first) ← holding [ov] (getMethod ov m pl)
      callWith pos f first (backTo pos (starEach (e :: es) X.env)) (backToKw pos (keywordEach [] X.env))) := by rfl) : EvT C Z X WW ss (.Call (.Attribute o m apos) (e :: es) [] pos) (r.map backR) := fun σ F H Q he hq pins s I => by
  obtain ⟨n, f, fd, ps, sp, hr, FO, cl, hm, hb, hs⟩ := hc
  refine PySem.W.methodCall_KW (pl := pl) (thn (ho σ F H (fun v H1 => ∃ F1, Ext F H F1 H1 ∧ Rp C H1 H1 (.obj cn d0) v) he (fun v F1 H1 e1 q1 => ⟨F1, e1, q1⟩) pins s I) fun u s1 ⟨x, H1, I1, rx, F1, e1, q1⟩ => ?_) ht
  cases q1 with
  | obj hp hn hr0 =>
    rename_i p0 dx fs
    obtain rfl : u = Value.ref p0 := rx
    have hl : fs.lookup m = none := by
      cases h : List.lookup m fs with
      | none => rfl
      | some v =>
        have q := PySem.mem_of_lookup h
        exact absurd (hn ▸ List.mem_map.mpr ⟨(m, v), q, rfl⟩) hno
    refine getmeth_ok I1 hp cl hm hl ?_
    refine PySem.W.callWith_K (first := [.ref p0]) (h₀ := X.base) I.ok.mod.kin hm.kp (thn (ha σ F1 H1 (fun vs H2 => ∃ F2, Ext F1 H1 F2 H2 ∧ Rps C H2 H2 ds vs) (he.ext e1) (fun vs F2 H2 e2 q2 => ⟨F2, e2, q2⟩) pos pins s1 I1) fun us s2 ⟨vs, H2, I2, r2, F2, e2, q2⟩ => ⟨I2.kIn, ?_⟩) hst hpl
    have ex := e1.trans e2
    refine run_fnS (E := L2.WE WW) (us := .ref p0 :: us) (vs := .ref p0 :: vs) FO hr hb (L2N.passAt tk σ) I2 (.cons rfl r2) (hs _ _ _ _ ⟨.cons (.obj (e2.hh _ _ hp) hn (hr0.mono e2.hh (.of e2.hh))) q2, ?_⟩)
    cases r with
    | ok rm =>
      intro v H3 h3 q3
      obtain ⟨F3, e3, q4⟩ := okc_back ((he.ext ex).zf.trans ex.fh) ex.fh h3 q3
      exact hq v F3 H3 (ex.trans e3) (RM.ok_old ex.hh q4)
    | exc c => exact fun H3 h3 => hq H3 (ex.hh.trans h3)
    | bad => exact hq.elim
/-- if c: A else: B in a try -/
theorem Tb.ite {WW : WX} {A B : List Stmt} {z : Bool} {r1 r2 : Res Unit} {spos : Pos} (ht : Cb C Z X ss c z) (h1 : z = true → Tb C Z X WW ss A r1) (h2 : z = false → Tb C Z X WW ss B r2) : Tb C Z X WW ss [.If c A B spos] (if z = true then r1 else r2) := fun σ F H D he hq pins s I =>
  (pss_cons (ps_if pt_w pss_w pss_w) pss_nil).run pins s σ H D I (ht.te σ F H _ he fun F1 H1 e1 => by
    cases z with
    | true =>
      rw [if_pos rfl] at hq
      refine h1 rfl σ F1 H1 _ (he.ext e1) ?_
      cases r1 with
      | ok u => exact fun F' H' x => hq F' H' (e1.trans x)
      | exc c => exact fun H' h => hq H' (e1.hh.trans h)
      | bad => exact hq
    | false =>
      rw [if_neg (by decide)] at hq
      refine h2 rfl σ F1 H1 _ (he.ext e1) ?_
      cases r2 with
      | ok u => exact fun F' H' x => hq F' H' (e1.trans x)
      | exc c => exact fun H' h => hq H' (e1.hh.trans h)
      | bad => exact hq)
end
end VL
namespace VL
open PySem PySem.Spec PyProof.Rows L2
section
variable {C : Cf} {Z : Hp} {X : Cx} {N G : List Str} {P : Nat → Bool} {ss ss' : En} {a b c e e2 tg iter elt : Expr} {rest es : List Expr} {pos p p2 apos : Pos} {r r' ra rb rz : RM} {α β γ : Type} {z q : Bool}
variable {W : Nat → Hp → Prop} {S S' R : Type} {ES : S → En} {ES' : S' → En} {ER : R → RM} {st : Stmt} {blk sts A B : List Stmt} {fl : Fl S R} {spos : Pos}
/-- a.append(e), a new and not held -/
theorem Sts.appN {f : α → O} {xs : List α} {o : O} (ha : Ev C Z X ss a (.new (oL f xs))) (he : Ev C Z X ss e (rmO o)) (h : Sts C Z X W ss sts ES ER fl)
    (hbase : attributeBase a "append" X.env (eval a X.env) = eval a X.env := by rfl)
    (hfew : ((backTo pos (starEach [e] X.env)).all (fun x => !x.1) && (backToKw pos (keywordEach [] X.env)).all (fun x => x.1.isSome) && decide ([e].length + ([] : List Keyword).length + (if ([] : List Keyword).isEmpty then 0 else 1) < 30)) = true := by rfl)
    (hline : (apos.endLine == pos.line) = true := by rfl) (hst : starEach [e] X.env = (false, eval e X.env) :: starEach [] X.env := by rfl) (hsw : swapsWith (.Call (.Attribute a "append" apos) [e] [] pos) none spos.line X.env = pure false := by rfl) : Sts C Z X W ss (.Expr (.Call (.Attribute a "append" apos) [e] [] pos) spos :: sts) ES ER (Fl.chk (xs.length < sizeLine) fl) :=
  Sts.chk fun hz => Sts.step (ps_expr (pe_bm PySem.F.plainAttrs_list PySem.F.slot_list_append PySem.F.type_list_append mt_append pe_w (pa_cons pe_w pa_nil hst) hbase hfew hline hst rfl) hsw) fun σ F H D en hq => by
    refine ha σ F H _ en fun u F1 H1 e1 q1 => ?_
    obtain ⟨fp, ow, f1, nd⟩ := q1
    cases ow with
    | lst pf ph po =>
    rename_i p vs fp
    refine ⟨.inl ⟨rfl, _, .of ph⟩, ?_⟩
    refine he σ F1 H1 _ (en.ext e1) fun v F2 H2 e2 q2 => ?_
    have ex := e1.trans e2
    have ph2 := e2.hh _ _ ph
    refine ⟨p, vs, v, rfl, rfl, ph2, by rw [← po.length, List.length_map]; exact hz, ?_⟩
    have ts : Tst H2 (upd H2 p (.lst (vs ++ [v]))) := tst_upd ph2
    obtain ⟨fp0, sl, nd0⟩ := en.sl
    have pn : H p = none := f1 p List.mem_cons_self
    have np : ∀ y ∈ fp0, y ≠ p := fun y hy e => by
      subst e
      exact (sl.gone y hy).2 pn
    have fp2 : F2 p = none := e2.ow _ (by rw [ph]; simp) pf
    have en2 : EnvOk C Z ss F2 (upd H2 p (.lst (vs ++ [v]))) σ := ⟨en.zf.trans ex.ff, fun b ob q => by
      rw [upd_ne (fun z => by subst z; rw [fp2] at q; cases q)]
      exact ex.fh b ob q, fp0, (sl.ext ex).frame ts fun y q => upd_ne (np y q), nd0⟩
    exact (sts_iff.mp h) σ F2 _ D en2 (Post.mono (ex.gr.trans ⟨Same.refl F2, ts⟩) hq)
end
end VL

set_option Elab.async false
set_option linter.all false
set_option maxRecDepth 100000
set_option maxHeartbeats 4000000
/-! VL30: list(range(..)) while an exception is handled. -/
namespace VL
open PySem PySem.Spec PyProof.Rows L2 HotX
section
variable {prog : Program} {w : World} {A : Around} {E : Value → Shared → Prop} {s : Shared}
theorem walks_hot {x1 it : Addr} (ne : it ≠ x1) (a c : Int) (n : Nat) : WalksS prog w A it [it, x1] [it] (fun p q => q = p) n (fun i v => ∃ t, v = .int (a + i * c) t) (fun i s => IsRangeIter s.heap it (a + (i : Nat) * c) ((n : Int) - (i : Nat)) c ∧ HotAt A x1 s.heap) where
  sub := fun b hb => List.mem_cons.mpr (.inl (List.mem_singleton.mp hb))
  grefl := fun _ => rfl
  gtrans := fun _ _ _ h1 h2 => h2.trans h1
  frame := fun i s h' tk st _ hk => by
    obtain ⟨st, hh, o, vs, e, d, c⟩ := st
    exact ⟨hk it (by simp) _ st, hh, o, vs, hk x1 (by simp) _ e, d, c⟩
  item := fun i s Q E hi st hQ => by
    obtain ⟨st, hh, o, vs, e, d, c1⟩ := st
    refine wpAny_pyNext_range_item st (by omega) fun h' hit sb => hQ _ _ ⟨_, rfl⟩ ⟨?_, hh, o, vs, (sb.2 x1 ne.symm).trans e, d, c1⟩ ⟨fun b o hb q => (sb.2 b fun z => hb (List.mem_singleton.mpr z)).trans q, rfl, rfl, rfl, Nat.le_succ _⟩
    rw [show a + ((i + 1 : Nat) : Int) * c = a + (i : Int) * c + c by push_cast; rw [Int.add_mul, Int.one_mul, Int.add_assoc], show (n : Int) - ((i + 1 : Nat) : Int) = (n : Int) - (i : Int) - 1 by push_cast; omega]
    exact hit
  done := fun s Q E st hQ => pyNext_range_end_hot st.2 st.1 (by omega) fun h' hk => hQ _ ⟨fun b o _ q => hk b o q, rfl, rfl, rfl, Nat.le_refl _⟩
  self := fun i s Q E st q => wpAny_pyIter_rangeiter st.1 q
theorem extend_hot {R : Result → Shared → Prop} {x1 r S : Addr} {a b c : Int} {t u v : Tok} {n c0 : Nat} (hot : HotAt A x1 s.heap) (hr : IsRange s.heap r a b c t u v) (hsmall : Builtin.Range.small a b c = true) (hn : Builtin.Range.rangeSize a b c = n) (hlen : n ≤ 2 ^ 24) (res : Value) (hS : s.heap.get? S = some { cls := .type "list", data := .seq #[] c0 }) (hSx : S ≠ x1)
    (hR : ∀ h' tk acc c', (∀ b o, b ≠ S → s.heap.get? b = some o → h'.get? b = some o) → h'.get? S = some { cls := .type "list", dict := none, data := .seq acc c', slots := #[] } → ItemsOf (fun i v => ∃ t, v = .int (a + i * c) t) acc n → R (.ok (.ret res)) { s with heap := h', toks := tk }) :
    wpAny (model prog w) A.in1 (Builtin.List.listExtendWith (.ref S) (.ref r) res) (fun fin s' => match fin with | .done f => R (.ok f) s' | .again c' => c'.quiet = true ∧ codeAny (model prog w) A c' R s') (fun e s' => R (.error e) s') s := by
  obtain ⟨hh, o1, vs1, e1, d1, k1⟩ := hot
  have nSr : S ≠ r := fun e => by rw [e, hr] at hS; simp at hS
  have lS := Heap.lt_size hS
  have l1 := Heap.lt_size e1
  generalize hI : s.heap.objs.size = I at lS l1
  have nSI : S ≠ I := Nat.ne_of_lt lS
  have nI1 : I ≠ x1 := Nat.ne_of_gt l1
  have loop : ∀ (h : Heap) (c1 tk : Nat), IsRangeIter h I (a + ((0 : Nat) : Int) * c) ((n : Int) - ((0 : Nat) : Int)) c → (∀ b o, b ≠ S → s.heap.get? b = some o → h.get? b = some o) → h.get? S = some { cls := .type "list", data := .seq #[] c1 } →
      codeAny (model prog w) A (.builtin "list.extend.loop" ⟨[.ref S, .ref I, res], []⟩) R { s with heap := h, toks := tk } := fun h c1 tk hit hk hS1 => by
    refine codeAny_extend_loopS (walks_hot (A := A.in1) nI1 a c n) (by rw [sizeLine_eq]; omega) S (fun m => ?_) res n 0 _ #[] c1 rfl (Nat.zero_le _) ⟨hit, hh, o1, vs1, hk x1 o1 hSx.symm e1, d1, k1⟩ hS1 (ItemsOf.nil _) fun s' acc c' hm hS' hacc => ?_
    · simp only [List.mem_cons, List.not_mem_nil, or_false] at m
      exact m.elim nSI hSx
    · rw [Moved.eq_with hm]
      refine hR s'.heap s'.toks acc c' (fun b o hb q => hm.heap b o (fun m => ?_) (hk b o hb q)) hS' hacc
      simp only [List.mem_cons, List.not_mem_nil, or_false] at m
      rcases m with m | m
      · exact hb m
      · have := Heap.lt_size q
        rw [hI, m] at this
        exact Nat.lt_irrefl _ this
  unfold Builtin.List.listExtendWith
  refine wpAny_bind (wpAny_typeOf (T := "range") ⟨_, hr, rfl⟩ ?_)
  simp only [show Builtin.List.listSameRef (.ref S) (.ref r) = false by simp [Builtin.List.listSameRef, nSr], show (Value.type "range" == Value.type "list") = false by decide, show (Value.type "range" == Value.type "tuple") = false by decide, Bool.or_false, Bool.false_eq_true, if_false]
  refine wpAny_bind (wpAny_pyIter_range hr hsmall (wpAny_bind (wpAny_holding (wpAny_hint_range (n := n) (Heap.get?_push_of_some _ hr) hn hlen ?_))))
  have hit : IsRangeIter (s.heap.push { cls := .type "range_iterator", data := .fields #[rawInt a, rawInt (Builtin.Range.rangeSize a b c), rawInt c] }) I (a + ((0 : Nat) : Int) * c) ((n : Int) - ((0 : Nat) : Int)) c := by
    show IsRangeIter _ _ _ _ _
    rw [← hI, hn]
    simpa using Heap.get?_push_size _ rfl
  have hS1 := Heap.get?_push_of_some { cls := .type "range_iterator", data := .fields #[rawInt a, rawInt (Builtin.Range.rangeSize a b c), rawInt c] } hS
  rw [hI]
  refine wpAny_ite_split (fun _ => wpAny_bind (wpAny_rule (wpAny_bind ?_))) (fun _ => wpAny_pure ⟨plainId_quiet F.plain_extend_loop _, loop _ c0 _ hit (fun b o _ e => Heap.get?_push_of_some _ e) hS1⟩)
  show wpAny _ _ (updateSeq S (·.push .none) >>= fun _ => updateSeq S (·.pop)) _ _ _
  refine wpAny_bind (wpAny_updateSeq hS1 rfl ?_)
  have hS2 := Heap.get?_update_self (Obj.mapSeq (·.push Value.none)) hS1 rfl
  refine wpAny_updateSeq (hz := by seq_fits) hS2 rfl ?_
  have hS3 := Heap.get?_update_self (Obj.mapSeq (·.pop)) hS2 rfl
  have keep : ∀ {b : Addr} {o : Obj}, S ≠ b → ((s.heap.push { cls := .type "range_iterator", data := .fields #[rawInt a, rawInt (Builtin.Range.rangeSize a b c), rawInt c] }).get? b = some o) → True := fun _ _ => trivial
  refine wpAny_pure ⟨plainId_quiet F.plain_extend_loop _, loop _ _ _ ?_ (fun b o hb e => ?_) hS3⟩
  · exact (Heap.get?_update_other _ _ nSI).trans ((Heap.get?_update_other _ _ nSI).trans hit)
  · exact (Heap.get?_update_other _ _ (Ne.symm hb)).trans ((Heap.get?_update_other _ _ (Ne.symm hb)).trans (Heap.get?_push_of_some _ e))
theorem init_hot {R : Result → Shared → Prop} {x1 r S : Addr} {a b c : Int} {t u v : Tok} {n : Nat} (hot : HotAt A x1 s.heap) (hr : IsRange s.heap r a b c t u v) (hsmall : Builtin.Range.small a b c = true) (hn : Builtin.Range.rangeSize a b c = n) (hlen : n ≤ 2 ^ 24) (hS : s.heap.get? S = some { cls := .type "list", data := .seq #[] }) (hSx : S ≠ x1)
    (hR : ∀ h' tk acc c', (∀ b o, b ≠ S → s.heap.get? b = some o → h'.get? b = some o) → h'.get? S = some { cls := .type "list", dict := none, data := .seq acc c', slots := #[] } → ItemsOf (fun i v => ∃ t, v = .int (a + i * c) t) acc n → R (.ok (.ret .none)) { s with heap := h', toks := tk }) :
    wpAny (model prog w) A.in1 (Builtin.«list.__init__» ⟨[.ref S, .ref r], []⟩) (fun fin s' => match fin with | .done f => R (.ok f) s' | .again c' => c'.quiet = true ∧ codeAny (model prog w) A c' R s') (fun e s' => R (.error e) s') s := by
  obtain ⟨hh, o1, vs1, e1, d1, k1⟩ := hot
  have nSr : S ≠ r := fun e => by rw [e, hr] at hS; simp at hS
  show wpAny _ _ (do let old ← Builtin.List.listItems (.ref S); Builtin.List.listUpdate (.ref S) (fun _ => #[]); letGo old.toList.reverse; Builtin.List.listExtendWith (.ref S) (.ref r) .none) _ _ _
  refine wpAny_bind ?_
  unfold Builtin.List.listItems
  refine wpAny_bind (wpAny_seqItems hS rfl (wpAny_pure ?_))
  show wpAny _ _ (updateSeq S (fun _ => #[]) >>= fun _ => letGo (#[] : Array Value).toList.reverse >>= fun _ => Builtin.List.listExtendWith (.ref S) (.ref r) .none) _ _ _
  refine wpAny_bind (wpAny_updateSeq hS rfl ?_)
  have hS2 := Heap.get?_update_self (Obj.mapSeq (fun _ => (#[] : Array Value))) hS rfl
  have oth : ∀ b o, b ≠ S → s.heap.get? b = some o → (s.heap.update S (Obj.mapSeq (fun _ => (#[] : Array Value)))).get? b = some o := fun b o hb e => (Heap.get?_update_other _ _ (Ne.symm hb)).trans e
  refine wpAny_bind (wpAny_letGo ?_)
  refine extend_hot (c0 := _) (x1 := x1) ⟨hh, o1, vs1, oth _ _ hSx.symm e1, d1, k1⟩ (oth r _ nSr.symm hr) hsmall hn hlen .none hS2 hSx fun h' tk acc c' hk hS' hacc => ?_
  exact hR h' tk acc c' (fun b o hb e => hk b o hb (oth b o hb e)) hS' hacc
theorem call_list_rangeH {Q : Value → Shared → Prop} {x1 r : Addr} {a b c : Int} {t u v : Tok} {n : Nat} (hot : HotAt A x1 s.heap) (hr : IsRange s.heap r a b c t u v) (hsmall : Builtin.Range.small a b c = true) (hn : Builtin.Range.rangeSize a b c = n) (hlen : n ≤ 2 ^ 24)
    (hQ : ∀ h' tk acc c', (∀ b o, s.heap.get? b = some o → h'.get? b = some o) → h'.get? s.heap.objs.size = some { cls := .type "list", dict := none, data := .seq acc c', slots := #[] } → ItemsOf (fun i v => ∃ t, v = .int (a + i * c) t) acc n → Q (.ref s.heap.objs.size) { s with heap := h', toks := tk }) :
    wpAny (model prog w) A (call (.type "list") [.ref r]) Q E s := by
  refine callType_codes (Q₁ := fun obj s1 => obj = .ref s.heap.objs.size ∧ s1 = { s with heap := s.heap.push { cls := .type "list", data := .seq #[] } }) F.called_list (F.typeCall_list_1 _) F.entry_list_init (code_list_new _ ⟨rfl, rfl⟩) fun obj s1 h1 => ?_
  obtain ⟨rfl, rfl⟩ := h1
  obtain ⟨hh, o1, vs1, e1, d1, k1⟩ := hot
  have hS : (s.heap.push { cls := .type "list", data := .seq #[] }).get? s.heap.objs.size = some { cls := .type "list", data := .seq #[] } := Heap.get?_push_size _ rfl
  refine ⟨⟨_, hS, rfl⟩, F.args_list_init_2 _ _, init_hot (A := A.in1) (x1 := x1) ⟨hh, o1, vs1, Heap.get?_push_of_some _ e1, d1, k1⟩ (Heap.get?_push_of_some _ hr) hsmall hn hlen hS (Nat.ne_of_gt (Heap.lt_size e1)) fun h' tk acc c' hk hS' hacc => ?_⟩
  exact ⟨rfl, hQ h' tk acc c' (fun b o e => hk b o (Nat.ne_of_lt (Heap.lt_size e)) (Heap.get?_push_of_some _ e)) hS' hacc⟩
end
end VL

set_option Elab.async false
set_option linter.all false
set_option maxRecDepth 100000
set_option maxHeartbeats 4000000
/-! VL31: defs called while an exception is handled, and raising there; a try within a suite. -/
namespace VL
open PySem PySem.Spec PyProof.Rows L2
section
variable {C : Cf} {Z : Hp} {X Y : Cx} {N G : List Str} {P : Nat → Bool} {ss : En} {a b c e o : Expr} {es : List Expr} {pos p p1 p2 apos q : Pos} {ea : Addr} {oe : Obj} {pn : List (Addr × Obj)} {r : RM} {α : Type}
/-- a name, in a context with the same names -/
theorem Ev.fzG (k : Cok C X N P G) (i : Nat) {x : Str} {d : D} (hN : Y.N = X.N := by rfl) (hE : Y.env = X.env := by rfl) (hi : N[i]? = some x := by rfl) (hs : ss[i]? = some (some (.fz d)) := by rfl) (hp : P i = true := by rfl) : Ev C Z Y ss (.Name x pos) (.frz d) := fun σ F H Q he hq => by
  obtain ⟨fp, sl, nd⟩ := he.sl
  obtain ⟨v, f1, f2, h1, h2, h3, h4⟩ := sl.get hs
  cases h2 with
  | fz r => exact fun pins s I => (pe_var (X := Y) (i := i) (by rw [hN, k.hN]; exact hi) (by rw [hE]; exact (k.vis i x hp hi).1) (k.vis i x hp hi).2.1 (k.vis i x hp hi).2.2).run pins s σ H Q I ⟨v, h1, hq v F H (Ext.refl he.fh) r⟩
theorem Ev.sortedH {xs : List Int} (k : Cok C X N P G) (i : Nat) (hi : G[i]? = some ("sorted" : Str) := by rfl) (ha : Ev C Z (hotX X pn) ss a (.cur (dL dI xs))) (na : starEach [a] X.env = (false, eval a X.env) :: starEach [] X.env := by rfl) : Ev C Z (hotX X pn) ss (.Call (.Name "sorted" p) [a] [] pos) (.new (oL (zz dI) (isort xs))) := fun σ F H Q he hq pins s I =>
  (pe_callB (X := hotX X pn) cr_sortedI (k.gl i _ hi).1 k.bt.sorted boot_sorted (pa_cons pe_w pa_nil na) (by decide) (by decide) na rfl).run pins s σ H Q I (ha σ F H _ he fun v F1 H1 e1 h => by
    obtain ⟨l, rfl, hp⟩ := dI_list h
    refine ⟨l, xs, rfl, .of hp, fun ns' q h1 h2 hq' => ?_⟩
    rw [isort_eq h1 h2]
    have x := new_list e1.fh hq' (owns_ints (C := C) (Z := Z) (F := F1) (H := H1) (isort xs))
    exact hq _ _ _ (e1.trans x.1) (RM.ok_old e1.hh x.2))
theorem pe_listRgH {te : L2.St → Hp → (Int → Int → Hp → Prop) → Prop} (hc : L2H.HotC X) (hg : Gl X "list") (hm : X.mg "list" = none) (he : PRg X e te) (na : starEach [e] X.env = (false, eval e X.env) :: starEach [] X.env := by rfl) : PE X (.Call (.Name "list" p) [e] [] pos) (tLstRg te) :=
  ⟨fun pins s σ H Q I h => Call_ (ld_blt I hg hm boot_list (PyProof.Rows.callWith_type1 (PyProof.Rows.args_cons (thn (he pins s σ H _ I h) fun x s1 ⟨r, a, b, t, u, v, H1, ex, hr, I1, ok, q⟩ => PyProof.Rows.args_nil (by
    subst ex
    obtain ⟨b1, b2, b3, b4, b5⟩ := ok
    obtain ⟨x1, hot⟩ := hc.at I1
    refine call_list_rangeH (n := (b - a).toNat) hot hr (small_one b1 b2 b3 b4) (rangeSize_nat a b) b5 fun h' tk acc c' hk e' hi => ?_
    refine ⟨.ref s1.heap.objs.size, upd H1 s1.heap.objs.size (.lst (rgV a b)), I1.laid hk (Nat.le_refl _) (show ObjOk X.prog X.w _ _ _ (.lst (rgV a b)) from ⟨by rw [rgV_length, sizeLine_eq]; omega, acc.toList, c', vals_rg hi, by rw [Array.toArray_toList]; exact e'⟩), rfl, q _ (I1.hok.fresh (Nat.le_refl _))⟩)) na) na))⟩
theorem Ev.lrange1H {n : Int} (hn : RgOk 0 n) (k : Cok C X N P G) (hc : L2H.HotC (hotX X pn)) (i j : Nat) (hi : G[i]? = some ("list" : Str) := by rfl) (hj : G[j]? = some ("range" : Str) := by rfl) (ha : Ev C Z (hotX X pn) ss a (.frz (dI n))) (na : starEach [a] X.env = (false, eval a X.env) :: starEach [] X.env := by rfl) :
    Ev C Z (hotX X pn) ss (.Call (.Name "list" p) [.Call (.Name "range" p2) [a] [] apos] [] pos) (.new (oL (zz dI) (rangeI 0 n))) := fun σ F H Q he hq pins s I =>
  (pe_listRgH hc (k.gl i _ hi).1 k.bt.list (prg_1 (X := hotX X pn) (k.gl j _ hj).1 k.bt.range pe_w na)).run pins s σ H Q I (ha σ F H _ he fun v F1 H1 e1 q1 => by
    cases q1
    refine ⟨n, rfl, hn, fun q hq' => ?_⟩
    rw [rgV_eq]
    have x := new_list e1.fh hq' (owns_ints (C := C) (Z := Z) (F := F1) (H := H1) (rangeI 0 n))
    exact hq _ _ _ (e1.trans x.1) (RM.ok_old e1.hh x.2))
theorem Cb.eqDH [DecidableEq α] {g : α → D} {kk : α → PyData} {n : Nat} {x y : α} (ck : Cok C X N P G) (h : EqC g kk n) (hn : n ≤ 64) (ha : Ev C Z (hotX X pn) ss a (.cur (g x))) (hb : Ev C Z (hotX X pn) ss b (.cur (g y))) :
    Cb C Z (hotX X pn) ss (.Compare a [.Eq] [b] pos) (decide (x = y)) := Cb.cmp (X := hotX X pn) (op_eqD ck.hu) (nomark _) ha hb fun x' y' F H H0 Q s h1 h2 hq => by
  refine ⟨kk x, kk y, h.dp (Same.refl _) h1, h.dp (Same.refl _) h2, shaped_of h hn x, shaped_of h hn y, ?_⟩
  rw [h.eq]
  exact hq
end
/-- a def, at hand where an exception is handled -/
def CalH (P : Program) (w : World) (K : PySem.W.Frag) (mg : Str → Option Value) (base : Heap) (A : Around) (C : Cf) (x : Str) (ds : List D) (r : Res RM) : Prop :=
  ∃ (k : Nat) (f : Addr) (fd : FuncData) (ps : List Str) (sp : Sp), L2H.RoomH k A ∧ L2H.FnH P w K mg base (L2.CX P w) k f fd ps sp ∧ mg x = some (.ref f) ∧ PySem.W.keepIn K (.ref f) = true ∧ Binds K fd ps [] ∧ ∀ vs H Q E, spM C ds r vs H Q E → sp vs H Q E
def Clh (P : Program) (w : World) (K : PySem.W.Frag) (mg : Str → Option Value) (base : Heap) (k : Nat) (x : Str) (sp : Sp) : Prop :=
  ∃ (f : Addr) (fd : FuncData) (ps : List Str), L2H.FnH P w K mg base (L2.CX P w) k f fd ps sp ∧ mg x = some (.ref f) ∧ PySem.W.keepIn K (.ref f) = true ∧ Binds K fd ps []
section
variable {P : Program} {w : World} {K : PySem.W.Frag} {mg : Str → Option Value} {base : Heap} {C : Cf}
theorem Clh.cal {j k : Nat} {x : Str} {sp : Sp} {A : Around} {ds : List D} {r : Res RM} (h : Clh P w K mg base j x sp) (hr : L2H.RoomH k A) (hj : j ≤ k) (hs : ∀ vs H Q E, spM C ds r vs H Q E → sp vs H Q E) : CalH P w K mg base A C x ds r := by
  obtain ⟨f, fd, ps, h1, h2, h3, h4⟩ := h
  exact ⟨j, f, fd, ps, sp, hr.mono hj, h1, h2, h3, h4, hs⟩
/-- a def by its body, where an exception is handled -/
theorem fn_walkH {st : Stmt} {x qual : Str} {f : Addr} {fd : FuncData} {N ps G : List Str} {k : Nat} {ι R : Type} {ds : ι → List D} {o : ι → Fl Unit R} {ER : ι → R → RM} (F : Fun K x qual st f fd) (S : FnScope N ps (defScope st)) (m : Nat) (B : defB (N.take m) G (defScope st) = true) (hK : C.K = K) (bt : Bt mg) (hl : ∀ i, (ds i).length = ps.length) (fu : ∀ i r, RetOk (ER i r))
    (body : ∀ (X : Cx) (Z : Hp) (W : Nat → Hp → Prop) (pn : List (Addr × Obj)), X.prog = P → X.w = w → X.K = K → X.mg = mg → X.base = base → X.env.scope = defScope st → Cok C X N (fun i => Nat.blt i m) G → L2H.RoomH k X.A → L2H.HotC (hotX X pn) → L2.Takes (hotX X pn) (WXc C W) → ∀ i,
      Sts C Z (hotX X pn) W (start0 (ds i) N.length) (defBody st) (fun _ => (List.replicate N.length none : En)) (ER i) (o i)) :
    L2H.FnH P w K mg base (L2.CX P w) (k + 1) f fd ps (fun vs H Q E => ∃ i, spM C (ds i) (((o i).res none).map (ER i)) vs H Q E) := by
  obtain ⟨oc, od, kV, doc, pm, an, cdv, ct, osl, rfl, lk, hcd⟩ := F.ex
  refine L2H.fn_ofH lk hcd S (fun vs H Q E h => ?_) fun A outer s H vs Q E p hot hr hsp => ?_
  · obtain ⟨i, h, _⟩ := h
    rw [← h.length]
    exact hl i
  obtain ⟨i, hv, hq⟩ := hsp
  refine ⟨_, pss_w, ?_⟩
  unfold defB at B
  rw [Bool.and_eq_true, List.all_eq_true, List.all_eq_true] at B
  obtain ⟨B1, B2⟩ := B
  have hu : (A.deeper (envOfC qual (defScope st) s.heap.objs.size f cdv)).units + 65 < cLine := by
    have := hr.un
    omega
  have ck : Cok C (cxOf (L2.CX P w) P w K mg base N qual (defScope st) f cdv A outer s H E) N (fun i => Nat.blt i m) G := by
    refine ⟨hK.symm, rfl, S.nd, fun j x hj hx => ?_, fun j x hx => ?_, rfl, Nat.lt_of_le_of_lt (Nat.le_succ _) hu, bt, hu⟩
    · have q := B1 x (List.mem_of_getElem? (i := j) (by rw [List.getElem?_take, if_pos (Nat.blt_eq.mp hj)]; exact hx))
      simp only [Bool.and_eq_true, Bool.not_eq_true'] at q
      obtain ⟨⟨q1, q2⟩, q3⟩ := q
      refine ⟨?_, q2, q3⟩
      split at q1
      · exact .inl (by assumption)
      · exact .inr (.inl (by assumption))
      · cases q1
    · have q := B2 x (List.mem_of_getElem? hx)
      simp only [Bool.and_eq_true, Bool.not_eq_true', decide_eq_false_iff_not] at q
      obtain ⟨⟨q1, q2⟩, q3⟩ := q
      refine ⟨?_, q2, q3⟩
      split at q1
      · assumption
      · cases q1
  have tk : L2.Takes (L2H.cxH (L2.CX P w) P w K mg base N qual (defScope st) f cdv A outer s H E p) (WXc C fun c H' => E (C.ex c) none H') :=
    L2.Takes.imp (L2.takes_of rfl rfl rfl rfl) fun cls d σ H' h => by
      obtain ⟨c, rfl, rfl, h⟩ := h
      exact h
  have hc : L2H.HotC (L2H.cxH (L2.CX P w) P w K mg base N qual (defScope st) f cdv A outer s H E p) := ⟨p, hot, List.mem_cons_self⟩
  have en : EnvOk C H (start0 (ds i) N.length) H H (L2.start N vs) := by
    refine ⟨Same.refl H, Same.refl H, [], ?_, List.nodup_nil⟩
    unfold start0 L2.start
    rw [← hv.length]
    exact slots_start _ hv
  refine (sts_iff.mp (body (cxOf (L2.CX P w) P w K mg base N qual (defScope st) f cdv A outer s H E) H (fun c H' => E (C.ex c) none H') [p] rfl rfl rfl rfl rfl rfl ck hr hc tk i)) (L2.start N vs) H H _ en ?_
  cases ho : o i with
  | nx u =>
    rw [ho] at hq
    exact fun σ' F' H' g e => hq.elim
  | rt r =>
    rw [ho] at hq
    intro v F' H' g s' q
    have hq' : ∀ v H', Same H H' → okc C H v H' (ER i r) → Q v H' := hq
    refine hq' v H' (g.ff.trans s') (okc_of g.ff s' ?_ q)
    have z := fu i r
    cases h : ER i r with
    | new o => rw [h] at z; exact z
    | itm o => rw [h] at z; exact z
    | pins d ls => rw [h] at z; exact z
    | frz o => rw [h] at z; exact z
    | cur o => trivial
    | nrz o => trivial
  | exc c =>
    rw [ho] at hq
    exact fun H' s' => hq H' s'
  | bad =>
    rw [ho] at hq
    exact hq.elim
end
section
variable {C : Cf} {Z : Hp} {X Y : Cx} {N G : List Str} {P : Nat → Bool} {ss : En} {a b c e o : Expr} {es : List Expr} {pos p p1 p2 apos q spos : Pos} {ea : Addr} {oe : Obj} {pn : List (Addr × Obj)} {r : RM} {α : Type}
variable {W : Nat → Hp → Prop} {S R : Type} {ES : S → En} {ER : R → RM} {sts A B : List Stmt} {fl : Fl S R}
theorem takes_anyH {Y : Cx} : L2.Takes Y (WXc C fun _ _ => False) := fun u s' ⟨_, _, _, _, _, _, _, _, _, _, _, _, _, _, _, _, _, _, _, f⟩ => f.elim
/-- a call there -/
theorem EvX.callH {x : Str} {ds : List D} {r : Res RM} (tk : L2.Takes (hotX X pn) (WXc C W)) (k : Cok C X N P G) (hc : L2H.HotC (hotX X pn)) (i : Nat) (hcal : CalH X.prog X.w X.K X.mg X.base X.A C x ds r) (ha : Ea C Z (hotX X pn) ss (e :: es) ds) (hi : G[i]? = some x := by rfl) (he1 : starEach (e :: es) X.env = (false, eval e X.env) :: starEach es X.env := by rfl)
    (hpl : (backTo pos (starEach es X.env)).any (·.1) = false := by rfl) : EvX C Z (hotX X pn) W ss (.Call (.Name x p) (e :: es) [] pos) (r.map backR) := fun σ F H Q he hq pins s I => by
  obtain ⟨n, f, fd, ps, sp, hr, FO, hm, hk, hb, hs⟩ := hcal
  refine (L2H.pe_callH (X := hotX X pn) (E := L2.WE (WXc C W)) FO hr hc (k.gl i x hi).1 hm hk hb (fun σ => L2.passAt tk σ) pa_w (k.gl i x hi).2.1 he1 hpl).run pins s σ H Q I ?_
  refine ha σ F H _ he fun vs F1 H1 e1 q1 => hs _ _ _ _ ⟨q1, ?_⟩
  cases r with
  | ok rm =>
    intro v H2 h2 q2
    obtain ⟨F2, e2, q3⟩ := okc_back ((he.ext e1).zf.trans e1.fh) e1.fh h2 q2
    exact hq v F2 H2 (e1.trans e2) (RM.ok_old e1.hh q3)
  | exc c => exact fun H2 h2 => ⟨c, rfl, rfl, hq H2 (((he.ext e1).zf.trans e1.fh).trans h2)⟩
  | bad => exact hq.elim
theorem Ev.callH {x : Str} {ds : List D} {rm : RM} (k : Cok C X N P G) (hc : L2H.HotC (hotX X pn)) (i : Nat) (hcal : CalH X.prog X.w X.K X.mg X.base X.A C x ds (.ok rm)) (ha : Ea C Z (hotX X pn) ss (e :: es) ds) (hi : G[i]? = some x := by rfl) (he1 : starEach (e :: es) X.env = (false, eval e X.env) :: starEach es X.env := by rfl)
    (hpl : (backTo pos (starEach es X.env)).any (·.1) = false := by rfl) : Ev C Z (hotX X pn) ss (.Call (.Name x p) (e :: es) [] pos) (backR rm) :=
  (EvX.callH (W := fun _ _ => False) (r := .ok rm) takes_anyH k hc i hcal ha hi he1 hpl).ev
theorem calH_ok {P : Program} {w : World} {K : PySem.W.Frag} {mg : Str → Option Value} {base : Heap} {A : Around} {x : Str} {ds : List D} {r : Res α} {m : α → RM} {v : α} (h : CalH P w K mg base A C x ds (r.map m)) (hv : r.get = some v) : CalH P w K mg base A C x ds (.ok (m v)) := by
  cases r with
  | ok y => cases hv; exact h
  | exc c => cases hv
  | bad => cases hv
theorem Sts.bad_ : Sts C Z X W ss sts ES ER .bad := fun σ F H D he hp => hp.elim
theorem Sts.raiseH {x m : Str} {c j : Nat} (tk : L2.Takes (hotX X pn) (WXc C W)) (k : Cok C X N P G) (hc : L2H.HotC (hotX X pn)) (i : Nat) (hx : Exn C X.K X.mg x c) (hi : G[i]? = some x := by rfl) : Sts C Z (hotX X pn) W ss (.Raise (some (.Call (.Name x p) [.Constant (.str m) j p2] [] pos)) none spos :: sts) ES ER (.exc c) := by
  obtain ⟨a, e1, e2, e3, e4, e5, e6⟩ := hx.ex
  exact Sts.step (L2H.ps_raiseH hc tk (L2N.pmk_own (X := hotX X pn) PySem.F.excBase_ValueError e3 e2 e4 (raises_own e5 e6) (k.gl i x hi).1 (k.gl i x hi).2.1)) fun σ F H D en hp => ⟨c, e1.symm, rfl, hp H (en.zf.trans en.fh)⟩
end
end VL

set_option Elab.async false
set_option linter.all false
set_option maxRecDepth 100000
set_option maxHeartbeats 4000000
/-! VL32: a try where an exception is handled: what is raised within has a context. -/
namespace VL
open PySem PySem.Spec PyProof.Rows L2
inductive HdH (X : Cx) : List ExceptHandler → Cls3 → Prop
  | nil : HdH X [] []
  | no {x : Str} {c : Value} {ts : Addr → Value → Option Addr → L2.TS} {b0 : Stmt} {suite : List Stmt} {np p : Pos} {hds : List ExceptHandler} {l : Cls3} (hc : Names X x c)
      (hsu : ∀ (a : Addr) (oe : Obj) (cls : Value) (d : Option Addr) (pn : List (Addr × Obj)), Zc cls d oe → (∃ vs, oe.data = .fields vs) → PSs (X.suite a ((a, oe) :: pn)) (b0 :: suite) (ts a cls d)) (r : HdH X hds l) :
      HdH X (.ExceptHandler (some (.Name x np)) none (b0 :: suite) p :: hds) ((c, none, ts) :: l)
section
variable {X : Cx} {body : List Stmt} {h0 : ExceptHandler} {hds : List ExceptHandler} {l : Cls3} {pos : Pos} {tb : WX → L2.TS} {Wout : WX}
theorem ps_mixH (hs : X.stack = X.env :: X.outer) (hf : X.env.frame = some X.env.locals) (tk : L2.Takes X Wout)
    (hb : ∀ (W : WX) (pn : List (Addr × Obj)) (xe : Value → Shared → Prop), (∀ q ∈ X.pn, q ∈ pn) → L2.Takes (X.tr pn xe) W → PassesOwn (model X.prog X.w) X.A X.env xe → PSs (X.tr pn xe) body (tb W))
    (hh : HdH X (h0 :: hds) l) : PS X (.Try body (h0 :: hds) [] [] pos) (fun D σ H => tb (wMix X.K Wout D l) D σ H) := by
  refine ⟨fun pins s σ H D I h => ?_⟩
  have ok := I.ok
  have fr : X.A.frames = some (X.env :: X.outer) := by rw [ok.frames, hs]
  refine wpAny_Try_except ?_
  let XE' : Value → Shared → Prop := fun e s1 => wpAny (model X.prog X.w) X.A (noteFrame e X.env) (fun _ s2 => wpAny (model X.prog X.w) X.A (setFlight e none) (fun _ s3 => wpAny (model X.prog X.w) X.A (handleBy e X.env (h0 :: hds)) (SP X pins D) X.xe s3) X.xe s2) X.xe s1
  refine wpAny_mono ((hb (wMix X.K Wout D l) (X.pn ++ pins) XE' (fun q hq => List.mem_append_left _ hq) (fun u s' xx => ?_) PassesOwn.looking).run [] s σ H D (I.toTry _) h) (fun f s1 sp => ?_) (fun e s1 he => he)
  · obtain ⟨a, B, sI, pins', σ', H', cls, d, rfl, J', nb, up, sky, na, os, ag, w⟩ := xx
    have J : Inv X pins σ' H' sI := J'.ofTry ok
    have sky2 : L2.Sky B (X.env :: X.outer) a (Zc cls d) X.env.locals s'.heap := by rw [← hs]; exact sky
    show wpAny (model X.prog X.w) X.A (noteFrame (.ref a) X.env) _ _ _
    refine L2.Sky.land Zc.steady fr hf sky2 fun h3 fl3 up3 => ?_
    have J3 : Inv X pins σ' H' { s' with heap := h3 } := J.landed nb fl3.1 (up.trans up3) os ag
    obtain ⟨oe3, vs3, he3, hz3, hd3⟩ := fl3.there
    have nfr : a ∉ frs (X.env :: X.outer) := fun hm => by
      obtain ⟨_, o', e', hnf⟩ := fl3.2.2.1.mem hm
      rw [he3] at e'
      cases e'
      exact hnf _ hd3
    have nL : a ≠ X.env.locals := fun z => nfr (List.mem_filterMap.mpr ⟨X.env, List.mem_cons_self, by rw [hf, z]⟩)
    have nF : a ∉ X.fs := fun hm => by
      obtain ⟨e, he, q⟩ := List.mem_filterMap.mp hm
      exact nfr (List.mem_filterMap.mpr ⟨e, List.mem_cons_of_mem _ he, q⟩)
    have S3 := J3.suite he3 hd3 na nL nF
    have LT : PySem.W.Looks (model X.prog X.w) h3 (typeOf (.ref a)) cls := fun A Q E s k q => wpAny_typeOf_ref (k _ _ he3) (by rw [hz3.1]; exact q)
    have test : ∀ {x : Str} {c : Value} {np : Pos} {Q : Value → Shared → Prop} {E : Value → Shared → Prop}, Names X x c → Q c { s' with heap := h3 } → wpAny (model X.prog X.w) (X.A.mark (some (.ref a))) (eval (.Name x np) X.env) Q E { s' with heap := h3 } := fun hc q => by
      obtain ⟨g1, g2, hm | ⟨hm, hv, hnn⟩⟩ := hc
      · exact ld_glob (X := X.suite a ((a, oe3) :: (X.pn ++ pins))) S3 g1 hm q g2
      · exact ld_blt (X := X.suite a ((a, oe3) :: (X.pn ++ pins))) S3 g1 hm hv q hnn g2
    have go : ∀ {hds' : List ExceptHandler} {l' : Cls3}, HdH X hds' l' → wMix X.K Wout D l' cls d σ' H' → wpAny (model X.prog X.w) X.A (handleBy (.ref a) X.env hds') (SP X pins D) X.xe { s' with heap := h3 } := by
      intro hds' l' hk
      induction hk with
      | nil =>
        intro w
        refine wpAny_handleBy_nil ?_
        obtain ⟨k1, k2, k3, oe, vs, T, oT, ts', he, hz, hd, h1, hr⟩ := id fl3
        unfold PySem.passOn
        refine wpAny_bind (wpAny_field he hd h1 ?_)
        rw [if_neg (show ¬((Value.ref T == Value.none) = true) by simp)]
        have fin : wpAny (model X.prog X.w) X.A (setFlight (.ref a) X.env.frame) (fun _ s4 => wpAny (model X.prog X.w) X.A (throw (.ref a) : Sem Flow) (SP X pins D) X.xe s4) X.xe { s' with heap := h3 } := by
          rw [hf]
          refine HandSPX.setFlight_upZ fl3 fun h4 hh4 up4 => wpAny_throw (tk _ _ ?_)
          exact ⟨a, B, sI, pins, σ', H', cls, d, rfl, J, nb, (up.trans up3).trans up4, .inr (.inr (by rw [hs]; exact hh4)), na, os, ag, w⟩
        first
          | exact wpAny_bind (wpAny_pure (wpAny_bind fin))
          | exact wpAny_bind fin
      | @no x c ts b0 suite np p hds2 l2 hc hsu r ih =>
        intro w
        obtain ⟨b, hb1, yes, no⟩ := w
        refine wpAny_handleBy_cons (codeAny_handlers_test ?_) (by intro q; cases q)
        refine test hc ((PySem.W.exm_one (M := model X.prog X.w) (J3.kIn) LT hb1).here ?_)
        cases b with
        | true =>
          refine codeAny_handlers_suite (HandSPX.lands_againZ fl3 fun h4 fl4 up4 => ?_)
          have J4 : Inv X pins σ' H' { s' with heap := h4 } := J.landed nb fl4.1 ((up.trans up3).trans up4) os ag
          obtain ⟨oe4, vs4, he4, hz4, hd4⟩ := fl4.there
          refine wpAny_mono ((hsu a oe4 cls d (X.pn ++ pins) hz4 ⟨_, hd4⟩).run [] _ _ H' _ (J4.suite he4 hd4 na nL nF) (yes rfl a na)) (fun f s6 sp => ?_) (fun _ _ z => False.elim z)
          cases f with
          | ret u =>
            obtain ⟨v6, σ6, H6, S6, r6, q6⟩ := sp
            exact ⟨_, _, _, S6.unsuite ok, r6, q6⟩
          | next =>
            obtain ⟨σ6, H6, S6, q6⟩ := sp
            exact ⟨_, _, S6.unsuite ok, q6⟩
          | brk =>
            obtain ⟨σ6, H6, S6, q6⟩ := sp
            exact ⟨_, _, S6.unsuite ok, q6⟩
          | cont =>
            obtain ⟨σ6, H6, S6, q6⟩ := sp
            exact ⟨_, _, S6.unsuite ok, q6⟩
        | false =>
          show wpAny _ X.A (handleBy (.ref a) X.env hds2) _ _ _
          exact ih (no rfl)
    exact go hh w
  · cases f with
    | ret u =>
      obtain ⟨v, σ', H', J', r, q⟩ := sp
      exact ⟨v, σ', H', J'.ofTry ok, r, q⟩
    | next =>
      obtain ⟨σ', H', J', q⟩ := sp
      exact wpAny_execs_nil ⟨σ', H', J'.ofTry ok, q⟩
    | brk =>
      obtain ⟨σ', H', J', q⟩ := sp
      exact ⟨σ', H', J'.ofTry ok, q⟩
    | cont =>
      obtain ⟨σ', H', J', q⟩ := sp
      exact ⟨σ', H', J'.ofTry ok, q⟩
end
theorem Fl.rt_tr {S R : Type} {q : Res Unit} {hs : Nat → List (Nat × Fl S R)} {k : Fl S R} (h1 : ∀ c, ∀ t ∈ hs c, t.2.Rt) (h2 : k.Rt) (h3 : ∀ c, q = .exc c → ∃ t ∈ hs c, isX c t.1 = true) : (Fl.tr q hs k).Rt := by
  unfold Fl.tr
  cases q with
  | ok u => exact h2
  | bad => exact Fl.rt_bad
  | exc c =>
    by_cases hc : c < 6
    · show (if c < 6 then hndF c (hs c) else .bad : Fl S R).Rt
      rw [if_pos hc]
      have key : ∀ l : List (Nat × Fl S R), (∀ t ∈ l, t.2.Rt) → (∃ t ∈ l, isX c t.1 = true) → (hndF c l).Rt := by
        intro l
        induction l with
        | nil => intro _ h; obtain ⟨t, ht, _⟩ := h; cases ht
        | cons x l ih =>
          intro h h'
          unfold hndF
          split
          · exact h x List.mem_cons_self
          · rename_i hx
            obtain ⟨t, ht, e⟩ := h'
            rcases List.mem_cons.mp ht with rfl | ht
            · exact absurd e hx
            · exact ih (fun t ht => h t (List.mem_cons_of_mem _ ht)) ⟨t, ht, e⟩
      exact key _ (h1 c) (h3 c rfl)
    · show (if c < 6 then hndF c (hs c) else .bad : Fl S R).Rt
      rw [if_neg hc]
      exact Fl.rt_bad
section
variable {C : Cf} {Z : Hp} {X Y : Cx} {N G : List Str} {P : Nat → Bool} {ss ss' : En} {a b c e e2 : Expr} {rest es : List Expr} {pos p p2 apos : Pos} {α : Type}
variable {W : Nat → Hp → Prop} {S R : Type} {ES : S → En} {ER : R → RM} {sts A B : List Stmt} {fl : Fl S R} {spos : Pos}
/-- a call in a try within a suite -/
theorem EvT.callH {WW : WX} {x : Str} {ds : List D} {r : Res RM} (tk : L2.Takes Y WW) (k : Cok C X N P G) (hP : Y.prog = X.prog := by rfl) (hw : Y.w = X.w := by rfl) (hK : Y.K = X.K := by rfl) (hmg : Y.mg = X.mg := by rfl) (hbase : Y.base = X.base := by rfl) (hE : Y.env = X.env := by rfl) (hc : L2H.HotC Y) (i : Nat) (hcal : CalH Y.prog Y.w Y.K Y.mg Y.base Y.A C x ds r) (ha : Ea C Z Y ss (e :: es) ds) (hi : G[i]? = some x := by rfl)
    (he1 : starEach (e :: es) X.env = (false, eval e X.env) :: starEach es X.env := by rfl) (hpl : (backTo pos (starEach es X.env)).any (·.1) = false := by rfl) : EvT C Z Y WW ss (.Call (.Name x p) (e :: es) [] pos) (r.map backR) := fun σ F H Q he hq pins s I => by
  obtain ⟨n, f, fd, ps, sp, hr, FO, hm, hk, hb, hs⟩ := hcal
  refine (L2H.pe_callH (X := Y) (E := L2.WE WW) FO hr hc (show Gl Y x by have := (k.gl i x hi).1; unfold Gl at this ⊢; rw [hE]; exact this) hm hk hb (fun σ => L2.passAt tk σ) pa_w (k.gl i x hi).2.1 (by rw [hE]; exact he1) (by rw [hE]; exact hpl)).run pins s σ H Q I ?_
  refine ha σ F H _ he fun vs F1 H1 e1 q1 => hs _ _ _ _ ⟨q1, ?_⟩
  cases r with
  | ok rm =>
    intro v H2 h2 q2
    obtain ⟨F2, e2, q3⟩ := okc_back ((he.ext e1).zf.trans e1.fh) e1.fh h2 q2
    exact hq v F2 H2 (e1.trans e2) (RM.ok_old e1.hh q3)
  | exc c => exact fun H2 h2 => hq H2 (e1.hh.trans h2)
  | bad => exact hq.elim
/-- what the clauses come to, for exceptions with a context -/
inductive HSH (C : Cf) (Z : Hp) (X : Cx) (ss : En) (ES : S → En) (ER : R → RM) (c : Nat) : List ExceptHandler → Cls3 → List (Nat × Fl S R) → Prop
  | nil : HSH C Z X ss ES ER c [] [] []
  | no {x : Str} {t : Nat} {b0 : Stmt} {suite : List Stmt} {np p : Pos} {hds : List ExceptHandler} {L : Cls3} {l : List (Nat × Fl S R)} {fl : Fl S R} (hc : Names X x (C.ex t)) (ht : t < 6) (hx : fl.Rt)
      (hsu : ∀ (a : Addr) (oe : Obj) (pn : List (Addr × Obj)), Sts C Z (X.suite a ((a, oe) :: pn)) (fun _ _ => False) ss (b0 :: suite) ES ER fl) (r : HSH C Z X ss ES ER c hds L l) :
      HSH C Z X ss ES ER c (.ExceptHandler (some (.Name x np)) none (b0 :: suite) p :: hds) ((C.ex t, none, fun a cls d D σ H => ∀ (oe : Obj) (pn : List (Addr × Obj)), wSs (X.suite a ((a, oe) :: pn)) (b0 :: suite) D σ H) :: L) ((t, fl) :: l)
theorem HSH.hd {c : Nat} {hds : List ExceptHandler} {L : Cls3} {l : List (Nat × Fl S R)} (h : HSH C Z X ss ES ER c hds L l) : HdH X hds L := by
  induction h with
  | nil => exact .nil
  | no hc ht hx hsu r ih => exact .no hc (fun a oe cls d pn hz hf => ⟨fun pins s σ H D I h => h oe pn pins s I⟩) ih
theorem HSH.wish {c : Nat} {hds : List ExceptHandler} {L : Cls3} {l : List (Nat × Fl S R)} (h : HSH C Z X ss ES ER c hds L l) (xc : Xc C X.K) (hc : c < 6) {σ : L2.St} {F H : Hp} {D : Ends} (en : EnvOk C Z ss F H σ) (hp : Post C Z W ES ER F H D (hndF c l)) :
    wMix X.K (WXc C W) D L (C.ex c) none σ H := by
  induction h with
  | nil => exact ⟨c, rfl, rfl, hp H (en.zf.trans en.fh)⟩
  | @no x t b0 suite np p hds L l fl hN ht hx hsu r ih =>
    refine ⟨isX c t, xc.exm c t hc ht, fun q a ha oe pn => ?_, fun q => ?_⟩
    · unfold hndF at hp
      rw [if_pos q] at hp
      exact (sts_iff.mp (hsu a oe pn)) σ F H D en (Post.ends hx rfl hp)
    · unfold hndF at hp
      rw [if_neg (by rw [q]; decide)] at hp
      exact ih hp
theorem HSH.nonx {c : Nat} {hds : List ExceptHandler} {L : Cls3} {l : List (Nat × Fl S R)} (h : HSH C Z X ss ES ER c hds L l) : ∀ s, hndF c l ≠ .nx s := by
  induction h with
  | nil => exact fun s h => nomatch h
  | no hN ht hx hsu r ih =>
    unfold hndF
    split
    · exact hx.1
    · exact ih
/-- try in a suite -/
theorem Sts.tryH {q : Res Unit} {h0 : ExceptHandler} {hds : List ExceptHandler} {L : Cls3} {hs : Nat → List (Nat × Fl S R)} (tk : L2.Takes Y (WXc C W)) (hst : Y.stack = Y.env :: Y.outer) (hfr : Y.env.frame = some Y.env.locals) (xc : Xc C Y.K)
    (hb : ∀ (WW : WX) (pn : List (Addr × Obj)) (xe : Value → Shared → Prop), (∀ q ∈ Y.pn, q ∈ pn) → L2.Takes (Y.tr pn xe) WW → Tb C Z (Y.tr pn xe) WW ss A q)
    (hh : ∀ c, c < 6 → HSH C Z Y ss ES ER c (h0 :: hds) L (hs c)) (hk : q = .ok () → Sts C Z Y W ss sts ES ER fl) : Sts C Z Y W ss (.Try A (h0 :: hds) [] [] pos :: sts) ES ER (Fl.tr q hs fl) := by
  have hd := (hh 0 (by decide)).hd
  refine Sts.step (ps_mixH (tb := fun WW D σ H => ∀ (pn : List (Addr × Obj)) (xe : Value → Shared → Prop), (∀ q ∈ Y.pn, q ∈ pn) → L2.Takes (Y.tr pn xe) WW → wSs (Y.tr pn xe) A D σ H) hst hfr tk
    (fun WW pn xe hm t o => ⟨fun pins s σ H D I h => h pn xe hm t pins s I⟩) hd) fun σ F H D en hp => ?_
  intro pn xe hm t
  refine hb _ pn xe hm t σ F H _ en ?_
  cases q with
  | ok u => exact fun F' H' x => (sts_iff.mp (hk rfl)) σ F' H' D (en.ext x) (Post.mono x.gr hp)
  | bad => exact hp
  | exc c =>
    intro H' hH
    have hp' : Post C Z W ES ER F H D (if c < 6 then hndF c (hs c) else .bad) := hp
    by_cases hc : c < 6
    · rw [if_pos hc] at hp'
      have x := Ext.heap en.fh hH
      have hx := (hh c hc).nonx
      refine (hh c hc).wish xc hc (en.ext x) ?_
      have hm' := Post.mono x.gr hp'
      revert hm' hx
      generalize hndF c (hs c) = o
      intro hx hm'
      cases o with
      | nx s => exact absurd rfl (hx s)
      | rt r => exact hm'
      | exc c' => exact hm'
      | bad => exact hm'
    · rw [if_neg hc] at hp'
      exact hp'.elim
end
end VL
namespace VL
open PySem PySem.Spec PyProof.Rows L2
theorem CalH.mark {P : Program} {w : World} {K : PySem.W.Frag} {mg : Str → Option Value} {base : Heap} {A : Around} {C : Cf} {x : Str} {ds : List D} {r : Res RM} {h : Option Value} (c : CalH P w K mg base A C x ds r) : CalH P w K mg base (A.mark h) C x ds r := by
  obtain ⟨k, f, fd, ps, sp, hr, c⟩ := c
  exact ⟨k, f, fd, ps, sp, ⟨hr.dp, hr.un⟩, c⟩
theorem hot_of {X : Cx} {ea : Addr} {oe : Obj} {cls : Value} {d : Option Addr} (hz : L2N.Zn cls d oe) (hf : ∃ vs, oe.data = .fields vs) : L2H.Hot1 (X.A.mark (some (.ref ea))) (ea, oe) := by
  obtain ⟨vs, hv⟩ := hf
  exact ⟨rfl, vs, hv, hz.2.2 vs hv⟩
end VL
namespace VL
open PySem PySem.Spec PyProof.Rows L2
/-- isinstance of what may be None -/
theorem Ev.isiO {C : Cf} {Z : Hp} {X : Cx} {N G : List Str} {P : Nat → Bool} {ss : En} {a : Expr} {pos p p2 : Pos} {α : Type} {g : α → D} {o : Option α} {T U : String} (k : Cok C X N P G) (i j : Nat) (hT : ∀ x, dty (g x) = T) (hn : T ≠ "") (hr : kitB T U = some true) (h0 : kitB "NoneType" U = some false) (hbt : X.mg (Str.ofString U) = none) (hv : bootBuiltins (Str.ofString U) = some (.type U)) (ha : Ev C Z X ss a (.cur (dO g o))) (hi : G[i]? = some ("isinstance" : Str) := by rfl) (hj : G[j]? = some (Str.ofString U) := by rfl)
    (na : starEach [a, .Name (Str.ofString U) p2] X.env = (false, eval a X.env) :: starEach [.Name (Str.ofString U) p2] X.env := by rfl) : Ev C Z X ss (.Call (.Name "isinstance" p) [a, .Name (Str.ofString U) p2] [] pos) (.frz (dB (!o.isNone))) := by
  cases o with
  | none => exact Ev.isi (T := "NoneType") (U := U) (r := false) k i j rfl (by decide) h0 hbt hv ha hi hj na
  | some x => exact Ev.isi (T := T) (U := U) (r := true) k i j (hT x) hn hr hbt hv ha hi hj na
end VL

set_option Elab.async false
set_option linter.all false
set_option maxRecDepth 100000
set_option maxHeartbeats 4000000
/-! VL33: f-strings; a try that binds a name. -/
namespace VL
open PySem PySem.Spec PyProof.Rows L2
def strI (i : Int) : Str := toString i
def joinS (ys : List Str) : Str := ys.foldl (fun a b => a ++ b) Str.empty
theorem len_app (a b : Str) : (a ++ b).length = a.length + b.length := by
  show (a.cps ++ b.cps).size = _
  rw [Array.size_append]
  rfl
theorem len_fold : ∀ (ys : List Str) (a : Str), a.length ≤ (ys.foldl (fun a b => a ++ b) a).length
  | [], _ => Nat.le_refl _
  | y :: ys, a => Nat.le_trans (by rw [len_app]; omega) (len_fold ys (a ++ y))
section
variable {C : Cf} {Z : Hp} {X : Cx} {N G : List Str} {P : Nat → Bool} {ss ss' : En} {a b c e e2 : Expr} {rest es : List Expr} {pos p p2 apos : Pos} {α : Type}
variable {W : Nat → Hp → Prop} {S R : Type} {ES : S → En} {ER : R → RM} {sts A B : List Stmt} {fl : Fl S R} {spos : Pos}
theorem Ev.fmtI {i : Int} (hm : i.natAbs.log2 < 1920) (h : Ev C Z X ss e (.frz (dI i))) : Ev C Z X ss (.FormattedValue e (-1) none pos) (.frz (dS (strI i))) := fun σ F H Q he hq pins s I =>
  (pe_fmt pe_w).run pins s σ H Q I (h σ F H _ he fun v F1 H1 e1 q1 => by
    cases q1
    exact .inr ⟨i, rfl, hm, hq _ F1 H1 e1 .sc⟩)
inductive Ejs (C : Cf) (Z : Hp) (X : Cx) (ss : En) : List Expr → List Str → Prop
  | nil : Ejs C Z X ss [] []
  | cons {e : Expr} {y : Str} {es : List Expr} {ys : List Str} (h : Ev C Z X ss e (.frz (dS y))) (r : Ejs C Z X ss es ys) : Ejs C Z X ss (e :: es) (y :: ys)
theorem pj_w : ∀ {es : List Expr}, PJ X es (es.map (wE X))
  | [] => .nil
  | _ :: _ => .cons pe_w pj_w
theorem ejs_run {es : List Expr} {ys : List Str} (h : Ejs C Z X ss es ys) : ∀ (acc : Str) (σ : L2.St) (F H : Hp) (Q : Str → Hp → Prop), EnvOk C Z ss F H σ → (ys.foldl (fun a b => a ++ b) acc).length ≤ sizeLine → (∀ F' H', Ext F H F' H' → Q (ys.foldl (fun a b => a ++ b) acc) H') → tJs (es.map (wE X)) acc σ H Q := by
  induction h with
  | nil => exact fun acc σ F H Q he hz hq => hq F H (Ext.refl he.fh)
  | @cons e y es ys h r ih =>
    intro acc σ F H Q he hz hq
    refine h σ F H _ he fun v F1 H1 e1 q1 => ?_
    cases q1
    refine ⟨y, rfl, Nat.le_trans (len_fold ys (acc ++ y)) hz, ih (acc ++ y) σ F1 H1 Q (he.ext e1) hz fun F' H' e2 => hq F' H' (e1.trans e2)⟩
/-- f'..' -/
theorem Ev.joined {v1 v2 : Expr} {ys : List Str} (hz : (joinS ys).length ≤ sizeLine) (h : Ejs C Z X ss (v1 :: v2 :: rest) ys) : Ev C Z X ss (.JoinedStr (v1 :: v2 :: rest) pos) (.frz (dS (joinS ys))) := fun σ F H Q he hq pins s I =>
  (pe_joined pj_w).run pins s σ H Q I (ejs_run h Str.empty σ F H _ he hz fun F' H' e => hq _ F' H' e .sc)
/-- a block that binds a slot -/
def TbA (C : Cf) (Z : Hp) (X : Cx) (WW : WX) (ss : En) (b : List Stmt) (r : Res α) (ss' : α → En) : Prop :=
  ∀ (σ : L2.St) (F H : Hp) (D : Ends), EnvOk C Z ss F H σ → (match r with
    | .ok v => ∀ σ' F' H', Ext F H F' H' → EnvOk C Z (ss' v) F' H' σ' → D.nx σ' H'
    | .exc c => ∀ H', Same H H' → WW (C.ex c) none σ H'
    | .bad => False) → wSs X b D σ H
theorem TbA.asg {WW : WX} {x : Str} {r : Res α} {m : α → RM} {f : α → O} {i : Nat} {pn : List (Addr × Obj)} {xe : Value → Shared → Prop} (k : Cok C X N P G) (d : Dok X N P) (h : EvT C Z (X.tr pn xe) WW ss e ((r.map m).map backR)) (hm : ∀ v, backR (m v) = rmO (f v)) (hl : i < ss.length) (hi : N[i]? = some x := by rfl) (hpi : P i = true := by rfl)
    (hs : swapsWith e (some (.Name x p)) spos.line X.env = pure false := by rfl) : TbA C Z (X.tr pn xe) WW ss [.Assign [.Name x p] e spos] r (fun v => ss.set i (some (f v))) := fun σ F H D he hq pins s I =>
  (pss_cons (ps_set (X := X.tr pn xe) (i := i) (by show X.N.Nodup; rw [k.hN]; exact k.nd) (by show X.N[i]? = _; rw [k.hN]; exact hi) (d.loc i x hpi hi) pe_w hs (.inl (d.fn x))) pss_nil).run pins s σ H D I (h σ F H _ he (by
    cases r with
    | ok v =>
      intro u F' H' x1 q1
      have q2 : (rmO (f v)).ok C Z H u F' H' := by rw [← hm]; exact q1
      exact hq _ F' H' x1 (he.putN x1 hl q2)
    | exc c => exact hq
    | bad => exact hq))
def Fl.trA {S R : Type} (q : Res α) (hs : Nat → List (Nat × Fl S R)) (k : α → Fl S R) : Fl S R := match q with
  | .ok v => k v
  | .exc c => if c < 6 then hndF c (hs c) else .bad
  | .bad => .bad
/-- try: x = f(..); except .. -/
theorem Sts.tryA {q : Res α} {h0 : ExceptHandler} {hds : List ExceptHandler} {L : Cls3} {hs : Nat → List (Nat × Fl S R)} {ss' : α → En} {kf : α → Fl S R} (tk : L2N.Takes X (WXc C W)) (k : Cok C X N P G) (hst : X.stack = X.env :: X.outer) (hfr : X.env.frame = some X.env.locals) (xc : Xc C X.K)
    (hb : ∀ (WW : WX) (pn : List (Addr × Obj)) (xe : Value → Shared → Prop), L2N.Takes (X.tr pn xe) WW → TbA C Z (X.tr pn xe) WW ss A q ss')
    (hh : ∀ c, c < 6 → HS C Z X ss ES ER c (h0 :: hds) L (hs c)) (hk : ∀ v, q = .ok v → Sts C Z X W (ss' v) sts ES ER (kf v)) : Sts C Z X W ss (.Try A (h0 :: hds) [] [] pos :: sts) ES ER (Fl.trA q hs kf) := by
  have hd := (hh 0 (by decide)).hd
  refine Sts.step (ps_mix (tb := fun WW D σ H => ∀ (pn : List (Addr × Obj)) (xe : Value → Shared → Prop), L2N.Takes (X.tr pn xe) WW → wSs (X.tr pn xe) A D σ H) hst hfr (by rw [k.hN]; exact k.nd) tk
    (fun WW pn xe t o => ⟨fun pins s σ H D I h => h pn xe t pins s I⟩) hd) fun σ F H D en hp => ?_
  intro pn xe t
  refine hb _ pn xe t σ F H _ en ?_
  cases q with
  | ok v => exact fun σ' F' H' x en' => (sts_iff.mp (hk v rfl)) σ' F' H' D en' (Post.mono x.gr hp)
  | bad => exact hp
  | exc c =>
    intro H' hH
    have hp' : Post C Z W ES ER F H D (if c < 6 then hndF c (hs c) else .bad) := hp
    by_cases hc : c < 6
    · rw [if_pos hc] at hp'
      have x := Ext.heap en.fh hH
      have hx := (hh c hc).nonx
      refine (hh c hc).wish xc hc (en.ext x) ?_
      have hm := Post.mono x.gr hp'
      revert hm hx
      generalize hndF c (hs c) = o
      intro hx hm
      cases o with
      | nx s => exact absurd rfl (hx s)
      | rt r => exact hm
      | exc c' => exact hm
      | bad => exact hm
    · rw [if_neg hc] at hp'
      exact hp'.elim
end
end VL

set_option Elab.async false
set_option linter.all false
set_option maxRecDepth 100000
set_option maxHeartbeats 4000000
/-! VL34: parts of owned trees moved into a list; a walk over owned items. -/
namespace VL
open PySem PySem.Spec PyProof.Rows L2
/-- slots, and what is owned beside them -/
structure EnvR (C : Cf) (Z : Hp) (ss : En) (F H : Hp) (σ : L2.St) (R : List (O × V)) : Prop where
  zf : Same Z F
  fh : Same F H
  sl : ∃ fp g, Slots C Z F H ss σ fp ∧ Owns C Z F H (R.map (·.1)) (R.map (·.2)) g ∧ (fp ++ g).Nodup
section
variable {C : Cf} {Z F F' H H' : Hp} {ss : En} {σ : L2.St} {R : List (O × V)}
theorem EnvR.of (h : EnvOk C Z ss F H σ) : EnvR C Z ss F H σ [] := by
  obtain ⟨fp, sl, nd⟩ := h.sl
  exact ⟨h.zf, h.fh, fp, [], sl, .nil, by rw [List.append_nil]; exact nd⟩
theorem EnvR.take {i : Nat} {o : O} (h : EnvR C Z ss F H σ R) (hs : ss[i]? = some (some o)) : ∃ v, σ[i]? = some (some v) ∧ EnvR C Z (ss.set i none) F H σ ((o, v) :: R) := by
  obtain ⟨fp, g, sl, ow, nd⟩ := h.sl
  obtain ⟨v, f1, f2, h1, h2, h3, h4⟩ := sl.get hs
  refine ⟨v, h1, h.zf, h.fh, f2, f1 ++ g, h3, .cons h2 ow, ?_⟩
  have p1 : (f2 ++ (f1 ++ g)).Perm ((f1 ++ f2) ++ g) := by
    rw [← List.append_assoc]
    exact List.Perm.append_right _ List.perm_append_comm
  exact ((p1.trans (List.Perm.append_right g h4)).nodup_iff).mpr nd
theorem EnvR.tup2 {o1 o2 : O} {v : V} (h : EnvR C Z ss F H σ ((.tup [o1, o2], v) :: R)) : ∃ p u1 u2, v = .ref p ∧ H p = some (.tup [u1, u2]) ∧ EnvR C Z ss F H σ ((o1, u1) :: (o2, u2) :: R) := by
  obtain ⟨fp, g, sl, ow, nd⟩ := h.sl
  cases ow with
  | cons a b =>
    rename_i f1 f2
    cases a with
    | tup hp hr =>
      rename_i p vs
      cases hr with
      | cons a1 hr =>
      cases hr with
      | cons a2 hr =>
      cases hr with
      | nil =>
      refine ⟨p, _, _, rfl, hp, h.zf, h.fh, fp, _, sl, .cons a1 (.cons a2 b), ?_⟩
      simpa using nd
theorem EnvR.obj5 {c : Nat} {o1 o2 o3 o4 o5 : O} {v : V} (h : EnvR C Z ss F H σ ((.obj c [o1, o2, o3, o4, o5], v) :: R)) : ∃ p dx fs u1 u2 u3 u4 u5, v = .ref p ∧ H p = some (.ins (C.cl c) dx fs) ∧ fs.map (·.2) = [u1, u2, u3, u4, u5] ∧ EnvR C Z ss F H σ ((o1, u1) :: (o2, u2) :: (o3, u3) :: (o4, u4) :: (o5, u5) :: R) := by
  obtain ⟨fp, g, sl, ow, nd⟩ := h.sl
  cases ow with
  | cons a b =>
    cases a with
    | obj hf hp hn hr =>
      rename_i p dx fs fp2
      generalize hvs : fs.map (·.2) = vs at hr
      cases hr with
      | cons a1 hr =>
      cases hr with
      | cons a2 hr =>
      cases hr with
      | cons a3 hr =>
      cases hr with
      | cons a4 hr =>
      cases hr with
      | cons a5 hr =>
      cases hr with
      | nil =>
      refine ⟨p, dx, fs, _, _, _, _, _, rfl, hp, hvs, h.zf, h.fh, fp, _, sl, .cons a1 (.cons a2 (.cons a3 (.cons a4 (.cons a5 b)))), ?_⟩
      refine List.Nodup.sublist ?_ nd
      refine List.Sublist.append_left ?_ fp
      simp
theorem owns_sub {R R' : List (O × V)} (s : R'.Sublist R) : ∀ {g : List Addr}, Owns C Z F H (R.map (·.1)) (R.map (·.2)) g → ∃ g', Owns C Z F H (R'.map (·.1)) (R'.map (·.2)) g' ∧ g'.Sublist g := by
  induction s with
  | slnil => exact fun h => ⟨_, h, List.Sublist.refl _⟩
  | cons x s ih =>
    intro g h
    cases h with
    | cons a b =>
      obtain ⟨g', h1, h2⟩ := ih b
      exact ⟨g', h1, h2.trans (List.sublist_append_right _ _)⟩
  | cons_cons x s ih =>
    intro g h
    cases h with
    | cons a b =>
      obtain ⟨g', h1, h2⟩ := ih b
      exact ⟨_, .cons a h1, List.Sublist.append_left h2 _⟩
theorem EnvR.sub {R' : List (O × V)} (h : EnvR C Z ss F H σ R) (s : R'.Sublist R) : EnvR C Z ss F H σ R' := by
  obtain ⟨fp, g, sl, ow, nd⟩ := h.sl
  obtain ⟨g', h1, h2⟩ := owns_sub s ow
  exact ⟨h.zf, h.fh, fp, g', sl, h1, nd.sublist (List.Sublist.append_left h2 fp)⟩
/-- into a new list, which is frozen -/
theorem EnvR.fin {j : Nat} {q : Addr} (h : EnvR C Z ss F H σ R) (hj : j < ss.length) (hn : ss[j]? = some none) (hq : H q = none) :
    EnvOk C Z (ss.set j (some (.flst q (R.map (·.1))))) (upd F q (.lst (R.map (·.2)))) (upd H q (.lst (R.map (·.2)))) (σ.set j (some (.ref q))) := by
  obtain ⟨fp, g, sl, ow, nd⟩ := h.sl
  have sF : Same F (upd F q (.lst (R.map (·.2)))) := fun b o e => by
    rw [upd_ne (fun z => by subst z; rw [h.fh _ _ e] at hq; cases hq)]
    exact e
  have sH : Same H (upd H q (.lst (R.map (·.2)))) := fun b o e => by
    rw [upd_ne (fun z => by subst z; rw [e] at hq; cases hq)]
    exact e
  have ext : Ext F H (upd F q (.lst (R.map (·.2)))) (upd H q (.lst (R.map (·.2)))) := ⟨sF, sH, fun b o e => by
    by_cases z : b = q
    · subst z
      rw [upd_same] at e ⊢
      exact e
    · rw [upd_ne z] at e ⊢
      exact h.fh _ _ e, fun b hb hf => by
    rw [upd_ne (fun z => by subst z; exact hb hq)]
    exact hf⟩
  have ow2 : Own C Z (upd F q (.lst (R.map (·.2)))) (upd H q (.lst (R.map (·.2)))) (.flst q (R.map (·.1))) (.ref q) g := .flst upd_same (ow.ext ext)
  obtain ⟨f3, s3, pm⟩ := (sl.ext ext).fill ow2 hj hn
  refine ⟨h.zf.trans sF, ext.fh, f3, s3, (pm.nodup_iff).mpr ?_⟩
  exact (List.perm_append_comm.nodup_iff).mp nd
theorem Vat.mono {v u : V} {π : List Nat} (s : Same H H') (h : Vat C H v π u) : Vat C H' v π u := by
  induction h with
  | nil => exact .nil
  | lst g1 g2 _ ih => exact .lst (s _ _ g1) g2 ih
  | tup g1 g2 _ ih => exact .tup (s _ _ g1) g2 ih
  | obj g1 g2 _ ih => exact .obj (s _ _ g1) g2 ih
end
/-- values at places -/
inductive Pl (C : Cf) (H : Hp) (σ : L2.St) : List (Nat × List Nat) → List V → Prop
  | nil : Pl C H σ [] []
  | cons {i : Nat} {π : List Nat} {u v0 : V} {ps : List (Nat × List Nat)} {us : List V} : σ[i]? = some (some v0) → Vat C H v0 π u → Pl C H σ ps us → Pl C H σ ((i, π) :: ps) (u :: us)
theorem Pl.mono {C : Cf} {H H' : Hp} {σ : L2.St} {ps : List (Nat × List Nat)} {us : List V} (s : Same H H') (h : Pl C H σ ps us) : Pl C H' σ ps us := by
  induction h with
  | nil => exact .nil
  | cons a b _ ih => exact .cons a (b.mono s) ih
section
variable {C : Cf} {Z : Hp} {X : Cx} {N G : List Str} {P : Nat → Bool} {ss ss' : En} {a b c e e2 tg iter elt : Expr} {rest es : List Expr} {pos p p2 px py lpos apos : Pos} {r r' ra rb rz : RM} {α β γ : Type} {z : Bool}
variable {W : Nat → Hp → Prop} {S S' R : Type} {ES : S → En} {ES' : S' → En} {ER : R → RM} {st : Stmt} {blk sts A B : List Stmt} {fl : Fl S R} {spos : Pos}
/-- places told one behind the other -/
def Dsp (C : Cf) (Z : Hp) (X : Cx) (ss : En) (es : List Expr) (ps : List (Nat × List Nat)) : Prop :=
  ∀ (σ : L2.St) (F H : Hp) (Q : List V → Hp → Prop), EnvOk C Z ss F H σ → (∀ us F' H', Ext F H F' H' → Pl C H' σ ps us → Q us H') → wA X es σ H Q
theorem Dsp.nil : Dsp C Z X ss [] [] := fun σ F H Q he hq pos pins s I => pa_nil.run pos pins s σ H Q I (hq [] F H (Ext.refl he.fh) .nil)
theorem Dsp.cons {i : Nat} {π : List Nat} {ps : List (Nat × List Nat)} (h : Lv C Z X ss a i π) (k : Dsp C Z X ss es ps) (hs : starEach (a :: es) X.env = (false, eval a X.env) :: starEach es X.env := by rfl) : Dsp C Z X ss (a :: es) ((i, π) :: ps) := fun σ F H Q he hq pos pins s I =>
  (pa_cons pe_w pa_w hs).run pos pins s σ H Q I (h σ F H _ he fun u F1 H1 e1 q1 => k σ F1 H1 _ (he.ext e1) fun us F2 H2 e2 q2 => by
    obtain ⟨v0, h0, va⟩ := q1
    exact hq (u :: us) F2 H2 (e1.trans e2) (.cons h0 (va.mono e2.hh) q2))
/-- a list of places, told and let be: then nothing is known of the name -/
theorem Sts.asgF {x : Str} {ps : List (Nat × List Nat)} {j : Nat} (k : Cok C X N P G) (d : Dok X N P) (hd : Dsp C Z X ss es ps) (hl : j < ss.length) (hlen : ∀ σ H us, Pl C H σ ps us → us.length ≤ sizeLine) (h : Sts C Z X W (ss.set j none) sts ES ER fl) (hj : N[j]? = some x := by rfl) (hpj : P j = true := by rfl)
    (hs : swapsWith (.List es lpos) (some (.Name x p)) spos.line X.env = pure false := by rfl) : Sts C Z X W ss (.Assign [.Name x p] (.List es lpos) spos :: sts) ES ER fl :=
  Sts.step (ps_set (i := j) (by rw [k.hN]; exact k.nd) (by rw [k.hN]; exact hj) (d.loc j x hpj hj) (pe_lst pa_w) hs (.inl (d.fn x))) fun σ F H D en hp => by
    refine hd σ F H _ en fun us F1 H1 e1 pl => ⟨hlen _ _ _ pl, fun q hq => ?_⟩
    have x1 : Ext F1 H1 F1 (upd H1 q (.lst us)) := Ext.heap e1.fh fun b o z => by rw [upd_ne (ne_of_none z hq)]; exact z
    have en1 := en.ext (e1.trans x1)
    obtain ⟨fp, sl, nd⟩ := en1.sl
    obtain ⟨f2, s2, sub⟩ := sl.drop j
    have en2 : EnvOk C Z (ss.set j none) F1 (upd H1 q (.lst us)) (σ.set j (some (.ref q))) := ⟨en1.zf, en1.fh, f2, s2.any _ (List.getElem?_set_self hl), nd.sublist sub⟩
    exact (sts_iff.mp h) _ F1 _ D en2 (hp.mono (e1.trans x1).gr)
end
end VL
namespace VL
open PySem PySem.Spec PyProof.Rows L2
section
variable {C : Cf} {Z : Hp} {X : Cx} {N G : List Str} {P : Nat → Bool} {ss ss' : En} {a b c e e2 tg iter elt : Expr} {rest es es2 : List Expr} {pos p p2 px py lpos lpos2 apos : Pos} {r r' ra rb rz : RM} {α β γ : Type} {z : Bool}
variable {W : Nat → Hp → Prop} {S S' R : Type} {ES : S → En} {ES' : S' → En} {ER : R → RM} {st : Stmt} {blk sts A B : List Stmt} {fl : Fl S R} {spos spos2 : Pos}
theorem Pl.det {H : Hp} {σ : L2.St} {i : Nat} {π : List Nat} {v0 w : V} {ps : List (Nat × List Nat)} {us : List V} (h : Pl C H σ ((i, π) :: ps) us) (h0 : σ[i]? = some (some v0)) (hv : Vat C H v0 π w) : ∃ us', us = w :: us' ∧ Pl C H σ ps us' := by
  cases h with
  | cons a b c =>
    rw [h0] at a
    cases a
    exact ⟨_, by rw [b.det hv], c⟩
theorem Pl.nil_eq {H : Hp} {σ : L2.St} {us : List V} (h : Pl C H σ [] us) : us = [] := by cases h; rfl
abbrev oA : List Int → O := oL (zz dI)
/-- rows = [pair[0], pair[1], v.order, v.crowd, v.colours]: moved -/
theorem Sts.rows5 {x : Str} {ip iv j : Nat} {pr : List Int × List Int} {v : Ver} {l1 l2 l3 : List Int} (k : Cok C X N P G) (d : Dok X N P) (hd : Dsp C Z X ss es [(ip, [0]), (ip, [1]), (iv, [0]), (iv, [2]), (iv, [3])]) (hsp : ss[ip]? = some (some (oP oA oA pr))) (hsv : (ss.set ip none)[iv]? = some (some (oVo v)))
    (e1 : v.order = some l1) (e2 : v.crowd = some l2) (e3 : v.colours = some l3) (hl : j < ss.length) (hn : ((ss.set ip none).set iv none)[j]? = some none) (hsv0 : ss[iv]? = some (some (oVo v)))
    (h : ∀ q, Sts C Z X W (((ss.set ip none).set iv none).set j (some (.flst q ([pr.1, pr.2, l1, l2, l3].map oA)))) sts ES ER fl) (hj : N[j]? = some x := by rfl) (hpj : P j = true := by rfl)
    (hs : swapsWith (.List es lpos) (some (.Name x p)) spos.line X.env = pure false := by rfl) : Sts C Z X W ss (.Assign [.Name x p] (.List es lpos) spos :: sts) ES ER fl :=
  Sts.step (ps_set (i := j) (by rw [k.hN]; exact k.nd) (by rw [k.hN]; exact hj) (d.loc j x hpj hj) (pe_lst pa_w) hs (.inl (d.fn x))) fun σ F H D en hp => by
    refine hd σ F H _ en fun us F1 H1 ex pl => ?_
    obtain ⟨vp, s1, R1⟩ := (EnvR.of (en.ext ex)).take hsp
    obtain ⟨pp, u1, u2, rfl, hp2, R2⟩ := R1.tup2
    obtain ⟨vv, s2, R3⟩ := R2.take hsv
    obtain ⟨pv, dx, fs, w1, w2, w3, w4, w5, rfl, hv2, hfs, R4⟩ := R3.obj5
    obtain ⟨us1, eu1, pl1⟩ := pl.det s1 (.tup (n := 0) hp2 rfl .nil)
    obtain ⟨us2, eu2, pl2⟩ := pl1.det s1 (.tup (n := 1) hp2 rfl .nil)
    obtain ⟨us3, eu3, pl3⟩ := pl2.det s2 (.obj (n := 0) (w := w1) hv2 (by rw [hfs]; rfl) .nil)
    obtain ⟨us4, eu4, pl4⟩ := pl3.det s2 (.obj (n := 2) (w := w3) hv2 (by rw [hfs]; rfl) .nil)
    obtain ⟨us5, eu5, pl5⟩ := pl4.det s2 (.obj (n := 3) (w := w4) hv2 (by rw [hfs]; rfl) .nil)
    rw [eu1, eu2, eu3, eu4, eu5, pl5.nil_eq]
    have R5 : EnvR C Z ((ss.set ip none).set iv none) F1 H1 σ [(oA pr.1, u1), (oA pr.2, u2), (oA l1, w1), (oA l2, w3), (oA l3, w4)] := by
      rw [e1, e2, e3] at R4
      obtain ⟨fp, g, sl, ow, nd⟩ := R4.sl
      cases ow with
      | cons a1 ow =>
      cases ow with
      | cons a2 ow =>
      cases ow with
      | cons a3 ow =>
      cases ow with
      | cons a4 ow =>
      cases ow with
      | cons a5 ow =>
      cases ow with
      | cons b1 ow =>
      cases ow with
      | cons b2 ow =>
      cases ow with
      | nil =>
      rename_i g1 g2 g3 g4 g5 g6 g7
      refine ⟨R4.zf, R4.fh, fp, g6 ++ (g7 ++ (g1 ++ (g3 ++ (g4 ++ [])))), sl, .cons b1 (.cons b2 (.cons a1 (.cons a3 (.cons a4 .nil)))), ?_⟩
      have nd2 : (fp ++ (g1 ++ (g3 ++ (g4 ++ (g6 ++ g7))))).Nodup := by
        refine nd.sublist (List.Sublist.append_left ?_ fp)
        refine List.Sublist.append_left ?_ g1
        refine List.Sublist.trans ?_ (List.sublist_append_right g2 _)
        refine List.Sublist.append_left (List.Sublist.append_left ?_ g4) g3
        refine List.Sublist.trans ?_ (List.sublist_append_right g5 _)
        simp
      have pm : (g6 ++ (g7 ++ (g1 ++ (g3 ++ (g4 ++ []))))).Perm (g1 ++ (g3 ++ (g4 ++ (g6 ++ g7)))) := by
        have q : g6 ++ (g7 ++ (g1 ++ (g3 ++ (g4 ++ [])))) = (g6 ++ g7) ++ (g1 ++ (g3 ++ g4)) := by simp
        have q2 : g1 ++ (g3 ++ (g4 ++ (g6 ++ g7))) = (g1 ++ (g3 ++ g4)) ++ (g6 ++ g7) := by simp
        rw [q, q2]
        exact List.perm_append_comm
      exact ((List.Perm.append_left fp pm).nodup_iff).mpr nd2
    refine ⟨by show (5 : Nat) ≤ sizeLine; decide, fun q hq => ?_⟩
    have hl2 : j < ((ss.set ip none).set iv none).length := by rw [List.length_set, List.length_set]; exact hl
    have en2 := R5.fin (q := q) hl2 hn hq
    refine (sts_iff.mp (h q)) _ _ _ D en2 (hp.mono ?_)
    refine ex.gr.trans ⟨fun b o e => ?_, fun b xs e => ?_⟩
    · rw [upd_ne (fun z => by subst z; rw [ex.fh _ _ e] at hq; cases hq)]
      exact e
    · show upd H1 q _ b = _
      rw [upd_ne (fun z => by subst z; rw [e] at hq; cases hq)]
      exact e
/-- for x in rows: each item is moved into x -/
theorem Sts.forMv {x y : Str} {f : α → O} {xs : List α} {s0 : S'} {g : S' → α → Fl S' R} {k : S' → Fl S R} {q : Addr} (ES' : S' → En) (i j : Nat) (ck : Cok C X N P G) (d : Dok X N P) (hss : ss[j]? = some (some (.flst q (xs.map f)))) (w : ∀ o, Wk (ss.set j (some o)) ((ES' s0).set j (some o)))
    (hij : i ≠ j) (hi0 : ∀ s, i < (ES' s).length) (hi1 : ∀ s, (ES' s)[i]? = some none) (hj0 : ∀ s, j < (ES' s).length)
    (hb : ∀ s v (o : O), v ∈ xs → Sts C Z X W (((ES' s).set j (some o)).set i (some (f v))) A (fun s' => (ES' s').set j (some o)) ER (g s v)) (hk : ∀ s (o : O), Sts C Z X W ((ES' s).set j (some o)) sts ES ER (k s))
    (hi : N[i]? = some x := by rfl) (hj : N[j]? = some y := by rfl) (hpi : P i = true := by rfl) (hpj : P j = true := by rfl) (hs : ∀ u, foldedSetIterable (.Name y py) X.env u = pure u := by intro _; rfl) :
    Sts C Z X W ss (.For (.Name x px) (.Name y py) A [] spos :: sts) ES ER (Fl.bind (forF g xs s0) k) :=
  Sts.step (ps_for d.own ck.calm (pi_list pe_w) pg_w pss_w hs) fun σ F H D en hp => by
    obtain ⟨fp, sl, nd⟩ := en.sl
    obtain ⟨v, f1, f2, h1, h2, h3, h4⟩ := sl.get hss
    cases h2 with
    | flst hq ho =>
    rename_i vs
    have lv : xs.length = vs.length := by rw [← ho.length, List.length_map]
    refine Ev.slot (o := .flst q (xs.map f)) ck hj hpj h1 ?_
    refine ⟨q, rfl, ⟨vs, .of (en.fh _ _ hq)⟩, ?_⟩
    have wk := walk_list (K := X.K) (a := q) (xs := vs)
    refine for_it wk (fun n σn Hn => ∃ s Fn os, Gr F H Fn Hn ∧ EnvOk C Z ((ES' s).set j (some (.flst q (os ++ (xs.drop n).map f)))) Fn Hn σn ∧ os.length = n ∧ ∀ o' : O, Post C Z W (fun s => (ES' s).set j (some o')) ER Fn Hn { D with nx := wSs X sts D } (forF g (xs.drop n) s)) ?_ ?_ ?_ ?_
    · refine ⟨s0, F, [], Gr.refl F H, ?_, rfl, fun o' => ?_⟩
      · have e0 : ss = ss.set j (some (.flst q (xs.map f))) := by
          refine (List.ext_getElem? fun m => ?_)
          by_cases e : j = m
          · subst e
            rw [List.getElem?_set_self (List.getElem?_eq_some_iff.mp hss).1, hss]
          · rw [List.getElem?_set_ne e]
        rw [List.nil_append, List.drop_zero]
        have en0 : EnvOk C Z (ss.set j (some (.flst q (xs.map f)))) F H σ := by
          rw [← e0]
          exact en
        exact en0.wk (w _)
      · rw [List.drop_zero]
        exact Post.bind (ES' := fun s => (ES' s).set j (some o')) (Gr.refl F H) (fun s => hk s o') hp
    · rintro n σn Hn hn ⟨s, Fn, os, gr, en', _⟩
      exact .of (en'.fh _ _ (gr.ff _ _ hq))
    · rintro n xv σn Hn H' hn ⟨s, Fn, os, gr, en', hlen, po⟩ hy
      obtain ⟨rfl, hx⟩ := hy
      have hn' : n < xs.length := by omega
      obtain ⟨fp', sl', nd'⟩ := en'.sl
      have hj' : j < (ES' s).length := hj0 s
      have hsj : ((ES' s).set j (some (.flst q (os ++ (xs.drop n).map f))))[j]? = some (some (.flst q (os ++ (xs.drop n).map f))) := List.getElem?_set_self hj'
      obtain ⟨v', f1', f2', k1, k2, k3, k4⟩ := sl'.get hsj
      cases k2 with
      | flst hq' ho' =>
      rename_i vs'
      have ev : vs' = vs := by
        have z := gr.ff _ _ hq
        rw [hq'] at z
        cases z
        rfl
      subst ev
      have dr := List.drop_eq_getElem_cons hn'
      have hc : (os ++ (xs.drop n).map f)[n]? = some (f xs[n]) := by
        rw [List.getElem?_append_right (by omega), dr, hlen, Nat.sub_self]
        rfl
      obtain ⟨x', fa, fb, fc, m1, m2, m3, m4⟩ := ho'.at_ hc
      rw [hx] at m1
      cases m1
      have ow2 := m4 Fn H' (fun o v f _ h => h) (.fz (.sc xv)) xv [] (.fz .sc)
      have c2 : (os ++ (xs.drop n).map f).set n (.fz (.sc xv)) = (os ++ [.fz (.sc xv)]) ++ (xs.drop (n + 1)).map f := by
        rw [dr, List.map_cons, List.set_append_right _ _ (by omega), hlen, Nat.sub_self]
        simp
      have v2 : vs'.set n xv = vs' := by
        refine List.ext_getElem? fun m => ?_
        by_cases e : n = m
        · subst e
          rw [List.getElem?_set_self (by omega), hx]
        · rw [List.getElem?_set_ne e]
      rw [c2, v2] at ow2
      have e3 : ((ES' s).set j (some (.flst q (os ++ (xs.drop n).map f)))).set j none = (ES' s).set j none := List.set_set ..
      rw [e3] at k3
      have hjn : ((ES' s).set j none)[j]? = some none := List.getElem?_set_self hj'
      obtain ⟨f5, s5, p5⟩ := k3.fill (.flst hq' ow2) (by rw [List.length_set]; exact hj') hjn
      rw [List.set_set, set_same k1] at s5
      have hin : ((ES' s).set j (some (.flst q ((os ++ [.fz (.sc xv)]) ++ (xs.drop (n + 1)).map f))))[i]? = some none := by
        rw [List.getElem?_set_ne (Ne.symm hij)]
        exact hi1 s
      obtain ⟨f6, s6, p6⟩ := s5.fill m2 (by rw [List.length_set]; exact hi0 s) hin
      have nd6 : f6.Nodup := by
        refine (p6.nodup_iff).mpr (((List.Perm.append_left fb p5).nodup_iff).mpr ?_)
        have nd1 : ((fa ++ (fb ++ fc)) ++ f2').Nodup := by rw [← m3]; exact (k4.nodup_iff).mpr nd'
        refine (List.Perm.nodup_iff ?_).mpr nd1
        have q1 : fb ++ ((fa ++ ([] ++ fc)) ++ f2') = (fb ++ fa) ++ (fc ++ f2') := by simp
        have q2 : (fa ++ (fb ++ fc)) ++ f2' = (fa ++ fb) ++ (fc ++ f2') := by simp
        rw [q1, q2]
        exact List.Perm.append_right _ List.perm_append_comm
      have en6 : EnvOk C Z (((ES' s).set j (some (.flst q ((os ++ [.fz (.sc xv)]) ++ (xs.drop (n + 1)).map f)))).set i (some (f xs[n]))) Fn H' (σn.set i (some xv)) := ⟨en'.zf, en'.fh, f6, s6, nd6⟩
      intro pins st u I r
      refine (pg_name (i := i) (by rw [ck.hN]; exact ck.nd) (by rw [ck.hN]; exact hi) (d.loc i x hpi hi) (.inl (d.fn x))).run pins st σn H' xv u _ I r ?_
      refine (sts_iff.mp (hb s xs[n] _ (List.getElem_mem hn'))) _ Fn H' _ en6 ?_
      have po' := fun o' => po o'
      rw [dr] at po'
      unfold forF at po'
      generalize hgo : g s xs[n] = o at po'
      cases o with
      | nx s' => exact fun σ3 F3 H3 g3 e3 => ⟨s', F3, _, gr.trans g3, e3, by rw [List.length_append, List.length_singleton, hlen], fun o' => Post.mono g3 (po' o')⟩
      | rt r => exact po' (.fz (.sc .non))
      | exc c => exact po' (.fz (.sc .non))
      | bad => exact po' (.fz (.sc .non))
    · rintro σn Hn ⟨s, Fn, os, gr, en', hlen, po⟩
      have po' := po (.flst q (os ++ (xs.drop vs.length).map f))
      rw [← lv, List.drop_length] at po'
      rw [← lv, List.drop_length] at en'
      exact po' σn Fn Hn (Gr.refl Fn Hn) en'
end
end VL
namespace VL
open PySem PySem.Spec PyProof.Rows L2
section
variable {C : Cf} {Z : Hp} {X : Cx} {N G : List Str} {P : Nat → Bool} {ss ss' : En} {a b c e e2 tg iter elt : Expr} {rest es es2 : List Expr} {pos p p2 px py lpos lpos2 apos : Pos} {α : Type}
variable {W : Nat → Hp → Prop} {S S' R : Type} {ES : S → En} {ES' : S' → En} {ER : R → RM} {st : Stmt} {blk sts A B : List Stmt} {fl : Fl S R} {spos spos2 : Pos}
/-- rows = [pair[0], pair[1], ring, v.ring]: moved -/
theorem mv4 {x : Str} {ip ir iv j : Nat} {pr : List Int × List Int} {v : Ver} {l1 l2 : List Int} {σ : L2.St} {F H : Hp} {D : Ends} (k : Cok C X N P G) (d : Dok X N P) (hd : Dsp C Z X ss es [(ip, [0]), (ip, [1]), (ir, []), (iv, [1])]) (hsp : ss[ip]? = some (some (oP oA oA pr))) (hsr : (ss.set ip none)[ir]? = some (some (oA l1))) (hsv : ((ss.set ip none).set ir none)[iv]? = some (some (oVo v)))
    (e2 : v.ring = some l2) (hl : j < ss.length) (hn : (((ss.set ip none).set ir none).set iv none)[j]? = some none) (en : EnvOk C Z ss F H σ)
    (hq : ∀ q F' H' σ', Gr F H F' H' → EnvOk C Z ((((ss.set ip none).set ir none).set iv none).set j (some (.flst q ([pr.1, pr.2, l1, l2].map oA)))) F' H' σ' → D.nx σ' H') (hj : N[j]? = some x := by rfl) (hpj : P j = true := by rfl)
    (hs : swapsWith (.List es lpos) (some (.Name x p)) spos.line X.env = pure false := by rfl) : wSs X [.Assign [.Name x p] (.List es lpos) spos] D σ H := fun pins st I =>
  (pss_cons (ps_set (i := j) (by rw [k.hN]; exact k.nd) (by rw [k.hN]; exact hj) (d.loc j x hpj hj) (pe_lst pa_w) hs (.inl (d.fn x))) pss_nil).run pins st σ H D I (by
    refine hd σ F H _ en fun us F1 H1 ex pl => ?_
    obtain ⟨vp, s1, R1⟩ := (EnvR.of (en.ext ex)).take hsp
    obtain ⟨pp, u1, u2, rfl, hp2, R2⟩ := R1.tup2
    obtain ⟨vr, s3, R2'⟩ := R2.take hsr
    obtain ⟨vv, s2, R3⟩ := R2'.take hsv
    obtain ⟨pv, dx, fs, w1, w2, w3, w4, w5, rfl, hv2, hfs, R4⟩ := R3.obj5
    obtain ⟨us1, eu1, pl1⟩ := pl.det s1 (.tup (n := 0) hp2 rfl .nil)
    obtain ⟨us2, eu2, pl2⟩ := pl1.det s1 (.tup (n := 1) hp2 rfl .nil)
    obtain ⟨us3, eu3, pl3⟩ := pl2.det s3 .nil
    obtain ⟨us4, eu4, pl4⟩ := pl3.det s2 (.obj (n := 1) (w := w2) hv2 (by rw [hfs]; rfl) .nil)
    rw [eu1, eu2, eu3, eu4, pl4.nil_eq]
    have R5 : EnvR C Z (((ss.set ip none).set ir none).set iv none) F1 H1 σ [(oA pr.1, u1), (oA pr.2, u2), (oA l1, vr), (oA l2, w2)] := by
      rw [e2] at R4
      obtain ⟨fp, g, sl, ow, nd⟩ := R4.sl
      cases ow with
      | cons a1 ow =>
      cases ow with
      | cons a2 ow =>
      cases ow with
      | cons a3 ow =>
      cases ow with
      | cons a4 ow =>
      cases ow with
      | cons a5 ow =>
      cases ow with
      | cons b0 ow =>
      cases ow with
      | cons b1 ow =>
      cases ow with
      | cons b2 ow =>
      cases ow with
      | nil =>
      rename_i g1 g2 g3 g4 g5 g6 g7 g8
      refine ⟨R4.zf, R4.fh, fp, g7 ++ (g8 ++ (g6 ++ (g2 ++ []))), sl, .cons b1 (.cons b2 (.cons b0 (.cons a2 .nil))), ?_⟩
      have nd2 : (fp ++ (g2 ++ (g6 ++ (g7 ++ g8)))).Nodup := by
        refine nd.sublist (List.Sublist.append_left ?_ fp)
        refine List.Sublist.trans ?_ (List.sublist_append_right g1 _)
        refine List.Sublist.append_left ?_ g2
        refine List.Sublist.trans ?_ (List.sublist_append_right g3 _)
        refine List.Sublist.trans ?_ (List.sublist_append_right g4 _)
        refine List.Sublist.trans ?_ (List.sublist_append_right g5 _)
        simp
      have pm : (g7 ++ (g8 ++ (g6 ++ (g2 ++ [])))).Perm (g2 ++ (g6 ++ (g7 ++ g8))) := by
        have q : g7 ++ (g8 ++ (g6 ++ (g2 ++ []))) = (g7 ++ g8) ++ (g6 ++ g2) := by simp
        have q2 : g2 ++ (g6 ++ (g7 ++ g8)) = (g2 ++ g6) ++ (g7 ++ g8) := by simp
        rw [q, q2]
        exact List.perm_append_comm.trans (List.Perm.append_right _ List.perm_append_comm)
      exact ((List.Perm.append_left fp pm).nodup_iff).mpr nd2
    refine ⟨by show (4 : Nat) ≤ sizeLine; decide, fun q hq0 => ?_⟩
    have hl2 : j < (((ss.set ip none).set ir none).set iv none).length := by rw [List.length_set, List.length_set, List.length_set]; exact hl
    refine hq q _ _ _ (ex.gr.trans ⟨fun b o e => ?_, fun b xs e => ?_⟩) (R5.fin (q := q) hl2 hn hq0)
    · rw [upd_ne (fun z => by subst z; rw [ex.fh _ _ e] at hq0; cases hq0)]
      exact e
    · show upd H1 q _ b = _
      rw [upd_ne (fun z => by subst z; rw [e] at hq0; cases hq0)]
      exact e)
/-- rows = [..]; if ring is not None: rows = [pair[0], pair[1], ring, v.ring] -/
theorem Sts.rows4 {x : Str} {ip ir iv j : Nat} {ps : List (Nat × List Nat)} {pr : List Int × List Int} {v : Ver} {l1 l2 : List Int} {ipos : Pos} {p0 : Pos} (k : Cok C X N P G) (d : Dok X N P) (hd0 : Dsp C Z X ss es2 ps) (hlen : ∀ σ H us, Pl C H σ ps us → us.length ≤ sizeLine) (ht : Cb C Z X (ss.set j none) c true) (hd : Dsp C Z X (ss.set j none) es [(ip, [0]), (ip, [1]), (ir, []), (iv, [1])])
    (hsp : (ss.set j none)[ip]? = some (some (oP oA oA pr))) (hsr : ((ss.set j none).set ip none)[ir]? = some (some (oA l1))) (hsv : (((ss.set j none).set ip none).set ir none)[iv]? = some (some (oVo v)))
    (e2 : v.ring = some l2) (hl : j < ss.length) (hn : ((((ss.set j none).set ip none).set ir none).set iv none)[j]? = some none)
    (h : ∀ q, Sts C Z X W (((((ss.set j none).set ip none).set ir none).set iv none).set j (some (.flst q ([pr.1, pr.2, l1, l2].map oA)))) sts ES ER fl) (hj : N[j]? = some x := by rfl) (hpj : P j = true := by rfl)
    (hs0 : swapsWith (.List es2 lpos2) (some (.Name x p0)) spos.line X.env = pure false := by rfl) (hs : swapsWith (.List es lpos) (some (.Name x p)) spos2.line X.env = pure false := by rfl) :
    Sts C Z X W ss (.Assign [.Name x p0] (.List es2 lpos2) spos :: .If c [.Assign [.Name x p] (.List es lpos) spos2] [] ipos :: sts) ES ER fl :=
  Sts.asgF k d hd0 hl hlen (Sts.step (ps_if pt_w pss_w pss_nil) fun σ F H D en hp => ht.te σ F H _ en fun F1 H1 e1 => by
    rw [if_pos rfl]
    exact mv4 k d hd hsp hsr hsv e2 (by rw [List.length_set]; exact hl) hn (en.ext e1) (fun q F' H' σ' g en' => (sts_iff.mp (h q)) σ' F' H' D en' (hp.mono (e1.gr.trans g))) hj hpj hs) hj hpj hs0
/-- if c: A, c not so -/
theorem Sts.ifF {spos : Pos} (ht : Cb C Z X ss c false) (h : Sts C Z X W ss sts ES ER fl) : Sts C Z X W ss (.If c A [] spos :: sts) ES ER fl :=
  Sts.step (ps_if pt_w pss_w pss_nil) fun σ F H D en hp => ht.te σ F H _ en fun F1 H1 e1 => by
    rw [if_neg Bool.false_ne_true]
    exact (sts_iff.mp h) σ F1 H1 D (en.ext e1) (hp.mono e1.gr)
/-- what is walked -/
def rows14 (pr : List Int × List Int) (f : Option Ver) (ring : Option (List Int)) : Option (List (List Int)) := f.bind fun v => match ring with
  | none => v.order.bind fun a => v.crowd.bind fun b => v.colours.bind fun c => some [pr.1, pr.2, a, b, c]
  | some r => v.ring.bind fun s => some [pr.1, pr.2, r, s]
end
end VL
namespace VL
open PySem PySem.Spec PyProof.Rows L2
theorem Pl.len {C : Cf} {H : Hp} {σ : L2.St} {ps : List (Nat × List Nat)} {us : List V} (h : Pl C H σ ps us) : us.length = ps.length := by
  induction h with
  | nil => rfl
  | cons _ _ _ ih => rw [List.length_cons, List.length_cons, ih]
end VL

set_option Elab.async false
set_option linter.all false
set_option maxRecDepth 100000
set_option maxHeartbeats 4000000
/-! VL35: texts split and joined. -/
namespace VL
open PySem PySem.Spec PyProof.Rows L2
theorem owns_strs {C : Cf} {Z F H : Hp} : ∀ {ys : List Str}, Owns C Z F H (ys.map (zz dS)) (ys.map V.str) []
  | [] => .nil
  | _ :: _ => .cons (f1 := []) (f2 := []) (.fz .sc) owns_strs
theorem dS_vals {C : Cf} {F H : Hp} : ∀ {ys : List Str} {vs : List V}, Rps C F H (ys.map dS) vs → vs = ys.map V.str
  | [], _, h => by cases h; rfl
  | y :: ys, _, h => by
    cases h with
    | cons a b =>
      cases a
      rw [dS_vals b]
      rfl
section
variable {C : Cf} {Z : Hp} {X : Cx} {N G : List Str} {P : Nat → Bool} {ss : En} {a b c e o : Expr} {pos p apos : Pos}
theorem Ev.globS (k : Cok C X N P G) (i : Nat) {x v : Str} (hm : ∃ t, X.mg x = some (.str v t)) (hi : G[i]? = some x := by rfl) : Ev C Z X ss (.Name x pos) (.frz (dS v)) := by
  obtain ⟨t, h⟩ := hm
  exact Ev.glob k i h ⟨t, rfl⟩ hi
theorem Ev.split {w sep : Str} (hb : (sep.length == 0) = false) (hz : w.length + 2 ≤ sizeLine) (ho : Ev C Z X ss o (.frz (dS w))) (he : Ev C Z X ss e (.frz (dS sep))) (hs : starEach [e] X.env = [(false, eval e X.env)] := by rfl) (hbase : attributeBase o "split" X.env (eval o X.env) = eval o X.env := by rfl)
    (hline : (apos.endLine == pos.line) = true := by rfl) : Ev C Z X ss (.Call (.Attribute o "split" apos) [e] [] pos) (.new (oL (zz dS) (Txt.split w sep))) := fun σ F H Q en hq pins s I =>
  (pe_split pe_w pe_w hs hbase hline).run pins s σ H Q I (ho σ F H _ en fun v F1 H1 e1 q1 => by
    cases q1
    exact ⟨⟨w, rfl⟩, he σ F1 H1 _ (en.ext e1) fun u F2 H2 e2 q2 => by
      cases q2
      refine ⟨w, sep, rfl, rfl, hb, hz, fun q hq' => ?_⟩
      have x := new_list e2.fh hq' (owns_strs (C := C) (Z := Z) (F := F2) (H := H2) (ys := Txt.split w sep))
      exact hq _ _ _ ((e1.trans e2).trans x.1) (RM.ok_old (e1.trans e2).hh x.2)⟩)
theorem Ev.join {sep : Str} {ys : List Str} (hz : (ys.map (·.length)).sum + ys.length * sep.length ≤ 16777216) (ho : Ev C Z X ss o (.frz (dS sep))) (he : Ev C Z X ss e (.cur (dL dS ys))) (hs : starEach [e] X.env = [(false, eval e X.env)] := by rfl) (hbase : attributeBase o "join" X.env (eval o X.env) = eval o X.env := by rfl)
    (hline : (apos.endLine == pos.line) = true := by rfl) : Ev C Z X ss (.Call (.Attribute o "join" apos) [e] [] pos) (.frz (dS (Txt.join sep ys))) := fun σ F H Q en hq pins s I =>
  (pe_join pe_w pe_w hs hbase hline).run pins s σ H Q I (ho σ F H _ en fun v F1 H1 e1 q1 => by
    cases q1
    exact ⟨⟨sep, rfl⟩, he σ F1 H1 _ (en.ext e1) fun u F2 H2 e2 q2 => by
      cases q2 with
      | lst hp hr =>
        rw [dS_vals hr] at hp
        exact ⟨sep, _, ys, rfl, rfl, .inl (.of hp), hz, hq _ F2 H2 (e1.trans e2) .sc⟩⟩)
end
end VL
namespace VL
open PySem PySem.Spec PyProof.Rows L2
theorem Ev.rmO_V {C : Cf} {Z : Hp} {X : Cx} {ss : En} {e : Expr} {α : Type} {g : α → O} (hg : ∀ x, rmO (g x) = .new (g x)) {v : Option α} (h : Ev C Z X ss e (.new (oO g v))) : Ev C Z X ss e (rmO (oO g v)) := by
  cases v with
  | none => exact Ev.frz_new h .fz
  | some x =>
    show Ev C Z X ss e (rmO (g x))
    rw [hg]
    exact h
end VL

set_option Elab.async false
set_option linter.all false
set_option maxRecDepth 100000
set_option maxHeartbeats 4000000
/-! VL36: items of several kinds; a def that hands over a new list of what is held. -/
namespace VL
open PySem PySem.Spec PyProof.Rows L2
/-- a number, or a list of numbers, or None -/
inductive Qv where
  | n (i : Int)
  | l (o : Option (List Int))
deriving DecidableEq
def dQ : Qv → D
  | .n i => dI i
  | .l o => dOL o
def Qv.ol : Qv → Option (Option (List Int))
  | .n _ => none
  | .l o => some o
def Qv.li : Qv → Option (List Int)
  | .l (some xs) => some xs
  | _ => none
def Qv.nn : Qv → Option Int
  | .n i => some i
  | _ => none
def Qv.fl : Qv → Option Unit
  | .l (some _) => none
  | _ => some ()
def Qv.isL : Qv → Bool
  | .l (some _) => true
  | _ => false
def Qv.non : Qv → Bool
  | .l none => true
  | _ => false
theorem Qv.ol_eq {q : Qv} {o : Option (List Int)} (h : q.ol = some o) : dQ q = dOL o := by
  cases q with
  | n i => cases h
  | l o' => cases h; rfl
theorem Qv.li_eq {q : Qv} {xs : List Int} (h : q.li = some xs) : dQ q = dL dI xs := by
  cases q with
  | n i => cases h
  | l o =>
    cases o with
    | none => cases h
    | some ys => cases h; rfl
theorem Qv.nn_eq {q : Qv} {i : Int} (h : q.nn = some i) : dQ q = dI i := by
  cases q with
  | n i => cases h; rfl
  | l o => cases h
theorem Qv.fl_flat {q : Qv} {u : Unit} (h : q.fl = some u) : Flat (dQ q) := by
  cases q with
  | n i => exact .sc
  | l o =>
    cases o with
    | none => exact .sc
    | some ys => cases h
theorem Qv.non_eq {q : Qv} : q.non = isNonD (dQ q) := by
  cases q with
  | n i => simp [Qv.non, dQ, isNonD]
  | l o =>
    cases o with
    | none => simp [Qv.non, dQ, dOL, dO, isNonD]
    | some ys => rfl
def kQ : Qv → PyData
  | .n i => .int i
  | .l none => .none
  | .l (some xs) => .list (xs.map .int)
theorem eqC_Q : EqC dQ kQ 1 where
  dp := fun {C K F H v q} s h => by
    cases q with
    | n i => exact eqC_I.dp s h
    | l o =>
      cases o with
      | none =>
        have h' : Rp C F H dN v := h
        cases h'
        exact .non
      | some xs => exact (eqC_L eqC_I).dp s (show Rp C F H (dL dI xs) v from h)
  eq := fun x y => by
    cases x with
    | n i =>
      cases y with
      | n j =>
        have q := eqC_I.eq i j
        show PyData.eqv (.int i) (.int j) = _
        rw [q]
        by_cases e : i = j
        · subst e; simp
        · simp [e]
      | l o =>
        cases o with
        | none => simp [kQ, PyData.eqv]
        | some ys => simp [kQ, PyData.eqv]
    | l o =>
      cases o with
      | none =>
        cases y with
        | n j => simp [kQ, PyData.eqv]
        | l o' =>
          cases o' with
          | none => simp [kQ, PyData.eqv]
          | some ys => simp [kQ, PyData.eqv]
      | some xs =>
        cases y with
        | n j => simp [kQ, PyData.eqv]
        | l o' =>
          cases o' with
          | none => simp [kQ, PyData.eqv]
          | some ys =>
            have q := (eqC_L eqC_I).eq xs ys
            show PyData.eqv (.list (xs.map .int)) (.list (ys.map .int)) = _
            rw [q]
            by_cases e : xs = ys
            · subst e; simp
            · simp [e]
  lay := fun x => by
    cases x with
    | n i => rfl
    | l o =>
      cases o with
      | none => rfl
      | some xs => exact (eqC_L eqC_I).lay xs
  dep := fun x => by
    cases x with
    | n i => exact Nat.zero_le _
    | l o =>
      cases o with
      | none => exact Nat.zero_le _
      | some xs => exact (eqC_L eqC_I).dep xs
section
variable {C : Cf} {Z : Hp} {X : Cx} {N G : List Str} {P : Nat → Bool} {ss ss' : En} {a b c e e2 tg iter elt o : Expr} {rest es ifs : List Expr} {pos p p2 apos : Pos} {ra rb rz rm : RM} {α β γ : Type} {z q : Bool}
variable {W : Nat → Hp → Prop} {S S' R : Type} {ES : S → En} {ES' : S' → En} {ER : R → RM} {st : Stmt} {blk sts A B : List Stmt} {fl : Fl S R} {spos : Pos}
theorem Ev.castz {d d' : D} (h : d = d') (he : Ev C Z X ss e (.frz d)) : Ev C Z X ss e (.frz d') := h ▸ he
theorem Ev.castn {d d' : D} (h : d = d') (he : Ev C Z X ss e (.nrz d)) : Ev C Z X ss e (.nrz d') := h ▸ he
theorem Ev.castc {d d' : D} (h : d = d') (he : Ev C Z X ss e (.cur d)) : Ev C Z X ss e (.cur d') := h ▸ he
/-- isinstance(q, list) -/
theorem Ev.isQ {x : Qv} (k : Cok C X N P G) (i j : Nat) (hbt : X.mg (Str.ofString "list") = none) (ha : Ev C Z X ss a (.cur (dQ x))) (hi : G[i]? = some ("isinstance" : Str) := by rfl) (hj : G[j]? = some (Str.ofString "list") := by rfl)
    (na : starEach [a, .Name (Str.ofString "list") p2] X.env = (false, eval a X.env) :: starEach [.Name (Str.ofString "list") p2] X.env := by rfl) : Ev C Z X ss (.Call (.Name "isinstance" p) [a, .Name (Str.ofString "list") p2] [] pos) (.frz (dB x.isL)) := by
  cases x with
  | n n => exact Ev.isi (T := "int") (U := "list") (r := false) k i j rfl (by decide) (by decide +kernel) hbt (by decide +kernel) ha hi hj na
  | l o =>
    cases o with
    | none => exact Ev.isi (T := "NoneType") (U := "list") (r := false) k i j rfl (by decide) (by decide +kernel) hbt (by decide +kernel) ha hi hj na
    | some xs => exact Ev.isi (T := "list") (U := "list") (r := true) k i j rfl (by decide) (by decide +kernel) hbt (by decide +kernel) ha hi hj na
end
/-! ### a def that hands over a new list, its items what is held -/
/-- such a def's promise: the list is new, what its items are stands in the heap without it -/
def spI (C : Cf) (ds : List D) (r : Res (List D)) : Sp := fun vs H Q _ => Rps C H H ds vs ∧ match r with
  | .ok qs => ∀ (p : Addr) (us : List V) (H' M : Hp), Same H H' → H p = none → H' p = some (.lst us) → Same M H' → M p = none → Rps C M H' qs us → Q (.ref p) H'
  | .exc _ => False
  | .bad => False
def CalI (P : Program) (w : World) (K : PySem.W.Frag) (mg : Str → Option Value) (base : Heap) (A : Around) (C : Cf) (x : Str) (ds : List D) (r : Res (List D)) : Prop :=
  ∃ (k : Nat) (f : Addr) (fd : FuncData) (ps : List Str) (sp : Sp), Room k A ∧ FnOk P w K mg base (L2N.CX P w) k f fd ps sp ∧ mg x = some (.ref f) ∧ PySem.W.keepIn K (.ref f) = true ∧ Binds K fd ps [] ∧ ∀ vs H Q E, spI C ds r vs H Q E → sp vs H Q E
theorem Cld.calI {P : Program} {w : World} {K : PySem.W.Frag} {mg : Str → Option Value} {base : Heap} {C : Cf} {j k : Nat} {x : Str} {sp : Sp} {A : Around} {ds : List D} {r : Res (List D)} (h : Cld P w K mg base j x sp) (hr : Room k A) (hj : j ≤ k) (hs : ∀ vs H Q E, spI C ds r vs H Q E → sp vs H Q E) : CalI P w K mg base A C x ds r := by
  obtain ⟨f, fd, ps, h1, h2, h3, h4⟩ := h
  exact ⟨j, f, fd, ps, sp, hr.mono hj, h1, h2, h3, h4, hs⟩
theorem calI_ok {P : Program} {w : World} {K : PySem.W.Frag} {mg : Str → Option Value} {base : Heap} {A : Around} {C : Cf} {x : Str} {ds : List D} {α : Type} {r : Res α} {m : α → List D} {y : α} (h : CalI P w K mg base A C x ds (r.map m)) (e : r.get = some y) : CalI P w K mg base A C x ds (.ok (m y)) := by
  rw [Res.get_ok e] at h
  exact h
theorem rps_owns {C : Cf} {Z F H : Hp} {α : Type} {g : α → D} : ∀ {xs : List α} {vs : List V} {fp : List Addr}, Owns C Z F H (xs.map (zz g)) vs fp → Rps C F H (xs.map g) vs
  | [], _, _, h => by cases h; exact .nil
  | x :: xs, _, _, h => by
    cases h with
    | cons a b =>
      cases a with
      | fz a => exact .cons a (rps_owns b)
section
variable {C : Cf} {Z : Hp} {X : Cx} {N G : List Str} {P : Nat → Bool} {ss ss' : En} {a b c e e2 tg iter elt o : Expr} {rest es ifs : List Expr} {pos p p2 apos : Pos} {ra rb rz rm : RM} {α β γ : Type} {z q : Bool}
variable {W : Nat → Hp → Prop} {S S' R : Type} {ES : S → En} {ES' : S' → En} {ER : R → RM} {st : Stmt} {blk sts A B : List Stmt} {fl : Fl S R} {spos : Pos}
/-- x = f(..), such a def; nothing is owned here: all is frozen but the new list -/
theorem Sts.asgI {x fx : Str} {v : List α} (g : α → D) {ds : List D} {fl : List α → Fl S R} {i : Nat} (j : Nat) (k : Cok C X N P G) (d : Dok X N P) (hc : CalI X.prog X.w X.K X.mg X.base X.A C fx ds (.ok (v.map g))) (hargs : Ea C Z X ss (e :: es) ds) (hl : i < ss.length) (ha : ss.all leafS = true)
    (h : ∀ y, y = v → Sts C Z X W (ss.set i (some (oL (zz g) y))) sts ES ER (fl y)) (hi : N[i]? = some x := by rfl) (hpi : P i = true := by rfl) (hj : G[j]? = some fx := by rfl) (he1 : starEach (e :: es) X.env = (false, eval e X.env) :: starEach es X.env := by rfl)
    (hpl : (backTo pos (starEach es X.env)).any (·.1) = false := by rfl) (hs : swapsWith (.Call (.Name fx p2) (e :: es) [] pos) (some (.Name x p)) spos.line X.env = pure false := by rfl) :
    Sts C Z X W ss (.Assign [.Name x p] (.Call (.Name fx p2) (e :: es) [] pos) spos :: sts) ES ER (Fl.lt v fl) :=
  Sts.step (ps_set (i := i) (by rw [k.hN]; exact k.nd) (by rw [k.hN]; exact hi) (d.loc i x hpi hi) pe_w hs (.inl (d.fn x))) fun σ F H D en hp => fun pins s I => by
    obtain ⟨n, f, fd, ps, sp, hr, FO, hm, hk, hb, hsp⟩ := hc
    refine (pe_callS (E := fun _ _ _ _ => False) FO hr (k.gl j fx hj).1 hm hk hb (fun σ => pass_none) pa_w (k.gl j fx hj).2.1 he1 hpl).run pins s σ H _ I ?_
    refine hargs σ F H _ en fun vs F1 H1 e1 q1 => hsp _ _ _ _ ⟨q1, fun p us H' M s1 hp1 hp2 s2 hm2 r2 => ?_⟩
    have en1 := en.ext e1
    obtain ⟨fp, sl, nd⟩ := en1.sl
    have sl2 := Slots.all ha en1.fh sl
    -- all but the new list
    let F2 : Hp := fun a => if a = p then none else H' a
    have f2p : F2 p = none := if_pos rfl
    have f2 : ∀ {a : Addr}, a ≠ p → F2 a = H' a := fun h => if_neg h
    have sF : Same H1 F2 := fun a u hu => by
      rw [f2 (fun z => by subst z; rw [hp1] at hu; cases hu)]
      exact s1 _ _ hu
    have sH : Same F2 H' := fun a u hu => by
      by_cases z : a = p
      · subst z; rw [f2p] at hu; cases hu
      · rw [f2 z] at hu; exact hu
    have sM : Same M F2 := fun a u hu => by
      rw [f2 (fun z => by subst z; rw [hm2] at hu; cases hu)]
      exact s2 _ _ hu
    have x1 : Ext H1 H1 F2 H' := ⟨sF, s1, sH, fun a h1 h2 => absurd h2 h1⟩
    have en2 : EnvOk C Z ss H1 H1 σ := ⟨en1.zf.trans en1.fh, Same.refl H1, [], sl2, List.nodup_nil⟩
    have ow : Own C Z F2 H' (oL (zz g) v) (.ref p) [p] := .lst (fp := []) f2p hp2 (owns_zz (r2.mono sM (Tst.refl _)))
    have en3 : EnvOk C Z (ss.set i (some (oL (zz g) v))) F2 H' (σ.set i (some (.ref p))) := en2.putN x1 hl (show (RM.new (oL (zz g) v)).ok C Z H1 (.ref p) F2 H' from ⟨[p], ow, fun b hb => by rw [List.mem_singleton.mp hb]; exact hp1, by simp⟩)
    exact (sts_iff.mp (h _ rfl)) _ F2 H' D en3 (Post.mono ⟨(e1.ff.trans e1.fh).trans sF, fun x xs q => s1 _ _ (e1.gr.tt x xs q)⟩ hp)
end
section
variable {P : Program} {w : World} {K : PySem.W.Frag} {mg : Str → Option Value} {base : Heap} {C : Cf}
/-- fn_walk of such a def -/
theorem fn_walkI {st : Stmt} {x qual : Str} {f : Addr} {fd : FuncData} {N ps G : List Str} {k : Nat} {ι R : Type} {ds : ι → List D} {o : ι → Fl Unit R} {un : Option R} {α : Type} {g : α → D} {tl_ : R → List α} {ER : ι → R → RM} (F : Fun K x qual st f fd) (S : FnScope N ps (defScope st)) (m : Nat) (B : defB (N.take m) G (defScope st) = true)
    (hK : C.K = K) (bt : Bt mg) (hl : ∀ i, (ds i).length = ps.length) (fin : ∀ i r, ER i r = .new (oL (zz g) (tl_ r))) (hun : un = none)
    (body : ∀ (X : Cx) (Z : Hp) (W : Nat → Hp → Prop), X.prog = P → X.w = w → X.K = K → X.mg = mg → X.base = base → X.env.scope = defScope st → Cok C X N (fun i => Nat.blt i m) G → Dok X N (fun i => Nat.blt i m) → Room k X.A → L2N.Takes X (WXc C W) → X.stack = X.env :: X.outer → X.env.frame = some X.env.locals → ∀ i, Sts C Z X W (start0 (ds i) N.length) (defBody st) (fun _ => (List.replicate N.length none : En)) (ER i) (o i)) :
    FnOk P w K mg base (L2N.CX P w) (k + 1) f fd ps (fun vs H Q E => ∃ i, spI C (ds i) (((o i).res un).map fun r => (tl_ r).map g) vs H Q E) := by
  subst hun
  obtain ⟨oc, od, kV, doc, pm, an, cdv, ct, osl, rfl, lk, hcd⟩ := F.ex
  refine fn_of lk hcd S (fun vs H Q E h => ?_) fun A outer s H vs Q E hr hsp => ?_
  · obtain ⟨i, h, _⟩ := h
    rw [← h.length]
    exact hl i
  · obtain ⟨i, hv, hq⟩ := hsp
    refine ⟨_, pss_w, ?_⟩
    unfold defB at B
    rw [Bool.and_eq_true, List.all_eq_true, List.all_eq_true] at B
    obtain ⟨B1, B2⟩ := B
    have nm : ∀ (j : Nat) x, Nat.blt j m = true → N[j]? = some x → (Loc (defScope st) x) ∧ (x == ("__debug__" : Str)) = false ∧ (x == ("__classdict__" : Str)) = false := fun j x hj hx => by
      have q := B1 x (List.mem_of_getElem? (i := j) (by rw [List.getElem?_take, if_pos (Nat.blt_eq.mp hj)]; exact hx))
      simp only [Bool.and_eq_true, Bool.not_eq_true'] at q
      obtain ⟨⟨q1, q2⟩, q3⟩ := q
      refine ⟨?_, q2, q3⟩
      split at q1
      · exact .inl (by assumption)
      · exact .inr (by assumption)
      · cases q1
    have ck : Cok C (cxOf (L2N.CX P w) P w K mg base N qual (defScope st) f cdv A outer s H E) N (fun i => Nat.blt i m) G := by
      refine ⟨hK.symm, rfl, S.nd, fun j x hj hx => ?_, fun j x hx => ?_, rfl, hr.units, bt, Nat.lt_of_le_of_lt (Nat.le_trans (Nat.add_le_add_left (by decide : 65 ≤ 200) _) (Nat.add_le_add_right (Nat.le_add_right _ _) 200)) hr.un⟩
      · obtain ⟨h1, h2, h3⟩ := nm j x hj hx
        exact ⟨h1.elim .inl fun z => .inr (.inl z), h2, h3⟩
      · have q := B2 x (List.mem_of_getElem? hx)
        simp only [Bool.and_eq_true, Bool.not_eq_true', decide_eq_false_iff_not] at q
        obtain ⟨⟨q1, q2⟩, q3⟩ := q
        refine ⟨?_, q2, q3⟩
        split at q1
        · assumption
        · cases q1
    have dk : Dok (cxOf (L2N.CX P w) P w K mg base N qual (defScope st) f cdv A outer s H E) N (fun i => Nat.blt i m) := ⟨fun j x hj hx => (nm j x hj hx).1, fun _ => rfl, passes_of (K := fun e s'' => L2N.CX P w outer H s E e s'') rfl⟩
    have tk : L2N.Takes (cxOf (L2N.CX P w) P w K mg base N qual (defScope st) f cdv A outer s H E) (WXc C fun c H' => E (C.ex c) none H') :=
      L2N.Takes.imp (L2N.takes_of rfl rfl rfl rfl) fun cls d σ H' h => by
        obtain ⟨c, rfl, rfl, h⟩ := h
        exact h
    have en : EnvOk C H (start0 (ds i) N.length) H H (start N vs) := by
      refine ⟨Same.refl H, Same.refl H, [], ?_, List.nodup_nil⟩
      unfold start0 L2.start
      rw [← hv.length]
      exact slots_start _ hv
    refine (sts_iff.mp (body _ H (fun c H' => E (C.ex c) none H') rfl rfl rfl rfl rfl rfl ck dk hr tk rfl rfl i)) (start N vs) H H _ en ?_
    cases ho : o i with
    | nx u =>
      rw [ho] at hq
      exact fun σ' F' H' g e => hq.elim
    | rt r =>
      rw [ho] at hq
      intro v F' H' g' s' q
      have hq' : ∀ (p : Addr) (us : List V) (H' M : Hp), Same H H' → H p = none → H' p = some (.lst us) → Same M H' → M p = none → Rps C M H' ((tl_ r).map g) us → Q (.ref p) H' := hq
      rw [fin i r] at q
      obtain ⟨fp, ow, h0, nd⟩ := q
      cases ow with
      | lst hf hp hr2 =>
        rename_i p us g2
        exact hq' p us H' F' (g'.ff.trans s') (h0 _ List.mem_cons_self) hp s' hf (rps_owns hr2)
    | exc c =>
      rw [ho] at hq
      exact hq.elim
    | bad =>
      rw [ho] at hq
      exact hq.elim
end
end VL

set_option Elab.async false
set_option linter.all false
set_option maxRecDepth 100000
set_option maxHeartbeats 4000000
/-! VL37: lists lent to a def that changes them. -/
namespace VL
open PySem PySem.Spec PyProof.Rows L2
section
variable {C : Cf} {Z F F' H H' F1 H1 : Hp} {ss : En} {σ : L2.St} {fp : List Addr}
/-- an owned list in a slot, and what may be put in its place -/
theorem Slots.rewrP {q0 : Addr} {i : Nat} {os : List O} (sl : Slots C Z F H ss σ fp) (nd : fp.Nodup) (zf : Same Z F) (fh : Same F H) (hs : ss[i]? = some (some (.pin q0 (.lst os)))) : ∃ p vs g f2, σ[i]? = some (some (.ref p)) ∧ F p = none ∧ H p = some (.lst vs) ∧ Owns C Z F H os vs g ∧ (p :: g ++ f2).Perm fp ∧ Slots C Z F H (ss.set i none) σ f2 ∧
    ∀ F1 H1, Ext F H F1 H1 → ∀ vs' os' g', Owns C Z F1 H1 os' vs' g' → (p :: g' ++ f2).Nodup → EnvOk C Z (ss.set i (some (.pin q0 (.lst os')))) F1 (upd H1 p (.lst vs')) σ ∧ Gr F1 H1 F1 (upd H1 p (.lst vs')) := by
  obtain ⟨v, f1, f2, h1, h2, h3, h4⟩ := sl.get hs
  cases h2 with
  | pin h2 =>
  cases h2 with
  | lst hf hp hr =>
    obtain ⟨p, hp0⟩ : ∃ p, p = q0 := ⟨_, rfl⟩
    rename_i vs g
    subst hp0
    refine ⟨p, vs, g, f2, h1, hf, hp, hr, h4, h3, fun F1 H1 ex vs' os' g' ow nd' => ?_⟩
    have hi : i < ss.length := (List.getElem?_eq_some_iff.mp hs).1
    have hp1 := ex.hh _ _ hp
    have hf1 := ex.ow p (by rw [hp]; simp) hf
    have ts := tst_upd (vs' := vs') hp1
    have n1 : ∀ a ∈ f2, a ≠ p := fun a q z => by
      subst z
      have := List.nodup_append.mp nd'
      exact this.2.2 a List.mem_cons_self a q rfl
    have n2 : ∀ a ∈ g', a ≠ p := fun a q z => by
      subst z
      have := (List.nodup_append.mp nd').1
      exact (List.nodup_cons.mp this).1 q
    have s2 := (h3.ext ex).frame ts fun a q => upd_ne (n1 a q)
    have o2 : Own C Z F1 (upd H1 p (.lst vs')) (.pin p (.lst os')) (.ref p) (p :: g') := .pin <| .lst hf1 upd_same (ow.frame ts fun a q => upd_ne (n2 a q))
    refine ⟨EnvOk.back s2 h1 o2 hi nd' (zf.trans ex.ff) fun b o q => ?_, Same.refl F1, ts⟩
    rw [upd_ne (fun z => by subst z; rw [hf1] at q; cases q)]
    exact ex.fh b o q
end
section
variable {C : Cf} {Z : Hp} {X : Cx} {N G : List Str} {P : Nat → Bool} {ss ss' : En} {a b c e e2 tg iter elt : Expr} {rest es : List Expr} {pos p p2 apos : Pos} {r r' ra rb rz : RM} {α β γ : Type} {z q : Bool}
variable {W : Nat → Hp → Prop} {S S' R : Type} {ES : S → En} {ES' : S' → En} {ER : R → RM} {st : Stmt} {blk sts A B : List Stmt} {fl : Fl S R} {spos : Pos}
theorem Sts.appendQ {q0 : Addr} {x : Str} {o : O} {os : List O} (i : Nat) (k : Cok C X N P G) (he : Ev C Z X ss e (rmO o)) (hz : os.length < sizeLine) (h : Sts C Z X W (ss.set i (some (.pin q0 (.lst (os ++ [o]))))) sts ES ER fl) (hi : N[i]? = some x := by rfl) (hs : ss[i]? = some (some (.pin q0 (.lst os))) := by rfl) (hp : P i = true := by rfl)
    (hfew : ((backTo pos (starEach [e] X.env)).all (fun x => !x.1) && (backToKw pos (keywordEach [] X.env)).all (fun x => x.1.isSome) && decide ([e].length + ([] : List Keyword).length + (if ([] : List Keyword).isEmpty then 0 else 1) < 30)) = true := by rfl)
    (hline : (apos.endLine == pos.line) = true := by rfl) (hst : starEach [e] X.env = (false, eval e X.env) :: starEach [] X.env := by rfl) : Sts C Z X W ss (.Expr (.Call (.Attribute (.Name x p) "append" apos) [e] [] pos) spos :: sts) ES ER fl :=
  Sts.step (ps_expr (pe_bm PySem.F.plainAttrs_list PySem.F.slot_list_append PySem.F.type_list_append mt_append pe_w (pa_cons pe_w pa_nil hst) rfl hfew hline hst rfl)) fun σ F H D en hq => by
    obtain ⟨fp, sl, nd⟩ := en.sl
    obtain ⟨l, vs, g, f2, h1, hf, h2, h3, h4, hr2, h5⟩ := sl.rewrP nd en.zf en.fh hs
    refine Ev.slot (o := .lst os) k hi hp h1 ⟨.inl ⟨rfl, _, .of h2⟩, ?_⟩
    refine he σ F H _ en fun v F1 H1 e1 q1 => ?_
    obtain ⟨g2, og, n2, d2⟩ := rmO_ok q1
    refine ⟨l, vs, v, rfl, rfl, e1.hh _ _ h2, by rw [← h3.length]; exact hz, ?_⟩
    have old : ∀ a ∈ l :: g ++ f2, H a ≠ none := fun a q => (sl.gone a (h4.subset q)).2
    have nd0 : (l :: g ++ f2).Nodup := (h4.nodup_iff).mpr nd
    have big : (l :: (g ++ (g2 ++ [])) ++ f2).Nodup := by
      rw [List.append_nil]
      have pm : (l :: (g ++ g2) ++ f2).Perm (g2 ++ (l :: g ++ f2)) := by
        have q1 : (l :: (g ++ g2) ++ f2) = (l :: g) ++ (g2 ++ f2) := by simp
        have q2 : (g2 ++ (l :: g ++ f2)).Perm ((l :: g) ++ (g2 ++ f2)) := by
          rw [← List.append_assoc, ← List.append_assoc]
          exact List.Perm.append_right _ List.perm_append_comm
        rw [q1]
        exact q2.symm
      exact (pm.nodup_iff).mpr (List.nodup_append.mpr ⟨d2, nd0, fun y hy w hw z => by subst z; exact old y hw (n2 y hy)⟩)
    obtain ⟨en2, g3⟩ := h5 F1 H1 e1 (vs ++ [v]) (os ++ [o]) (g ++ (g2 ++ [])) (Owns.append (h3.ext e1) (.cons og .nil)) big
    exact (sts_iff.mp h) σ F1 _ D en2 (Post.mono (e1.gr.trans g3) hq)
theorem Sts.meth0P {q0 : Addr} {x : Str} {nm : Str} {id : String} {f : V → List V → Hp → VK → Prop} {os os' : List O} (i : Nat) (k : Cok C X N P G) (pa : PlainAttrs "list") (slot : Slot "list" nm id) (hty : typeOf (.builtin id) = pure (.type "method_descriptor")) (hm : MtR X id f)
    (hr : ∀ (l : Addr) (F H : Hp) (vs : List V) (g : List Addr) (Q : VK), H l = some (.lst vs) → Owns C Z F H os vs g → (∀ vs' g', Owns C Z F H os' vs' g' → g'.Sublist g → Q .non (upd H l (.lst vs'))) → f (.ref l) [] H Q)
    (h : Sts C Z X W (ss.set i (some (.pin q0 (.lst os')))) sts ES ER fl) (hi : N[i]? = some x := by rfl) (hs : ss[i]? = some (some (.pin q0 (.lst os))) := by rfl) (hp : P i = true := by rfl) (hline : (apos.endLine == pos.line) = true := by rfl) : Sts C Z X W ss (.Expr (.Call (.Attribute (.Name x p) nm apos) [] [] pos) spos :: sts) ES ER fl :=
  Sts.step (ps_expr (pe_bm0 pa slot hty hm pe_w rfl hline)) fun σ F H D en hq => by
    obtain ⟨fp, sl, nd⟩ := en.sl
    obtain ⟨l, vs, g, f2, h1, hf, h2, h3, h4, hr2, h5⟩ := sl.rewrP nd en.zf en.fh hs
    refine Ev.slot (o := .lst os) k hi hp h1 ⟨.inl ⟨rfl, _, .of h2⟩, ?_⟩
    refine hr l F H vs g _ h2 h3 fun vs' g' ow sub => ?_
    have nd0 : (l :: g ++ f2).Nodup := (h4.nodup_iff).mpr nd
    have nd1 : (l :: g' ++ f2).Nodup := nd0.sublist (List.Sublist.append (List.Sublist.cons_cons l sub) (List.Sublist.refl _))
    obtain ⟨en2, g3⟩ := h5 F H (Ext.refl en.fh) vs' os' g' ow nd1
    exact (sts_iff.mp h) σ F _ D en2 (Post.mono g3 hq)
theorem Sts.clearP {q0 : Addr} {x : Str} {os : List O} (i : Nat) (k : Cok C X N P G) (h : Sts C Z X W (ss.set i (some (.pin q0 (.lst [])))) sts ES ER fl) (hi : N[i]? = some x := by rfl) (hs : ss[i]? = some (some (.pin q0 (.lst os))) := by rfl) (hp : P i = true := by rfl) (hline : (apos.endLine == pos.line) = true := by rfl) :
    Sts C Z X W ss (.Expr (.Call (.Attribute (.Name x p) "clear" apos) [] [] pos) spos :: sts) ES ER fl :=
  Sts.meth0P i k PySem.F.plainAttrs_list PySem.F.slot_list_clear PySem.F.type_list_clear mt_clear (fun l F H vs g Q h1 h2 hq => ⟨l, vs, rfl, rfl, h1, hq [] [] .nil (List.nil_sublist _)⟩) h hi hs hp hline
theorem Sts.meth1P {q0 : Addr} {x : Str} {nm : Str} {id : String} {f : V → List V → Hp → VK → Prop} {os os' : List O} {rm : RM} (i : Nat) (k : Cok C X N P G) (pa : PlainAttrs "list") (slot : Slot "list" nm id) (hty : typeOf (.builtin id) = pure (.type "method_descriptor")) (hm : MtR X id f) (he : Ev C Z X ss e rm)
    (hr : ∀ (l : Addr) (v : V) (F H H0 : Hp) (vs : List V) (g : List Addr) (Q : VK), Same F H → H l = some (.lst vs) → Owns C Z F H os vs g → rm.ok C Z H0 v F H → (∀ vs' g', Owns C Z F H os' vs' g' → g'.Sublist g → Q .non (upd H l (.lst vs'))) → f (.ref l) [v] H Q)
    (h : Sts C Z X W (ss.set i (some (.pin q0 (.lst os')))) sts ES ER fl) (hi : N[i]? = some x := by rfl) (hs : ss[i]? = some (some (.pin q0 (.lst os))) := by rfl) (hp : P i = true := by rfl)
    (hfew : ((backTo pos (starEach [e] X.env)).all (fun x => !x.1) && (backToKw pos (keywordEach [] X.env)).all (fun x => x.1.isSome) && decide ([e].length + ([] : List Keyword).length + (if ([] : List Keyword).isEmpty then 0 else 1) < 30)) = true := by rfl)
    (hline : (apos.endLine == pos.line) = true := by rfl) (hst : starEach [e] X.env = (false, eval e X.env) :: starEach [] X.env := by rfl) : Sts C Z X W ss (.Expr (.Call (.Attribute (.Name x p) nm apos) [e] [] pos) spos :: sts) ES ER fl :=
  Sts.step (ps_expr (pe_bm pa slot hty hm pe_w (pa_cons pe_w pa_nil hst) rfl hfew hline hst rfl)) fun σ F H D en hq => by
    obtain ⟨fp, sl, nd⟩ := en.sl
    obtain ⟨l, vs, g, f2, h1, hf, h2, h3, h4, hr2, h5⟩ := sl.rewrP nd en.zf en.fh hs
    refine Ev.slot (o := .lst os) k hi hp h1 ⟨.inl ⟨rfl, _, .of h2⟩, ?_⟩
    refine he σ F H _ en fun v F1 H1 e1 q1 => ?_
    refine hr l v F1 H1 H vs g _ e1.fh (e1.hh _ _ h2) (h3.ext e1) q1 fun vs' g' ow sub => ?_
    have nd0 : (l :: g ++ f2).Nodup := (h4.nodup_iff).mpr nd
    have nd1 : (l :: g' ++ f2).Nodup := nd0.sublist (List.Sublist.append (List.Sublist.cons_cons l sub) (List.Sublist.refl _))
    obtain ⟨en2, g3⟩ := h5 F1 H1 e1 vs' os' g' ow nd1
    exact (sts_iff.mp h) σ F1 _ D en2 (Post.mono (e1.gr.trans g3) hq)
theorem Sts.extendP {q0 : Addr} {x : Str} {os ps : List O} (i : Nat) (k : Cok C X N P G) (he : Ev C Z X ss e (.itm ps)) (hz : os.length + ps.length ≤ sizeLine) (h : Sts C Z X W (ss.set i (some (.pin q0 (.lst (os ++ ps))))) sts ES ER fl) (hi : N[i]? = some x := by rfl) (hs : ss[i]? = some (some (.pin q0 (.lst os))) := by rfl) (hp : P i = true := by rfl)
    (hfew : ((backTo pos (starEach [e] X.env)).all (fun x => !x.1) && (backToKw pos (keywordEach [] X.env)).all (fun x => x.1.isSome) && decide ([e].length + ([] : List Keyword).length + (if ([] : List Keyword).isEmpty then 0 else 1) < 30)) = true := by rfl)
    (hline : (apos.endLine == pos.line) = true := by rfl) (hst : starEach [e] X.env = (false, eval e X.env) :: starEach [] X.env := by rfl) : Sts C Z X W ss (.Expr (.Call (.Attribute (.Name x p) "extend" apos) [e] [] pos) spos :: sts) ES ER fl :=
  Sts.meth1P i k PySem.F.plainAttrs_list PySem.F.slot_list_extend PySem.F.type_list_extend mt_extend he (fun l v F H H0 vs g Q fh h1 h2 h3 hq => by
    obtain ⟨m, ws, rfl, hm, ow⟩ := h3
    refine ⟨l, m, vs, ws, rfl, rfl, h1, hm, by rw [← h2.length, ← ow.length]; exact hz, ?_⟩
    exact hq _ (g ++ []) (Owns.append h2 ow) (by rw [List.append_nil]; exact List.Sublist.refl _)) h hi hs hp hfew hline hst
theorem Sts.appLP {q0 : Addr} {x : Str} {f : α → O} {xs : List α} {v : α} {kf : List α → Fl S R} (i : Nat) (k : Cok C X N P G) (he : Ev C Z X ss e (rmO (f v))) (h : ∀ y, y = xs ++ [v] → Sts C Z X W (ss.set i (some (.pin q0 (oL f y)))) sts ES ER (kf y)) (hi : N[i]? = some x := by rfl) (hs : ss[i]? = some (some (.pin q0 (oL f xs))) := by rfl) (hp : P i = true := by rfl)
    (hfew : ((backTo pos (starEach [e] X.env)).all (fun x => !x.1) && (backToKw pos (keywordEach [] X.env)).all (fun x => x.1.isSome) && decide ([e].length + ([] : List Keyword).length + (if ([] : List Keyword).isEmpty then 0 else 1) < 30)) = true := by rfl)
    (hline : (apos.endLine == pos.line) = true := by rfl) (hst : starEach [e] X.env = (false, eval e X.env) :: starEach [] X.env := by rfl) : Sts C Z X W ss (.Expr (.Call (.Attribute (.Name x p) "append" apos) [e] [] pos) spos :: sts) ES ER (Fl.app xs v kf) := by
  unfold Fl.app
  refine Sts.chk fun hz => ?_
  · refine Sts.appendQ (q0 := q0) (os := xs.map f) i k he (by simpa using hz) ?_ hi hs hp hfew hline hst
    have q := h _ rfl
    unfold oL at q
    rw [List.map_append] at q
    exact q
theorem Sts.clearLP {q0 : Addr} {x : Str} {f : α → O} {xs : List α} {kf : List α → Fl S R} (i : Nat) (k : Cok C X N P G) (h : ∀ y, y = [] → Sts C Z X W (ss.set i (some (.pin q0 (oL f y)))) sts ES ER (kf y)) (hi : N[i]? = some x := by rfl) (hs : ss[i]? = some (some (.pin q0 (oL f xs))) := by rfl) (hp : P i = true := by rfl) (hline : (apos.endLine == pos.line) = true := by rfl) :
    Sts C Z X W ss (.Expr (.Call (.Attribute (.Name x p) "clear" apos) [] [] pos) spos :: sts) ES ER (Fl.lt [] kf) := Sts.clearP (q0 := q0) (os := xs.map f) i k (h [] rfl) hi hs hp hline
theorem Sts.extLP {q0 : Addr} {x : Str} {f : α → O} {xs ys : List α} {kf : List α → Fl S R} (i : Nat) (k : Cok C X N P G) (he : Ev C Z X ss e (.itm (ys.map f))) (h : ∀ y, ext? xs ys = some y → Sts C Z X W (ss.set i (some (.pin q0 (oL f y)))) sts ES ER (kf y)) (hi : N[i]? = some x := by rfl) (hs : ss[i]? = some (some (.pin q0 (oL f xs))) := by rfl) (hp : P i = true := by rfl)
    (hfew : ((backTo pos (starEach [e] X.env)).all (fun x => !x.1) && (backToKw pos (keywordEach [] X.env)).all (fun x => x.1.isSome) && decide ([e].length + ([] : List Keyword).length + (if ([] : List Keyword).isEmpty then 0 else 1) < 30)) = true := by rfl)
    (hline : (apos.endLine == pos.line) = true := by rfl) (hst : starEach [e] X.env = (false, eval e X.env) :: starEach [] X.env := by rfl) : Sts C Z X W ss (.Expr (.Call (.Attribute (.Name x p) "extend" apos) [e] [] pos) spos :: sts) ES ER (Fl.req (ext? xs ys) kf) := by
  cases hq : ext? xs ys with
  | none => exact Sts.bad
  | some y =>
    have q := h y hq
    unfold ext? at hq
    obtain ⟨hz, hq⟩ := ifO_some.mp hq
    cases hq
    refine Sts.extendP (q0 := q0) (os := xs.map f) (ps := ys.map f) i k he (by simpa using hz) ?_ hi hs hp hfew hline hst
    unfold oL at q
    rw [List.map_append] at q
    exact q

/-- return e, and what stands in two lent lists -/
theorem Sts.retPins {r : R} {i j : Nat} {p1 p3 : Addr} {o1 o2 : O} {d : D} (hr : ER r = .pins d [(p1, o1), (p3, o2)]) (hij : i ≠ j) (he : Ev C Z X ss e (.frz d)) (hs : ss[i]? = some (some (.pin p1 o1)) := by rfl) (hs2 : ss[j]? = some (some (.pin p3 o2)) := by rfl) : Sts C Z X W ss (.Return (some e) spos :: sts) ES ER (.rt r) :=
  Sts.step (ps_ret pe_w) fun σ F H D en hp => he σ F H _ en fun v F1 H1 e1 q1 => by
    have en1 := en.ext e1
    obtain ⟨fp, sl, nd⟩ := en1.sl
    obtain ⟨v1, f1, f2, a1, a2, a3, a4⟩ := sl.get hs
    have hs2' : (ss.set i none)[j]? = some (some (.pin p3 o2)) := by rw [List.getElem?_set_ne hij]; exact hs2
    obtain ⟨v2, f3, f4, b1, b2, b3, b4⟩ := a3.get hs2'
    have n1 : (f1 ++ f2).Nodup := (a4.nodup_iff).mpr nd
    have n2 : (f3 ++ f4).Nodup := (b4.nodup_iff).mpr (List.nodup_append.mp n1).2.1
    cases a2 with
    | pin a2 =>
      cases b2 with
      | pin b2 =>
        refine hp v F1 H1 e1.gr e1.fh ?_
        rw [hr]
        refine ⟨q1, f1 ++ (f3 ++ []), .cons a2 (.cons b2 .nil), ?_⟩
        rw [List.append_nil]
        refine List.nodup_append.mpr ⟨(List.nodup_append.mp n1).1, (List.nodup_append.mp n2).1, fun x hx y hy e => ?_⟩
        exact (List.nodup_append.mp n1).2.2 x hx y (b4.subset (List.mem_append_left _ hy)) e
/-- the environment, said otherwise -/
theorem Sts.env (h : ss = ss') (k : Sts C Z X W ss' blk ES ER fl) : Sts C Z X W ss blk ES ER fl := h ▸ k
end
/-! ### the def -/
def startA (ds : List D) (p : Addr) (o1 : O) (q : Addr) (o2 : O) (n : Nat) : En := ds.map (fun d => some (.fz d)) ++ (some (.pin p o1) :: some (.pin q o2) :: List.replicate (n - (ds.length + 2)) none)
theorem slots_nones {C : Cf} {Z F H : Hp} : ∀ n : Nat, Slots C Z F H (List.replicate n none) (List.replicate n none) []
  | 0 => .nil
  | n + 1 => .non (slots_nones n)
theorem slots_startA {C : Cf} {F H : Hp} {o1 o2 : O} {v1 v2 : V} {f1 f2 : List Addr} : ∀ {ds : List D} {vs : List V} (n : Nat), Rps C F H ds vs → Own C F F H o1 v1 f1 → Own C F F H o2 v2 f2 →
    Slots C F F H (ds.map (fun d => some (.fz d)) ++ (some o1 :: some o2 :: List.replicate n none)) ((vs ++ [v1, v2]).map some ++ List.replicate n none) (f1 ++ (f2 ++ []))
  | [], _, n, h, a, b => by
    cases h
    exact .som a (.som b (slots_nones n))
  | d :: ds, _, n, h, a, b => by
    cases h with
    | cons r1 r2 => exact .som (f1 := []) (.fz r1) (slots_startA n r2 a b)
/-- its promise -/
def spA {R : Type} (C : Cf) (ds : List D) (o1 o2 : O) (r : Res R) (T : R → D × O × O) : Sp := fun vs H Q _ => ∃ (us : List V) (p q : Addr) (F : Hp) (f1 f2 : List Addr), vs = us ++ [.ref p, .ref q] ∧ Same F H ∧ Rps C F H ds us ∧ Own C F F H o1 (.ref p) f1 ∧ Own C F F H o2 (.ref q) f2 ∧ (f1 ++ f2).Nodup ∧ match r with
  | .ok r => ∀ v F' H' g, Gr F H F' H' → Same F' H' → Rp C F' H' (T r).1 v → Owns C F F' H' [(T r).2.1, (T r).2.2] [.ref p, .ref q] g → g.Nodup → Q v H'
  | .exc _ => False
  | .bad => False
section
variable {P : Program} {w : World} {K : PySem.W.Frag} {mg : Str → Option Value} {base : Heap} {C : Cf}
/-- fn_walk of such a def -/
theorem fn_walkA {st : Stmt} {x qual : Str} {f : Addr} {fd : FuncData} {N ps G : List Str} {k : Nat} {ι R : Type} {ds : ι → List D} {o : ι → Fl Unit R} {un : Option R} {o1 o2 : ι → O} {T : R → D × O × O} {ER : Addr → Addr → ι → R → RM} (F : Fun K x qual st f fd) (S : FnScope N ps (defScope st)) (m : Nat) (B : defB (N.take m) G (defScope st) = true)
    (hK : C.K = K) (bt : Bt mg) (hl : ∀ i, (ds i).length + 2 = ps.length) (fin : ∀ p q i r, ER p q i r = .pins (T r).1 [(p, (T r).2.1), (q, (T r).2.2)]) (hun : un = none)
    (body : ∀ (X : Cx) (Z : Hp) (W : Nat → Hp → Prop), X.prog = P → X.w = w → X.K = K → X.mg = mg → X.base = base → X.env.scope = defScope st → Cok C X N (fun i => Nat.blt i m) G → Dok X N (fun i => Nat.blt i m) → Room k X.A → L2N.Takes X (WXc C W) → X.stack = X.env :: X.outer → X.env.frame = some X.env.locals → ∀ p q i, Sts C Z X W (startA (ds i) p (o1 i) q (o2 i) N.length) (defBody st) (fun _ => (List.replicate N.length none : En)) (ER p q i) (o i)) :
    FnOk P w K mg base (L2N.CX P w) (k + 1) f fd ps (fun vs H Q E => ∃ i, spA C (ds i) (o1 i) (o2 i) ((o i).res un) T vs H Q E) := by
  subst hun
  obtain ⟨oc, od, kV, doc, pm, an, cdv, ct, osl, rfl, lk, hcd⟩ := F.ex
  refine fn_of lk hcd S (fun vs H Q E h => ?_) fun A outer s H vs Q E hr hsp => ?_
  · obtain ⟨i, us, p, q, F, f1, f2, rfl, _, h, _⟩ := h
    rw [List.length_append, ← h.length]
    exact hl i
  · obtain ⟨i, us, p, q, F0, f1, f2, rfl, fh, hv, ow1, ow2, nd12, hq⟩ := hsp
    refine ⟨_, pss_w, ?_⟩
    unfold defB at B
    rw [Bool.and_eq_true, List.all_eq_true, List.all_eq_true] at B
    obtain ⟨B1, B2⟩ := B
    have nm : ∀ (j : Nat) x, Nat.blt j m = true → N[j]? = some x → (Loc (defScope st) x) ∧ (x == ("__debug__" : Str)) = false ∧ (x == ("__classdict__" : Str)) = false := fun j x hj hx => by
      have q := B1 x (List.mem_of_getElem? (i := j) (by rw [List.getElem?_take, if_pos (Nat.blt_eq.mp hj)]; exact hx))
      simp only [Bool.and_eq_true, Bool.not_eq_true'] at q
      obtain ⟨⟨q1, q2⟩, q3⟩ := q
      refine ⟨?_, q2, q3⟩
      split at q1
      · exact .inl (by assumption)
      · exact .inr (by assumption)
      · cases q1
    have ck : Cok C (cxOf (L2N.CX P w) P w K mg base N qual (defScope st) f cdv A outer s H E) N (fun i => Nat.blt i m) G := by
      refine ⟨hK.symm, rfl, S.nd, fun j x hj hx => ?_, fun j x hx => ?_, rfl, hr.units, bt, Nat.lt_of_le_of_lt (Nat.le_trans (Nat.add_le_add_left (by decide : 65 ≤ 200) _) (Nat.add_le_add_right (Nat.le_add_right _ _) 200)) hr.un⟩
      · obtain ⟨h1, h2, h3⟩ := nm j x hj hx
        exact ⟨h1.elim .inl fun z => .inr (.inl z), h2, h3⟩
      · have q := B2 x (List.mem_of_getElem? hx)
        simp only [Bool.and_eq_true, Bool.not_eq_true', decide_eq_false_iff_not] at q
        obtain ⟨⟨q1, q2⟩, q3⟩ := q
        refine ⟨?_, q2, q3⟩
        split at q1
        · assumption
        · cases q1
    have dk : Dok (cxOf (L2N.CX P w) P w K mg base N qual (defScope st) f cdv A outer s H E) N (fun i => Nat.blt i m) := ⟨fun j x hj hx => (nm j x hj hx).1, fun _ => rfl, passes_of (K := fun e s'' => L2N.CX P w outer H s E e s'') rfl⟩
    have tk : L2N.Takes (cxOf (L2N.CX P w) P w K mg base N qual (defScope st) f cdv A outer s H E) (WXc C fun c H' => E (C.ex c) none H') :=
      L2N.Takes.imp (L2N.takes_of rfl rfl rfl rfl) fun cls d σ H' h => by
        obtain ⟨c, rfl, rfl, h⟩ := h
        exact h
    have en : EnvOk C F0 (startA (ds i) p (o1 i) q (o2 i) N.length) F0 H (start N (us ++ [.ref p, .ref q])) := by
      refine ⟨Same.refl F0, fh, f1 ++ (f2 ++ []), ?_, by rw [List.append_nil]; exact nd12⟩
      unfold startA L2.start
      rw [List.length_append, ← hv.length]
      exact slots_startA _ hv (.pin ow1) (.pin ow2)
    refine (sts_iff.mp (body _ F0 (fun c H' => E (C.ex c) none H') rfl rfl rfl rfl rfl rfl ck dk hr tk rfl rfl p q i)) (start N (us ++ [.ref p, .ref q])) F0 H _ en ?_
    cases ho : o i with
    | nx u =>
      rw [ho] at hq
      exact fun σ' F' H' g e => hq.elim
    | rt r =>
      rw [ho] at hq
      intro v F' H' g s' z
      have hq' : ∀ v F' H' g, Gr F0 H F' H' → Same F' H' → Rp C F' H' (T r).1 v → Owns C F0 F' H' [(T r).2.1, (T r).2.2] [.ref p, .ref q] g → g.Nodup → Q v H' := hq
      rw [fin p q i r] at z
      obtain ⟨z1, g2, z2, z3⟩ := z
      exact hq' v F' H' g2 g s' z1 z2 z3
    | exc c =>
      rw [ho] at hq
      exact hq.elim
    | bad =>
      rw [ho] at hq
      exact hq.elim
end

def CalA2 {R : Type} (P : Program) (w : World) (K : PySem.W.Frag) (mg : Str → Option Value) (base : Heap) (A : Around) (C : Cf) (x : Str) (ds : List D) (o1 o2 : O) (r : Res R) (T : R → D × O × O) : Prop :=
  ∃ (k : Nat) (f : Addr) (fd : FuncData) (ps : List Str) (sp : Sp), Room k A ∧ FnOk P w K mg base (L2N.CX P w) k f fd ps sp ∧ mg x = some (.ref f) ∧ PySem.W.keepIn K (.ref f) = true ∧ Binds K fd ps [] ∧ ∀ vs H Q E, spA C ds o1 o2 r T vs H Q E → sp vs H Q E
theorem Cld.calA {R : Type} {P : Program} {w : World} {K : PySem.W.Frag} {mg : Str → Option Value} {base : Heap} {C : Cf} {j k : Nat} {x : Str} {sp : Sp} {A : Around} {ds : List D} {o1 o2 : O} {r : Res R} {T : R → D × O × O} (h : Cld P w K mg base j x sp) (hr : Room k A) (hj : j ≤ k) (hs : ∀ vs H Q E, spA C ds o1 o2 r T vs H Q E → sp vs H Q E) : CalA2 P w K mg base A C x ds o1 o2 r T := by
  obtain ⟨f, fd, ps, h1, h2, h3, h4⟩ := h
  exact ⟨j, f, fd, ps, sp, hr.mono hj, h1, h2, h3, h4, hs⟩
theorem calA_ok {R : Type} {P : Program} {w : World} {K : PySem.W.Frag} {mg : Str → Option Value} {base : Heap} {A : Around} {C : Cf} {x : Str} {ds : List D} {o1 o2 : O} {r : Res R} {T : R → D × O × O} {y : R} (h : CalA2 P w K mg base A C x ds o1 o2 r T) (e : r.get = some y) : CalA2 P w K mg base A C x ds o1 o2 (.ok y) T := by
  rw [Res.get_ok e] at h
  exact h
section
variable {C : Cf} {Z : Hp} {X : Cx} {N G : List Str} {P : Nat → Bool} {ss ss' : En} {a b c e e2 : Expr} {rest es es2 : List Expr} {pos p p2 apos px py lp1 lp2 : Pos} {α : Type} {z : Bool}
variable {W : Nat → Hp → Prop} {S S' R : Type} {ES : S → En} {ES' : S' → En} {ER : R → RM} {st : Stmt} {blk sts A B : List Stmt} {fl fl1 : Fl S R} {spos : Pos}
theorem Slots.leafs {F H : Hp} : ∀ {ss : En} {σ : L2.St} {fp : List Addr}, ss.all leafS = true → Slots C Z F H ss σ fp → fp = []
  | [], _, _, _, h => by cases h; rfl
  | x :: ss, _, _, hl, h => by
    simp only [List.all_cons, Bool.and_eq_true] at hl
    cases h with
    | non h => exact Slots.leafs hl.2 h
    | som o h =>
      have e := Slots.leafs hl.2 h
      subst e
      cases o with
      | fz r => rfl
      | nz r => rfl
      | lst => exact absurd hl.1 Bool.false_ne_true
      | tup => exact absurd hl.1 Bool.false_ne_true
      | obj => exact absurd hl.1 Bool.false_ne_true
      | dic => exact absurd hl.1 Bool.false_ne_true
      | flst => exact absurd hl.1 Bool.false_ne_true
      | pin => exact absurd hl.1 Bool.false_ne_true
/-- a list of what is frozen: whoever made it -/
theorem own_zz {Z Z' F H : Hp} {g : α → D} {xs : List α} {v : V} {f : List Addr} (h : Own C Z F H (oL (zz g) xs) v f) : ∃ p, v = .ref p ∧ Own C Z' F H (oL (zz g) xs) v f := by
  cases h with
  | lst hf hp hr =>
    have e := hr.leaf (leaf_zz xs)
    subst e
    exact ⟨_, rfl, .lst hf hp (owns_zz (rps_owns hr))⟩
/-- arguments, the last two told by tl -/
def EaT (C : Cf) (Z : Hp) (X : Cx) (ss : En) (es : List Expr) (ds : List D) (tl : L2.St → Hp → Hp → V → V → Prop) : Prop :=
  ∀ (σ : L2.St) (F H : Hp) (Q : List V → Hp → Prop), EnvOk C Z ss F H σ → (∀ us u1 u2 F' H', Ext F H F' H' → Rps C F' H' ds us → tl σ F' H' u1 u2 → Q (us ++ [u1, u2]) H') → wA X es σ H Q
theorem EaT.cons {d : D} {ds : List D} {tl : L2.St → Hp → Hp → V → V → Prop} (h : Ev C Z X ss a (.frz d)) (k : EaT C Z X ss es ds tl) (hs : starEach (a :: es) X.env = (false, eval a X.env) :: starEach es X.env := by rfl) : EaT C Z X ss (a :: es) (d :: ds) tl := fun σ F H Q he hq pos pins s I =>
  (pa_cons pe_w pa_w hs).run pos pins s σ H Q I (h σ F H _ he fun v F1 H1 e1 q1 => k σ F1 H1 _ (he.ext e1) fun us u1 u2 F2 H2 e2 q2 q3 => hq (v :: us) u1 u2 F2 H2 (e1.trans e2) (.cons (Rp.mono e2.ff (.of e2.hh) q1) q2) q3)
/-- two slots -/
theorem EaT.slots (k : Cok C X N P G) (i j : Nat) {x y : Str} {o1 o2 : O} (hi : N[i]? = some x := by rfl) (hj : N[j]? = some y := by rfl) (hs : ss[i]? = some (some o1) := by rfl) (hs2 : ss[j]? = some (some o2) := by rfl) (hp : P i = true := by rfl) (hpj : P j = true := by rfl) : EaT C Z X ss [.Name x px, .Name y py] [] (fun σ F H u1 u2 => σ[i]? = some (some u1) ∧ σ[j]? = some (some u2)) := fun σ F H Q he hq pos pins s I => by
  obtain ⟨fp, sl, nd⟩ := he.sl
  obtain ⟨v1, f1, f2, a1, _⟩ := sl.get hs
  obtain ⟨v2, f3, f4, b1, _⟩ := sl.get hs2
  exact (pa_cons pe_w (pa_cons pe_w pa_nil rfl) rfl).run pos pins s σ H Q I (Ev.slot (o := o1) k hi hp a1 (Ev.slot (o := o2) k hj hpj b1 (hq [] v1 v2 F H (Ext.refl he.fh) .nil ⟨a1, b1⟩)))
/-- arguments, the last two new empty lists -/
def EaN (C : Cf) (Z : Hp) (X : Cx) (ss : En) (es : List Expr) (ds : List D) : Prop :=
  ∀ (σ : L2.St) (F H : Hp) (Q : List V → Hp → Prop), EnvOk C Z ss F H σ → (∀ us p q F' H', Ext F H F' H' → Rps C F' H' ds us → H p = none → H q = none → p ≠ q → F' p = none → F' q = none → H' p = some (.lst []) → H' q = some (.lst []) → Q (us ++ [.ref p, .ref q]) H') → wA X es σ H Q
theorem EaN.cons {d : D} {ds : List D} (h : Ev C Z X ss a (.frz d)) (k : EaN C Z X ss es ds) (hs : starEach (a :: es) X.env = (false, eval a X.env) :: starEach es X.env := by rfl) : EaN C Z X ss (a :: es) (d :: ds) := fun σ F H Q he hq pos pins s I =>
  (pa_cons pe_w pa_w hs).run pos pins s σ H Q I (h σ F H _ he fun v F1 H1 e1 q1 => k σ F1 H1 _ (he.ext e1) fun us p q F2 H2 e2 q2 n1 n2 ne f1 f2 h1 h2 => hq (v :: us) p q F2 H2 (e1.trans e2) (.cons (Rp.mono e2.ff (.of e2.hh) q1) q2) (e1.hh.free n1) (e1.hh.free n2) ne f1 f2 h1 h2)
theorem EaN.news : EaN C Z X ss [.List [] lp1, .List [] lp2] [] := fun σ F H Q he hq pos pins s I =>
  (pa_cons pe_w (pa_cons pe_w pa_nil rfl) rfl).run pos pins s σ H Q I (by
    have lst : ∀ {F H : Hp} {pos : Pos}, EnvOk C Z ss F H σ → ∀ Q : VK, (∀ p, H p = none → Q (.ref p) (upd H p (.lst []))) → wE X (.List [] pos) σ H Q := fun {F H pos} en Q hq pins s I =>
      (pe_lst pa_w).run pins s σ H Q I (fun pos pins s I => pa_nil.run pos pins s σ H _ I ⟨Nat.zero_le _, fun p hp => hq p hp⟩)
    refine lst he _ fun p hp => ?_
    have x1 := ext_new (o := .lst []) he.fh hp
    refine lst (he.ext x1) _ fun q hq' => ?_
    have x2 := ext_new (o := .lst []) (he.ext x1).fh hq'
    have ne : p ≠ q := fun z => by subst z; rw [upd_same] at hq'; cases hq'
    have hqH : H q = none := by rw [upd_ne (fun z => ne z.symm)] at hq'; exact hq'
    exact hq [] p q F _ (x1.trans x2) .nil hp hqH ne (he.fh.free hp) (he.fh.free hqH) (by rw [upd_ne ne]; exact upd_same) upd_same)
/-- f(.., [], []), for what it tells -/
theorem Ev.callLent {fx : Str} {ds : List D} {β γ : Type} {f1 : β → O} {f2 : γ → O} {r : α} {T : α → D × O × O} {g : Nat} (k : Cok C X N P G) (hc : CalA2 X.prog X.w X.K X.mg X.base X.A C fx ds (oL f1 []) (oL f2 []) (.ok r) T) (hT : (T r).1 = dB z)
    (ha : EaN C Z X ss (e :: es) ds) (hg : G[g]? = some fx := by rfl) (he1 : starEach (e :: es) X.env = (false, eval e X.env) :: starEach es X.env := by rfl) (hpl : (backTo pos (starEach es X.env)).any (·.1) = false := by rfl) :
    Ev C Z X ss (.Call (.Name fx p2) (e :: es) [] pos) (.frz (dB z)) := fun σ F H Q he hq pins s I => by
  obtain ⟨n, f, fd, ps, sp, hr, FO, hm, hk, hb, hsp⟩ := hc
  refine (pe_callS (E := fun _ _ _ _ => False) FO hr (k.gl g fx hg).1 hm hk hb (fun σ => pass_none) pa_w (k.gl g fx hg).2.1 he1 hpl).run pins s σ H _ I ?_
  refine ha σ F H _ he fun us p q F1 H1 e1 q1 n1 n2 ne fp fq hp1 hq1 => hsp _ _ _ _ ?_
  let Fc : Hp := fun a => if a = p ∨ a = q then none else H1 a
  have fcn : ∀ {a : Addr}, (a = p ∨ a = q) → Fc a = none := fun h => if_pos h
  have fcs : ∀ {a : Addr}, ¬(a = p ∨ a = q) → Fc a = H1 a := fun h => if_neg h
  have s1 : Same Fc H1 := fun a o h => by
    by_cases z : a = p ∨ a = q
    · rw [fcn z] at h; cases h
    · rw [fcs z] at h; exact h
  have s2 : Same F1 Fc := fun a o h => by
    rw [fcs (fun z => by rcases z with z | z <;> subst z <;> first | (rw [fp] at h; cases h) | (rw [fq] at h; cases h))]
    exact e1.fh _ _ h
  refine ⟨us, p, q, Fc, [p], [q], rfl, s1, q1.mono s2 (Tst.refl _), .lst (fcn (.inl rfl)) hp1 .nil, .lst (fcn (.inr rfl)) hq1 .nil, ?_, ?_⟩
  · simpa using ne
  · intro v F2 H2 g2 gr sf r1 r2 nd2
    rw [hT] at r1
    cases r1
    have hh : Same H H2 := fun a o h => by
      refine sf _ _ (gr.ff _ _ ?_)
      rw [fcs (fun z => by rcases z with z | z <;> subst z <;> first | (rw [n1] at h; cases h) | (rw [n2] at h; cases h))]
      exact e1.hh _ _ h
    exact hq _ F H2 (Ext.heap he.fh hh) .sc
/-- if not f(.., x, y): A; f changes the lists in x and y; nothing else is owned -/
theorem Sts.ifLent {fx : Str} {ds : List D} {o1 o2 o3 o4 : O} {r : α} {T : α → D × O × O} {i j g : Nat} (k : Cok C X N P G) (hc : CalA2 X.prog X.w X.K X.mg X.base X.A C fx ds o1 o2 (.ok r) T) (hT : T r = (dB z, o3, o4)) (hij : i ≠ j) (hs : ss[i]? = some (some o1)) (hs2 : ss[j]? = some (some o2)) (hlf : ((ss.set i none).set j none).all leafS = true)
    (u1 : ∀ {Z F H : Hp} {v : V} {f : List Addr}, Same Z F → Same F H → Own C Z F H o1 v f → ∃ p, v = .ref p ∧ Own C F F H o1 v f) (u2 : ∀ {Z F H : Hp} {v : V} {f : List Addr}, Same Z F → Same F H → Own C Z F H o2 v f → ∃ p, v = .ref p ∧ Own C F F H o2 v f)
    (w3 : ∀ {Z F F' H : Hp} {v : V} {f : List Addr}, Same Z F → Own C F F' H o3 v f → Own C Z F' H o3 v f) (w4 : ∀ {Z F F' H : Hp} {v : V} {f : List Addr}, Same Z F → Own C F F' H o4 v f → Own C Z F' H o4 v f)
    (ha : EaT C Z X ss (e :: es) ds (fun σ F H u1 u2 => σ[i]? = some (some u1) ∧ σ[j]? = some (some u2))) (hx : fl1.Ex)
    (h1 : z = false → Sts C Z X W ((ss.set i (some o3)).set j (some o4)) A ES ER fl1) (h2 : z = true → Sts C Z X W ((ss.set i (some o3)).set j (some o4)) sts ES ER fl) (hg : G[g]? = some fx := by rfl)
    (he1 : starEach (e :: es) X.env = (false, eval e X.env) :: starEach es X.env := by rfl) (hpl : (backTo pos (starEach es X.env)).any (·.1) = false := by rfl)
    (hp0 : ∀ whole, isTrue (.Call (.Name fx p2) (e :: es) [] pos) X.env whole = (do let v ← whole; standAt pos; holding [v] (truthy v)) := by intro _; rfl) :
    Sts C Z X W ss (.If (.UnaryOp .Not (.Call (.Name fx p2) (e :: es) [] pos) apos) A [] spos :: sts) ES ER (if (!z) = true then fl1 else fl) :=
  Sts.step (ps_if (pt_not (pt_val pe_w hp0)) pss_w pss_nil) fun σ F H D en hp => fun pins s I => by
    obtain ⟨n, f, fd, ps, sp, hr, FO, hm, hk, hb, hsp⟩ := hc
    refine (pe_callS (E := fun _ _ _ _ => False) FO hr (k.gl g fx hg).1 hm hk hb (fun σ => pass_none) pa_w (k.gl g fx hg).2.1 he1 hpl).run pins s σ H _ I ?_
    refine ha σ F H _ en fun us v1 v2 F1 H1 e1 q1 q2 => hsp _ _ _ _ ?_
    obtain ⟨qa, qb⟩ := q2
    have en1 := en.ext e1
    obtain ⟨fp, sl, nd⟩ := en1.sl
    obtain ⟨v1', f1, f2, a1, a2, a3, a4⟩ := sl.get hs
    have hs2' : (ss.set i none)[j]? = some (some o2) := by rw [List.getElem?_set_ne hij]; exact hs2
    obtain ⟨v2', f3, f4, b1, b2, b3, b4⟩ := a3.get hs2'
    rw [qa] at a1
    rw [qb] at b1
    cases a1
    cases b1
    obtain ⟨p1, rfl, o1w⟩ := u1 en1.zf en1.fh a2
    obtain ⟨p3, rfl, o2w⟩ := u2 en1.zf en1.fh b2
    have n1 : (f1 ++ f2).Nodup := (a4.nodup_iff).mpr nd
    have n2 : (f3 ++ f4).Nodup := (b4.nodup_iff).mpr (List.nodup_append.mp n1).2.1
    refine ⟨us, p1, p3, F1, f1, f3, rfl, en1.fh, q1, o1w, o2w, List.nodup_append.mpr ⟨(List.nodup_append.mp n1).1, (List.nodup_append.mp n2).1, fun x hx y hy e => (List.nodup_append.mp n1).2.2 x hx y (b4.subset (List.mem_append_left _ hy)) e⟩, ?_⟩
    intro v F2 H2 g2 gr s2 r1 r2 nd2
    rw [hT] at r1 r2
    cases r1
    -- the slots again
    have hi' : i < ss.length := (List.getElem?_eq_some_iff.mp hs).1
    have hj' : j < ss.length := (List.getElem?_eq_some_iff.mp hs2).1
    have lf := Slots.leafs hlf b3
    subst lf
    have sl3 : Slots C Z F2 H2 ((ss.set i none).set j none) σ [] := (b3.refz gr.ff fun a q => absurd q List.not_mem_nil).frame gr.tt fun a q => absurd q List.not_mem_nil
    have zf2 : Same Z F2 := en1.zf.trans gr.ff
    cases r2 with
    | cons c1 r2 =>
      cases r2 with
      | cons c2 r2 =>
        cases r2
        rename_i g3 g4
        rw [List.append_nil] at nd2
        obtain ⟨g5, s5, pm5⟩ := sl3.fill (w4 en1.zf c2) (i := j) (by simpa using hj') (List.getElem?_set_self (by simpa using hj'))
        rw [List.set_set, set_same qb] at s5
        have hin : ((ss.set i none).set j (some o4))[i]? = some none := by
          rw [List.getElem?_set_ne (fun z => hij z.symm)]
          exact List.getElem?_set_self hi'
        obtain ⟨g6, s6, pm6⟩ := s5.fill (w3 en1.zf c1) (i := i) (by simpa using hi') hin
        rw [set_same qa, List.set_comm _ _ (fun z => hij z.symm), List.set_set] at s6
        have en2 : EnvOk C Z ((ss.set i (some o3)).set j (some o4)) F2 H2 σ := by
          refine ⟨zf2, s2, g6, s6, (pm6.nodup_iff).mpr ?_⟩
          have q : (g3 ++ g5).Perm (g3 ++ g4) := List.Perm.append_left _ (by rw [List.append_nil] at pm5; exact pm5)
          exact (q.nodup_iff).mpr nd2
        have gr2 : Gr F H F2 H2 := ⟨e1.ff.trans gr.ff, fun x xs q => gr.tt x xs (e1.gr.tt x xs q)⟩
        refine ⟨z, rfl, ?_⟩
        cases z with
        | false =>
          show wSs X A _ σ H2
          rw [if_pos (by rfl)] at hp
          refine (sts_iff.mp (h1 rfl)) σ F2 H2 _ en2 ?_
          have hp' := hp.mono gr2
          cases fl1 with
          | nx s => exact absurd rfl (hx s)
          | rt r => exact hp'
          | exc c => exact hp'
          | bad => exact hp'
        | true =>
          show _
          rw [if_neg (by decide)] at hp
          exact (sts_iff.mp (h2 rfl)) σ F2 H2 D en2 (hp.mono gr2)
end
end VL

set_option Elab.async false
set_option linter.all false
set_option maxRecDepth 100000
set_option maxHeartbeats 4000000
/-! VL38: what leaves a comprehension by raising. -/
namespace VL
open PySem PySem.Spec PyProof.Rows L2
/-- the block of a comprehension, where what is raised goes to xe -/
abbrev blkX (X : Cx) (s : Shared) (H : Hp) (scope : Scope) (cenv : Env) (fp : List Addr) (xe : Value → Shared → Prop) : Cx := { X.blk s H scope cenv fp with xe := xe }
section
variable {X : Cx}
/-- a call's exception, flying over the block: the block's state without it -/
theorem of_callF {X : Cx} {pins : List (Addr × Obj)} {σ : L2.St} {H : Hp} {s s' : Shared} {E : XK} (I : Inv X pins σ H s) {u : Value} (c : L2N.CX X.prog X.w X.stack H s E u s') :
    ∃ (a : Addr) (B : Heap) (sI : Shared) (H' : Hp) (cls : Value) (d : Option Addr), u = .ref a ∧ Inv X pins σ H' sI ∧ (∀ b o, sI.heap.get? b = some o → b ∉ frs X.stack → B.get? b = some o) ∧ sI.heap.UpToSlots s'.heap ∧
      HandSPX.FlyingZ B X.stack a (L2N.Zn cls d) s'.heap ∧ H' a = none ∧ s'.os = sI.os ∧ AllBare s'.gens ∧ E cls d H' := by
  obtain ⟨a, B, K, cls, d, e, fly, ok, ub, fr, os, gens, wish⟩ := c
  -- of the heap: what stands on the ground, and the frames
  let keep : Addr → Bool := fun b => (B.get? b).isSome || decide (b ∈ frs X.stack)
  obtain ⟨R, r1, r2⟩ := restrict s'.heap keep
  have ofB : ∀ {b o}, B.get? b = some o → R.get? b = some o := fun {b o} q => (r1 b (by simp [keep, q])).trans (fly.1 b o q)
  have ofF : ∀ {b}, b ∈ frs X.stack → R.get? b = s'.heap.get? b := fun {b} q => r1 b (by simp [keep, q])
  have inR : ∀ {b o}, R.get? b = some o → keep b = true ∧ s'.heap.get? b = some o := fun {b o} q => by
    by_cases z : keep b = true
    · exact ⟨z, (r1 b z).symm.trans q⟩
    · rw [r2 b (by simpa using z)] at q
      cases q
  have un : Un (frs X.stack) [] H K s.heap R :=
    ⟨fun b o q n f _ => ofB (ub.keep b o q n f), fun b o q _ f _ => (ub.slot b o q f).elim fun sl z => ⟨sl, (ofF f).trans z⟩, fun b o q n _ => ub.free b o q n,
      fun b o q _ => if f : b ∈ frs X.stack then (ub.slot b o q f).elim fun sl z => ⟨_, (ofF f).trans z⟩ else (ub.there b o q f).elim fun o' z => ⟨o', ofB z⟩, ub.tups, ub.frzs, ub.tbls⟩
  refine ⟨a, B, _, K, cls, d, e, I.call (g' := s'.gens) (t' := s'.toks) (d' := s'.drawn) un (ok.kept fun _ _ => ofB) gens fun _ z => absurd z List.not_mem_nil, fun b o q f => ?_, Heap.UpToSlots.of_keeps fun b o q => (inR q).2, fly, fr, os, gens, wish⟩
  obtain ⟨z, y⟩ := inR q
  have z' : (B.get? b).isSome = true := by simpa [keep, f] using z
  obtain ⟨o', x⟩ := Option.isSome_iff_exists.mp z'
  rw [fly.1 b o' x] at y
  cases y
  exact x
theorem funFrames_less {h B B' : Heap} (k : ∀ b, B.get? b = none → B'.get? b = none) : ∀ {l : List Env}, h.FunFrames B l → h.FunFrames B' l
  | [], _ => trivial
  | _ :: _, ⟨hk, ⟨L, o, hf, hb, ho, hd⟩, hr⟩ => ⟨hk, ⟨L, o, hf, k L hb, ho, hd⟩, funFrames_less k hr⟩
/-- held by the def's frame; a block of names, let go -/
theorem held_less {B h h' : Heap} {l : List Env} {e C L : Addr} {Z : Obj → Prop} {m m' : Str → Option Value} (hn : h.Ns C m) (hn' : h'.Ns C m') (hs : Heap.SameBut C h h') (hh : HandSPX.HeldZ B l e Z L h) :
    HandSPX.HeldZ (PySem.W.hideAll B [C]) l e Z L h' := by
  obtain ⟨b1, b0, f1, oe, vs, T, oT, ts, he, hz, hd, h1, hnT, hTe, hT, hdT, h3⟩ := hh
  have less : ∀ b, B.get? b = none → (PySem.W.hideAll B [C]).get? b = none := fun b hb => by
    cases q : (PySem.W.hideAll B [C]).get? b with
    | none => rfl
    | some o => rw [PySem.W.of_hideAll _ q] at hb; cases hb
  obtain ⟨oL, es, ep, hoL, hdL, _⟩ := hn
  have neE : e ≠ C := fun q => by
    rw [q, hoL] at he
    have z := Option.some.inj he
    rw [← z, hdL] at hd
    cases hd
  have neT : T ≠ C := fun q => by
    rw [q, hoL] at hT
    have z := Option.some.inj hT
    rw [← z, hdL] at hdT
    cases hdT
  refine ⟨fun b o hb => ?_, less e b0, funFrames_less less (Heap.FunFrames.sameBut hs hn' f1), oe, vs, T, oT, ts, (hs.2 e neE).trans he, hz, hd, h1, less T hnT, hTe, (hs.2 T neT).trans hT, hdT, h3⟩
  have nb : b ≠ C := fun q => by
    subst q
    rw [PySem.W.hideAll_none [b] List.mem_cons_self] at hb
    cases hb
  exact (hs.2 b nb).trans (b1 b o (PySem.W.of_hideAll _ hb))
/-- out of the block, on to where the def's own exceptions go -/
theorem blk_passes {pins : List (Addr × Obj)} {σ : L2.St} {H3 : Hp} {s3 : Shared} {scope : Scope} {ce : Env} {fp : List Addr} {Wout : WX} (hs : X.stack = X.env :: X.outer) (hf : X.env.frame = some X.env.locals) (tk : L2N.Takes X Wout) (I3 : Inv X pins σ H3 s3) (hce : ce.frame = X.env.frame) (cL : ce.locals = s3.heap.objs.size)
    (f3 : ∀ b ∈ fp, FpOk X pins H3 b) (σ' : L2.St) :
    PassesAt (L2N.CX X.prog X.w) (blkX X s3 H3 scope ce fp (notedBy (model X.prog X.w) X.A ce (CompFails (model X.prog X.w) X.A X.xe ce))) σ' (fun cls d H' => Wout cls d σ H') := by
  intro pins' H s u s' I c
  obtain ⟨a, B, sI, H', cls, d, rfl, I', nb, up, fl, na, os, ag, w⟩ := of_callF (X := blkX X s3 H3 scope ce fp (notedBy (model X.prog X.w) X.A ce (CompFails (model X.prog X.w) X.A X.xe ce))) I c
  have hfr : X.A.frames = some (X.env :: X.outer) := by rw [I3.ok.frames, hs]
  have fl2 : HandSPX.FlyingZ B (X.env :: X.outer) a (L2N.Zn cls d) s'.heap := by rw [← hs]; exact fl
  show wpAny (model X.prog X.w) X.A (noteFrame (.ref a) ce) _ _ s'
  rw [noteFrame_env _ hce]
  refine PXN.looks_onZ L2N.Zn.steady hfr hf fl2 fun h1 hh1 up1 => ?_
  obtain ⟨m, hn, _⟩ := I'.loc
  have hn : sI.heap.Ns ce.locals m := hn
  have hn1 : h1.Ns ce.locals m := (up.trans up1).ns hn
  refine ⟨m, hn1, fun h2 m2 hn2 hs2 => ?_⟩
  have hh2 := held_less hn1 hn2 hs2 hh1
  obtain ⟨oe, vs, T, oT, ts, he, hz, hd, hv1, _⟩ := id hh2.2.2.2
  unfold PySem.passOn
  refine wpAny_bind (wpAny_field he hd hv1 ?_)
  rw [if_neg (show ¬ ((Value.ref T == Value.none) = true) from by simp), hce, hf]
  -- the def's state without the block
  have I7 : Inv X pins σ H' sI := I3.call' (ch := fp) I'.os I'.base I'.hok I'.bare fun b hb => ⟨(f3 b hb).2.2.2.1, (f3 b hb).2.1, (f3 b hb).2.2.2.2.1, (f3 b hb).2.2.2.2.2⟩
  have nC : H' ce.locals = none := I'.free
  have fC : FpOk X pins H' ce.locals := by
    rw [cL] at nC ⊢
    exact I3.fpOk (Nat.le_refl _) nC
  obtain ⟨c0, c1, c2, c3, c4, c5⟩ := fC
  have I8 : Inv X pins σ H' { sI with heap := PySem.W.hideAll sI.heap [ce.locals], toks := sI.toks } :=
    I7.turned (it := ce.locals) (fun b o hb e => PySem.W.hideAll_get _ e (by simpa using hb)) c0 c1 c3 c4 c5
  refine wpAny_bind (HandSPX.setFlight_onZ hh2 fun h4 hh4 up4 => wpAny_throw (tk _ _ ?_))
  refine ⟨a, PySem.W.hideAll B [ce.locals], { sI with heap := PySem.W.hideAll sI.heap [ce.locals], toks := sI.toks }, pins, σ, H', cls, d, rfl, I8, fun b o e hb => ?_, fun b o e hnf => ?_, .inr (.inr (by rw [hs]; exact hh4)), na, os, ag, w⟩
  · have nbC : b ≠ ce.locals := fun q => by
      subst q
      rw [PySem.W.hideAll_none [ce.locals] List.mem_cons_self] at e
      cases e
    exact PySem.W.hideAll_get _ (nb b o (PySem.W.of_hideAll _ e) hb) (by simpa using nbC)
  · have nbC : b ≠ ce.locals := fun q => by
      subst q
      rw [PySem.W.hideAll_none [ce.locals] List.mem_cons_self] at e
      cases e
    obtain ⟨sl, e1⟩ := (up.trans up1) b o (PySem.W.of_hideAll _ e) hnf
    obtain ⟨sl2, e2⟩ := up4 b _ ((hs2.2 b nbC).trans e1) hnf
    exact ⟨sl2, e2⟩
/-- a comprehension without tests: its element may raise -/
theorem lcx_core {pins : List (Addr × Obj)} {s : Shared} {σ : L2.St} {H : Hp} {Q : VK} {elt tg iter : Expr} {scope : Scope} {own : List (Str × Nat)} {pos pos' : Pos} {wi : TI} {g : TG} {te : TE} {use : Option (Value → Sem Unit)} {Qf : Value → Shared → Prop} {Wout : WX}
    (hc : X.calm = true) (hN : X.N.Nodup) (hs : X.stack = X.env :: X.outer) (hf : X.env.frame = some X.env.locals) (tk : L2N.Takes X Wout) (I : Inv X pins σ H s) (hi : PI X tg iter wi) (ok : BlkOk X.N X.env.scope scope own)
    (hg : ∀ (s : Shared) (H : Hp) (C : Addr) (cl : List (Str × Addr)) (fp : List Addr), PG (X.blk s H scope (compEnvC scope cl C X.env) fp) tg g)
    (he : ∀ (s : Shared) (H : Hp) (C : Addr) (cl : List (Str × Addr)) (fp : List Addr) (xe : Value → Shared → Prop), (∀ σ', PassesAt (L2N.CX X.prog X.w) (blkX X s H scope (compEnvC scope cl C X.env) fp xe) σ' (fun cls d H' => Wout cls d σ H')) →
      PE (blkX X s H scope (compEnvC scope cl C X.env) fp xe) elt te) (hsi : ∀ x, foldedSetIterable iter X.env x = pure x) (h : tLc wi g tYes te (own.map (·.2)) σ H Q)
    (hend : ∀ (D : Addr) (ce : Env) (s' : Shared) (m : Str → Option Value) (H' : Hp), Inv X pins σ H' s' → Q (.ref D) H' → s'.heap.Ns ce.locals m → FpOk X pins H' ce.locals → compEnds (model X.prog X.w) X.A X.xe use Qf (.ref D) ce (.ok .next) s') :
    wpAny (model X.prog X.w) X.A (comprehension (.ListComp elt [⟨tg, iter, [], 0⟩] scope pos) scope X.env pos' (newList []) false (eval iter X.env) use) Qf X.xe s := by
  have hfree : ∀ y ∈ scope.names, y.2 = .free → ∃ c, X.env.cells.lookup y.1 = some c := fun y hy e => I.ok.has _ (ok.free y hy e)
  refine comprehension_at (use := use) rfl hsi (closure_ok hfree) ok.kind (fun y hy e => (ok.uniq y hy).trans (by rw [e])) ?_
  refine thn (hi.run pins s σ H _ I h) fun xv s1 hx => thn hx fun itv s2 h2 => ?_
  obtain ⟨it, fp, tn, J, H2, rfl, I2, T, st2, f2, q⟩ := h2
  refine wpAny_newObj_type (newEnv_comp ?_) (Nat.zero_le _)
  -- the list, laid
  obtain ⟨D, eD⟩ : ∃ D, D = s2.heap.objs.size := ⟨_, rfl⟩
  have nD : H2 D = none := I2.hok.fresh (Nat.le_of_eq eD.symm)
  obtain ⟨W, ⟨m0, w0⟩, turn⟩ := q D nD
  obtain ⟨s3, e3⟩ : ∃ s3 : Shared, s3 = { s2 with heap := s2.heap.push { cls := .type "list", data := .seq ([] : List Value).toArray } } := ⟨_, rfl⟩
  have grown : ∀ {b o}, s2.heap.get? b = some o → s3.heap.get? b = some o := fun {b o} z => by rw [e3]; exact Heap.get?_push_of_some _ z
  have I3 : Inv X pins σ (upd H2 D (.lst [])) s3 := by
    subst e3
    exact I2.laid (t' := s2.toks) (fun b o z => Heap.get?_push_of_some _ z) (Nat.le_of_eq eD.symm) ⟨Nat.zero_le _, [], 0, .nil, by rw [eD]; exact Heap.get?_push_size _ rfl⟩
  have under : ∀ b ∈ fp, b < s2.heap.objs.size := fun b hb => (T.obj _ _ st2 b hb).elim fun o z => Heap.lt_size z.1
  have f3 : ∀ b ∈ fp, FpOk X pins (upd H2 D (.lst [])) b ∧ b < s3.heap.objs.size := fun b hb => by
    have lt := under b hb
    refine ⟨⟨?_, (f2 b hb).2⟩, ?_⟩
    · rw [upd_ne (by rw [eD]; exact Nat.ne_of_lt lt)]
      exact (f2 b hb).1
    · rw [e3, Heap.size_push]
      exact Nat.lt_succ_of_lt lt
  have st3 : tn 0 s3.heap := T.keep _ _ _ st2 fun b _ o z => grown z
  -- the block
  have I4 := block_start I3 ok hN f3
  obtain ⟨cl, ecl⟩ : ∃ cl, cl = cellsFrom (s3.heap.objs.size + 1) scope.names (cloFrom X.env.cells scope.names []) := ⟨_, rfl⟩
  rw [← e3, ← eD]
  show codeAny _ _ (.compStart (.ListComp elt [⟨tg, iter, [], 0⟩] scope pos) 0 (.ref it) (.ref D) (compEnvC scope (cellsFrom (s3.heap.objs.size + 1) scope.names (cloFrom X.env.cells scope.names [])) s3.heap.objs.size X.env)) (compEnds (model X.prog X.w) X.A X.xe use Qf (.ref D) (compEnvC scope (cellsFrom (s3.heap.objs.size + 1) scope.names (cloFrom X.env.cells scope.names [])) s3.heap.objs.size X.env)) { s3 with heap := pushCells (s3.heap.push { cls := .type "dict", data := .dict #[] }) scope.names }
  rw [← ecl] at I4 ⊢
  have pg := hg s3 (upd H2 D (.lst [])) s3.heap.objs.size cl fp
  have pe := he s3 (upd H2 D (.lst [])) s3.heap.objs.size cl fp
  have low : ∀ b ∈ fp, (upd H2 D (.lst [])) b = none := fun b hb => (f3 b hb).1.1
  have bp := fun σ' => blk_passes (scope := scope) (ce := compEnvC scope cl s3.heap.objs.size X.env) (fp := fp) hs hf tk I3 rfl rfl (fun b hb => (f3 b hb).1) σ'
  obtain ⟨ce, ece⟩ : ∃ ce, ce = compEnvC scope cl s3.heap.objs.size X.env := ⟨_, rfl⟩
  have cL : ce.locals = s3.heap.objs.size := by rw [ece]; rfl
  rw [← ece] at I4 pg pe bp ⊢
  obtain ⟨H3, eH⟩ : ∃ H3, H3 = upd H2 D (.lst []) := ⟨_, rfl⟩
  rw [← eH] at I3 I4 pg pe bp w0 low f3
  have pe := pe _ bp
  obtain ⟨s4, e4⟩ : ∃ s4 : Shared, s4 = { s3 with heap := pushCells (s3.heap.push { cls := .type "dict", data := .dict #[] }) scope.names } := ⟨_, rfl⟩
  rw [← e4] at I4 ⊢
  have st4 : tn 0 s4.heap := T.keep _ _ _ st3 fun b _ o z => by rw [e4]; exact pushCells_keeps _ _ _ _ (Heap.get?_push_of_some _ z)
  have place : ∀ {σ' : L2.St} {H' : Hp} {s' : Shared}, Inv (X.blk s3 H3 scope ce fp) [] σ' H' s' → (∀ b ∈ fp, H' b = none) → ∀ b ∈ fp, FpOk (X.blk s3 H3 scope ce fp) [] H' b := fun {σ' H' s'} J' n b hb =>
    ⟨n b hb, (J'.ok.exf b hb).1, J'.ok.exfs b hb, .inl hb, fun x c z => (J'.ok.exf b hb).2 x c z, fun p hp => absurd (show p ∈ ([] : List (Addr × Obj)) ++ [] from hp) List.not_mem_nil⟩
  have loop : codeAny (model X.prog X.w) X.A (.compLoop (.ListComp elt [⟨tg, iter, [], 0⟩] scope pos) 0 (.ref it) (.ref D) ce) (compEnds (model X.prog X.w) X.A X.xe use Qf (.ref D) ce) s4 := by
    have err : ∀ {u : Value} {s' : Shared}, notedBy (model X.prog X.w) X.A ce (CompFails (model X.prog X.w) X.A X.xe ce) u s' → notedBy (model X.prog X.w) X.A ce (fun e s' => compEnds (model X.prog X.w) X.A X.xe use Qf (.ref D) ce (.error e) s') u s' := fun {u s'} z => by
      have eq : (fun e s' => compEnds (model X.prog X.w) X.A X.xe use Qf (.ref D) ce (.error e) s') = CompFails (model X.prog X.w) X.A X.xe ce := by
        funext e s'
        cases use <;> rfl
      rw [eq]
      exact z
    refine compLoop_any (fun n s' => ∃ i K, Inv (X.blk s3 H3 scope ce fp) [] (wipe σ (own.map (·.2))) K s' ∧ tn i s'.heap ∧ (∀ b ∈ fp, K b = none) ∧ W i n K) ?_ m0 ⟨0, H3, I4, st4, low, w0⟩
    rintro n s5 ⟨i, K5, I5, st5, n5, w5⟩
    rcases turn i n K5 w5 with ⟨stop, fin⟩ | ⟨go, Nx, hNx, step⟩
    · refine thnF (T.done (X.blk s3 H3 scope ce fp) rfl rfl rfl hc i [] s5 _ K5 (fun _ _ => False) I5 (place I5 n5) st5 stop) fun r s6 ⟨hr, I6⟩ => ?_
      subst hr
      have nC : K5 ce.locals = none := I6.free
      have I7 : Inv X pins σ K5 s6 := I3.call' (ch := fp) I6.os I6.base I6.hok I6.bare fun b hb => ⟨(f3 b hb).1.2.2.2.1, (f3 b hb).1.2.1, (f3 b hb).1.2.2.2.2.1, (f3 b hb).1.2.2.2.2.2⟩
      obtain ⟨m, hn, _⟩ := I6.loc
      exact hend D ce s6 m K5 I7 fin hn (by rw [cL] at nC ⊢; exact I3.fpOk (Nat.le_refl _) nC)
    · refine thnF (T.item (X.blk s3 H3 scope ce fp) rfl rfl rfl hc i [] s5 _ K5 (fun _ _ => False) I5 (place I5 n5) st5 go) fun r s6 ⟨u, hr, h6⟩ => ?_
      subst hr
      refine thnF h6 fun _ s7 ⟨x, K7, I7, r7, y7, st7, n7⟩ => ?_
      have P7 := I7.pinned (place I7 n7) (T.obj _ _ st7)
      refine thnF (pg.run _ s7 _ K7 x u _ P7 r7 (step x K7 y7)) fun _ s8 ⟨σ8, K8, I8, hw8, q8⟩ => ?_
      refine wpAny_tests_nil ?_
      rw [if_pos rfl]
      have q8 : te σ8 K8 (fun y K9 => ∃ acc, K9 D = some (.lst acc) ∧ acc.length < sizeLine ∧ Nx (upd K9 D (.lst (acc ++ [y])))) := by
        have z : tYes σ8 K8 (fun b H3 => if b = true then te σ8 H3 (fun y K9 => ∃ acc, K9 D = some (.lst acc) ∧ acc.length < sizeLine ∧ Nx (upd K9 D (.lst (acc ++ [y])))) else Nx H3) := q8
        unfold tYes at z
        simpa using z
      refine wpAny_mono (pe.run _ s8 σ8 K8 _ (show Inv (blkX X s3 H3 scope ce fp _) _ σ8 K8 s8 from Inv.wish (X := X.blk s3 H3 scope ce fp) I8 _) q8) (fun z s9 ⟨yv, K9, I9, r9, acc, hD9, hz9, nx⟩ => ?_) (fun u9 s9 z => err z)
      have I9 : Inv (X.blk s3 H3 scope ce fp) ([] ++ pinsAt fp s7.heap) σ8 K9 s9 := Inv.unwish (X := X.blk s3 H3 scope ce fp) I9
      refine app_ok (X := X.blk s3 H3 scope ce fp) I9 hD9 hz9 r9 fun s10 I10 => ?_
      obtain ⟨m', hm, w'⟩ := hNx _ nx
      have fix : ∀ b ∈ fp, ∀ o, s7.heap.get? b = some o → s10.heap.get? b = some o ∧ _ := fun b hb o z =>
        let y := I10.pin (b, o) (List.mem_append_right _ (List.mem_append_right _ (mem_pinsAt hb z)))
        And.intro y.1 y.2.1
      have hl : (wipe σ (own.map (·.2))).length = σ8.length := by rw [← hw8, wipe_length]
      refine ⟨m', hm, i + 1, _, (I10.unpinned (pins := [])).weak hl (fun j v z => ?_), T.keep _ _ _ st7 fun b hb o z => (fix b hb o z).1, fun b hb => ?_, w'⟩
      · rw [← hw8] at z
        exact (wipe_some z).1
      · obtain ⟨o, z, _⟩ := T.obj _ _ st7 b hb
        exact (fix b hb o z).2
  exact codeAny_compStart_list loop (T.self X.A 0 _ _ _ st4 loop)
end
end VL

set_option Elab.async false
set_option linter.all false
set_option maxRecDepth 100000
set_option maxHeartbeats 4000000
/-! VL39: a comprehension whose element may raise; clauses, calls and suites for exceptions with a context. -/
namespace VL
open PySem PySem.Spec PyProof.Rows L2
/-- what is wished of what flies out of a block -/
abbrev eXc (C : Cf) (W : Nat → Hp → Prop) : XK := fun cls d H' => ∃ c, cls = C.ex c ∧ d = none ∧ W c H'
def FamX (C : Cf) (W : Nat → Hp → Prop) (X X' : Cx) (scope : Scope) : Prop :=
  ∃ (s : Shared) (H : Hp) (Cc : Addr) (cl : List (Str × Addr)) (fp : List Addr) (xe : Value → Shared → Prop), X' = blkX X s H scope (compEnvC scope cl Cc X.env) fp xe ∧ ∀ σ', PassesAt (L2N.CX X.prog X.w) X' σ' (eXc C W)
theorem blk_cokX {C : Cf} {W : Nat → Hp → Prop} {X X' : Cx} {N G : List Str} {P : Nat → Bool} {scope : Scope} {vis : List Nat} {G' : List Str} (k : Cok C X N P G) (f : FamX C W X X' scope) (h : blkB N scope vis G' = true) : Cok C X' N (fun i => vis.contains i) G' := by
  obtain ⟨s, H, Cc, cl, fp, xe, rfl, _⟩ := f
  have q := blk_cok (X' := X.blk s H scope (compEnvC scope cl Cc X.env) fp) k ⟨s, H, Cc, cl, fp, rfl⟩ h
  exact ⟨q.hK, q.hN, q.nd, q.vis, q.gl, q.calm, q.hu, q.bt, q.hv⟩
def compR {α β : Type} (f : α → Res β) : List α → Res (List β)
  | [] => .ok []
  | x :: xs => match f x with
    | .ok y => (compR f xs).map (y :: ·)
    | .exc c => .exc c
    | .bad => .bad
theorem Res.map_map {α β γ : Type} (f : α → β) (g : β → γ) (r : Res α) : (r.map f).map g = r.map fun a => g (f a) := by cases r <;> rfl
theorem Res.map_id {α : Type} (r : Res α) : (r.map fun a => a) = r := by cases r <;> rfl
theorem compR_drop {α β : Type} (f : α → Res β) (xs : List α) (n : Nat) (h : n < xs.length) : compR f (xs.drop n) = (match f xs[n] with
    | .ok y => (compR f (xs.drop (n + 1))).map (y :: ·)
    | .exc c => .exc c
    | .bad => .bad) := by
  rw [List.drop_eq_getElem_cons h]
  rfl
section
variable {C : Cf} {Z : Hp} {X : Cx} {N G : List Str} {P : Nat → Bool} {ss ss' : En} {a b e tg iter elt fe : Expr} {rest es : List Expr} {pos p p2 apos : Pos} {r r' ra rb rz : RM} {α β γ : Type} {z q : Bool} {c : Nat}
variable {W : Nat → Hp → Prop} {S S' R : Type} {ES : S → En} {ES' : S' → En} {ER : R → RM} {st : Stmt} {blk sts A B : List Stmt} {fl : Fl S R} {spos : Pos}
theorem Rz.callB {x : Str} {ds : List D} {r : Res α} {m : α → RM} (tk : ∀ σ', PassesAt (L2N.CX X.prog X.w) X σ' (eXc C W)) (k : Cok C X N P G) (i : Nat) (hc : Cal X.prog X.w X.K X.mg X.base X.A C x ds (r.map m)) (h : r = .exc c) (ha : Ea C Z X ss (e :: es) ds) (hi : G[i]? = some x := by rfl)
    (he1 : starEach (e :: es) X.env = (false, eval e X.env) :: starEach es X.env := by rfl) (hpl : (backTo pos (starEach es X.env)).any (·.1) = false := by rfl) : Rz C Z X W ss (.Call (.Name x p) (e :: es) [] pos) c := fun σ F H Q he hq pins s I => by
  subst h
  obtain ⟨n, f, fd, ps, sp, hr, FO, hm, hk, hb, hs⟩ := hc
  refine (pe_callS (E := fun _ => eXc C W) FO hr (k.gl i x hi).1 hm hk hb tk pa_w (k.gl i x hi).2.1 he1 hpl).run pins s σ H Q I ?_
  refine ha σ F H _ he fun vs F1 H1 e1 q1 => hs _ _ _ _ ⟨q1, ?_⟩
  intro H2 h2
  exact ⟨c, rfl, rfl, hq H2 (((he.ext e1).zf.trans e1.fh).trans h2)⟩
def cX (C : Cf) (W : Nat → Hp → Prop) (X : Cx) (scope : Scope) (elt : Expr) : TE := fun σ H Q => ∀ X', FamX C W X X' scope → wE X' elt σ H Q
theorem lcx_read {scope : Scope} {i : Nat} {f : α → O} {fo : β → O} {xs : List α} {fe : α → Res β} (hl : i < ss.length) (hi : Ivc C Z X ss tg iter (xs.map f))
    (he1 : ∀ X', FamX C W X X' scope → ∀ x y, x ∈ xs → fe x = .ok y → Ev C Z X' (ss.set i (some (f x))) elt (rmO (fo y)))
    (he2 : ∀ X', FamX C W X X' scope → ∀ x c, x ∈ xs → fe x = .exc c → Rz C Z X' W (ss.set i (some (f x))) elt c)
    {σ : L2.St} {F H : Hp} {Q : VK} (en : EnvOk C Z ss F H σ) (hq : PostE C Z W F H Q ((compR fe xs).map fun ys => .new (oL fo ys))) : tLc (wI X tg iter) (gName i) tYes (cX C W X scope elt) [i] σ H Q := by
  refine hi σ F H _ en fun J F1 H1 Gx Y bd e1 wk hG hY => fun D hD => ?_
  have L : (xs.map f).length = xs.length := List.length_map _
  refine lc_it wk (fun n Hn => ∃ Fn acc zs fp, Ext F1 H1 Fn Hn ∧ Fn D = none ∧ Hn D = some (.lst acc) ∧ Owns C Z Fn Hn (zs.map fo) acc fp ∧ (∀ a ∈ fp, H1 a = none ∧ a ≠ D) ∧ fp.Nodup ∧ zs.length ≤ n ∧ compR fe xs = (compR fe (xs.drop n)).map (zs ++ ·)) ?_ ?_ ?_ ?_
  · refine ⟨F1, [], [], [], Ext.heap e1.fh fun b o q => by rw [upd_ne (ne_of_none q hD)]; exact q, e1.fh.free hD, upd_same, .nil, fun a q => absurd q List.not_mem_nil, List.nodup_nil, Nat.le_refl _, ?_⟩
    rw [List.drop_zero]
    exact (Res.map_id _).symm
  · rintro n Hn hn ⟨Fn, acc, zs, fp, ex, _⟩
    exact hG Fn Hn ex
  · rintro n x Hn H' hn ⟨Fn, acc, zs, fp, ex, hd, ha, ow, fr, nd, hzn, hz⟩ hy'
    have hn' : n < xs.length := by rw [← L]; exact hn
    obtain ⟨e2, ox⟩ := hY n (f xs[n]) Hn x H' Fn (by rw [List.getElem?_map]; simp [hn']) ex hy'
    have hx : xs[n] ∈ xs := List.getElem_mem hn'
    show _ ∧ _
    have en1 : EnvOk C Z ss Fn H' σ := ((en.ext e1).ext ex).ext e2
    have wp0 : wipe σ [i] = σ.set i none := rfl
    have en2 : EnvOk C Z (ss.set i (some (f xs[n]))) Fn H' ((wipe σ [i]).set i (some x)) := by
      have q := en1.put0 hl ox
      rw [wp0, List.set_set]
      exact q
    refine ⟨by rw [wp0]; show ((σ.set i none).set i (some x)).set i none = _; rw [List.set_set, List.set_set], ?_⟩
    unfold tYes
    dsimp only
    rw [if_pos rfl]
    rw [compR_drop fe xs n hn'] at hz
    intro X'' fm2
    cases hf : fe xs[n] with
    | bad =>
      rw [hf] at hz
      rw [hz] at hq
      exact hq.elim
    | exc c =>
      rw [hf] at hz
      rw [hz] at hq
      exact he2 X'' fm2 _ c hx hf _ Fn H' _ en2 hq
    | ok y =>
      rw [hf] at hz
      refine he1 X'' fm2 _ y hx hf _ Fn H' _ en2 fun v F4 H4 e4 q4 => ?_
      obtain ⟨g, og, ng, dg⟩ := rmO_ok q4
      have x4 := e2.trans e4
      have ha4 := x4.hh _ _ ha
      have hd4 := x4.ow D (by rw [ha]; simp) hd
      have ow4 := ow.ext x4
      refine ⟨acc, ha4, ?_, ?_⟩
      · rw [← ow.length, List.length_map]
        have q2 : xs.length ≤ sizeLine := by rw [← L]; exact bd
        omega
      · have h3D : H' D ≠ none := by rw [e2.hh _ _ ha]; simp
        have nu : ∀ b ∈ fp, b ≠ D := fun b q => (fr b q).2
        have ngD : ∀ b ∈ g, b ≠ D := fun b q z => by
          subst z
          exact h3D (ng _ q)
        have ts : Tst H4 (upd H4 D (.lst (acc ++ [v]))) := Tst.upd (by rw [ha4]; intro xs q; cases q)
        refine ⟨F4, acc ++ [v], zs ++ [y], fp ++ (g ++ []), ⟨(ex.trans x4).ff, fun b o q => ?_, fun b o q => ?_, (ex.trans x4).ow⟩, hd4, upd_same, ?_, ?_, ?_, ?_, ?_⟩
        · rw [upd_ne (ne_of_none q hD)]
          exact (ex.trans x4).hh b o q
        · rw [upd_ne (fun z => by subst z; rw [hd4] at q; cases q)]
          exact x4.fh b o q
        · rw [List.map_append]
          exact Owns.append (ow4.frame ts fun b q => upd_ne (nu b q)) (.cons (og.frame ts fun b q => upd_ne (ngD b q)) .nil)
        · intro b hb
          rcases List.mem_append.mp hb with q | q
          · exact fr b q
          · rw [List.append_nil] at q
            exact ⟨(ex.trans e2).hh.free (ng b q), ngD b q⟩
        · rw [List.append_nil]
          refine List.nodup_append.mpr ⟨nd, dg, fun b hb d hd' z => ?_⟩
          subst z
          exact ((ow.ext e2).gone b hb).2 (ng b hd')
        · rw [List.length_append]
          simp only [List.length_cons, List.length_nil]
          omega
        · rw [hz, Res.map_map]
          congr 1
          funext ys
          simp
  · rintro Hn ⟨Fn, acc, zs, fp, ex, hd, ha, ow, fr, nd, hzn, hz⟩
    rw [L, List.drop_length] at hz
    have hz' : compR fe xs = .ok zs := by rw [hz]; show Res.ok (zs ++ []) = _; rw [List.append_nil]
    rw [hz'] at hq
    refine hq _ Fn Hn (e1.trans ex) ⟨D :: fp, .lst hd ha ow, fun b hb => ?_, List.nodup_cons.mpr ⟨fun q => (fr D q).2 rfl, nd⟩⟩
    rcases List.mem_cons.mp hb with rfl | hb
    · exact e1.hh.free hD
    · exact e1.hh.free (fr b hb).1
/-- y = [elt for x in iter] on one line; elt may raise -/
theorem Sts.asgCR {x y : Str} {scope : Scope} {i j : Nat} {f : α → O} {fo : β → O} {xs : List α} {fe : α → Res β} {kf : List β → Fl S R} (tk : L2N.Takes X (WXc C W)) (k : Cok C X N P G) (hst : X.stack = X.env :: X.outer) (hfr : X.env.frame = some X.env.locals) (hl : i < ss.length) (hl2 : j < ss.length) (ok : BlkOk X.N X.env.scope scope [(x, i)])
    (hg : ∀ (s : Shared) (H : Hp) (C : Addr) (cl : List (Str × Addr)) (fp : List Addr), PG (X.blk s H scope (compEnvC scope cl C X.env) fp) tg (gName i)) (hyl : X.env.scope.names.lookup y = some .local)
    (hsw : swapsWith (.ListComp elt [⟨tg, iter, [], 0⟩] scope pos) (some (.Name y p)) spos.line X.env = pure true) (hi : Ivc C Z X ss tg iter (xs.map f))
    (he1 : ∀ X', FamX C W X X' scope → ∀ x y, x ∈ xs → fe x = .ok y → Ev C Z X' (ss.set i (some (f x))) elt (rmO (fo y)))
    (he2 : ∀ X', FamX C W X X' scope → ∀ x c, x ∈ xs → fe x = .exc c → Rz C Z X' W (ss.set i (some (f x))) elt c)
    (h : ∀ ys, compR fe xs = .ok ys → Sts C Z X W (ss.set j (some (oL fo ys))) sts ES ER (kf ys)) (hj : N[j]? = some y := by rfl) (hs : ∀ x, foldedSetIterable iter X.env x = pure x := by intro _; rfl) : Sts C Z X W ss (.Assign [.Name y p] (.ListComp elt [⟨tg, iter, [], 0⟩] scope pos) spos :: sts) ES ER (Fl.run (compR fe xs) kf) :=
  Sts.step ps_w fun σ F H D en hp pins s I => by
    have hy' : X.N[j]? = some y := by rw [k.hN]; exact hj
    have hN : X.N.Nodup := by rw [k.hN]; exact k.nd
    rw [exec_Assign_Name_used _ _ _ _ hsw]
    refine wpAny_bind (wpAny_standAt (wpAny_bind ?_))
    show wpAny _ X.A (do let _ ← comprehension (.ListComp elt [⟨tg, iter, [], 0⟩] scope pos) scope X.env (firstIterPos [⟨tg, iter, [], 0⟩] pos) (newList []) false (eval iter X.env) (some (assign (.Name y p) X.env))) _ _ s
    have hh : tLc (wI X tg iter) (gName i) tYes (cX C W X scope elt) [i] σ H (fun x H1 => gName j x σ H1 (wSs X sts D)) := by
      refine lcx_read hl hi he1 he2 en ?_
      cases hr : compR fe xs with
      | ok ys =>
        rw [hr] at hp
        intro v F1 H1 e1 q1
        exact (sts_iff.mp (h ys hr)) _ F1 H1 D (en.putN e1 hl2 (show (rmO (oL fo ys)).ok C Z H v F1 H1 from q1)) (Post.mono e1.gr hp)
      | exc c =>
        rw [hr] at hp
        exact hp
      | bad =>
        rw [hr] at hp
        exact hp.elim
    refine wpAny_bind (thn (lcx_core (own := [(x, i)]) (Qf := fun _ s' => SP X pins { D with nx := wSs X sts D } .next s') k.calm hN hst hfr tk I pi_w ok hg
      (fun s H Cc cl fp xe hx => ⟨fun pins s' σ' H' Q' I' h => h _ ⟨s, H, Cc, cl, fp, xe, rfl, hx⟩ pins s' I'⟩) hs hh fun L ce s' m H' I' q hn f => ?_) fun _ s' hq => wpAny_pure (wpAny_pure hq))
    show wpAny _ _ (assign (.Name y p) X.env (.ref L)) _ _ _
    refine wpAny_assign_Name (store_ok2 (v := V.ref L) I' hN hy' (.inl hyl) rfl (fun s2 I2 ⟨a, sb, ha⟩ => ?_) (.inr hyl))
    obtain ⟨f0, f1, f2, f3, f4, f5⟩ := f
    have haC : ce.locals ≠ a := by
      rcases ha with z | z
      · rw [z]; exact f1
      · exact fun e => f4 y a z e.symm
    refine ⟨m, hn.sameBut sb haC, fun h3 sb3 => ?_⟩
    exact ⟨_, H', I2.turned (t' := s2.toks) (fun b o hb e => (sb3.2 b hb).trans e) f0 f1 f3 f4 f5, q⟩
end
end VL

set_option Elab.async false
set_option linter.all false
set_option maxRecDepth 100000
set_option maxHeartbeats 4000000
/-! VL40: clauses, calls and suites for exceptions with a context. -/
namespace VL
open PySem PySem.Spec PyProof.Rows L2
inductive HdMC (X : Cx) : List ExceptHandler → Cls3 → Prop
  | nil : HdMC X [] []
  | no {x : Str} {c : Value} {ts : Addr → Value → Option Addr → L2.TS} {b0 : Stmt} {suite : List Stmt} {np p : Pos} {hds : List ExceptHandler} {l : Cls3} (hc : Names X x c)
      (hsu : ∀ (a : Addr) (oe : Obj) (cls : Value) (d : Option Addr) (pn : List (Addr × Obj)), Zc cls d oe → (∃ vs, oe.data = .fields vs) → PSs (X.suite a ((a, oe) :: pn)) (b0 :: suite) (ts a cls d)) (r : HdMC X hds l) :
      HdMC X (.ExceptHandler (some (.Name x np)) none (b0 :: suite) p :: hds) ((c, none, ts) :: l)
  | as_ {x n : Str} {i : Nat} {c : Value} {ts : Addr → Value → Option Addr → L2.TS} {b0 : Stmt} {suite : List Stmt} {np p : Pos} {hds : List ExceptHandler} {l : Cls3} (hc : Names X x c) (hi : X.N[i]? = some n) (hln : X.env.kindOf n = some .local)
      (hsu : ∀ (a : Addr) (oe : Obj) (cls : Value) (d : Option Addr) (pn : List (Addr × Obj)), Zc cls d oe → (∃ vs, oe.data = .fields vs) → PSs (X.suite a ((a, oe) :: pn)) (b0 :: suite) (ts a cls d)) (r : HdMC X hds l) :
      HdMC X (.ExceptHandler (some (.Name x np)) (some n) (b0 :: suite) p :: hds) ((c, some i, ts) :: l)
section
variable {X : Cx} {body : List Stmt} {h0 : ExceptHandler} {hds : List ExceptHandler} {l : Cls3} {pos : Pos} {tb : WX → L2.TS} {Wout : WX}
theorem ps_mixC (hs : X.stack = X.env :: X.outer) (hf : X.env.frame = some X.env.locals) (hN : X.N.Nodup) (tk : L2.Takes X Wout)
    (hb : ∀ (W : WX) (pn : List (Addr × Obj)) (xe : Value → Shared → Prop), L2.Takes (X.tr pn xe) W → PassesOwn (model X.prog X.w) X.A X.env xe → PSs (X.tr pn xe) body (tb W))
    (hh : HdMC X (h0 :: hds) l) : PS X (.Try body (h0 :: hds) [] [] pos) (fun D σ H => tb (wMix X.K Wout D l) D σ H) := by
  refine ⟨fun pins s σ H D I h => ?_⟩
  have ok := I.ok
  have fr : X.A.frames = some (X.env :: X.outer) := by rw [ok.frames, hs]
  refine wpAny_Try_except ?_
  let XE : Value → Shared → Prop := fun e s1 => wpAny (model X.prog X.w) X.A (noteFrame e X.env) (fun _ s2 => wpAny (model X.prog X.w) X.A (setFlight e none) (fun _ s3 => wpAny (model X.prog X.w) X.A (handleBy e X.env (h0 :: hds)) (SP X pins D) X.xe s3) X.xe s2) X.xe s1
  refine wpAny_mono ((hb (wMix X.K Wout D l) (X.pn ++ pins) XE (fun u s' xx => ?_) PassesOwn.looking).run [] s σ H D (I.toTry _) h) (fun f s1 sp => ?_) (fun e s1 he => he)
  · obtain ⟨a, B, sI, pins', σ', H', cls, d, rfl, J', nb, up, sky, na, os, ag, w⟩ := xx
    have J : Inv X pins σ' H' sI := J'.ofTry ok
    have sky2 : L2.Sky B (X.env :: X.outer) a (Zc cls d) X.env.locals s'.heap := by rw [← hs]; exact sky
    show wpAny (model X.prog X.w) X.A (noteFrame (.ref a) X.env) _ _ _
    refine L2.Sky.land Zc.steady fr hf sky2 fun h3 fl3 up3 => ?_
    have J3 : Inv X pins σ' H' { s' with heap := h3 } := J.landed nb fl3.1 (up.trans up3) os ag
    obtain ⟨oe3, vs3, he3, hz3, hd3⟩ := fl3.there
    have nfr : a ∉ frs (X.env :: X.outer) := fun hm => by
      obtain ⟨_, o', e', hnf⟩ := fl3.2.2.1.mem hm
      rw [he3] at e'
      cases e'
      exact hnf _ hd3
    have nL : a ≠ X.env.locals := fun z => nfr (List.mem_filterMap.mpr ⟨X.env, List.mem_cons_self, by rw [hf, z]⟩)
    have nF : a ∉ X.fs := fun hm => by
      obtain ⟨e, he, q⟩ := List.mem_filterMap.mp hm
      exact nfr (List.mem_filterMap.mpr ⟨e, List.mem_cons_of_mem _ he, q⟩)
    have S3 := J3.suite he3 hd3 na nL nF
    have LT : PySem.W.Looks (model X.prog X.w) h3 (typeOf (.ref a)) cls := fun A Q E s k q => wpAny_typeOf_ref (k _ _ he3) (by rw [hz3.1]; exact q)
    have test : ∀ {x : Str} {c : Value} {np : Pos} {Q : Value → Shared → Prop} {E : Value → Shared → Prop}, Names X x c → Q c { s' with heap := h3 } → wpAny (model X.prog X.w) (X.A.mark (some (.ref a))) (eval (.Name x np) X.env) Q E { s' with heap := h3 } := fun hc q => by
      obtain ⟨g1, g2, hm | ⟨hm, hv, hnn⟩⟩ := hc
      · exact ld_glob (X := X.suite a ((a, oe3) :: (X.pn ++ pins))) S3 g1 hm q g2
      · exact ld_blt (X := X.suite a ((a, oe3) :: (X.pn ++ pins))) S3 g1 hm hv q hnn g2
    have go : ∀ {hds' : List ExceptHandler} {l' : Cls3}, HdMC X hds' l' → wMix X.K Wout D l' cls d σ' H' → wpAny (model X.prog X.w) X.A (handleBy (.ref a) X.env hds') (SP X pins D) X.xe { s' with heap := h3 } := by
      intro hds' l' hk
      induction hk with
      | nil =>
        intro w
        refine wpAny_handleBy_nil ?_
        obtain ⟨k1, k2, k3, oe, vs, T, oT, ts', he, hz, hd, h1, hr⟩ := id fl3
        unfold PySem.passOn
        refine wpAny_bind (wpAny_field he hd h1 ?_)
        rw [if_neg (show ¬((Value.ref T == Value.none) = true) by simp)]
        have fin : wpAny (model X.prog X.w) X.A (setFlight (.ref a) X.env.frame) (fun _ s4 => wpAny (model X.prog X.w) X.A (throw (.ref a) : Sem Flow) (SP X pins D) X.xe s4) X.xe { s' with heap := h3 } := by
          rw [hf]
          refine HandSPX.setFlight_upZ fl3 fun h4 hh4 up4 => wpAny_throw (tk _ _ ?_)
          exact ⟨a, B, sI, pins, σ', H', cls, d, rfl, J, nb, (up.trans up3).trans up4, .inr (.inr (by rw [hs]; exact hh4)), na, os, ag, w⟩
        first
          | exact wpAny_bind (wpAny_pure (wpAny_bind fin))
          | exact wpAny_bind fin
      | @no x c ts b0 suite np p hds2 l2 hc hsu r ih =>
        intro w
        obtain ⟨b, hb1, yes, no⟩ := w
        refine wpAny_handleBy_cons (codeAny_handlers_test ?_) (by intro q; cases q)
        refine test hc ((PySem.W.exm_one (M := model X.prog X.w) (J3.kIn) LT hb1).here ?_)
        cases b with
        | true =>
          refine codeAny_handlers_suite (HandSPX.lands_againZ fl3 fun h4 fl4 up4 => ?_)
          have J4 : Inv X pins σ' H' { s' with heap := h4 } := J.landed nb fl4.1 ((up.trans up3).trans up4) os ag
          obtain ⟨oe4, vs4, he4, hz4, hd4⟩ := fl4.there
          refine wpAny_mono ((hsu a oe4 cls d (X.pn ++ pins) hz4 ⟨_, hd4⟩).run [] _ _ H' _ (J4.suite he4 hd4 na nL nF) (yes rfl a na)) (fun f s6 sp => ?_) (fun _ _ z => False.elim z)
          cases f with
          | ret u =>
            obtain ⟨v6, σ6, H6, S6, r6, q6⟩ := sp
            exact ⟨_, _, _, S6.unsuite ok, r6, q6⟩
          | next =>
            obtain ⟨σ6, H6, S6, q6⟩ := sp
            exact ⟨_, _, S6.unsuite ok, q6⟩
          | brk =>
            obtain ⟨σ6, H6, S6, q6⟩ := sp
            exact ⟨_, _, S6.unsuite ok, q6⟩
          | cont =>
            obtain ⟨σ6, H6, S6, q6⟩ := sp
            exact ⟨_, _, S6.unsuite ok, q6⟩
        | false =>
          show wpAny _ X.A (handleBy (.ref a) X.env hds2) _ _ _
          exact ih (no rfl)
      | @as_ x n i c ts b0 suite np p hds2 l2 hc hi hln hsu r ih =>
        intro w
        obtain ⟨b, hb1, yes, no⟩ := w
        refine wpAny_handleBy_cons (codeAny_handlers_test ?_) (by intro q; cases q)
        refine test hc ((PySem.W.exm_one (M := model X.prog X.w) (J3.kIn) LT hb1).here ?_)
        cases b with
        | true =>
          refine codeAny_handlers_suite_as (HandSPX.lands_againZ fl3 fun h4 fl4 up4 => ?_)
          have J4 : Inv X pins σ' H' { s' with heap := h4 } := J.landed nb fl4.1 ((up.trans up3).trans up4) os ag
          obtain ⟨oe4, vs4, he4, hz4, hd4⟩ := fl4.there
          have hloc : Loc X.env.scope n := .inl hln
          refine store_ok (X := X.suite a ((a, oe4) :: (X.pn ++ pins))) (v := .ref a) (J4.suite he4 hd4 na nL nF) hN hi hloc rfl (fun s5 S5 => ?_) (.inr hln)
          refine wpAny_mono ((hsu a oe4 cls d (X.pn ++ pins) hz4 ⟨_, hd4⟩).run [] s5 _ H' _ S5 (yes rfl a na)) (fun f s6 sp => ?_) (fun _ _ z => False.elim z)
          have fin : ∀ {σ6 : L2.St} {H6 : Hp} {Q : Shared → Prop}, Inv (X.suite a ((a, oe4) :: (X.pn ++ pins))) [] σ6 H6 s6 → (∀ s7, Inv X pins (σ6.set i none) H6 s7 → Q s7) →
              wpAny (model X.prog X.w) X.A (do bindName X.env n .none; unbindBehindTheSuite X.env n p) (fun _ s7 => Q s7) X.xe s6 := fun S6 hq => gone_ok (S6.unsuite ok) hN hi hln hq
          cases f with
          | ret u =>
            obtain ⟨v6, σ6, H6, S6, r6, q6⟩ := sp
            exact fin S6 fun s7 J7 => ⟨_, _, _, J7, r6, q6⟩
          | next =>
            obtain ⟨σ6, H6, S6, q6⟩ := sp
            exact fin S6 fun s7 J7 => ⟨_, _, J7, q6⟩
          | brk =>
            obtain ⟨σ6, H6, S6, q6⟩ := sp
            exact fin S6 fun s7 J7 => ⟨_, _, J7, q6⟩
          | cont =>
            obtain ⟨σ6, H6, S6, q6⟩ := sp
            exact fin S6 fun s7 J7 => ⟨_, _, J7, q6⟩
        | false =>
          show wpAny _ X.A (handleBy (.ref a) X.env hds2) _ _ _
          exact ih (no rfl)
    exact go hh w
  · cases f with
    | ret u =>
      obtain ⟨v, σ', H', J', r, q⟩ := sp
      exact ⟨v, σ', H', J'.ofTry ok, r, q⟩
    | next =>
      obtain ⟨σ', H', J', q⟩ := sp
      exact wpAny_execs_nil ⟨σ', H', J'.ofTry ok, q⟩
    | brk =>
      obtain ⟨σ', H', J', q⟩ := sp
      exact ⟨σ', H', J'.ofTry ok, q⟩
    | cont =>
      obtain ⟨σ', H', J', q⟩ := sp
      exact ⟨σ', H', J'.ofTry ok, q⟩
end
/-- the clauses, where each exception is taken -/
def hndC {S R : Type} (c : Nat) : List (Nat × Fl S R) → Fl S R
  | [] => .bad
  | (t, fl) :: r => if isX c t = true then fl else hndC c r
def Fl.trC {S R : Type} (q : Res Unit) (hs : Nat → List (Nat × Fl S R)) (k : Fl S R) : Fl S R := match q with
  | .ok _ => k
  | .exc c => if c < 6 then hndC c (hs c) else .bad
  | .bad => .bad
section
variable {C : Cf} {Z : Hp} {X : Cx} {N G : List Str} {P : Nat → Bool} {ss ss' : En} {a b c e e2 tg iter elt fe : Expr} {rest es : List Expr} {pos p p2 apos : Pos} {r r' ra rb rz : RM} {α β γ : Type} {z q : Bool}
variable {W : Nat → Hp → Prop} {S S' R : Type} {ES : S → En} {ES' : S' → En} {ER : R → RM} {st : Stmt} {blk sts A B : List Stmt} {fl : Fl S R} {spos : Pos}
/-- a suite, for whatever exception -/
def tsSC (X : Cx) (suite : List Stmt) : Addr → Value → Option Addr → L2.TS := fun a cls d D σ H => ∀ (oe : Obj) (pn : List (Addr × Obj)), Zc cls d oe → (∃ vs, oe.data = .fields vs) → wSs (X.suite a ((a, oe) :: pn)) suite D σ H
/-- what the clauses come to -/
inductive HSC (C : Cf) (Z : Hp) (X : Cx) (ss : En) (ES : S → En) (ER : R → RM) (c : Nat) : List ExceptHandler → Cls3 → List (Nat × Fl S R) → Prop
  | nil : HSC C Z X ss ES ER c [] [] []
  | no {x : Str} {t : Nat} {b0 : Stmt} {suite : List Stmt} {np p : Pos} {hds : List ExceptHandler} {L : Cls3} {l : List (Nat × Fl S R)} {fl : Fl S R} (hc : Names X x (C.ex t)) (ht : t < 6) (hx : fl.Rt)
      (hsu : ∀ (a : Addr) (oe : Obj) (pn : List (Addr × Obj)), Zc (C.ex c) none oe → (∃ vs, oe.data = .fields vs) → Sts C Z (X.suite a ((a, oe) :: pn)) (fun _ _ => False) ss (b0 :: suite) ES ER fl) (r : HSC C Z X ss ES ER c hds L l) :
      HSC C Z X ss ES ER c (.ExceptHandler (some (.Name x np)) none (b0 :: suite) p :: hds) ((C.ex t, none, tsSC X (b0 :: suite)) :: L) ((t, fl) :: l)
  | as_ {x n : Str} {i t : Nat} {b0 : Stmt} {suite : List Stmt} {np p : Pos} {hds : List ExceptHandler} {L : Cls3} {l : List (Nat × Fl S R)} {fl : Fl S R} (hc : Names X x (C.ex t)) (ht : t < 6) (hx : fl.Rt) (hi : X.N[i]? = some n) (hln : X.env.kindOf n = some .local) (hl : i < ss.length)
      (hsu : ∀ (a : Addr) (oe : Obj) (pn : List (Addr × Obj)), Zc (C.ex c) none oe → (∃ vs, oe.data = .fields vs) → Sts C Z (X.suite a ((a, oe) :: pn)) (fun _ _ => False) (ss.set i (some (.fz (.sc (.ref a))))) (b0 :: suite) ES ER fl) (r : HSC C Z X ss ES ER c hds L l) :
      HSC C Z X ss ES ER c (.ExceptHandler (some (.Name x np)) (some n) (b0 :: suite) p :: hds) ((C.ex t, some i, tsSC X (b0 :: suite)) :: L) ((t, fl) :: l)
theorem HSC.hd {c : Nat} {hds : List ExceptHandler} {L : Cls3} {l : List (Nat × Fl S R)} (h : HSC C Z X ss ES ER c hds L l) : HdMC X hds L := by
  induction h with
  | nil => exact .nil
  | no hc ht hx hsu r ih => exact .no hc (fun a oe cls d pn hz hf => ⟨fun pins s σ H D I h => h oe pn hz hf pins s I⟩) ih
  | as_ hc ht hx hi hln hl hsu r ih => exact .as_ hc hi hln (fun a oe cls d pn hz hf => ⟨fun pins s σ H D I h => h oe pn hz hf pins s I⟩) ih
theorem HSC.wish {c : Nat} {hds : List ExceptHandler} {L : Cls3} {l : List (Nat × Fl S R)} (h : HSC C Z X ss ES ER c hds L l) (xc : Xc C X.K) (hc : c < 6) {σ : L2.St} {F H : Hp} {D : Ends} (en : EnvOk C Z ss F H σ) (hp : Post C Z W ES ER F H D (hndC c l)) :
    wMix X.K (fun _ _ _ _ => False) D L (C.ex c) none σ H := by
  induction h with
  | nil => exact hp
  | @no x t b0 suite np p hds L l fl hN ht hx hsu r ih =>
    refine ⟨isX c t, xc.exm c t hc ht, fun q a ha oe pn hz hf => ?_, fun q => ?_⟩
    · unfold hndC at hp
      rw [if_pos q] at hp
      exact (sts_iff.mp (hsu a oe pn hz hf)) σ F H D en (Post.ends hx rfl hp)
    · unfold hndC at hp
      rw [if_neg (by rw [q]; decide)] at hp
      exact ih hp
  | @as_ x n i t b0 suite np p hds L l fl hN ht hx hi hln hl hsu r ih =>
    refine ⟨isX c t, xc.exm c t hc ht, fun q a ha => ?_, fun q => ?_⟩
    · unfold hndC at hp
      rw [if_pos q] at hp
      exact fun oe pn hz hf => (sts_iff.mp (hsu a oe pn hz hf)) (σ.set i (some (.ref a))) F H (endAs i D) (en.put0 hl (.fz .sc)) (Post.ends (D := D) hx rfl hp)
    · unfold hndC at hp
      rw [if_neg (by rw [q]; decide)] at hp
      exact ih hp
theorem HSC.nonx {c : Nat} {hds : List ExceptHandler} {L : Cls3} {l : List (Nat × Fl S R)} (h : HSC C Z X ss ES ER c hds L l) : ∀ s, hndC c l ≠ .nx s := by
  induction h with
  | nil => exact fun s h => nomatch h
  | no hN ht hx hsu r ih =>
    unfold hndC
    split
    · exact hx.1
    · exact ih
  | as_ hN ht hx hi hln hl hsu r ih =>
    unfold hndC
    split
    · exact hx.1
    · exact ih
/-- try: a block that changes no slot; except .. -/
theorem Sts.tryC {q : Res Unit} {h0 : ExceptHandler} {hds : List ExceptHandler} {L : Cls3} {hs : Nat → List (Nat × Fl S R)} (k : Cok C X N P G) (hst : X.stack = X.env :: X.outer) (hfr : X.env.frame = some X.env.locals) (xc : Xc C X.K)
    (hb : ∀ (WW : WX) (pn : List (Addr × Obj)) (xe : Value → Shared → Prop), L2.Takes (X.tr pn xe) WW → PassesOwn (model X.prog X.w) X.A X.env xe → Tb C Z (X.tr pn xe) WW ss A q)
    (hh : ∀ c, c < 6 → HSC C Z X ss ES ER c (h0 :: hds) L (hs c)) (hk : q = .ok () → Sts C Z X W ss sts ES ER fl) : Sts C Z X W ss (.Try A (h0 :: hds) [] [] pos :: sts) ES ER (Fl.trC q hs fl) := by
  have hd := (hh 0 (by decide)).hd
  refine Sts.step (ps_mixC (tb := fun WW D σ H => ∀ (pn : List (Addr × Obj)) (xe : Value → Shared → Prop), L2.Takes (X.tr pn xe) WW → PassesOwn (model X.prog X.w) X.A X.env xe → wSs (X.tr pn xe) A D σ H) hst hfr (by rw [k.hN]; exact k.nd) (Wout := fun _ _ _ _ => False) (fun u s' ⟨_, _, _, _, _, _, _, _, _, _, _, _, _, _, _, _, f⟩ => f.elim)
    (fun WW pn xe t o => ⟨fun pins s σ H D I h => h pn xe t o pins s I⟩) hd) fun σ F H D en hp => ?_
  intro pn xe t o
  refine hb _ pn xe t o σ F H _ en ?_
  cases q with
  | ok u => exact fun F' H' x => (sts_iff.mp (hk rfl)) σ F' H' D (en.ext x) (Post.mono x.gr hp)
  | bad => exact hp
  | exc c =>
    intro H' hH
    have hp' : Post C Z W ES ER F H D (if c < 6 then hndC c (hs c) else .bad) := hp
    by_cases hc : c < 6
    · rw [if_pos hc] at hp'
      have x := Ext.heap en.fh hH
      have hx := (hh c hc).nonx
      refine (hh c hc).wish (W := W) xc hc (en.ext x) ?_
      have hm := Post.mono x.gr hp'
      revert hm hx
      generalize hndC c (hs c) = o
      intro hx hm
      cases o with
      | nx s => exact absurd rfl (hx s)
      | rt r => exact hm
      | exc c' => exact hm
      | bad => exact hm
    · rw [if_neg hc] at hp'
      exact hp'.elim
end
section
variable {C : Cf} {Z : Hp} {X : Cx} {N G : List Str} {P : Nat → Bool} {ss : En} {a b c e : Expr} {pos p p1 p2 : Pos} {ea : Addr} {oe : Obj} {pn : List (Addr × Obj)}
/-- isinstance(e, T), e the exception that the suite holds, T a class of the text -/
theorem Ev.isEc {cx t : Nat} {x T : Str} (k : Cok C X N P G) (xc : Xc C X.K) (hc : cx < 6) (ht : t < 6) (hz : Zc (C.ex cx) none oe) (hf : ∃ vs, oe.data = .fields vs) (i j1 j2 : Nat) (hm : X.mg T = some (C.ex t)) (hi : N[i]? = some x := by rfl) (hs : ss[i]? = some (some (.fz (.sc (.ref ea)))) := by rfl) (hp : P i = true := by rfl)
    (h1 : G[j1]? = some ("isinstance" : Str) := by rfl) (h2 : G[j2]? = some T := by rfl) (st : starEach [.Name x p1, .Name T p2] X.env = (false, eval (.Name x p1) X.env) :: starEach [.Name T p2] X.env := by rfl) (st2 : starEach [.Name T p2] X.env = (false, eval (.Name T p2) X.env) :: starEach [] X.env := by rfl) :
    Ev C Z (X.suite ea ((ea, oe) :: pn)) ss (.Call (.Name "isinstance" p) [.Name x p1, .Name T p2] [] pos) (.frz (dB (isX cx t))) := fun σ F H Q he hq pins s I => by
  obtain ⟨D, eD, EC⟩ := xc.ec cx hc
  obtain ⟨Dt, eT, _⟩ := xc.ec t ht
  obtain ⟨fp, sl, nd⟩ := he.sl
  obtain ⟨v, f1, f2, g1, g2, g3, g4⟩ := sl.get hs
  cases g2 with
  | fz r =>
    cases r
    rw [eD] at hz
    have hz2 : Zc (.ref D) none oe := hz
    have p1' : PE (X.suite ea ((ea, oe) :: pn)) (.Name x p1) (tVar i) := pe_var (X := X.suite ea ((ea, oe) :: pn)) (by show X.N[i]? = _; rw [k.hN]; exact hi) (k.vis i x hp hi).1 (k.vis i x hp hi).2.1 (k.vis i x hp hi).2.2
    have p2' : PE (X.suite ea ((ea, oe) :: pn)) (.Name T p2) (tC (V.ref Dt)) := pe_glob (X := X.suite ea ((ea, oe) :: pn)) (v := .ref Dt) (u := .ref Dt) (k.gl j2 T h2).1 (by rw [← eT]; exact hm) rfl (k.gl j2 T h2).2.1
    refine (pe_callB (X := X.suite ea ((ea, oe) :: pn)) (call_isE EC hz2 hf) (k.gl j1 _ h1).1 k.bt.isinstance boot_isinstance (pa_cons p1' (pa_cons p2' pa_nil st2) st) (by decide) (by decide) st rfl).run pins s σ H Q I ?_
    refine ⟨.ref ea, g1, .ref Dt, .ref Dt, isX cx t, rfl, fun u h => h, ?_, hq _ F H (Ext.refl he.fh) .sc⟩
    have q := xc.kit cx t hc ht
    rw [eD, eT] at q
    exact q
/-- isinstance(e, ValueError) -/
theorem Ev.isEVc {cx : Nat} {x : Str} (k : Cok C X N P G) (xc : Xc C X.K) (hc : cx < 6) (hz : Zc (C.ex cx) none oe) (hf : ∃ vs, oe.data = .fields vs) (i j1 j2 : Nat) (hm : X.mg "ValueError" = none) (hi : N[i]? = some x := by rfl) (hs : ss[i]? = some (some (.fz (.sc (.ref ea)))) := by rfl) (hp : P i = true := by rfl)
    (h1 : G[j1]? = some ("isinstance" : Str) := by rfl) (h2 : G[j2]? = some ("ValueError" : Str) := by rfl) (st : starEach [.Name x p1, .Name "ValueError" p2] X.env = (false, eval (.Name x p1) X.env) :: starEach [.Name "ValueError" p2] X.env := by rfl) (st2 : starEach [.Name "ValueError" p2] X.env = (false, eval (.Name "ValueError" p2) X.env) :: starEach [] X.env := by rfl) :
    Ev C Z (X.suite ea ((ea, oe) :: pn)) ss (.Call (.Name "isinstance" p) [.Name x p1, .Name "ValueError" p2] [] pos) (.frz (dB true)) := fun σ F H Q he hq pins s I => by
  obtain ⟨D, eD, EC⟩ := xc.ec cx hc
  obtain ⟨fp, sl, nd⟩ := he.sl
  obtain ⟨v, f1, f2, g1, g2, g3, g4⟩ := sl.get hs
  cases g2 with
  | fz r =>
    cases r
    rw [eD] at hz
    have hz2 : Zc (.ref D) none oe := hz
    have p1' : PE (X.suite ea ((ea, oe) :: pn)) (.Name x p1) (tVar i) := pe_var (X := X.suite ea ((ea, oe) :: pn)) (by show X.N[i]? = _; rw [k.hN]; exact hi) (k.vis i x hp hi).1 (k.vis i x hp hi).2.1 (k.vis i x hp hi).2.2
    have p2' : PE (X.suite ea ((ea, oe) :: pn)) (.Name "ValueError" p2) (tC (V.ty "ValueError")) := pe_bltn (X := X.suite ea ((ea, oe) :: pn)) (v := .ty "ValueError") (u := .type "ValueError") (k.gl j2 _ h2).1 hm (by decide +kernel) rfl (by decide) (by decide)
    refine (pe_callB (X := X.suite ea ((ea, oe) :: pn)) (call_isE EC hz2 hf) (k.gl j1 _ h1).1 k.bt.isinstance boot_isinstance (pa_cons p1' (pa_cons p2' pa_nil st2) st) (by decide) (by decide) st rfl).run pins s σ H Q I ?_
    refine ⟨.ref ea, g1, .ty "ValueError", .type "ValueError", true, rfl, fun u h => h, ?_, hq _ F H (Ext.refl he.fh) .sc⟩
    have q := xc.ve cx hc
    rw [eD] at q
    exact q
end
/-- a def whose exceptions may have a context -/
def CalX (P : Program) (w : World) (K : PySem.W.Frag) (mg : Str → Option Value) (base : Heap) (A : Around) (C : Cf) (x : Str) (ds : List D) (r : Res RM) : Prop :=
  ∃ (k : Nat) (f : Addr) (fd : FuncData) (ps : List Str) (sp : Sp), Room k A ∧ FnOk P w K mg base (L2.CX P w) k f fd ps sp ∧ mg x = some (.ref f) ∧ PySem.W.keepIn K (.ref f) = true ∧ Binds K fd ps [] ∧ ∀ vs H Q E, spM C ds r vs H Q E → sp vs H Q E
def Cldx (P : Program) (w : World) (K : PySem.W.Frag) (mg : Str → Option Value) (base : Heap) (k : Nat) (x : Str) (sp : Sp) : Prop :=
  ∃ (f : Addr) (fd : FuncData) (ps : List Str), FnOk P w K mg base (L2.CX P w) k f fd ps sp ∧ mg x = some (.ref f) ∧ PySem.W.keepIn K (.ref f) = true ∧ Binds K fd ps []
section
variable {P : Program} {w : World} {K : PySem.W.Frag} {mg : Str → Option Value} {base : Heap} {C : Cf}
theorem Cldx.cal {j k : Nat} {x : Str} {sp : Sp} {A : Around} {ds : List D} {r : Res RM} (h : Cldx P w K mg base j x sp) (hr : Room k A) (hj : j ≤ k) (hs : ∀ vs H Q E, spM C ds r vs H Q E → sp vs H Q E) : CalX P w K mg base A C x ds r := by
  obtain ⟨f, fd, ps, h1, h2, h3, h4⟩ := h
  exact ⟨j, f, fd, ps, sp, hr.mono hj, h1, h2, h3, h4, hs⟩
theorem calX_ok {α : Type} {A : Around} {x : Str} {ds : List D} {r : Res α} {m : α → RM} {y : α} (h : CalX P w K mg base A C x ds (r.map m)) (e : r.get = some y) : CalX P w K mg base A C x ds (.ok (m y)) := by
  rw [Res.get_ok e] at h
  exact h
theorem fn_walkX {st : Stmt} {x qual : Str} {f : Addr} {fd : FuncData} {N ps G : List Str} {k : Nat} {ι R : Type} {ds : ι → List D} {o : ι → Fl Unit R} {un : Option R} {ER : ι → R → RM} (F : Fun K x qual st f fd) (S : FnScope N ps (defScope st)) (m : Nat) (B : defB (N.take m) G (defScope st) = true)
    (hK : C.K = K) (bt : Bt mg) (hl : ∀ i, (ds i).length = ps.length) (fu : ∀ i r, RetOk (ER i r)) (hun : ∀ i r, un = some r → ER i r = .frz dN)
    (body : ∀ (X : Cx) (Z : Hp) (W : Nat → Hp → Prop), X.prog = P → X.w = w → X.K = K → X.mg = mg → X.base = base → X.env.scope = defScope st → Cok C X N (fun i => Nat.blt i m) G → Dok X N (fun i => Nat.blt i m) → Room k X.A → L2.Takes X (WXc C W) → X.stack = X.env :: X.outer → X.env.frame = some X.env.locals → (∀ hd : Option Value, PassesOwnAt (model X.prog X.w) (X.A.mark hd) X.A X.env X.xe) → ∀ i, Sts C Z X W (start0 (ds i) N.length) (defBody st) (fun _ => (List.replicate N.length none : En)) (ER i) (o i)) :
    FnOk P w K mg base (L2.CX P w) (k + 1) f fd ps (fun vs H Q E => ∃ i, spM C (ds i) (((o i).res un).map (ER i)) vs H Q E) := by
  obtain ⟨oc, od, kV, doc, pm, an, cdv, ct, osl, rfl, lk, hcd⟩ := F.ex
  refine fn_of lk hcd S (fun vs H Q E h => ?_) fun A outer s H vs Q E hr hsp => ?_
  · obtain ⟨i, h, _⟩ := h
    rw [← h.length]
    exact hl i
  · obtain ⟨i, hv, hq⟩ := hsp
    refine ⟨_, pss_w, ?_⟩
    unfold defB at B
    rw [Bool.and_eq_true, List.all_eq_true, List.all_eq_true] at B
    obtain ⟨B1, B2⟩ := B
    have nm : ∀ (j : Nat) x, Nat.blt j m = true → N[j]? = some x → (Loc (defScope st) x) ∧ (x == ("__debug__" : Str)) = false ∧ (x == ("__classdict__" : Str)) = false := fun j x hj hx => by
      have q := B1 x (List.mem_of_getElem? (i := j) (by rw [List.getElem?_take, if_pos (Nat.blt_eq.mp hj)]; exact hx))
      simp only [Bool.and_eq_true, Bool.not_eq_true'] at q
      obtain ⟨⟨q1, q2⟩, q3⟩ := q
      refine ⟨?_, q2, q3⟩
      split at q1
      · exact .inl (by assumption)
      · exact .inr (by assumption)
      · cases q1
    have ck : Cok C (cxOf (L2.CX P w) P w K mg base N qual (defScope st) f cdv A outer s H E) N (fun i => Nat.blt i m) G := by
      refine ⟨hK.symm, rfl, S.nd, fun j x hj hx => ?_, fun j x hx => ?_, rfl, hr.units, bt, Nat.lt_of_le_of_lt (Nat.le_trans (Nat.add_le_add_left (by decide : 65 ≤ 200) _) (Nat.add_le_add_right (Nat.le_add_right _ _) 200)) hr.un⟩
      · obtain ⟨h1, h2, h3⟩ := nm j x hj hx
        exact ⟨h1.elim .inl fun z => .inr (.inl z), h2, h3⟩
      · have q := B2 x (List.mem_of_getElem? hx)
        simp only [Bool.and_eq_true, Bool.not_eq_true', decide_eq_false_iff_not] at q
        obtain ⟨⟨q1, q2⟩, q3⟩ := q
        refine ⟨?_, q2, q3⟩
        split at q1
        · assumption
        · cases q1
    have dk : Dok (cxOf (L2.CX P w) P w K mg base N qual (defScope st) f cdv A outer s H E) N (fun i => Nat.blt i m) := ⟨fun j x hj hx => (nm j x hj hx).1, fun _ => rfl, passes_of (K := fun e s'' => L2.CX P w outer H s E e s'') rfl⟩
    have tk : L2.Takes (cxOf (L2.CX P w) P w K mg base N qual (defScope st) f cdv A outer s H E) (WXc C fun c H' => E (C.ex c) none H') :=
      L2.Takes.imp (L2.takes_of rfl rfl rfl rfl) fun cls d σ H' h => by
        obtain ⟨c, rfl, rfl, h⟩ := h
        exact h
    have en : EnvOk C H (start0 (ds i) N.length) H H (start N vs) := by
      refine ⟨Same.refl H, Same.refl H, [], ?_, List.nodup_nil⟩
      unfold start0 L2.start
      rw [← hv.length]
      exact slots_start _ hv
    refine (sts_iff.mp (body _ H (fun c H' => E (C.ex c) none H') rfl rfl rfl rfl rfl rfl ck dk hr tk rfl rfl (fun hd => L2H.passesAt_of (K := fun e s'' => L2.CX P w outer H s E e s'') rfl hd) i)) (start N vs) H H _ en ?_
    cases ho : o i with
    | nx u =>
      rw [ho] at hq
      intro σ' F' H' g e
      show Q .non H'
      cases un with
      | none => exact hq.elim
      | some r =>
        have hq' : ∀ v H', Same H H' → okc C H v H' (ER i r) → Q v H' := hq
        refine hq' .non H' (e.zf.trans e.fh) ?_
        rw [hun i r rfl]
        exact Rp.sc
    | rt r =>
      rw [ho] at hq
      intro v F' H' g s' q
      have hq' : ∀ v H', Same H H' → okc C H v H' (ER i r) → Q v H' := hq
      refine hq' v H' (g.ff.trans s') (okc_of g.ff s' ?_ q)
      have z := fu i r
      cases h : ER i r with
      | new o => rw [h] at z; exact z
      | itm o => rw [h] at z; exact z
      | pins d ls => rw [h] at z; exact z
      | frz o => rw [h] at z; exact z
      | cur o => trivial
      | nrz o => trivial
    | exc c =>
      rw [ho] at hq
      exact fun H' s' => hq H' s'
    | bad =>
      rw [ho] at hq
      exact hq.elim
end
/-- what takes exceptions with a context takes those without -/
theorem takesN {X : Cx} {Wout : WX} (tk : L2.Takes X Wout) : L2N.Takes X Wout := fun u s' ⟨a, B, sI, pins', σ', H', cls, d, e, J', nb, up, sky, r⟩ => by
  refine tk u s' ⟨a, B, sI, pins', σ', H', cls, d, e, J', nb, up, ?_, r⟩
  rcases sky with z | z | z
  · obtain ⟨z1, z2, z3, oe, vs, z4, z5, z6⟩ := z
    exact .inl ⟨z1, z2, z3, oe, vs, z4, z5.zc, z6⟩
  · exact .inr (.inl (L2H.flyingZ_imp (fun o z => z.zc) z))
  · obtain ⟨b1, b0, f1, oe, vs, T, oT, ts, he, hz, r⟩ := z
    exact .inr (.inr ⟨b1, b0, f1, oe, vs, T, oT, ts, he, hz.zc, r⟩)
section
variable {C : Cf} {Z : Hp} {X : Cx} {N G : List Str} {P : Nat → Bool} {ss ss' : En} {a b c e e2 tg iter elt fe : Expr} {rest es : List Expr} {pos p p2 apos : Pos} {r r' ra rb rz : RM} {α β γ : Type} {z q : Bool}
variable {W : Nat → Hp → Prop} {S S' R : Type} {ES : S → En} {ES' : S' → En} {ER : R → RM} {st : Stmt} {blk sts A B : List Stmt} {fl : Fl S R} {spos : Pos}
variable {k0 : Nat}
theorem EvX.callX {x : Str} {ds : List D} {r : Res RM} (tk : L2.Takes X (WXc C W)) (k : Cok C X N P G) (i : Nat) (hc : CalX X.prog X.w X.K X.mg X.base X.A C x ds r) (ha : Ea C Z X ss (e :: es) ds) (hi : G[i]? = some x := by rfl) (he1 : starEach (e :: es) X.env = (false, eval e X.env) :: starEach es X.env := by rfl)
    (hpl : (backTo pos (starEach es X.env)).any (·.1) = false := by rfl) : EvX C Z X W ss (.Call (.Name x p) (e :: es) [] pos) (r.map backR) := fun σ F H Q he hq pins s I => by
  obtain ⟨n, f, fd, ps, sp, hr, FO, hm, hk, hb, hs⟩ := hc
  refine (pe_callS (E := L2.WE (WXc C W)) FO hr (k.gl i x hi).1 hm hk hb (fun σ => L2.passAt tk σ) pa_w (k.gl i x hi).2.1 he1 hpl).run pins s σ H Q I ?_
  refine ha σ F H _ he fun vs F1 H1 e1 q1 => hs _ _ _ _ ⟨q1, ?_⟩
  cases r with
  | ok rm =>
    intro v H2 h2 q2
    obtain ⟨F2, e2, q3⟩ := okc_back ((he.ext e1).zf.trans e1.fh) e1.fh h2 q2
    exact hq v F2 H2 (e1.trans e2) (RM.ok_old e1.hh q3)
  | exc c =>
    intro H2 h2
    exact ⟨c, rfl, rfl, hq H2 (((he.ext e1).zf.trans e1.fh).trans h2)⟩
  | bad => exact hq.elim
theorem Ev.callX {x : Str} {ds : List D} {rm : RM} (k : Cok C X N P G) (i : Nat) (hc : CalX X.prog X.w X.K X.mg X.base X.A C x ds (.ok rm)) (ha : Ea C Z X ss (e :: es) ds) (hi : G[i]? = some x := by rfl) (he1 : starEach (e :: es) X.env = (false, eval e X.env) :: starEach es X.env := by rfl)
    (hpl : (backTo pos (starEach es X.env)).any (·.1) = false := by rfl) : Ev C Z X ss (.Call (.Name x p) (e :: es) [] pos) (backR rm) :=
  (EvX.callX (W := fun _ _ => False) (r := .ok rm) takes_anyH k i hc ha hi he1 hpl).ev
theorem EvT.callX {WW : WX} {x : Str} {ds : List D} {r : Res RM} (tk : L2.Takes X WW) (k : Cok C X N P G) (i : Nat) (hc : CalX X.prog X.w X.K X.mg X.base X.A C x ds r) (ha : Ea C Z X ss (e :: es) ds) (hi : G[i]? = some x := by rfl) (he1 : starEach (e :: es) X.env = (false, eval e X.env) :: starEach es X.env := by rfl)
    (hpl : (backTo pos (starEach es X.env)).any (·.1) = false := by rfl) : EvT C Z X WW ss (.Call (.Name x p) (e :: es) [] pos) (r.map backR) := fun σ F H Q he hq pins s I => by
  obtain ⟨n, f, fd, ps, sp, hr, FO, hm, hk, hb, hs⟩ := hc
  refine (pe_callS (E := L2.WE WW) FO hr (k.gl i x hi).1 hm hk hb (fun σ => L2.passAt tk σ) pa_w (k.gl i x hi).2.1 he1 hpl).run pins s σ H Q I ?_
  refine ha σ F H _ he fun vs F1 H1 e1 q1 => hs _ _ _ _ ⟨q1, ?_⟩
  cases r with
  | ok rm =>
    intro v H2 h2 q2
    obtain ⟨F2, e2, q3⟩ := okc_back ((he.ext e1).zf.trans e1.fh) e1.fh h2 q2
    exact hq v F2 H2 (e1.trans e2) (RM.ok_old e1.hh q3)
  | exc c => exact fun H2 h2 => hq H2 (e1.hh.trans h2)
  | bad => exact hq.elim
theorem Cok.mark (k : Cok C X N P G) (h : Option Value) : Cok C { X with A := X.A.mark h } N P G := ⟨k.hK, k.hN, k.nd, k.vis, k.gl, k.calm, k.hu, k.bt, k.hv⟩
/-- try: x = f(..); except T: raise .. -/
theorem Sts.tryX {q : Res α} {x xT m : Str} {t e0 i j : Nat} {np p0 p1 p2 : Pos} {ss' : α → En} {kf : α → Fl S R} (tk : L2.Takes X (WXc C W)) (k : Cok C X N P G) (hst : X.stack = X.env :: X.outer) (hfr : X.env.frame = some X.env.locals) (hpa : ∀ hd : Option Value, PassesOwnAt (model X.prog X.w) (X.A.mark hd) X.A X.env X.xe) (xc : Xc C X.K)
    (hc : Names X xT (C.ex t)) (ht : t < 6) (hx : Exn C X.K X.mg x e0) (hi : G[i]? = some x)
    (hb : ∀ (WW : WX) (pn : List (Addr × Obj)) (xe : Value → Shared → Prop), L2N.Takes (X.tr pn xe) WW → TbA C Z (X.tr pn xe) WW ss A q ss')
    (hk : ∀ v, q = .ok v → Sts C Z X W (ss' v) sts ES ER (kf v)) : Sts C Z X W ss (.Try A [.ExceptHandler (some (.Name xT np)) none [.Raise (some (.Call (.Name x p) [.Constant (.str m) j p2] [] pos)) none spos] p0] [] [] p1 :: sts) ES ER (Fl.trA q (fun _ => [(t, .exc e0)]) kf) := by
  refine Sts.step (L2H.ps_try_onlyX (tb := fun WW D σ H => ∀ (pn : List (Addr × Obj)) (xe : Value → Shared → Prop), L2N.Takes (X.tr pn xe) WW → wSs (X.tr pn xe) A D σ H)
    (ts := fun a cls d D σ H => ∀ (oe : Obj) (pn : List (Addr × Obj)), L2.Takes (L2H.suiteX X a ((a, oe) :: pn)) (WXc C W) → L2H.HotC (L2H.suiteX X a ((a, oe) :: pn)) → wSs (L2H.suiteX X a ((a, oe) :: pn)) [.Raise (some (.Call (.Name x p) [.Constant (.str m) j p2] [] pos)) none spos] D σ H)
    hst hfr hc hpa tk (fun WW pn xe t _ o => ⟨fun pins s σ H D I h => h pn xe t pins s I⟩) (fun a oe cls d pn hz hf ht hh => ⟨fun pins s σ H D I h => h oe pn ht hh pins s I⟩)) fun σ F H D en hp => ?_
  intro pn xe tkN
  refine hb _ pn xe tkN σ F H _ en ?_
  cases q with
  | ok v => exact fun σ' F' H' x en' => (sts_iff.mp (hk v rfl)) σ' F' H' D en' (Post.mono x.gr hp)
  | bad => exact hp
  | exc c =>
    intro H' hH
    have hp' : Post C Z W ES ER F H D (if c < 6 then hndF c [(t, Fl.exc e0)] else .bad) := hp
    by_cases hc6 : c < 6
    · rw [if_pos hc6] at hp'
      have x6 := Ext.heap en.fh hH
      refine ⟨isX c t, xc.exm c t hc6 ht, fun q6 a ha oe pn tk2 hot => ?_, fun q6 => ?_⟩
      · unfold hndF at hp'
        rw [if_pos q6] at hp'
        have st : Sts C Z (hotX { X with A := X.A.mark (some (.ref a)) } ((a, oe) :: pn)) W ss [.Raise (some (.Call (.Name x p) [.Constant (.str m) j p2] [] pos)) none spos] ES ER (.exc e0) := Sts.raiseH tk2 (k.mark _) hot i hx hi
        exact (sts_iff.mp st) σ F H' _ (en.ext x6) hp'
      · unfold hndF at hp'
        rw [if_neg (by rw [q6]; decide)] at hp'
        exact ⟨c, rfl, rfl, hp' H' ((en.zf.trans en.fh).trans hH)⟩
    · rw [if_neg hc6] at hp'
      exact hp'.elim
/-- x = e, e raises -/
theorem Sts.rzAsg {x : Str} {c i : Nat} (k : Cok C X N P G) (d : Dok X N P) (h : Rz C Z X W ss e c) (hi : N[i]? = some x := by rfl) (hpi : P i = true := by rfl)
    (hs : swapsWith e (some (.Name x p)) spos.line X.env = pure false := by rfl) : Sts C Z X W ss (.Assign [.Name x p] e spos :: sts) ES ER (.exc c) :=
  Sts.step (ps_set (i := i) (by rw [k.hN]; exact k.nd) (by rw [k.hN]; exact hi) (d.loc i x hpi hi) pe_w hs (.inl (d.fn x))) fun σ F H D en hp => h σ F H _ en hp
end
end VL

set_option Elab.async false
set_option linter.all false
set_option maxRecDepth 100000
set_option maxHeartbeats 4000000
/-! VL41: a tuple, one of whose parts raises. -/
namespace VL
open PySem PySem.Spec PyProof.Rows L2
section
variable {C : Cf} {Z : Hp} {X : Cx} {ss : En} {a b : Expr} {es : List Expr} {pos : Pos} {ra : RM} {c : Nat} {W : Nat → Hp → Prop}
theorem Rz.tup1 {k : Nat} (h : Rz C Z X W ss a c) (hs : starEach (a :: es) X.env = (false, eval a X.env) :: starEach es X.env := by rfl) : Rz C Z X W ss (.Tuple (a :: es) k pos) c := fun σ F H Q he hq pins s I =>
  (pe_tup (pa_cons pe_w pa_w hs)).run pins s σ H Q I (h σ F H _ he hq)
theorem Rz.tup2 {k : Nat} (ha : Ev C Z X ss a ra) (h : Rz C Z X W ss b c) (hs : starEach (a :: b :: es) X.env = (false, eval a X.env) :: starEach (b :: es) X.env := by rfl) (hs2 : starEach (b :: es) X.env = (false, eval b X.env) :: starEach es X.env := by rfl) : Rz C Z X W ss (.Tuple (a :: b :: es) k pos) c := fun σ F H Q he hq pins s I =>
  (pe_tup (pa_cons pe_w (pa_cons pe_w pa_w hs2) hs)).run pins s σ H Q I (ha σ F H _ he fun v F1 H1 e1 _ => h σ F1 H1 _ (he.ext e1) hq)
end
theorem Sts.lt0 {C : Cf} {Z : Hp} {X : Cx} {W : Nat → Hp → Prop} {ss : En} {blk : List Stmt} {S R α : Type} {ES : S → En} {ER : R → RM} {v : α} {k : α → Fl S R} (h : ∀ y, y = v → Sts C Z X W ss blk ES ER (k y)) : Sts C Z X W ss blk ES ER (Fl.lt v k) := h v rfl
/-- one sign, as a text -/
abbrev sgn (x : Nat) : Str := ⟨#[x]⟩
/-- as Sts; a goal of this form is not unfolded where it is looked at -/
inductive StW (C : Cf) (Z : Hp) (X : Cx) (W : Nat → Hp → Prop) (ss : En) (b : List Stmt) {S R : Type} (ES : S → En) (ER : R → RM) (o : Fl S R) : Prop
  | mk (h : Sts C Z X W ss b ES ER o) : StW C Z X W ss b ES ER o
inductive StrsE : List Expr → List Str → Prop
  | nil : StrsE [] []
  | cons {s : Str} {j : Nat} {p : Pos} {es : List Expr} {xs : List Str} (h : StrsE es xs) : StrsE (.Constant (.str s) j p :: es) (s :: xs)
section
variable {C : Cf} {Z : Hp} {X : Cx} {N G : List Str} {P : Nat → Bool} {ss : En} {pos p p2 apos spos : Pos} {es : List Expr} {W : Nat → Hp → Prop} {S R α : Type} {ES : S → En} {ER : R → RM} {blk sts : List Stmt}
theorem Ei.strs {xs : List Str} (h : StrsE es xs) : Ei C Z X ss es (xs.map (zz dS)) := by
  induction h with
  | nil => exact Ei.nil
  | cons h ih => exact Ei.cons (o := zz dS _) Ev.str ih
theorem StW.lt0 {v : α} {k : α → Fl S R} (h : ∀ y, y = v → StW C Z X W ss blk ES ER (k y)) : StW C Z X W ss blk ES ER (Fl.lt v k) := h v rfl
theorem StW.chk {q : Prop} {fl : Fl S R} (h : q → StW C Z X W ss blk ES ER fl) : StW C Z X W ss blk ES ER (Fl.chk q fl) := ⟨Sts.chk fun z => by cases h z; assumption⟩
theorem StW.req {o : Option α} {k : α → Fl S R} (h : ∀ a, o = some a → StW C Z X W ss blk ES ER (k a)) : StW C Z X W ss blk ES ER (Fl.req o k) := ⟨Sts.req fun a e => by cases h a e; assumption⟩
theorem StW.ret {e : Expr} {r : R} (he : Ev C Z X ss e (ER r)) : StW C Z X W ss (.Return (some e) spos :: sts) ES ER (.rt r) := ⟨Sts.ret he⟩
/-- x = [texts] -/
theorem StW.asgStrs {x : Str} {i : Nat} {xs : List Str} {fl : List Str → Fl S R} (hs : StrsE es xs) (k : Cok C X N P G) (d : Dok X N P) (hz : xs.length ≤ sizeLine) (hl : i < ss.length) (h : ∀ y, y = xs → StW C Z X W (ss.set i (some (.nz (dL dS y)))) sts ES ER (fl y)) (hi : N[i]? = some x) (hpi : P i = true) :
    StW C Z X W ss (.Assign [.Name x p] (.List es pos) spos :: sts) ES ER (Fl.lt xs fl) :=
  ⟨Sts.asgL (i := i) (zn (dL dS)) k d (Ev.nrz_new (Ev.displ (f := zz dS) hz (Ei.strs hs)) ((er_L er_z) xs) ((fu_L (fu_z (fun _ => Flat.sc))) xs)) hl (fun y e => by cases h y e; assumption) hi hpi⟩
/-- x = x + [texts] -/
theorem StW.asgCat {x : Str} {i : Nat} {ys xs : List Str} {fl : List Str → Fl S R} (hs : StrsE es xs) (k : Cok C X N P G) (d : Dok X N P) (hz : xs.length ≤ sizeLine) (hc : ys.length + xs.length ≤ sizeLine) (hl : i < ss.length) (hss : ss[i]? = some (some (.nz (dL dS ys)))) (h : ∀ y, y = ys ++ xs → StW C Z X W (ss.set i (some (.nz (dL dS y)))) sts ES ER (fl y)) (hi : N[i]? = some x) (hpi : P i = true) :
    StW C Z X W ss (.Assign [.Name x p] (.BinOp (.Name x p2) .Add (.List es pos) apos) spos :: sts) ES ER (Fl.lt (ys ++ xs) fl) :=
  ⟨Sts.asgL (i := i) (zn (dL dS)) k d (Ev.nrz_new (Ev.catL (f := zz dS) hc (Ev.itm_frz (Ev.frz_nrz (Ev.nz k i hi hss hpi))) (Ev.itmL (f := zz dS) (Ev.displ (f := zz dS) hz (Ei.strs hs)) (fun _ => trivial))) ((er_L er_z) (ys ++ xs)) ((fu_L (fu_z (fun _ => Flat.sc))) (ys ++ xs))) hl (fun y e => by cases h y e; assumption) hi hpi⟩
end
end VL

set_option Elab.async false
set_option linter.all false
set_option maxRecDepth 100000
set_option maxHeartbeats 4000000
namespace VL
open PySem PySem.Spec PyProof.Rows L2
noncomputable def b_l_cell_at (script : List Int) (k : Int) : Fl Unit Int :=
  (if (decide (k < ((script).length : Int))) = true then
  Fl.req (atI script k) fun item =>
  Fl.rt item
  else
  Fl.rt (0 : Int))
noncomputable def m_l_cell_at (script : List Int) (k : Int) : Res Int := (b_l_cell_at script k).res (none : Option Int)
noncomputable def b_l_many (script : List Int) : Fl Unit Int :=
  Fl.req ((m_l_cell_at script (0 : Int)).get) fun r =>
  Fl.lt (r : Int) fun cell =>
  (if (decide (((cell / (9 : Int)) % (16 : Int)) = (3 : Int))) = true then
  Fl.rt ((cell / (144 : Int)) % (61 : Int))
  else
  (if (decide (((cell / (9 : Int)) % (8 : Int)) = (5 : Int))) = true then
  Fl.rt ((9 : Int) + ((cell / (72 : Int)) % (12 : Int)))
  else
  Fl.rt (cell % (9 : Int))))
noncomputable def m_l_many (script : List Int) : Res Int := (b_l_many script).res (none : Option Int)
noncomputable def b_l_name (script : List Int) (many : Int) (k : Int) : Fl Unit Int :=
  Fl.req ((m_l_cell_at script (1 : Int)).get) fun r =>
  Fl.lt (r : Int) fun cell =>
  (if (decide ((cell % (2 : Int)) = (1 : Int))) = true then
  Fl.chk (0 < many) <|
  Fl.rt (((cell / (2 : Int)) - k) % many)
  else
  Fl.chk (0 < many) <|
  Fl.rt (((cell / (2 : Int)) + k) % many))
noncomputable def m_l_name (script : List Int) (many : Int) (k : Int) : Res Int := (b_l_name script many k).res (none : Option Int)
noncomputable def b_l_ties (script : List Int) (many : Int) (rows : (List (List Int))) : Fl Unit (List (Int × Int)) :=
  Fl.lt ([] : (List (Int × Int))) fun ties =>
  Fl.chk (RgOk 0 many) <|
  Fl.bind (forF (fun (s : (List (Int × Int))) (k : Int) =>
  Fl.req (atI rows k) fun item =>
  Fl.bind (forF (fun (s1 : (List (Int × Int))) (one : Int) =>
  Fl.req ((m_l_name script many k).get) fun r =>
  Fl.req ((m_l_name script many one).get) fun r1 =>
  Fl.lt ((r, r1) : (Int × Int)) fun pair =>
  Fl.bind (if (decide (((k + one) % (2 : Int)) = (1 : Int))) = true then
  Fl.lt ((pair.2, pair.1) : (Int × Int)) fun pair1 =>
  Fl.nx (pair1)
  else
  Fl.nx (pair)) fun (s2 : (Int × Int)) =>
  Fl.app s1 s2 fun ties1 =>
  Fl.nx (ties1)) item (s)) fun (s1 : (List (Int × Int))) =>
  Fl.nx (s1)) (rangeI 0 many) (ties)) fun (s : (List (Int × Int))) =>
  Fl.chk ((s).length + ((((cut s none (some (3 : Int)))).map (fun pair2 : (Int × Int) => (pair2.2, pair2.1)))).length ≤ sizeLine) <|
  Fl.chk (((s ++ (((cut s none (some (3 : Int)))).map (fun pair2 : (Int × Int) => (pair2.2, pair2.1))))).length + ((cut s (some (1 : Int)) (some (4 : Int)))).length ≤ sizeLine) <|
  Fl.chk (((cut s none (some (1 : Int)))).length * 2 ≤ sizeLine) <|
  Fl.chk ((((s ++ (((cut s none (some (3 : Int)))).map (fun pair2 : (Int × Int) => (pair2.2, pair2.1)))) ++ (cut s (some (1 : Int)) (some (4 : Int))))).length + ((repL 2 (cut s none (some (1 : Int))))).length ≤ sizeLine) <|
  Fl.rt (((s ++ (((cut s none (some (3 : Int)))).map (fun pair2 : (Int × Int) => (pair2.2, pair2.1)))) ++ (cut s (some (1 : Int)) (some (4 : Int)))) ++ (repL 2 (cut s none (some (1 : Int)))))
noncomputable def m_l_ties (script : List Int) (many : Int) (rows : (List (List Int))) : Res (List (Int × Int)) := (b_l_ties script many rows).res (none : Option (List (Int × Int)))
noncomputable def b_l_near (many : Int) (ties : (List (Int × Int))) : Fl Unit (List (List Int)) :=
  Fl.chk (RgOk 0 many) <|
  Fl.lt (((rangeI 0 many)).map (fun k : Int => [])) fun near =>
  Fl.bind (forF (fun (s : (List (List Int))) (x : (Int × Int)) =>
  Fl.req (atI s x.1) fun item =>
  Fl.bind (if (!((item).contains x.2)) = true then
  Fl.req (appI? s x.1 x.2) fun near1 =>
  Fl.req (appI? near1 x.2 x.1) fun near2 =>
  Fl.nx (near2)
  else
  Fl.nx (s)) fun (s1 : (List (List Int))) =>
  Fl.nx (s1)) ties (near)) fun (s : (List (List Int))) =>
  Fl.rt ((s).map (fun row : (List Int) => (isort row)))
noncomputable def m_l_near (many : Int) (ties : (List (Int × Int))) : Res (List (List Int)) := (b_l_near many ties).res (none : Option (List (List Int)))
noncomputable def b_p_Web_ties (self : Web) : Fl Unit (List (Int × Int)) :=
  Fl.lt ([] : (List (Int × Int))) fun found =>
  Fl.chk (RgOk 0 self.many) <|
  Fl.bind (forF (fun (s : (List (Int × Int))) (one : Int) =>
  Fl.req (atI self.rows one) fun item =>
  Fl.bind (forF (fun (s1 : (List (Int × Int))) (other : Int) =>
  Fl.bind (if (decide (one < other)) = true then
  Fl.app s1 (one, other) fun found1 =>
  Fl.nx (found1)
  else
  Fl.nx (s1)) fun (s2 : (List (Int × Int))) =>
  Fl.nx (s2)) item (s)) fun (s1 : (List (Int × Int))) =>
  Fl.nx (s1)) (rangeI 0 self.many) (found)) fun (s : (List (Int × Int))) =>
  Fl.rt s
noncomputable def m_p_Web_ties (self : Web) : Res (List (Int × Int)) := (b_p_Web_ties self).res (none : Option (List (Int × Int)))
noncomputable def b_p_shown (web : Web) : Fl Unit Str :=
  Fl.chk ((web.many).natAbs.log2 < 1920) <|
  Fl.chk (((strI web.many)).length + ((":" : Str)).length ≤ sizeLine) <|
  Fl.lt ([((strI web.many) ++ (":" : Str))] : (List Str)) fun words =>
  Fl.req ((m_p_Web_ties web).get) fun r =>
  Fl.bind (forF (fun (s : (List Str)) (x : (Int × Int)) =>
  Fl.chk ((x.1).natAbs.log2 < 1920) <|
  Fl.chk ((x.2).natAbs.log2 < 1920) <|
  Fl.chk ((joinS [(strI x.1), ("-" : Str), (strI x.2)]).length ≤ sizeLine) <|
  Fl.app s (joinS [(strI x.1), ("-" : Str), (strI x.2)]) fun words1 =>
  Fl.nx (words1)) r (words)) fun (s : (List Str)) =>
  Fl.chk (((s).map (·.length)).sum + (s).length * ((" " : Str)).length ≤ 16777216) <|
  Fl.rt (Txt.join (" " : Str) s)
noncomputable def m_p_shown (web : Web) : Res Str := (b_p_shown web).res (none : Option Str)
noncomputable def b_l_mixed (cell : Int) (k : Int) : Fl Unit Int :=
  Fl.rt (((cell + ((101 : Int) * k)) * (48271 : Int)) % (1000003 : Int))
noncomputable def m_l_mixed (cell : Int) (k : Int) : Res Int := (b_l_mixed cell k).res (none : Option Int)
noncomputable def b_l_odd_text (cell : Int) : Fl Unit Str :=
  Fl.lt ([("" : Str), (":" : Str), ("0" : Str), ("0: " : Str), (" 0:" : Str), ("00:" : Str), ("61:" : Str), ("2:0-1" : Str), ("2: 1-0" : Str), ("2: 0-1 0-1" : Str), ("3: 0-2 0-1" : Str)] : List Str) fun texts =>
  Fl.lt (texts : (List Str)) fun some_ =>
  Fl.lt ([("2: 0-0" : Str), ("2: 0-2" : Str), ("1: 0-1" : Str), ("02: 0-1" : Str), ("2:  0-1" : Str), ("2: 0--1" : Str), ("2: 00-1" : Str), ("60:" : Str)] : List Str) fun texts1 =>
  Fl.chk ((some_).length + (texts1).length ≤ sizeLine) <|
  Fl.lt ((some_ ++ texts1) : (List Str)) fun some_1 =>
  Fl.lt ([("5: 0-1 0-4" : Str), ("3: 0-1 1-2 " : Str), ("-1:" : Str)] : List Str) fun texts2 =>
  Fl.chk ((some_1).length + (texts2).length ≤ sizeLine) <|
  Fl.lt ((some_1 ++ texts2) : (List Str)) fun some_2 =>
  Fl.req (atI some_2 (cell % (22 : Int))) fun item =>
  Fl.rt item
noncomputable def m_l_odd_text (cell : Int) : Res Str := (b_l_odd_text cell).res (none : Option Str)
noncomputable def b_l_text_by (text : Str) (cell : Int) (kind : Int) : Fl Unit Str :=
  (if (decide (kind = (2 : Int))) = true then
  Fl.chk ((text).length ≤ sizeLine) <|
  Fl.chk (0 < (((text).length : Int) + (1 : Int))) <|
  Fl.lt ((cell % (((text).length : Int) + (1 : Int))) : Int) fun place =>
  Fl.chk ((text).length ≤ sizeLine) <|
  Fl.chk ((("0123456789-: a\n\t+_;" : Str)).length ≤ sizeLine) <|
  Fl.req (atI (("0123456789-: a\n\t+_;" : Str)).cps.toList ((cell / (997 : Int)) % (19 : Int))) fun sign =>
  Fl.chk (((cutS text none (some place))).length + ((sgn sign)).length ≤ sizeLine) <|
  Fl.chk ((((cutS text none (some place)) ++ (sgn sign))).length + ((cutS text (some place) none)).length ≤ sizeLine) <|
  Fl.rt (((cutS text none (some place)) ++ (sgn sign)) ++ (cutS text (some place) none))
  else
  (if (decide (kind = (3 : Int))) = true then
  Fl.chk ((text).length ≤ sizeLine) <|
  Fl.chk (0 < ((text).length : Int)) <|
  Fl.lt ((cell % ((text).length : Int)) : Int) fun place1 =>
  Fl.chk ((text).length ≤ sizeLine) <|
  Fl.chk (((cutS text none (some place1))).length + ((cutS text (some (place1 + (1 : Int))) none)).length ≤ sizeLine) <|
  Fl.rt ((cutS text none (some place1)) ++ (cutS text (some (place1 + (1 : Int))) none))
  else
  (if (decide (kind = (4 : Int))) = true then
  Fl.chk ((text).length + 2 ≤ sizeLine) <|
  Fl.lt ((Txt.split text (" " : Str)) : (List Str)) fun words =>
  Fl.chk (0 < ((words).length : Int)) <|
  Fl.lt ((cell % ((words).length : Int)) : Int) fun one =>
  Fl.chk (0 < ((words).length : Int)) <|
  Fl.lt (((cell / (97 : Int)) % ((words).length : Int)) : Int) fun other =>
  Fl.req (atI words one) fun item =>
  Fl.lt (item : Str) fun kept =>
  Fl.req (atI words other) fun item1 =>
  Fl.req (setI? words one item1) fun words1 =>
  Fl.req (setI? words1 other kept) fun words2 =>
  Fl.chk (((words2).map (·.length)).sum + (words2).length * ((" " : Str)).length ≤ 16777216) <|
  Fl.rt (Txt.join (" " : Str) words2)
  else
  (if (decide (kind = (5 : Int))) = true then
  Fl.req ((m_l_odd_text cell).get) fun r =>
  Fl.rt r
  else
  Fl.rt text))))
noncomputable def m_l_text_by (text : Str) (cell : Int) (kind : Int) : Res Str := (b_l_text_by text cell kind).res (none : Option Str)
noncomputable def b_l_number (word : Str) : Fl Unit Int :=
  Fl.req ((orO (decide (word = ("" : Str))) (ifO ((word).length ≤ sizeLine) (some (decide ((2 : Int) < ((word).length : Int))))))) fun t =>
  (if t = true then
  Fl.rt (99 : Int)
  else
  Fl.chk ((word).length ≤ sizeLine) <|
  Fl.bind (forF (fun (s : Unit) (sign : Nat) =>
  (if (!decide (sign ∈ (("0123456789" : Str)).cps.toList)) = true then
  Fl.rt (99 : Int)
  else
  Fl.nx ())) ((word).cps.toList) ()) fun (s : Unit) =>
  Fl.req (PySem.intText? word) fun number =>
  Fl.chk ((word).length ≤ 640) <|
  Fl.rt number)
noncomputable def m_l_number (word : Str) : Res Int := (b_l_number word).res (none : Option Int)
noncomputable def b_l_shown (many : Int) (near : (List (List Int))) : Fl Unit Str :=
  Fl.chk ((many).natAbs.log2 < 1920) <|
  Fl.chk (((strI many)).length + ((":" : Str)).length ≤ sizeLine) <|
  Fl.lt ([((strI many) ++ (":" : Str))] : (List Str)) fun words =>
  Fl.chk (RgOk 0 many) <|
  Fl.bind (forF (fun (s : (List Str)) (k : Int) =>
  Fl.req (atI near k) fun item =>
  Fl.req (compO (fun other : Int => some (decide (k < other))) (fun other : Int => (ifO ((k).natAbs.log2 < 1920) ((ifO (((strI k)).length + (("-" : Str)).length ≤ sizeLine) ((ifO ((other).natAbs.log2 < 1920) ((ifO ((((strI k) ++ ("-" : Str))).length + ((strI other)).length ≤ sizeLine) (some (((strI k) ++ ("-" : Str)) ++ (strI other))))))))))) item) fun ys =>
  Fl.chk ((s).length + (ys).length ≤ sizeLine) <|
  Fl.lt ((s ++ ys) : (List Str)) fun words1 =>
  Fl.nx (words1)) (rangeI 0 many) (words)) fun (s : (List Str)) =>
  Fl.chk (((s).map (·.length)).sum + (s).length * ((" " : Str)).length ≤ 16777216) <|
  Fl.rt (Txt.join (" " : Str) s)
noncomputable def m_l_shown (many : Int) (near : (List (List Int))) : Res Str := (b_l_shown many near).res (none : Option Str)
noncomputable def b_l_read (text : Str) : Fl Unit (Option (Int × (List (List Int)))) :=
  Fl.chk ((text).length + 2 ≤ sizeLine) <|
  Fl.lt ((Txt.split text (" " : Str)) : (List Str)) fun words =>
  Fl.req (atI words (0 : Int)) fun item =>
  Fl.chk ((item).length ≤ sizeLine) <|
  Fl.req ((orO (!(decide ((cutS item (some (-(1 : Int))) none) = (":" : Str)))) ((atI words (0 : Int)).bind fun item1 => (ifO ((item1).length ≤ sizeLine) ((((m_l_number (cutS item1 none (some (-(1 : Int))))).get).bind fun r => some (decide ((60 : Int) < r)))))))) fun t =>
  (if t = true then
  Fl.rt (none : (Option (Int × (List (List Int)))))
  else
  Fl.req (atI words (0 : Int)) fun item2 =>
  Fl.chk ((item2).length ≤ sizeLine) <|
  Fl.req ((m_l_number (cutS item2 none (some (-(1 : Int))))).get) fun r1 =>
  Fl.lt (r1 : Int) fun many =>
  Fl.lt ([] : (List (Int × Int))) fun ties =>
  Fl.bind (forF (fun (s : (List (Int × Int))) (word : Str) =>
  Fl.chk ((word).length + 2 ≤ sizeLine) <|
  Fl.lt ((Txt.split word ("-" : Str)) : (List Str)) fun parts =>
  (if (!(decide (((parts).length : Int) = (2 : Int)))) = true then
  Fl.rt (none : (Option (Int × (List (List Int)))))
  else
  Fl.req (atI parts (0 : Int)) fun item3 =>
  Fl.req ((m_l_number item3).get) fun r2 =>
  Fl.lt (r2 : Int) fun one =>
  Fl.req (atI parts (1 : Int)) fun item4 =>
  Fl.req ((m_l_number item4).get) fun r3 =>
  Fl.lt (r3 : Int) fun other =>
  (if ((decide (many ≤ one)) || ((decide (many ≤ other)) || (decide (one = other)))) = true then
  Fl.rt (none : (Option (Int × (List (List Int)))))
  else
  Fl.app s (one, other) fun ties1 =>
  Fl.nx (ties1)))) (cut words (some (1 : Int)) none) (ties)) fun (s : (List (Int × Int))) =>
  Fl.req ((m_l_near many s).get) fun r4 =>
  Fl.lt (r4 : (List (List Int))) fun near =>
  Fl.req ((m_l_shown many near).get) fun r5 =>
  (if (!(decide (r5 = text))) = true then
  Fl.rt (none : (Option (Int × (List (List Int)))))
  else
  Fl.rt (some (many, near))))
noncomputable def m_l_read (text : Str) : Res (Option (Int × (List (List Int)))) := (b_l_read text).res (none : Option (Option (Int × (List (List Int)))))
noncomputable def b_p_number_of (word : Str) : Fl Unit Int :=
  Fl.chk ((word).length ≤ sizeLine) <|
  Fl.bind (forF (fun (s : Unit) (sign : Nat) =>
  (if (!decide (sign ∈ (("0123456789" : Str)).cps.toList)) = true then
  Fl.exc 3
  else
  Fl.nx ())) ((word).cps.toList) ()) fun (s : Unit) =>
  Fl.chk ((word).length ≤ sizeLine) <|
  Fl.req ((orO (decide (((word).length : Int) = (0 : Int))) (ifO ((word).length ≤ sizeLine) (some (decide ((2 : Int) < ((word).length : Int))))))) fun t =>
  (if t = true then
  Fl.exc 3
  else
  Fl.req (PySem.intText? word) fun number =>
  Fl.chk ((word).length ≤ 640) <|
  Fl.rt number)
noncomputable def m_p_number_of (word : Str) : Res Int := (b_p_number_of word).res (none : Option Int)
noncomputable def b_p_tie_of (word : Str) : Fl Unit (Int × Int) :=
  Fl.chk ((word).length + 2 ≤ sizeLine) <|
  Fl.lt ((Txt.split word ("-" : Str)) : (List Str)) fun parts =>
  (if (!(decide (((parts).length : Int) = (2 : Int)))) = true then
  Fl.exc 3
  else
  Fl.req (atI parts (0 : Int)) fun item =>
  Fl.run (m_p_number_of item) fun r =>
  Fl.req (atI parts (1 : Int)) fun item1 =>
  Fl.run (m_p_number_of item1) fun r1 =>
  Fl.rt (r, r1))
noncomputable def m_p_tie_of (word : Str) : Res (Int × Int) := (b_p_tie_of word).res (none : Option (Int × Int))
noncomputable def b_p_web_of (many : Int) (ties : (List (Int × Int))) : Fl Unit Web :=
  (if (!(decide ((0 : Int) ≤ many) && decide (many ≤ (60 : Int)))) = true then
  Fl.exc 1
  else
  Fl.bind (forF (fun (s : Unit) (x : (Int × Int)) =>
  (if ((!(decide ((0 : Int) ≤ x.1) && decide (x.1 < many))) || ((!(decide ((0 : Int) ≤ x.2) && decide (x.2 < many))) || (decide (x.1 = x.2)))) = true then
  Fl.exc 1
  else
  Fl.nx ())) ties ()) fun (s : Unit) =>
  Fl.chk (RgOk 0 many) <|
  Fl.lt (((rangeI 0 many)).map (fun point : Int => [])) fun rows =>
  Fl.bind (forF (fun (s1 : (List (List Int))) (x1 : (Int × Int)) =>
  Fl.req (atI s1 x1.1) fun item =>
  Fl.bind (if (!((item).contains x1.2)) = true then
  Fl.req (appI? s1 x1.1 x1.2) fun rows1 =>
  Fl.req (appI? rows1 x1.2 x1.1) fun rows2 =>
  Fl.nx (rows2)
  else
  Fl.nx (s1)) fun (s2 : (List (List Int))) =>
  Fl.nx (s2)) ties (rows)) fun (s1 : (List (List Int))) =>
  Fl.rt (Web.mk many ((s1).map (fun row : (List Int) => (isort row)))))
noncomputable def m_p_web_of (many : Int) (ties : (List (Int × Int))) : Res Web := (b_p_web_of many ties).res (none : Option Web)
noncomputable def b_p_read (text : Str) : Fl Unit Web :=
  Fl.chk ((text).length + 2 ≤ sizeLine) <|
  Fl.lt ((Txt.split text (" " : Str)) : (List Str)) fun words =>
  Fl.req (atI words (0 : Int)) fun item =>
  Fl.chk ((item).length ≤ sizeLine) <|
  (if (!(decide ((cutS item (some (-(1 : Int))) none) = (":" : Str)))) = true then
  Fl.exc 3
  else
  Fl.req (atI words (0 : Int)) fun item1 =>
  Fl.chk ((item1).length ≤ sizeLine) <|
  Fl.run (m_p_number_of (cutS item1 none (some (-(1 : Int))))) fun r =>
  Fl.lt (r : Int) fun many =>
  Fl.run (compR (fun word : Str => m_p_tie_of word) (cut words (some (1 : Int)) none)) fun ties =>
  Fl.trA (m_p_web_of many ties) (fun (cx : Nat) => [(1, Fl.exc 3)]) fun found =>
  Fl.req ((m_p_shown found).get) fun r1 =>
  (if (!(decide (r1 = text))) = true then
  Fl.exc 3
  else
  Fl.rt found))
noncomputable def m_p_read (text : Str) : Res Web := (b_p_read text).res (none : Option Web)
noncomputable def b_l_earlier (script : List Int) (many : Int) (ring : Int) : Fl Unit (List (List Int)) :=
  Fl.lt ([] : (List (List Int))) fun rows =>
  Fl.chk (RgOk 0 many) <|
  Fl.bind (forF (fun (s : (List (List Int))) (k : Int) =>
  Fl.req ((m_l_cell_at script ((3 : Int) + k)).get) fun r =>
  Fl.req ((m_l_mixed r k).get) fun r1 =>
  Fl.lt (r1 : Int) fun cell =>
  Fl.lt ([] : (List Int)) fun row =>
  Fl.bind (if (decide ((0 : Int) < k) && decide (k < ring)) = true then
  Fl.lt ([(k - (1 : Int))] : (List Int)) fun row1 =>
  Fl.bind (if (decide (k = (ring - (1 : Int)))) = true then
  Fl.lt ([(0 : Int), (k - (1 : Int))] : (List Int)) fun row2 =>
  Fl.nx (row2)
  else
  Fl.nx (row1)) fun (s2 : (List Int)) =>
  Fl.nx (s2)
  else
  Fl.bind (if ((decide ((0 : Int) < k)) && (!(decide ((cell % (9 : Int)) = (8 : Int))))) = true then
  Fl.chk (0 < k) <|
  Fl.lt (((cell / (9 : Int)) % k) : Int) fun mate =>
  Fl.lt ([mate] : (List Int)) fun row3 =>
  Fl.chk (CDiv (cell / (9 : Int)) k) <|
  Fl.lt (((cell / (9 : Int)) / k) : Int) fun left =>
  Fl.req (atI s mate) fun item =>
  Fl.bind (forF (fun (s4 : (List Int) × Int) (one : Int) =>
  Fl.bind (if ((decide ((0 : Int) < (s4.2 % (3 : Int)))) && ((decide (ring ≤ mate)) || (decide (((s4.1).length : Int) < (2 : Int))))) = true then
  Fl.app s4.1 one fun row4 =>
  Fl.nx (row4)
  else
  Fl.nx (s4.1)) fun (s5 : (List Int)) =>
  Fl.lt ((s4.2 / (3 : Int)) : Int) fun left1 =>
  Fl.nx (s5, left1)) item (row3, left)) fun (s4 : (List Int) × Int) =>
  Fl.nx (s4.1)
  else
  Fl.nx (row)) fun (s3 : (List Int)) =>
  Fl.nx (s3)) fun (s1 : (List Int)) =>
  Fl.app s s1 fun rows1 =>
  Fl.nx (rows1)) (rangeI 0 many) (rows)) fun (s : (List (List Int))) =>
  Fl.rt s
noncomputable def m_l_earlier (script : List Int) (many : Int) (ring : Int) : Res (List (List Int)) := (b_l_earlier script many ring).res (none : Option (List (List Int)))
noncomputable def b_l_any_rows (script : List Int) (many : Int) : Fl Unit (List (List Int)) :=
  Fl.req ((m_l_cell_at script (2 : Int)).get) fun r =>
  Fl.lt (((1 : Int) + ((r / (8 : Int)) % (4 : Int))) : Int) fun share =>
  Fl.lt ((5 : Int) : Int) fun parts =>
  Fl.bind (if (decide ((20 : Int) < many)) = true then
  Fl.lt ((40 : Int) : Int) fun parts1 =>
  Fl.nx (parts1)
  else
  Fl.nx (parts)) fun (s : Int) =>
  Fl.lt ([] : (List (List Int))) fun rows =>
  Fl.chk (RgOk 0 many) <|
  Fl.bind (forF (fun (s1 : (List (List Int))) (k : Int) =>
  Fl.chk (RgOk 0 k) <|
  Fl.req (compO (fun j : Int => some true) (fun j : Int => (((m_l_cell_at script ((3 : Int) + ((((7 : Int) * k) + ((13 : Int) * j)) % (60 : Int)))).get).bind fun r1 => (((m_l_mixed r1 (((60 : Int) * k) + j)).get).bind fun r2 => some r2))) (rangeI 0 k)) fun ys =>
  Fl.lt ys fun cells =>
  Fl.chk (RgOk 0 k) <|
  Fl.req (compO (fun j1 : Int => ((atI cells j1).bind fun item => (ifO (0 < s) (some (decide ((item % s) < share)))))) (fun j1 : Int => some j1) (rangeI 0 k)) fun ys1 =>
  Fl.app s1 ys1 fun rows1 =>
  Fl.nx (rows1)) (rangeI 0 many) (rows)) fun (s1 : (List (List Int))) =>
  Fl.rt s1
noncomputable def m_l_any_rows (script : List Int) (many : Int) : Res (List (List Int)) := (b_l_any_rows script many).res (none : Option (List (List Int)))
noncomputable def b_l_banded (many : Int) (cell : Int) : Fl Unit (List (List Int)) :=
  Fl.lt ((cell % (20 : Int)) : Int) fun size =>
  Fl.bind (if (decide ((20 : Int) < many)) = true then
  Fl.lt ((cell % (6 : Int)) : Int) fun size1 =>
  Fl.nx (size1)
  else
  Fl.nx (size)) fun (s : Int) =>
  Fl.chk (RgOk 0 many) <|
  Fl.req (compO (fun k : Int => some true) (fun k : Int => (ifO (RgOk (max (0 : Int) (k - s)) k) (some (rangeI (max (0 : Int) (k - s)) k)))) (rangeI 0 many)) fun ys =>
  Fl.rt ys
noncomputable def m_l_banded (many : Int) (cell : Int) : Res (List (List Int)) := (b_l_banded many cell).res (none : Option (List (List Int)))
noncomputable def b_l_ringed (many : Int) (cell : Int) : Fl Unit (List (List Int)) :=
  Fl.lt (((4 : Int) + (cell % (5 : Int))) : Int) fun size =>
  Fl.lt ((size + ((cell / (5 : Int)) % (4 : Int))) : Int) fun step =>
  Fl.chk (RgOk 0 many) <|
  Fl.req (compO (fun k : Int => some true) (fun k : Int => (ifO (RgOk (max (0 : Int) (k - (1 : Int))) k) (some (rangeI (max (0 : Int) (k - (1 : Int))) k)))) (rangeI 0 many)) fun ys =>
  Fl.lt ys fun rows =>
  Fl.chk (RgOk 0 many) <|
  Fl.bind (forF (fun (s : (List (List Int))) (k1 : Int) =>
  Fl.chk (0 < step) <|
  Fl.bind (if (decide ((k1 % step) = (size - (1 : Int)))) = true then
  Fl.req (setI? s k1 [((k1 + (1 : Int)) - size), (k1 - (1 : Int))]) fun rows1 =>
  Fl.nx (rows1)
  else
  Fl.nx (s)) fun (s1 : (List (List Int))) =>
  Fl.nx (s1)) (rangeI 0 many) (rows)) fun (s : (List (List Int))) =>
  Fl.rt s
noncomputable def m_l_ringed (many : Int) (cell : Int) : Res (List (List Int)) := (b_l_ringed many cell).res (none : Option (List (List Int)))
noncomputable def b_l_hubbed (many : Int) (cell : Int) : Fl Unit (List (List Int)) :=
  Fl.req (atI [(1 : Int), (2 : Int), (3 : Int), ((cell / (4 : Int)) % (30 : Int))] (cell % (4 : Int))) fun item =>
  Fl.lt (item : Int) fun size =>
  Fl.bind (if (decide ((30 : Int) < many)) = true then
  Fl.lt ((size % (8 : Int)) : Int) fun size1 =>
  Fl.nx (size1)
  else
  Fl.nx (size)) fun (s : Int) =>
  Fl.chk (RgOk 0 many) <|
  Fl.req (compO (fun k : Int => some true) (fun k : Int => (ifO (RgOk 0 (min k s)) (some (rangeI 0 (min k s))))) (rangeI 0 many)) fun ys =>
  Fl.rt ys
noncomputable def m_l_hubbed (many : Int) (cell : Int) : Res (List (List Int)) := (b_l_hubbed many cell).res (none : Option (List (List Int)))
noncomputable def b_l_rows (script : List Int) (many : Int) : Fl Unit (List (List Int)) :=
  Fl.req ((m_l_cell_at script (2 : Int)).get) fun r =>
  Fl.lt ((r % (8 : Int)) : Int) fun kind =>
  Fl.req ((m_l_cell_at script (2 : Int)).get) fun r1 =>
  Fl.lt ((r1 / (8 : Int)) : Int) fun cell =>
  (if ((decide (kind = (1 : Int))) && (decide ((3 : Int) < many))) = true then
  Fl.chk (0 < (many - (3 : Int))) <|
  Fl.req ((m_l_earlier script many ((4 : Int) + (cell % (many - (3 : Int))))).get) fun r2 =>
  Fl.rt r2
  else
  (if ((decide ((1 : Int) < kind) && decide (kind < (5 : Int))) && (decide (many < (41 : Int)))) = true then
  Fl.req ((m_l_any_rows script many).get) fun r3 =>
  Fl.rt r3
  else
  (if (decide (kind = (5 : Int))) = true then
  Fl.req ((m_l_banded many cell).get) fun r4 =>
  Fl.rt r4
  else
  (if (decide (kind = (6 : Int))) = true then
  Fl.req ((m_l_ringed many cell).get) fun r5 =>
  Fl.rt r5
  else
  (if (decide (kind = (7 : Int))) = true then
  Fl.req ((m_l_hubbed many cell).get) fun r6 =>
  Fl.rt r6
  else
  Fl.req ((m_l_earlier script many (0 : Int)).get) fun r7 =>
  Fl.rt r7)))))
noncomputable def m_l_rows (script : List Int) (many : Int) : Res (List (List Int)) := (b_l_rows script many).res (none : Option (List (List Int)))
noncomputable def b_p_Web_need (self : Web) (point : Int) : Fl Unit Int :=
  (if (!(decide ((0 : Int) ≤ point) && decide (point < self.many))) = true then
  Fl.exc 2
  else
  Fl.rt point)
noncomputable def m_p_Web_need (self : Web) (point : Int) : Res Int := (b_p_Web_need self point).res (none : Option Int)
noncomputable def b_p_Web_beside (self : Web) (point : Int) : Fl Unit (List Int) :=
  Fl.run (m_p_Web_need self point) fun r =>
  Fl.req (atI self.rows r) fun item =>
  Fl.rt item
noncomputable def m_p_Web_beside (self : Web) (point : Int) : Res (List Int) := (b_p_Web_beside self point).res (none : Option (List Int))
noncomputable def b_l_whole (found : Int) : Fl Unit Bool :=
  Fl.rt (true && (!false))
noncomputable def m_l_whole (found : Int) : Res Bool := (b_l_whole found).res (none : Option Bool)
noncomputable def b_l_pairs (found : (List (Int × Int))) (due : (List (Int × Int))) : Fl Unit Bool :=
  (if ((!true) || (!(decide (((found).length : Int) = ((due).length : Int))))) = true then
  Fl.rt false
  else
  Fl.chk (RgOk 0 ((due).length : Int)) <|
  Fl.bind (forF (fun (s : Unit) (k : Int) =>
  Fl.req (atI found k) fun item =>
  Fl.req ((orO (!true) ((atI found k).bind fun item1 => some (!(decide ((2 : Int) = (2 : Int))))))) fun t =>
  (if t = true then
  Fl.rt false
  else
  Fl.req (atI found k) fun item2 =>
  Fl.req ((m_l_whole item2.1).get) fun r =>
  Fl.req ((orO (!r) ((atI found k).bind fun item3 => (((m_l_whole item3.2).get).bind fun r1 => (((orO (!r1) ((atI found k).bind fun item4 => ((atI due k).bind fun item5 => some (!(decide (item4 = item5))))))).bind fun t1 => some t1))))) fun t2 =>
  (if t2 = true then
  Fl.rt false
  else
  Fl.nx ()))) (rangeI 0 ((due).length : Int)) ()) fun (s : Unit) =>
  Fl.rt true)
noncomputable def m_l_pairs (found : (List (Int × Int))) (due : (List (Int × Int))) : Res Bool := (b_l_pairs found due).res (none : Option Bool)
noncomputable def b_l_refused (text : Str) : Fl Unit Bool :=
  Fl.trC (m_p_read text).vd (fun (cx : Nat) => [(3, (if ((isX cx 1) || (isX cx 2)) = true then
  Fl.rt false
  else
  Fl.rt ((!(isX cx 4)) && (!(isX cx 5)))))]) <|
  Fl.rt false
noncomputable def m_l_refused (text : Str) : Res Bool := (b_l_refused text).res (none : Option Bool)
noncomputable def b_l_by_base (text : Str) : Fl Unit Bool :=
  Fl.trC (m_p_read text).vd (fun (cx : Nat) => [(0, Fl.rt true), (3, Fl.rt false)]) <|
  Fl.rt false
noncomputable def m_l_by_base (text : Str) : Res Bool := (b_l_by_base text).res (none : Option Bool)
noncomputable def b_l_numbers (found : (List Int)) (due : (List Int)) : Fl Unit Bool :=
  (if ((!true) || (!(decide (((found).length : Int) = ((due).length : Int))))) = true then
  Fl.rt false
  else
  Fl.chk (RgOk 0 ((due).length : Int)) <|
  Fl.bind (forF (fun (s : Unit) (k : Int) =>
  Fl.req (atI found k) fun item =>
  Fl.req ((m_l_whole item).get) fun r =>
  Fl.req ((orO (!r) ((atI found k).bind fun item1 => ((atI due k).bind fun item2 => some (!(decide (item1 = item2))))))) fun t =>
  (if t = true then
  Fl.rt false
  else
  Fl.nx ())) (rangeI 0 ((due).length : Int)) ()) fun (s : Unit) =>
  Fl.rt true)
noncomputable def m_l_numbers (found : (List Int)) (due : (List Int)) : Res Bool := (b_l_numbers found due).res (none : Option Bool)
noncomputable def b_p_Web_tied (self : Web) (one : Int) (other : Int) : Fl Unit Bool :=
  Fl.run (m_p_Web_need self other) fun _ =>
  Fl.run (m_p_Web_need self one) fun r =>
  Fl.req (atI self.rows r) fun item =>
  Fl.rt ((item).contains other)
noncomputable def m_p_Web_tied (self : Web) (one : Int) (other : Int) : Res Bool := (b_p_Web_tied self one other).res (none : Option Bool)
noncomputable def b_l_no_point (web : Web) (many : Int) (kind : Int) : Fl Unit Bool :=
  Fl.tr (if (decide (kind = (0 : Int))) = true then (m_p_Web_beside web many).vd else (m_p_Web_tied web (0 : Int) many).vd) (fun (cx : Nat) => [(2, Fl.rt true)]) <|
  Fl.rt false
noncomputable def m_l_no_point (web : Web) (many : Int) (kind : Int) : Res Bool := (b_l_no_point web many kind).res (none : Option Bool)
noncomputable def b_l_law (script : List Int) : Fl Unit Bool :=
  Fl.req ((m_l_many script).get) fun r =>
  Fl.lt (r : Int) fun many =>
  Fl.req ((m_l_rows script many).get) fun r1 =>
  Fl.req ((m_l_ties script many r1).get) fun r2 =>
  Fl.lt (r2 : (List (Int × Int))) fun ties =>
  Fl.req ((m_l_near many ties).get) fun r3 =>
  Fl.lt (r3 : (List (List Int))) fun near =>
  Fl.req ((m_p_web_of many ties).get) fun r4 =>
  Fl.req ((m_p_shown r4).get) fun r5 =>
  Fl.lt (r5 : Str) fun told =>
  Fl.req ((orO (!true) (((m_l_shown many near).get).bind fun r6 => some (!(decide (told = r6)))))) fun t =>
  (if t = true then
  Fl.rt false
  else
  Fl.req ((m_l_cell_at script (1 : Int)).get) fun r7 =>
  Fl.req ((m_l_mixed r7 (5 : Int)).get) fun r8 =>
  Fl.lt (r8 : Int) fun cell =>
  Fl.req ((m_l_cell_at script (0 : Int)).get) fun r9 =>
  Fl.req ((m_l_mixed r9 (6 : Int)).get) fun r10 =>
  Fl.req ((m_l_text_by told cell (r10 % (8 : Int))).get) fun r11 =>
  Fl.lt (r11 : Str) fun text =>
  Fl.req ((m_l_read text).get) fun r12 =>
  Fl.lt (r12 : (Option (Int × (List (List Int))))) fun due =>
  (if (due).isNone = true then
  Fl.req ((m_l_refused text).get) fun r13 =>
  Fl.req ((andO r13 (((m_l_by_base text).get).bind fun r14 => some r14))) fun t1 =>
  Fl.rt t1
  else
  Fl.req ((m_p_read text).get) fun r15 =>
  Fl.lt (r15 : Web) fun web =>
  Fl.req ((m_l_whole web.many).get) fun r16 =>
  Fl.req ((orO (!r16) ((due).bind fun got => some (!(decide (web.many = got.1)))))) fun t2 =>
  (if t2 = true then
  Fl.rt false
  else
  Fl.req (due) fun got1 =>
  Fl.chk (RgOk 0 got1.1) <|
  Fl.req (compO (fun k : Int => some true) (fun k : Int => (((m_p_Web_beside web k).get).bind fun r17 => some r17)) (rangeI 0 got1.1)) fun ys =>
  Fl.lt ys fun rows =>
  Fl.req (due) fun got2 =>
  Fl.chk (RgOk 0 got2.1) <|
  Fl.bind (forF (fun (s : Unit) (k1 : Int) =>
  Fl.req (atI rows k1) fun item =>
  Fl.req (due) fun got3 =>
  Fl.req (atI got3.2 k1) fun item1 =>
  Fl.req ((m_l_numbers item item1).get) fun r18 =>
  (if (!r18) = true then
  Fl.rt false
  else
  Fl.req (due) fun got4 =>
  Fl.chk (0 < got4.1) <|
  Fl.req (due) fun got5 =>
  Fl.bind (forF (fun (s1 : Unit) (other : Int) =>
  Fl.req ((m_p_Web_tied web k1 other).get) fun r19 =>
  Fl.req (due) fun got6 =>
  Fl.req (atI got6.2 k1) fun item2 =>
  Fl.req ((orO (!(decide (r19 = ((item2).contains other)))) (((m_p_Web_tied web other k1).get).bind fun r20 => ((due).bind fun got7 => ((atI got7.2 k1).bind fun item3 => some (!(decide (r20 = ((item3).contains other))))))))) fun t3 =>
  (if t3 = true then
  Fl.rt false
  else
  Fl.nx ())) [((0 : Int), (cell % got4.1), (got5.1 - (1 : Int))).1, ((0 : Int), (cell % got4.1), (got5.1 - (1 : Int))).2.1, ((0 : Int), (cell % got4.1), (got5.1 - (1 : Int))).2.2] ()) fun (s1 : Unit) =>
  Fl.nx ())) (rangeI 0 got2.1) ()) fun (s : Unit) =>
  Fl.lt ([] : (List (Int × Int))) fun pairs =>
  Fl.req (due) fun got8 =>
  Fl.chk (RgOk 0 got8.1) <|
  Fl.bind (forF (fun (s2 : (List (Int × Int))) (k2 : Int) =>
  Fl.req (due) fun got9 =>
  Fl.req (atI got9.2 k2) fun item4 =>
  Fl.chk ((s2).length + ((((item4).filter (fun other1 : Int => (decide (k2 < other1)))).map (fun other1 : Int => (k2, other1)))).length ≤ sizeLine) <|
  Fl.lt ((s2 ++ (((item4).filter (fun other1 : Int => (decide (k2 < other1)))).map (fun other1 : Int => (k2, other1)))) : (List (Int × Int))) fun pairs1 =>
  Fl.nx (pairs1)) (rangeI 0 got8.1) (pairs)) fun (s2 : (List (Int × Int))) =>
  Fl.req (due) fun got10 =>
  Fl.req ((m_l_no_point web got10.1 (0 : Int)).get) fun r21 =>
  Fl.req ((orO (!r21) ((due).bind fun got11 => (((m_l_no_point web got11.1 (1 : Int)).get).bind fun r22 => some (!r22))))) fun t4 =>
  (if t4 = true then
  Fl.rt false
  else
  Fl.req ((m_p_Web_ties web).get) fun r23 =>
  Fl.req ((m_l_pairs r23 s2).get) fun r24 =>
  Fl.req ((andO r24 (((m_p_shown web).get).bind fun r25 => some (decide (r25 = text))))) fun t5 =>
  Fl.rt t5))))
noncomputable def m_l_law (script : List Int) : Res Bool := (b_l_law script).res (none : Option Bool)
end VL

set_option Elab.async false
set_option linter.all false
set_option maxRecDepth 100000
set_option maxHeartbeats 4000000
namespace VL
open PySem PySem.Spec PyProof.Rows L2
def top (i : Nat) : Stmt := PySem.Challenge.pw_shortring_k02_written.main.body.getD i (.Pass ⟨0, 0, 0, 0⟩)
structure Txt (C : Cf) (K : PySem.W.Frag) (mg : Str → Option Value) : Prop where
  cW : Ccl C K 0
  fW : C.fn 0 = (["many", "rows"] : List Str)
  c_FIGURES : ∃ t, mg "FIGURES" = some (.str "0123456789" t)
  c_MOST : ∃ t, mg "MOST" = some (.int 60 t)
  x_BadWeb : Exn C K mg "BadWeb" 1
  x_NoPoint : Exn C K mg "NoPoint" 2
  x_BadText : Exn C K mg "BadText" 3
  g_BadOrder : mg "BadOrder" = some (C.ex 4)
  g_BadText : mg "BadText" = some (C.ex 3)
  g_BadWeb : mg "BadWeb" = some (C.ex 1)
  g_HasGap : mg "HasGap" = some (C.ex 5)
  g_NoPoint : mg "NoPoint" = some (C.ex 2)
  g_WebError : mg "WebError" = some (C.ex 0)
  b_ValueError : mg "ValueError" = none
  xc : Xc C K
theorem Txt.f_W_many {C : Cf} {K : PySem.W.Frag} {mg : Str → Option Value} (T : Txt C K mg) : (C.fn 0)[0]? = some ("many" : Str) := by rw [T.fW]; rfl
theorem Txt.f_W_rows {C : Cf} {K : PySem.W.Frag} {mg : Str → Option Value} (T : Txt C K mg) : (C.fn 0)[1]? = some ("rows" : Str) := by rw [T.fW]; rfl
theorem Txt.n_W_need {C : Cf} {K : PySem.W.Frag} {mg : Str → Option Value} (T : Txt C K mg) : ("need" : Str) ∉ C.fn 0 := by rw [T.fW]; decide +kernel
theorem Txt.n_W_beside {C : Cf} {K : PySem.W.Frag} {mg : Str → Option Value} (T : Txt C K mg) : ("beside" : Str) ∉ C.fn 0 := by rw [T.fW]; decide +kernel
theorem Txt.n_W_tied {C : Cf} {K : PySem.W.Frag} {mg : Str → Option Value} (T : Txt C K mg) : ("tied" : Str) ∉ C.fn 0 := by rw [T.fW]; decide +kernel
theorem Txt.n_W_ties {C : Cf} {K : PySem.W.Frag} {mg : Str → Option Value} (T : Txt C K mg) : ("ties" : Str) ∉ C.fn 0 := by rw [T.fW]; decide +kernel
abbrev s_l_cell_at : Stmt := top 18
abbrev N_l_cell_at : List Str := ["_law_script", "_law_k"]
abbrev G_l_cell_at : List Str := ["len"]
theorem w_l_cell_at {C : Cf} {Z : Hp} {X : Cx} {W : Nat → Hp → Prop} (ck : Cok C X N_l_cell_at (fun i => Nat.blt i 2) G_l_cell_at) (d : Dok X N_l_cell_at (fun i => Nat.blt i 2)) (hsc : X.env.scope = defScope s_l_cell_at) (T : Txt C X.K X.mg) (tk : L2N.Takes X (WXc C W)) (script : List Int) (k : Int) : Sts C Z X W [some (.fz (D.scr script)), some (.fz (dI k))] (defBody s_l_cell_at) (fun _ : Unit => ([none, none] : En)) (fun r : Int => RM.frz (dI r)) (b_l_cell_at script k) := by
  unfold b_l_cell_at
  refine Sts.ifX (Cb.lt (Ev.fz ck 1) (Ev.lens ck 0 (ha := Ev.cur_frz (Ev.fz ck 0)))) (Fl.ex_req fun _ => Fl.ex_rt) (fun _ => ?_) (fun _ => ?_)
  · refine Sts.req fun item hitem => ?_
    exact Sts.ret (Ev.ixs ck hitem (Ev.cur_frz (Ev.fz ck 0)) (Ev.fz ck 1))
  · exact Sts.ret (Ev.int)
abbrev s_l_many : Stmt := top 25
abbrev N_l_many : List Str := ["_law_script", "_law_cell"]
abbrev G_l_many : List Str := ["_law_cell_at"]
theorem w_l_many {C : Cf} {Z : Hp} {X : Cx} {W : Nat → Hp → Prop} (ck : Cok C X N_l_many (fun i => Nat.blt i 2) G_l_many) (d : Dok X N_l_many (fun i => Nat.blt i 2)) (hsc : X.env.scope = defScope s_l_many) (T : Txt C X.K X.mg) (tk : L2N.Takes X (WXc C W))
    (h_l_cell_at : ∀ (a0 : List Int) (a1 : Int), Cal X.prog X.w X.K X.mg X.base X.A C "_law_cell_at" [D.scr a0, dI a1] ((m_l_cell_at a0 a1).map fun r => RM.frz (dI r))) (script : List Int) : Sts C Z X W [some (.fz (D.scr script)), none] (defBody s_l_many) (fun _ : Unit => ([none, none] : En)) (fun r : Int => RM.frz (dI r)) (b_l_many script) := by
  unfold b_l_many
  refine Sts.req fun r hr => ?_
  refine Sts.asgL (i := 1) (zz dI) ck d (Ev.sc (Ev.call ck 0 (cal_ok (h_l_cell_at script (0 : Int)) hr) (Ea.cons (d := D.scr script) (Ev.cur_frz (Ev.fz ck 0)) (Ea.cons (d := dI (0 : Int)) (Ev.cur_frz (Ev.int)) (Ea.nil))))) (Nat.le_of_ble_eq_true rfl) ?_
  intro cell ecell
  show Sts C Z X W [some (.fz (D.scr script)), some (.fz (dI cell))] _ _ _ _
  refine Sts.ifX (Cb.eqI (Ev.mod (by decide) (Ev.fdiv ⟨by decide, by decide⟩ (Ev.fz ck 1) (Ev.int)) (Ev.int)) (Ev.int)) Fl.ex_rt (fun _ => ?_) (fun _ => ?_)
  · exact Sts.ret (Ev.mod (by decide) (Ev.fdiv ⟨by decide, by decide⟩ (Ev.fz ck 1) (Ev.int)) (Ev.int))
  · refine Sts.ifX (Cb.eqI (Ev.mod (by decide) (Ev.fdiv ⟨by decide, by decide⟩ (Ev.fz ck 1) (Ev.int)) (Ev.int)) (Ev.int)) Fl.ex_rt (fun _ => ?_) (fun _ => ?_)
    · exact Sts.ret (Ev.add (Ev.int) (Ev.mod (by decide) (Ev.fdiv ⟨by decide, by decide⟩ (Ev.fz ck 1) (Ev.int)) (Ev.int)))
    · exact Sts.ret (Ev.mod (by decide) (Ev.fz ck 1) (Ev.int))
abbrev s_l_name : Stmt := top 30
abbrev N_l_name : List Str := ["_law_script", "_law_many_here", "_law_k", "_law_cell"]
abbrev G_l_name : List Str := ["_law_cell_at"]
theorem w_l_name {C : Cf} {Z : Hp} {X : Cx} {W : Nat → Hp → Prop} (ck : Cok C X N_l_name (fun i => Nat.blt i 4) G_l_name) (d : Dok X N_l_name (fun i => Nat.blt i 4)) (hsc : X.env.scope = defScope s_l_name) (T : Txt C X.K X.mg) (tk : L2N.Takes X (WXc C W))
    (h_l_cell_at : ∀ (a0 : List Int) (a1 : Int), Cal X.prog X.w X.K X.mg X.base X.A C "_law_cell_at" [D.scr a0, dI a1] ((m_l_cell_at a0 a1).map fun r => RM.frz (dI r))) (script : List Int) (many : Int) (k : Int) : Sts C Z X W [some (.fz (D.scr script)), some (.fz (dI many)), some (.fz (dI k)), none] (defBody s_l_name) (fun _ : Unit => ([none, none, none, none] : En)) (fun r : Int => RM.frz (dI r)) (b_l_name script many k) := by
  unfold b_l_name
  refine Sts.req fun r hr => ?_
  refine Sts.asgL (i := 3) (zz dI) ck d (Ev.sc (Ev.call ck 0 (cal_ok (h_l_cell_at script (1 : Int)) hr) (Ea.cons (d := D.scr script) (Ev.cur_frz (Ev.fz ck 0)) (Ea.cons (d := dI (1 : Int)) (Ev.cur_frz (Ev.int)) (Ea.nil))))) (Nat.le_of_ble_eq_true rfl) ?_
  intro cell ecell
  show Sts C Z X W [some (.fz (D.scr script)), some (.fz (dI many)), some (.fz (dI k)), some (.fz (dI cell))] _ _ _ _
  refine Sts.ifX (Cb.eqI (Ev.mod (by decide) (Ev.fz ck 3) (Ev.int)) (Ev.int)) (Fl.ex_chk Fl.ex_rt) (fun _ => ?_) (fun _ => ?_)
  · refine Sts.chk fun hc => ?_
    exact Sts.ret (Ev.mod hc (Ev.sub (Ev.fdiv ⟨by decide, by decide⟩ (Ev.fz ck 3) (Ev.int)) (Ev.fz ck 2)) (Ev.fz ck 1))
  · refine Sts.chk fun hc1 => ?_
    exact Sts.ret (Ev.mod hc1 (Ev.add (Ev.fdiv ⟨by decide, by decide⟩ (Ev.fz ck 3) (Ev.int)) (Ev.fz ck 2)) (Ev.fz ck 1))
abbrev s_l_ties : Stmt := top 31
abbrev N_l_ties : List Str := ["_law_script", "_law_many_here", "_law_rows_here", "_law_ties_here", "_law_k", "_law_one", "_law_pair"]
abbrev G_l_ties : List Str := ["range", "_law_name"]
theorem w_l_ties {C : Cf} {Z : Hp} {X : Cx} {W : Nat → Hp → Prop} (ck : Cok C X N_l_ties (fun i => Nat.blt i 7) G_l_ties) (d : Dok X N_l_ties (fun i => Nat.blt i 7)) (hsc : X.env.scope = defScope s_l_ties) (T : Txt C X.K X.mg) (tk : L2N.Takes X (WXc C W))
    (h_l_name : ∀ (a0 : List Int) (a1 : Int) (a2 : Int), Cal X.prog X.w X.K X.mg X.base X.A C "_law_name" [D.scr a0, dI a1, dI a2] ((m_l_name a0 a1 a2).map fun r => RM.frz (dI r))) (script : List Int) (many : Int) (rows : (List (List Int))) : Sts C Z X W [some (.fz (D.scr script)), some (.fz (dI many)), some (.fz ((dL (dL dI)) rows)), none, none, none, none] (defBody s_l_ties) (fun _ : Unit => ([none, none, none, none, none, none, none] : En)) (fun r : (List (Int × Int)) => RM.new ((oL (zz (dP dI dI))) r)) (b_l_ties script many rows) := by
  unfold b_l_ties
  refine Sts.asgL (i := 3) (oL (zz (dP dI dI))) ck d (Ev.displ (xs := []) (show (0 : Nat) ≤ sizeLine by decide) Ei.nil) (Nat.le_of_ble_eq_true rfl) ?_
  intro ties eties
  show Sts C Z X W [some (.fz (D.scr script)), some (.fz (dI many)), some (.fz ((dL (dL dI)) rows)), some ((oL (zz (dP dI dI))) ties), none, none, none] _ _ _ _
  refine Sts.chk fun hc => ?_
  refine Sts.for_ (ss := [some (.fz (D.scr script)), some (.fz (dI many)), some (.fz ((dL (dL dI)) rows)), some ((oL (zz (dP dI dI))) ties), none, none, none]) (S' := (List (Int × Int))) (s0 := (ties)) (f := (zz dI)) (xs := (rangeI 0 many)) (fun (s : (List (Int × Int))) => [some (.fz (D.scr script)), some (.fz (dI many)), some (.fz ((dL (dL dI)) rows)), some ((oL (zz (dP dI dI))) s), none, none, none]) (fun (s : (List (Int × Int))) (k : Int) => [some (.fz (D.scr script)), some (.fz (dI many)), some (.fz ((dL (dL dI)) rows)), some ((oL (zz (dP dI dI))) s), some (.fz (dI k)), none, none]) ck d (fun _ => trivial) (Iv.range1 hc ck 0 (ha := Ev.fz ck 1)) (.keep (.keep (.keep (.keep (.keep (.keep (.keep .nil))))))) (fun s k => Gt.name ck d 4 (Nat.le_of_ble_eq_true rfl) rfl) (fun s k hx => ?_) (fun s => ?_)
  · show Sts C Z X W [some (.fz (D.scr script)), some (.fz (dI many)), some (.fz ((dL (dL dI)) rows)), some ((oL (zz (dP dI dI))) s), some (.fz (dI k)), none, none] _ _ _ _
    refine Sts.req fun item hitem => ?_
    refine Sts.for_ (ss := [some (.fz (D.scr script)), some (.fz (dI many)), some (.fz ((dL (dL dI)) rows)), some ((oL (zz (dP dI dI))) s), some (.fz (dI k)), none, none]) (S' := (List (Int × Int))) (s0 := (s)) (f := (zz dI)) (xs := item) (fun (s1 : (List (Int × Int))) => [some (.fz (D.scr script)), some (.fz (dI many)), some (.fz ((dL (dL dI)) rows)), some ((oL (zz (dP dI dI))) s1), some (.fz (dI k)), none, none]) (fun (s1 : (List (Int × Int))) (one : Int) => [some (.fz (D.scr script)), some (.fz (dI many)), some (.fz ((dL (dL dI)) rows)), some ((oL (zz (dP dI dI))) s1), some (.fz (dI k)), some (.fz (dI one)), none]) ck d (fun _ => trivial) (Iv.frz (Ev.ixz (atI_map (f := (dL dI)) hitem) (Ev.fz ck 2) (Ev.fz ck 4))) (.keep (.keep (.keep (.keep (.keep (.keep (.keep .nil))))))) (fun s1 one => Gt.name ck d 5 (Nat.le_of_ble_eq_true rfl) rfl) (fun s1 one hx => ?_) (fun s1 => ?_)
    · show Sts C Z X W [some (.fz (D.scr script)), some (.fz (dI many)), some (.fz ((dL (dL dI)) rows)), some ((oL (zz (dP dI dI))) s1), some (.fz (dI k)), some (.fz (dI one)), none] _ _ _ _
      refine Sts.req fun r hr => ?_
      refine Sts.req fun r1 hr1 => ?_
      refine Sts.asgL (i := 6) (zz (dP dI dI)) ck d (Ev.tupz (ds := [dI r, dI r1]) (show (2 : Nat) ≤ sizeLine by decide) (Ei.cons (o := .fz (dI r)) (Ev.sc (Ev.call ck 1 (cal_ok (h_l_name script many k) hr) (Ea.cons (d := D.scr script) (Ev.cur_frz (Ev.fz ck 0)) (Ea.cons (d := dI many) (Ev.cur_frz (Ev.fz ck 1)) (Ea.cons (d := dI k) (Ev.cur_frz (Ev.fz ck 4)) (Ea.nil)))))) (Ei.cons (o := .fz (dI r1)) (Ev.sc (Ev.call ck 1 (cal_ok (h_l_name script many one) hr1) (Ea.cons (d := D.scr script) (Ev.cur_frz (Ev.fz ck 0)) (Ea.cons (d := dI many) (Ev.cur_frz (Ev.fz ck 1)) (Ea.cons (d := dI one) (Ev.cur_frz (Ev.fz ck 5)) (Ea.nil)))))) (Ei.nil)))) (Nat.le_of_ble_eq_true rfl) ?_
      intro pair epair
      show Sts C Z X W [some (.fz (D.scr script)), some (.fz (dI many)), some (.fz ((dL (dL dI)) rows)), some ((oL (zz (dP dI dI))) s1), some (.fz (dI k)), some (.fz (dI one)), some (.fz ((dP dI dI) pair))] _ _ _ _
      refine Sts.ifJ (S' := (Int × Int)) (fun (s2 : (Int × Int)) => [some (.fz (D.scr script)), some (.fz (dI many)), some (.fz ((dL (dL dI)) rows)), some ((oL (zz (dP dI dI))) s1), some (.fz (dI k)), some (.fz (dI one)), some (.fz ((dP dI dI) s2))]) (Cb.eqI (Ev.mod (by decide) (Ev.add (Ev.fz ck 4) (Ev.fz ck 5)) (Ev.int)) (Ev.int)) (fun _ => ?_) (fun _ => ?_) (fun s2 => ?_)
      · refine Sts.asgL (i := 6) (zz (dP dI dI)) ck d (Ev.tupz (ds := [dI pair.2, dI pair.1]) (show (2 : Nat) ≤ sizeLine by decide) (Ei.cons (o := .fz (dI pair.2)) (Ev.ixtz (d := dI pair.2) rfl (Ev.fz ck 6) Ev.int) (Ei.cons (o := .fz (dI pair.1)) (Ev.ixtz (d := dI pair.1) rfl (Ev.fz ck 6) Ev.int) (Ei.nil)))) (Nat.le_of_ble_eq_true rfl) ?_
        intro pair1 epair1
        show Sts C Z X W [some (.fz (D.scr script)), some (.fz (dI many)), some (.fz ((dL (dL dI)) rows)), some ((oL (zz (dP dI dI))) s1), some (.fz (dI k)), some (.fz (dI one)), some (.fz ((dP dI dI) pair1))] _ _ _ _
        exact Sts.nil (.keep (.keep (.keep (.keep (.keep (.keep (.keep .nil)))))))
      · exact Sts.nil (.keep (.keep (.keep (.keep (.keep (.keep (.keep .nil)))))))
      · show Sts C Z X W [some (.fz (D.scr script)), some (.fz (dI many)), some (.fz ((dL (dL dI)) rows)), some ((oL (zz (dP dI dI))) s1), some (.fz (dI k)), some (.fz (dI one)), some (.fz ((dP dI dI) s2))] _ _ _ _
        refine Sts.appL (f := (zz (dP dI dI))) 3 ck (Ev.fz ck 6) ?_
        intro ties1 eties1
        show Sts C Z X W [some (.fz (D.scr script)), some (.fz (dI many)), some (.fz ((dL (dL dI)) rows)), some ((oL (zz (dP dI dI))) ties1), some (.fz (dI k)), some (.fz (dI one)), some (.fz ((dP dI dI) s2))] _ _ _ _
        exact Sts.nil (.keep (.keep (.keep (.keep (.keep (.drop (.drop .nil)))))))
    · show Sts C Z X W [some (.fz (D.scr script)), some (.fz (dI many)), some (.fz ((dL (dL dI)) rows)), some ((oL (zz (dP dI dI))) s1), some (.fz (dI k)), none, none] _ _ _ _
      exact Sts.nil (.keep (.keep (.keep (.keep (.drop (.keep (.keep .nil)))))))
  · show Sts C Z X W [some (.fz (D.scr script)), some (.fz (dI many)), some (.fz ((dL (dL dI)) rows)), some ((oL (zz (dP dI dI))) s), none, none, none] _ _ _ _
    refine Sts.chk fun hc1 => ?_
    refine Sts.chk fun hc2 => ?_
    refine Sts.chk fun hc3 => ?_
    refine Sts.chk fun hc4 => ?_
    exact Sts.ret (Ev.catL (f := (zz (dP dI dI))) hc4 (Ev.itmL (f := (zz (dP dI dI))) (Ev.catL (f := (zz (dP dI dI))) hc2 (Ev.itmL (f := (zz (dP dI dI))) (Ev.catL (f := (zz (dP dI dI))) hc1 (Ev.owiL (f := (zz (dP dI dI))) ck 3 (fun _ => trivial)) (Ev.itmL (f := (zz (dP dI dI))) (Ev.lc (x := "_law_pair") (f := (zz (dP dI dI))) (fo := (zz (dP dI dI))) (pt := (fun pair2 : (Int × Int) => some true)) (fe := (fun pair2 : (Int × Int) => some (pair2.2, pair2.1))) (i := 6) ck (compO_all (fun pair2 : (Int × Int) => (pair2.2, pair2.1)) _) (Nat.le_of_ble_eq_true rfl) (fun _ => trivial) (blk_ok ck hsc (blkOk_by (by decide +kernel))) (fun _ _ _ _ _ => pg_name (i := 6) (by show X.N.Nodup; rw [ck.hN]; exact ck.nd) (by show X.N[6]? = _; rw [ck.hN]; rfl) (Or.inl rfl)) ((Iv.frz (Ev.frz_new (Ev.sliceL (f := (zz (dP dI dI))) (Ev.owiL (f := (zz (dP dI dI))) ck 3 (fun _ => trivial)) (Pa.no) (Pa.yes (Ev.int))) ((er_L er_z) (cut s none (some (3 : Int)))))).c)
          (fun X' fam pair2 b hx hb => by
            cases hb
            exact Tts.no)
          (fun X' fam pair2 y hx hp hy => by
            have k' := blk_cok ck fam (vis := [6]) (G' := []) (by decide +kernel)
            obtain ⟨s0, H0, C0, cl0, fp0, rfl⟩ := fam
            cases hy
            exact Ev.tupz (ds := [dI pair2.2, dI pair2.1]) (show (2 : Nat) ≤ sizeLine by decide) (Ei.cons (o := .fz (dI pair2.2)) (Ev.ixtz (d := dI pair2.2) rfl (Ev.fz k' 6) Ev.int) (Ei.cons (o := .fz (dI pair2.1)) (Ev.ixtz (d := dI pair2.1) rfl (Ev.fz k' 6) Ev.int) (Ei.nil))))) (fun _ => trivial))) (fun _ => trivial)) (Ev.itmL (f := (zz (dP dI dI))) (Ev.sliceL (f := (zz (dP dI dI))) (Ev.owiL (f := (zz (dP dI dI))) ck 3 (fun _ => trivial)) (Pa.yes (Ev.int)) (Pa.yes (Ev.int))) (fun _ => trivial))) (fun _ => trivial)) (Ev.itmL (f := (zz (dP dI dI))) (Ev.repLL (f := (zz (dP dI dI))) (k := 2) (by decide) hc3 (Ev.itmL (f := (zz (dP dI dI))) (Ev.sliceL (f := (zz (dP dI dI))) (Ev.owiL (f := (zz (dP dI dI))) ck 3 (fun _ => trivial)) (Pa.no) (Pa.yes (Ev.int))) (fun _ => trivial)) (Ev.int)) (fun _ => trivial)))
abbrev s_l_near : Stmt := top 32
abbrev N_l_near : List Str := ["_law_many_here", "_law_ties_here", "_law_near_here", "_law_one", "_law_other", "_law_k", "_law_row"]
abbrev G_l_near : List Str := ["range"]
theorem w_l_near {C : Cf} {Z : Hp} {X : Cx} {W : Nat → Hp → Prop} (ck : Cok C X N_l_near (fun i => Nat.blt i 5) G_l_near) (d : Dok X N_l_near (fun i => Nat.blt i 5)) (hsc : X.env.scope = defScope s_l_near) (T : Txt C X.K X.mg) (tk : L2N.Takes X (WXc C W)) (many : Int) (ties : (List (Int × Int))) : Sts C Z X W [some (.fz (dI many)), some (.fz ((dL (dP dI dI)) ties)), none, none, none, none, none] (defBody s_l_near) (fun _ : Unit => ([none, none, none, none, none, none, none] : En)) (fun r : (List (List Int)) => RM.nrz ((dL (dL dI)) r)) (b_l_near many ties) := by
  unfold b_l_near
  refine Sts.chk fun hc => ?_
  refine Sts.asgCL (x := "_law_k") (f := (zz dI)) (fo := (oL (zz dI))) (pt := (fun k : Int => some true)) (fe := (fun k : Int => some [])) (i := 5) (j := 2) ck d (compO_all (fun k : Int => []) _) (Nat.le_of_ble_eq_true rfl) (Nat.le_of_ble_eq_true rfl) (fun _ => trivial) (blk_ok ck hsc (blkOk_by (by decide +kernel))) (fun _ _ _ _ _ => pg_name (i := 5) (by show X.N.Nodup; rw [ck.hN]; exact ck.nd) (by show X.N[5]? = _; rw [ck.hN]; rfl) (Or.inl rfl)) (by rw [hsc]; rfl) (sw_true (by rw [hsc]; rfl) (by rw [hsc]; rfl) rfl (by decide +kernel)) ((Iv.range1 hc ck 0 (ha := Ev.fz ck 0)).c)
          (fun X' fam k b hx hb => by
            cases hb
            exact Tts.no)
          (fun X' fam k y hx hp hy => by
            have k' := blk_cok ck fam (vis := []) (G' := []) (by decide +kernel)
            obtain ⟨s0, H0, C0, cl0, fp0, rfl⟩ := fam
            cases hy
            exact Ev.displ (xs := []) (show (0 : Nat) ≤ sizeLine by decide) Ei.nil) ?_
  intro near enear
  show Sts C Z X W [some (.fz (dI many)), some (.fz ((dL (dP dI dI)) ties)), some ((oL (oL (zz dI))) near), none, none, none, none] _ _ _ _
  refine Sts.for_ (ss := [some (.fz (dI many)), some (.fz ((dL (dP dI dI)) ties)), some ((oL (oL (zz dI))) near), none, none, none, none]) (S' := (List (List Int))) (s0 := (near)) (f := (zz (dP dI dI))) (xs := ties) (fun (s : (List (List Int))) => [some (.fz (dI many)), some (.fz ((dL (dP dI dI)) ties)), some ((oL (oL (zz dI))) s), none, none, none, none]) (fun (s : (List (List Int))) (x : (Int × Int)) => [some (.fz (dI many)), some (.fz ((dL (dP dI dI)) ties)), some ((oL (oL (zz dI))) s), some (.fz (dI x.1)), some (.fz (dI x.2)), none, none]) ck d (fun _ => trivial) (Iv.frz (Ev.fz ck 1)) (.keep (.keep (.keep (.keep (.keep (.keep (.keep .nil))))))) (fun s x => Gt.two (p1 := ⟨0, 0, 0, 0⟩) (d1 := dI x.1) (d2 := dI x.2) ck d 3 4 (Nat.le_of_ble_eq_true rfl) (Nat.le_of_ble_eq_true rfl) rfl) (fun s x hx => ?_) (fun s => ?_)
  · show Sts C Z X W [some (.fz (dI many)), some (.fz ((dL (dP dI dI)) ties)), some ((oL (oL (zz dI))) s), some (.fz (dI x.1)), some (.fz (dI x.2)), none, none] _ _ _ _
    refine Sts.req fun item hitem => ?_
    refine Sts.ifJ (S' := (List (List Int))) (fun (s1 : (List (List Int))) => [some (.fz (dI many)), some (.fz ((dL (dP dI dI)) ties)), some ((oL (oL (zz dI))) s1), some (.fz (dI x.1)), some (.fz (dI x.2)), none, none]) (Cb.niL (by rfl) (Ev.fz ck 4) (Ev.ixc (atI_map (f := (dL dI)) hitem) (Ev.ow ck 2 ((er_L (er_L er_z)) _)) (Ev.fz ck 3))) (fun _ => ?_) (fun _ => ?_) (fun s1 => ?_)
    · refine Sts.appIL (f := (zz dI)) 2 ck (Ev.fz ck 3) (fun _ => trivial) (Ev.fz ck 4) ?_
      intro near1 hnear1
      show Sts C Z X W [some (.fz (dI many)), some (.fz ((dL (dP dI dI)) ties)), some ((oL (oL (zz dI))) near1), some (.fz (dI x.1)), some (.fz (dI x.2)), none, none] _ _ _ _
      refine Sts.appIL (f := (zz dI)) 2 ck (Ev.fz ck 4) (fun _ => trivial) (Ev.fz ck 3) ?_
      intro near2 hnear2
      show Sts C Z X W [some (.fz (dI many)), some (.fz ((dL (dP dI dI)) ties)), some ((oL (oL (zz dI))) near2), some (.fz (dI x.1)), some (.fz (dI x.2)), none, none] _ _ _ _
      exact Sts.nil (.keep (.keep (.keep (.keep (.keep (.keep (.keep .nil)))))))
    · exact Sts.nil (.keep (.keep (.keep (.keep (.keep (.keep (.keep .nil)))))))
    · show Sts C Z X W [some (.fz (dI many)), some (.fz ((dL (dP dI dI)) ties)), some ((oL (oL (zz dI))) s1), some (.fz (dI x.1)), some (.fz (dI x.2)), none, none] _ _ _ _
      exact Sts.nil (.keep (.keep (.keep (.drop (.drop (.keep (.keep .nil)))))))
  · show Sts C Z X W [some (.fz (dI many)), some (.fz ((dL (dP dI dI)) ties)), some ((oL (oL (zz dI))) s), none, none, none, none] _ _ _ _
    refine Sts.nfreeze 2 ((er_L (er_L er_z)) _) ((fu_L (fu_L (fu_z (fun _ => Flat.sc)))) _) rfl ?_
    show Sts C Z X W [some (.fz (dI many)), some (.fz ((dL (dP dI dI)) ties)), some (.nz ((dL (dL dI)) s)), none, none, none, none] _ _ _ _
    exact Sts.ret (Ev.nrz_new (Ev.lc (x := "_law_row") (f := (zn (dL dI))) (fo := (oL (zz dI))) (pt := (fun row : (List Int) => some true)) (fe := (fun row : (List Int) => some (isort row))) (i := 6) ck (compO_all (fun row : (List Int) => (isort row)) _) (Nat.le_of_ble_eq_true rfl) (fun _ => trivial) (blk_ok ck hsc (blkOk_by (by decide +kernel))) (fun _ _ _ _ _ => pg_name (i := 6) (by show X.N.Nodup; rw [ck.hN]; exact ck.nd) (by show X.N[6]? = _; rw [ck.hN]; rfl) (Or.inl rfl)) ((Iv.nrz (Ev.nz ck 2)).c)
          (fun X' fam row b hx hb => by
            cases hb
            exact Tts.no)
          (fun X' fam row y hx hp hy => by
            have k' := blk_cok ck fam (vis := [6]) (G' := [("sorted" : Str)]) (by decide +kernel)
            obtain ⟨s0, H0, C0, cl0, fp0, rfl⟩ := fam
            cases hy
            exact Ev.sortedI k' 0 (ha := Ev.cur_nrz (Ev.nz k' 6)))) ((er_L (er_L er_z)) ((s).map (fun row : (List Int) => (isort row)))) ((fu_L (fu_L (fu_z (fun _ => Flat.sc)))) ((s).map (fun row : (List Int) => (isort row)))))
abbrev s_p_Web_ties : Stmt := inClass (top 9) 4
abbrev N_p_Web_ties : List Str := ["self", "found", "one", "other"]
abbrev G_p_Web_ties : List Str := ["range"]
theorem w_p_Web_ties {C : Cf} {Z : Hp} {X : Cx} {W : Nat → Hp → Prop} (ck : Cok C X N_p_Web_ties (fun i => Nat.blt i 4) G_p_Web_ties) (d : Dok X N_p_Web_ties (fun i => Nat.blt i 4)) (hsc : X.env.scope = defScope s_p_Web_ties) (T : Txt C X.K X.mg) (tk : L2N.Takes X (WXc C W)) (self : Web) : Sts C Z X W [some (.fz (dW self)), none, none, none] (defBody s_p_Web_ties) (fun _ : Unit => ([none, none, none, none] : En)) (fun r : (List (Int × Int)) => RM.new ((oL (zz (dP dI dI))) r)) (b_p_Web_ties self) := by
  unfold b_p_Web_ties
  refine Sts.asgL (i := 1) (oL (zz (dP dI dI))) ck d (Ev.displ (xs := []) (show (0 : Nat) ≤ sizeLine by decide) Ei.nil) (Nat.le_of_ble_eq_true rfl) ?_
  intro found efound
  show Sts C Z X W [some (.fz (dW self)), some ((oL (zz (dP dI dI))) found), none, none] _ _ _ _
  refine Sts.chk fun hc => ?_
  refine Sts.for_ (ss := [some (.fz (dW self)), some ((oL (zz (dP dI dI))) found), none, none]) (S' := (List (Int × Int))) (s0 := (found)) (f := (zz dI)) (xs := (rangeI 0 self.many)) (fun (s : (List (Int × Int))) => [some (.fz (dW self)), some ((oL (zz (dP dI dI))) s), none, none]) (fun (s : (List (Int × Int))) (one : Int) => [some (.fz (dW self)), some ((oL (zz (dP dI dI))) s), some (.fz (dI one)), none]) ck d (fun _ => trivial) (Iv.range1 hc ck 0 (ha := Ev.fldz T.cW 0 T.f_W_many rfl (Ev.fz ck 0))) (.keep (.keep (.keep (.keep .nil)))) (fun s one => Gt.name ck d 2 (Nat.le_of_ble_eq_true rfl) rfl) (fun s one hx => ?_) (fun s => ?_)
  · show Sts C Z X W [some (.fz (dW self)), some ((oL (zz (dP dI dI))) s), some (.fz (dI one)), none] _ _ _ _
    refine Sts.req fun item hitem => ?_
    refine Sts.for_ (ss := [some (.fz (dW self)), some ((oL (zz (dP dI dI))) s), some (.fz (dI one)), none]) (S' := (List (Int × Int))) (s0 := (s)) (f := (zz dI)) (xs := item) (fun (s1 : (List (Int × Int))) => [some (.fz (dW self)), some ((oL (zz (dP dI dI))) s1), some (.fz (dI one)), none]) (fun (s1 : (List (Int × Int))) (other : Int) => [some (.fz (dW self)), some ((oL (zz (dP dI dI))) s1), some (.fz (dI one)), some (.fz (dI other))]) ck d (fun _ => trivial) (Iv.frz (Ev.ixz (atI_map (f := (dL dI)) hitem) (Ev.fldz T.cW 1 T.f_W_rows rfl (Ev.fz ck 0)) (Ev.fz ck 2))) (.keep (.keep (.keep (.keep .nil)))) (fun s1 other => Gt.name ck d 3 (Nat.le_of_ble_eq_true rfl) rfl) (fun s1 other hx => ?_) (fun s1 => ?_)
    · show Sts C Z X W [some (.fz (dW self)), some ((oL (zz (dP dI dI))) s1), some (.fz (dI one)), some (.fz (dI other))] _ _ _ _
      refine Sts.ifJ (S' := (List (Int × Int))) (fun (s2 : (List (Int × Int))) => [some (.fz (dW self)), some ((oL (zz (dP dI dI))) s2), some (.fz (dI one)), some (.fz (dI other))]) (Cb.lt (Ev.fz ck 2) (Ev.fz ck 3)) (fun _ => ?_) (fun _ => ?_) (fun s2 => ?_)
      · refine Sts.appL (f := (zz (dP dI dI))) 1 ck (Ev.tupz (ds := [dI one, dI other]) (show (2 : Nat) ≤ sizeLine by decide) (Ei.cons (o := .fz (dI one)) (Ev.fz ck 2) (Ei.cons (o := .fz (dI other)) (Ev.fz ck 3) (Ei.nil)))) ?_
        intro found1 efound1
        show Sts C Z X W [some (.fz (dW self)), some ((oL (zz (dP dI dI))) found1), some (.fz (dI one)), some (.fz (dI other))] _ _ _ _
        exact Sts.nil (.keep (.keep (.keep (.keep .nil))))
      · exact Sts.nil (.keep (.keep (.keep (.keep .nil))))
      · show Sts C Z X W [some (.fz (dW self)), some ((oL (zz (dP dI dI))) s2), some (.fz (dI one)), some (.fz (dI other))] _ _ _ _
        exact Sts.nil (.keep (.keep (.keep (.drop .nil))))
    · show Sts C Z X W [some (.fz (dW self)), some ((oL (zz (dP dI dI))) s1), some (.fz (dI one)), none] _ _ _ _
      exact Sts.nil (.keep (.keep (.drop (.keep .nil))))
  · show Sts C Z X W [some (.fz (dW self)), some ((oL (zz (dP dI dI))) s), none, none] _ _ _ _
    exact Sts.retO (i := 1) ck rfl
abbrev s_p_shown : Stmt := top 13
abbrev N_p_shown : List Str := ["web", "words", "one", "other"]
abbrev G_p_shown : List Str := ["str"]
theorem w_p_shown {C : Cf} {Z : Hp} {X : Cx} {W : Nat → Hp → Prop} (ck : Cok C X N_p_shown (fun i => Nat.blt i 4) G_p_shown) (d : Dok X N_p_shown (fun i => Nat.blt i 4)) (hsc : X.env.scope = defScope s_p_shown) (T : Txt C X.K X.mg) (tk : L2N.Takes X (WXc C W))
    (h_p_Web_ties : ∀ (a0 : Web), Met X.prog X.w X.K X.mg X.base X.A C 0 "ties" [dW a0] ((m_p_Web_ties a0).map fun r => RM.new ((oL (zz (dP dI dI))) r))) (web : Web) : Sts C Z X W [some (.fz (dW web)), none, none, none] (defBody s_p_shown) (fun _ : Unit => ([none, none, none, none] : En)) (fun r : Str => RM.frz (dS r)) (b_p_shown web) := by
  unfold b_p_shown
  refine Sts.chk fun hc => ?_
  refine Sts.chk fun hc1 => ?_
  refine Sts.asgL (i := 1) (oL (zz dS)) ck d (Ev.displ (f := (zz dS)) (xs := [((strI web.many) ++ (":" : Str))]) (show (1 : Nat) ≤ sizeLine by decide) (Ei.cons (o := (zz dS) ((strI web.many) ++ (":" : Str))) (Ev.sadd hc1 (Ev.str1 hc ck 0 (ha := Ev.fldz T.cW 0 T.f_W_many rfl (Ev.fz ck 0))) (Ev.str)) (Ei.nil))) (Nat.le_of_ble_eq_true rfl) ?_
  intro words ewords
  show Sts C Z X W [some (.fz (dW web)), some ((oL (zz dS)) words), none, none] _ _ _ _
  refine Sts.req fun r hr => ?_
  refine Sts.for_ (ss := [some (.fz (dW web)), some ((oL (zz dS)) words), none, none]) (S' := (List Str)) (s0 := (words)) (f := (zz (dP dI dI))) (xs := r) (fun (s : (List Str)) => [some (.fz (dW web)), some ((oL (zz dS)) s), none, none]) (fun (s : (List Str)) (x : (Int × Int)) => [some (.fz (dW web)), some ((oL (zz dS)) s), some (.fz (dI x.1)), some (.fz (dI x.2))]) ck d (fun _ => trivial) (Iv.frz (Ev.frz_new (Ev.meth0 ck (met_ok (h_p_Web_ties web) hr) T.n_W_ties (Ev.cur_frz (Ev.fz ck 0))) ((er_L er_z) r))) (.keep (.keep (.keep (.keep .nil)))) (fun s x => Gt.two (p1 := ⟨0, 0, 0, 0⟩) (d1 := dI x.1) (d2 := dI x.2) ck d 2 3 (Nat.le_of_ble_eq_true rfl) (Nat.le_of_ble_eq_true rfl) rfl) (fun s x hx => ?_) (fun s => ?_)
  · show Sts C Z X W [some (.fz (dW web)), some ((oL (zz dS)) s), some (.fz (dI x.1)), some (.fz (dI x.2))] _ _ _ _
    refine Sts.chk fun hc2 => ?_
    refine Sts.chk fun hc3 => ?_
    refine Sts.chk fun hc4 => ?_
    refine Sts.appL (f := (zz dS)) 1 ck (Ev.joined hc4 (Ejs.cons (Ev.fmtI hc2 (Ev.fz ck 2)) (Ejs.cons (Ev.str) (Ejs.cons (Ev.fmtI hc3 (Ev.fz ck 3)) (Ejs.nil))))) ?_
    intro words1 ewords1
    show Sts C Z X W [some (.fz (dW web)), some ((oL (zz dS)) words1), some (.fz (dI x.1)), some (.fz (dI x.2))] _ _ _ _
    exact Sts.nil (.keep (.keep (.drop (.drop .nil))))
  · show Sts C Z X W [some (.fz (dW web)), some ((oL (zz dS)) s), none, none] _ _ _ _
    refine Sts.chk fun hc5 => ?_
    exact Sts.ret (Ev.join hc5 (Ev.str) (Ev.ow ck 1 ((er_L er_z) _)))
abbrev s_l_mixed : Stmt := top 22
abbrev N_l_mixed : List Str := ["_law_cell", "_law_k"]
abbrev G_l_mixed : List Str := []
theorem w_l_mixed {C : Cf} {Z : Hp} {X : Cx} {W : Nat → Hp → Prop} (ck : Cok C X N_l_mixed (fun i => Nat.blt i 2) G_l_mixed) (d : Dok X N_l_mixed (fun i => Nat.blt i 2)) (hsc : X.env.scope = defScope s_l_mixed) (T : Txt C X.K X.mg) (tk : L2N.Takes X (WXc C W)) (cell : Int) (k : Int) : Sts C Z X W [some (.fz (dI cell)), some (.fz (dI k))] (defBody s_l_mixed) (fun _ : Unit => ([none, none] : En)) (fun r : Int => RM.frz (dI r)) (b_l_mixed cell k) := by
  unfold b_l_mixed
  exact Sts.ret (Ev.mod (by decide) (Ev.mul (Or.inr ⟨by decide, by decide⟩) (Ev.add (Ev.fz ck 0) (Ev.mul (Or.inl ⟨by decide, by decide⟩) (Ev.int) (Ev.fz ck 1))) (Ev.int)) (Ev.int))
abbrev s_l_odd_text : Stmt := top 36
abbrev N_l_odd_text : List Str := ["_law_cell", "_law_some"]
abbrev G_l_odd_text : List Str := []
theorem sw_l_odd_text {C : Cf} {Z : Hp} {X : Cx} {W : Nat → Hp → Prop} (ck : Cok C X N_l_odd_text (fun i => Nat.blt i 2) G_l_odd_text) (d : Dok X N_l_odd_text (fun i => Nat.blt i 2)) (hsc : X.env.scope = defScope s_l_odd_text) (T : Txt C X.K X.mg) (tk : L2N.Takes X (WXc C W)) (cell : Int) : StW C Z X W [some (.fz (dI cell)), none] (defBody s_l_odd_text) (fun _ : Unit => ([none, none] : En)) (fun r : Str => RM.frz (dS r)) (b_l_odd_text cell) := by
  unfold b_l_odd_text
  refine StW.lt0 fun texts htexts => ?_
  subst htexts
  refine StW.asgStrs (i := 1) (.cons (.cons (.cons (.cons (.cons (.cons (.cons (.cons (.cons (.cons (.cons .nil))))))))))) ck d (by show (11 : Nat) ≤ sizeLine; decide) (Nat.le_of_ble_eq_true rfl) (fun some_ _ => ?_) rfl rfl
  refine StW.lt0 fun texts1 htexts1 => ?_
  refine StW.chk fun hc => ?_
  subst htexts1
  refine StW.asgCat (i := 1) (ys := some_) (.cons (.cons (.cons (.cons (.cons (.cons (.cons (.cons .nil)))))))) ck d (by show (8 : Nat) ≤ sizeLine; decide) hc (Nat.le_of_ble_eq_true rfl) rfl (fun some_1 _ => ?_) rfl rfl
  refine StW.lt0 fun texts2 htexts2 => ?_
  refine StW.chk fun hc1 => ?_
  subst htexts2
  refine StW.asgCat (i := 1) (ys := some_1) (.cons (.cons (.cons .nil))) ck d (by show (3 : Nat) ≤ sizeLine; decide) hc1 (Nat.le_of_ble_eq_true rfl) rfl (fun some_2 _ => ?_) rfl rfl
  refine StW.req fun item hitem => ?_
  exact StW.ret (Ev.frz_nrz (Ev.ixn (atI_map (f := dS) hitem) (Ev.nz ck 1) (Ev.mod (by decide) (Ev.fz ck 0) (Ev.int))))
theorem w_l_odd_text {C : Cf} {Z : Hp} {X : Cx} {W : Nat → Hp → Prop} (ck : Cok C X N_l_odd_text (fun i => Nat.blt i 2) G_l_odd_text) (d : Dok X N_l_odd_text (fun i => Nat.blt i 2)) (hsc : X.env.scope = defScope s_l_odd_text) (T : Txt C X.K X.mg) (tk : L2N.Takes X (WXc C W)) (cell : Int) : Sts C Z X W [some (.fz (dI cell)), none] (defBody s_l_odd_text) (fun _ : Unit => ([none, none] : En)) (fun r : Str => RM.frz (dS r)) (b_l_odd_text cell) := by
  cases sw_l_odd_text (Z := Z) (W := W) ck d hsc T tk cell with
  | mk h => assumption
abbrev s_l_text_by : Stmt := top 37
abbrev N_l_text_by : List Str := ["_law_text", "_law_cell", "_law_kind", "_law_place", "_law_words", "_law_one", "_law_other", "_law_kept"]
abbrev G_l_text_by : List Str := ["len", "_law_odd_text"]
theorem w_l_text_by {C : Cf} {Z : Hp} {X : Cx} {W : Nat → Hp → Prop} (ck : Cok C X N_l_text_by (fun i => Nat.blt i 8) G_l_text_by) (d : Dok X N_l_text_by (fun i => Nat.blt i 8)) (hsc : X.env.scope = defScope s_l_text_by) (T : Txt C X.K X.mg) (tk : L2N.Takes X (WXc C W))
    (h_l_odd_text : ∀ (a0 : Int), Cal X.prog X.w X.K X.mg X.base X.A C "_law_odd_text" [dI a0] ((m_l_odd_text a0).map fun r => RM.frz (dS r))) (text : Str) (cell : Int) (kind : Int) : Sts C Z X W [some (.fz (dS text)), some (.fz (dI cell)), some (.fz (dI kind)), none, none, none, none, none] (defBody s_l_text_by) (fun _ : Unit => ([none, none, none, none, none, none, none, none] : En)) (fun r : Str => RM.frz (dS r)) (b_l_text_by text cell kind) := by
  unfold b_l_text_by
  refine Sts.ifX (Cb.eqI (Ev.fz ck 2) (Ev.int)) (Fl.ex_chk (Fl.ex_chk (Fl.ex_lt fun _ => (Fl.ex_chk (Fl.ex_chk (Fl.ex_req fun _ => (Fl.ex_chk (Fl.ex_chk Fl.ex_rt)))))))) (fun _ => ?_) (fun _ => ?_)
  · refine Sts.chk fun hc => ?_
    refine Sts.chk fun hc1 => ?_
    refine Sts.asgL (i := 3) (zz dI) ck d (Ev.mod hc1 (Ev.fz ck 1) (Ev.add (Ev.lenstr ck hc 0 (ha := Ev.fz ck 0)) (Ev.int))) (Nat.le_of_ble_eq_true rfl) ?_
    intro place eplace
    show Sts C Z X W [some (.fz (dS text)), some (.fz (dI cell)), some (.fz (dI kind)), some (.fz (dI place)), none, none, none, none] _ _ _ _
    refine Sts.chk fun hc2 => ?_
    refine Sts.chk fun hc3 => ?_
    refine Sts.req fun sign hsign => ?_
    refine Sts.chk fun hc4 => ?_
    refine Sts.chk fun hc5 => ?_
    exact Sts.ret (Ev.sadd hc5 (Ev.sadd hc4 (Ev.sliceT hc2 (Ev.fz ck 0) (Pa.no) (Pa.yes (Ev.fz ck 3))) (Ev.ixt hc3 hsign (Ev.str) (Ev.mod (by decide) (Ev.fdiv ⟨by decide, by decide⟩ (Ev.fz ck 1) (Ev.int)) (Ev.int)))) (Ev.sliceT hc2 (Ev.fz ck 0) (Pa.yes (Ev.fz ck 3)) (Pa.no)))
  · refine Sts.ifX (Cb.eqI (Ev.fz ck 2) (Ev.int)) (Fl.ex_chk (Fl.ex_chk (Fl.ex_lt fun _ => (Fl.ex_chk (Fl.ex_chk Fl.ex_rt))))) (fun _ => ?_) (fun _ => ?_)
    · refine Sts.chk fun hc6 => ?_
      refine Sts.chk fun hc7 => ?_
      refine Sts.asgL (i := 3) (zz dI) ck d (Ev.mod hc7 (Ev.fz ck 1) (Ev.lenstr ck hc6 0 (ha := Ev.fz ck 0))) (Nat.le_of_ble_eq_true rfl) ?_
      intro place1 eplace1
      show Sts C Z X W [some (.fz (dS text)), some (.fz (dI cell)), some (.fz (dI kind)), some (.fz (dI place1)), none, none, none, none] _ _ _ _
      refine Sts.chk fun hc8 => ?_
      refine Sts.chk fun hc9 => ?_
      exact Sts.ret (Ev.sadd hc9 (Ev.sliceT hc8 (Ev.fz ck 0) (Pa.no) (Pa.yes (Ev.fz ck 3))) (Ev.sliceT hc8 (Ev.fz ck 0) (Pa.yes (Ev.add (Ev.fz ck 3) (Ev.int))) (Pa.no)))
    · refine Sts.ifX (Cb.eqI (Ev.fz ck 2) (Ev.int)) (Fl.ex_chk (Fl.ex_lt fun _ => (Fl.ex_chk (Fl.ex_lt fun _ => (Fl.ex_chk (Fl.ex_lt fun _ => (Fl.ex_req fun _ => (Fl.ex_lt fun _ => (Fl.ex_req fun _ => (Fl.ex_req fun _ => (Fl.ex_req fun _ => (Fl.ex_chk Fl.ex_rt)))))))))))) (fun _ => ?_) (fun _ => ?_)
      · refine Sts.chk fun hc10 => ?_
        refine Sts.asgL (i := 4) (oL (zz dS)) ck d (Ev.split rfl hc10 (Ev.fz ck 0) (Ev.str)) (Nat.le_of_ble_eq_true rfl) ?_
        intro words ewords
        show Sts C Z X W [some (.fz (dS text)), some (.fz (dI cell)), some (.fz (dI kind)), none, some ((oL (zz dS)) words), none, none, none] _ _ _ _
        refine Sts.chk fun hc11 => ?_
        refine Sts.asgL (i := 5) (zz dI) ck d (Ev.mod hc11 (Ev.fz ck 1) (Ev.lenL ck 0 (ha := Ev.ow ck 4 ((er_L er_z) _)))) (Nat.le_of_ble_eq_true rfl) ?_
        intro one eone
        show Sts C Z X W [some (.fz (dS text)), some (.fz (dI cell)), some (.fz (dI kind)), none, some ((oL (zz dS)) words), some (.fz (dI one)), none, none] _ _ _ _
        refine Sts.chk fun hc12 => ?_
        refine Sts.asgL (i := 6) (zz dI) ck d (Ev.mod hc12 (Ev.fdiv ⟨by decide, by decide⟩ (Ev.fz ck 1) (Ev.int)) (Ev.lenL ck 0 (ha := Ev.ow ck 4 ((er_L er_z) _)))) (Nat.le_of_ble_eq_true rfl) ?_
        intro other eother
        show Sts C Z X W [some (.fz (dS text)), some (.fz (dI cell)), some (.fz (dI kind)), none, some ((oL (zz dS)) words), some (.fz (dI one)), some (.fz (dI other)), none] _ _ _ _
        refine Sts.req fun item hitem => ?_
        refine Sts.asgL (i := 7) (zz dS) ck d (Ev.sc (Ev.ixc (atI_map (f := dS) hitem) (Ev.ow ck 4 ((er_L er_z) _)) (Ev.fz ck 5))) (Nat.le_of_ble_eq_true rfl) ?_
        intro kept ekept
        show Sts C Z X W [some (.fz (dS text)), some (.fz (dI cell)), some (.fz (dI kind)), none, some ((oL (zz dS)) words), some (.fz (dI one)), some (.fz (dI other)), some (.fz (dS kept))] _ _ _ _
        refine Sts.req fun item1 hitem1 => ?_
        refine Sts.setL (f := (zz dS)) 4 ck (Ev.sc (Ev.ixc (atI_map (f := dS) hitem1) (Ev.ow ck 4 ((er_L er_z) _)) (Ev.fz ck 6))) (Ev.fz ck 5) ?_
        intro words1 hwords1
        show Sts C Z X W [some (.fz (dS text)), some (.fz (dI cell)), some (.fz (dI kind)), none, some ((oL (zz dS)) words1), some (.fz (dI one)), some (.fz (dI other)), some (.fz (dS kept))] _ _ _ _
        refine Sts.setL (f := (zz dS)) 4 ck (Ev.fz ck 7) (Ev.fz ck 6) ?_
        intro words2 hwords2
        show Sts C Z X W [some (.fz (dS text)), some (.fz (dI cell)), some (.fz (dI kind)), none, some ((oL (zz dS)) words2), some (.fz (dI one)), some (.fz (dI other)), some (.fz (dS kept))] _ _ _ _
        refine Sts.chk fun hc13 => ?_
        exact Sts.ret (Ev.join hc13 (Ev.str) (Ev.ow ck 4 ((er_L er_z) _)))
      · refine Sts.ifX (Cb.eqI (Ev.fz ck 2) (Ev.int)) (Fl.ex_req fun _ => Fl.ex_rt) (fun _ => ?_) (fun _ => ?_)
        · refine Sts.req fun r hr => ?_
          exact Sts.ret (Ev.sc (Ev.call ck 1 (cal_ok (h_l_odd_text cell) hr) (Ea.cons (d := dI cell) (Ev.cur_frz (Ev.fz ck 1)) (Ea.nil))))
        · exact Sts.ret (Ev.fz ck 0)
abbrev s_l_number : Stmt := top 34
abbrev N_l_number : List Str := ["_law_word", "_law_sign"]
abbrev G_l_number : List Str := ["len", "int"]
theorem w_l_number {C : Cf} {Z : Hp} {X : Cx} {W : Nat → Hp → Prop} (ck : Cok C X N_l_number (fun i => Nat.blt i 2) G_l_number) (d : Dok X N_l_number (fun i => Nat.blt i 2)) (hsc : X.env.scope = defScope s_l_number) (T : Txt C X.K X.mg) (tk : L2N.Takes X (WXc C W)) (word : Str) : Sts C Z X W [some (.fz (dS word)), none] (defBody s_l_number) (fun _ : Unit => ([none, none] : En)) (fun r : Int => RM.frz (dI r)) (b_l_number word) := by
  unfold b_l_number
  refine Sts.req fun t ht => ?_
  refine Sts.ifX ((Cw.orO (Cb.eqT (Ev.fz ck 0) (Ev.str)) (fun _ q hq => by
          obtain ⟨hc, hq⟩ := ifO_some.mp hq
          cases hq
          exact Cw.one (Cb.gt (Ev.lenstr ck hc 0 (ha := Ev.fz ck 0)) (Ev.int))) ht).cb) Fl.ex_rt (fun _ => ?_) (fun _ => ?_)
  · exact Sts.ret (Ev.int)
  · refine Sts.chk fun hc1 => ?_
    refine Sts.for_ (ss := [some (.fz (dS word)), none]) (S' := Unit) (s0 := ()) (f := (zz dC)) (xs := (word).cps.toList) (fun (s : Unit) => [some (.fz (dS word)), none]) (fun (s : Unit) (sign : Nat) => [some (.fz (dS word)), some (.fz (dC sign))]) ck d (fun _ => trivial) (Iv.str hc1 (Ev.fz ck 0)) (.keep (.keep .nil)) (fun s sign => Gt.name ck d 1 (Nat.le_of_ble_eq_true rfl) rfl) (fun s sign hx => ?_) (fun s => ?_)
    · show Sts C Z X W [some (.fz (dS word)), some (.fz (dC sign))] _ _ _ _
      refine Sts.ifX (Cb.niS (x := sign) (y := ("0123456789" : Str)) (by rfl) (Ev.fz ck 1) (Ev.str)) Fl.ex_rt (fun _ => ?_) (fun _ => ?_)
      · exact Sts.ret (Ev.int)
      · exact Sts.nil (.keep (.drop .nil))
    · show Sts C Z X W [some (.fz (dS word)), none] _ _ _ _
      refine Sts.req fun number hnumber => ?_
      refine Sts.chk fun hc2 => ?_
      exact Sts.ret (Ev.intS hnumber hc2 ck 1 (ha := Ev.fz ck 0))
abbrev s_l_shown : Stmt := top 33
abbrev N_l_shown : List Str := ["_law_many_here", "_law_near_here", "_law_words", "_law_k", "_law_other"]
abbrev G_l_shown : List Str := ["str", "range"]
theorem w_l_shown {C : Cf} {Z : Hp} {X : Cx} {W : Nat → Hp → Prop} (ck : Cok C X N_l_shown (fun i => Nat.blt i 4) G_l_shown) (d : Dok X N_l_shown (fun i => Nat.blt i 4)) (hsc : X.env.scope = defScope s_l_shown) (T : Txt C X.K X.mg) (tk : L2N.Takes X (WXc C W)) (many : Int) (near : (List (List Int))) : Sts C Z X W [some (.fz (dI many)), some (.fz ((dL (dL dI)) near)), none, none, none] (defBody s_l_shown) (fun _ : Unit => ([none, none, none, none, none] : En)) (fun r : Str => RM.frz (dS r)) (b_l_shown many near) := by
  unfold b_l_shown
  refine Sts.chk fun hc => ?_
  refine Sts.chk fun hc1 => ?_
  refine Sts.asgL (i := 2) (zn (dL dS)) ck d (Ev.nrz_new (Ev.displ (f := (zz dS)) (xs := [((strI many) ++ (":" : Str))]) (show (1 : Nat) ≤ sizeLine by decide) (Ei.cons (o := (zz dS) ((strI many) ++ (":" : Str))) (Ev.sadd hc1 (Ev.str1 hc ck 0 (ha := Ev.fz ck 0)) (Ev.str)) (Ei.nil))) ((er_L er_z) [((strI many) ++ (":" : Str))]) ((fu_L (fu_z (fun _ => Flat.sc))) [((strI many) ++ (":" : Str))])) (Nat.le_of_ble_eq_true rfl) ?_
  intro words ewords
  show Sts C Z X W [some (.fz (dI many)), some (.fz ((dL (dL dI)) near)), some (.nz ((dL dS) words)), none, none] _ _ _ _
  refine Sts.chk fun hc2 => ?_
  refine Sts.for_ (ss := [some (.fz (dI many)), some (.fz ((dL (dL dI)) near)), some (.nz ((dL dS) words)), none, none]) (S' := (List Str)) (s0 := (words)) (f := (zz dI)) (xs := (rangeI 0 many)) (fun (s : (List Str)) => [some (.fz (dI many)), some (.fz ((dL (dL dI)) near)), some (.nz ((dL dS) s)), none, none]) (fun (s : (List Str)) (k : Int) => [some (.fz (dI many)), some (.fz ((dL (dL dI)) near)), some (.nz ((dL dS) s)), some (.fz (dI k)), none]) ck d (fun _ => trivial) (Iv.range1 hc2 ck 1 (ha := Ev.fz ck 0)) (.keep (.keep (.keep (.keep (.keep .nil))))) (fun s k => Gt.name ck d 3 (Nat.le_of_ble_eq_true rfl) rfl) (fun s k hx => ?_) (fun s => ?_)
  · show Sts C Z X W [some (.fz (dI many)), some (.fz ((dL (dL dI)) near)), some (.nz ((dL dS) s)), some (.fz (dI k)), none] _ _ _ _
    refine Sts.req fun item hitem => ?_
    refine Sts.req fun ys hys => ?_
    refine Sts.chk fun hc7 => ?_
    refine Sts.asgL (i := 2) (zn (dL dS)) ck d (Ev.nrz_new (Ev.catL (f := (zz dS)) hc7 (Ev.itm_frz (Ev.frz_nrz (Ev.nz ck 2))) (Ev.itmL (f := (zz dS)) (Ev.lc (x := "_law_other") (f := (zz dI)) (fo := (zz dS)) (pt := (fun other : Int => some (decide (k < other)))) (fe := (fun other : Int => (ifO ((k).natAbs.log2 < 1920) ((ifO (((strI k)).length + (("-" : Str)).length ≤ sizeLine) ((ifO ((other).natAbs.log2 < 1920) ((ifO ((((strI k) ++ ("-" : Str))).length + ((strI other)).length ≤ sizeLine) (some (((strI k) ++ ("-" : Str)) ++ (strI other)))))))))))) (i := 4) ck hys (Nat.le_of_ble_eq_true rfl) (fun _ => trivial) (blk_ok ck hsc (blkOk_by (by decide +kernel))) (fun _ _ _ _ _ => pg_name (i := 4) (by show X.N.Nodup; rw [ck.hN]; exact ck.nd) (by show X.N[4]? = _; rw [ck.hN]; rfl) (Or.inl rfl)) ((Iv.frz (Ev.ixz (atI_map (f := (dL dI)) hitem) (Ev.fz ck 1) (Ev.fz ck 3))).c)
          (fun X' fam other b hx hb => by
            have k' := blk_cok ck fam (vis := [3, 4]) (G' := [("str" : Str)]) (by decide +kernel)
            obtain ⟨s0, H0, C0, cl0, fp0, rfl⟩ := fam
            cases hb
            exact Tts.one (Cb.gt (Ev.fz k' 4) (Ev.fz k' 3)))
          (fun X' fam other y hx hp hy => by
            have k' := blk_cok ck fam (vis := [3, 4]) (G' := [("str" : Str)]) (by decide +kernel)
            obtain ⟨s0, H0, C0, cl0, fp0, rfl⟩ := fam
            obtain ⟨hc3, hy⟩ := ifO_some.mp hy
            obtain ⟨hc4, hy⟩ := ifO_some.mp hy
            obtain ⟨hc5, hy⟩ := ifO_some.mp hy
            obtain ⟨hc6, hy⟩ := ifO_some.mp hy
            cases hy
            exact Ev.sadd hc6 (Ev.sadd hc4 (Ev.str1 hc3 k' 0 (ha := Ev.fz k' 3)) (Ev.str)) (Ev.str1 hc5 k' 0 (ha := Ev.fz k' 4)))) (fun _ => trivial))) ((er_L er_z) (s ++ ys)) ((fu_L (fu_z (fun _ => Flat.sc))) (s ++ ys))) (Nat.le_of_ble_eq_true rfl) ?_
    intro words1 ewords1
    show Sts C Z X W [some (.fz (dI many)), some (.fz ((dL (dL dI)) near)), some (.nz ((dL dS) words1)), some (.fz (dI k)), none] _ _ _ _
    exact Sts.nil (.keep (.keep (.keep (.drop (.keep .nil)))))
  · show Sts C Z X W [some (.fz (dI many)), some (.fz ((dL (dL dI)) near)), some (.nz ((dL dS) s)), none, none] _ _ _ _
    refine Sts.chk fun hc8 => ?_
    exact Sts.ret (Ev.join hc8 (Ev.str) (Ev.cur_nrz (Ev.nz ck 2)))
abbrev s_l_read : Stmt := top 35
abbrev N_l_read : List Str := ["_law_text", "_law_words", "_law_many_here", "_law_ties_here", "_law_word", "_law_parts", "_law_one", "_law_other", "_law_near_here"]
abbrev G_l_read : List Str := ["_law_number", "len", "_law_near", "_law_shown"]
theorem w_l_read {C : Cf} {Z : Hp} {X : Cx} {W : Nat → Hp → Prop} (ck : Cok C X N_l_read (fun i => Nat.blt i 9) G_l_read) (d : Dok X N_l_read (fun i => Nat.blt i 9)) (hsc : X.env.scope = defScope s_l_read) (T : Txt C X.K X.mg) (tk : L2N.Takes X (WXc C W))
    (h_l_number : ∀ (a0 : Str), Cal X.prog X.w X.K X.mg X.base X.A C "_law_number" [dS a0] ((m_l_number a0).map fun r => RM.frz (dI r)))
    (h_l_near : ∀ (a0 : Int) (a1 : (List (Int × Int))), Cal X.prog X.w X.K X.mg X.base X.A C "_law_near" [dI a0, (dL (dP dI dI)) a1] ((m_l_near a0 a1).map fun r => RM.nrz ((dL (dL dI)) r)))
    (h_l_shown : ∀ (a0 : Int) (a1 : (List (List Int))), Cal X.prog X.w X.K X.mg X.base X.A C "_law_shown" [dI a0, (dL (dL dI)) a1] ((m_l_shown a0 a1).map fun r => RM.frz (dS r))) (text : Str) : Sts C Z X W [some (.fz (dS text)), none, none, none, none, none, none, none, none] (defBody s_l_read) (fun _ : Unit => ([none, none, none, none, none, none, none, none, none] : En)) (fun r : (Option (Int × (List (List Int)))) => RM.nrz ((dO (dP dI (dL (dL dI)))) r)) (b_l_read text) := by
  unfold b_l_read
  refine Sts.chk fun hc => ?_
  refine Sts.asgL (i := 1) (zn (dL dS)) ck d (Ev.nrz_new (Ev.split rfl hc (Ev.fz ck 0) (Ev.str)) ((er_L er_z) (Txt.split text (" " : Str))) ((fu_L (fu_z (fun _ => Flat.sc))) (Txt.split text (" " : Str)))) (Nat.le_of_ble_eq_true rfl) ?_
  intro words ewords
  show Sts C Z X W [some (.fz (dS text)), some (.nz ((dL dS) words)), none, none, none, none, none, none, none] _ _ _ _
  refine Sts.req fun item hitem => ?_
  refine Sts.chk fun hc1 => ?_
  refine Sts.req fun t ht => ?_
  refine Sts.ifX ((Cw.orO (Cb.neT (Ev.sliceT hc1 (Ev.frz_nrz (Ev.ixn (atI_map (f := dS) hitem) (Ev.nz ck 1) (Ev.int))) (Pa.yes (Ev.neg (Ev.int))) (Pa.no)) (Ev.str)) (fun _ q hq => by
          obtain ⟨item1, hitem1, hq⟩ := Option.bind_eq_some_iff.mp hq
          obtain ⟨hc2, hq⟩ := ifO_some.mp hq
          obtain ⟨r, hr, hq⟩ := Option.bind_eq_some_iff.mp hq
          cases hq
          exact Cw.one (Cb.gt (Ev.sc (Ev.call ck 0 (cal_ok (h_l_number (cutS item1 none (some (-(1 : Int))))) hr) (Ea.cons (d := dS (cutS item1 none (some (-(1 : Int))))) (Ev.cur_frz (Ev.sliceT hc2 (Ev.frz_nrz (Ev.ixn (atI_map (f := dS) hitem1) (Ev.nz ck 1) (Ev.int))) (Pa.no) (Pa.yes (Ev.neg (Ev.int))))) (Ea.nil)))) (Ev.int))) ht).cb) Fl.ex_rt (fun _ => ?_) (fun _ => ?_)
  · exact Sts.ret (Ev.nsc (Ev.non))
  · refine Sts.req fun item2 hitem2 => ?_
    refine Sts.chk fun hc3 => ?_
    refine Sts.req fun r1 hr1 => ?_
    refine Sts.asgL (i := 2) (zz dI) ck d (Ev.sc (Ev.call ck 0 (cal_ok (h_l_number (cutS item2 none (some (-(1 : Int))))) hr1) (Ea.cons (d := dS (cutS item2 none (some (-(1 : Int))))) (Ev.cur_frz (Ev.sliceT hc3 (Ev.frz_nrz (Ev.ixn (atI_map (f := dS) hitem2) (Ev.nz ck 1) (Ev.int))) (Pa.no) (Pa.yes (Ev.neg (Ev.int))))) (Ea.nil)))) (Nat.le_of_ble_eq_true rfl) ?_
    intro many emany
    show Sts C Z X W [some (.fz (dS text)), some (.nz ((dL dS) words)), some (.fz (dI many)), none, none, none, none, none, none] _ _ _ _
    refine Sts.asgL (i := 3) (oL (zz (dP dI dI))) ck d (Ev.displ (xs := []) (show (0 : Nat) ≤ sizeLine by decide) Ei.nil) (Nat.le_of_ble_eq_true rfl) ?_
    intro ties eties
    show Sts C Z X W [some (.fz (dS text)), some (.nz ((dL dS) words)), some (.fz (dI many)), some ((oL (zz (dP dI dI))) ties), none, none, none, none, none] _ _ _ _
    refine Sts.for_ (ss := [some (.fz (dS text)), some (.nz ((dL dS) words)), some (.fz (dI many)), some ((oL (zz (dP dI dI))) ties), none, none, none, none, none]) (S' := (List (Int × Int))) (s0 := (ties)) (f := (zz dS)) (xs := (cut words (some (1 : Int)) none)) (fun (s : (List (Int × Int))) => [some (.fz (dS text)), some (.nz ((dL dS) words)), some (.fz (dI many)), some ((oL (zz (dP dI dI))) s), none, none, none, none, none]) (fun (s : (List (Int × Int))) (word : Str) => [some (.fz (dS text)), some (.nz ((dL dS) words)), some (.fz (dI many)), some ((oL (zz (dP dI dI))) s), some (.fz (dS word)), none, none, none, none]) ck d (fun _ => trivial) (Iv.frz (Ev.frz_new (Ev.sliceL (f := (zz dS)) (Ev.itm_frz (Ev.frz_nrz (Ev.nz ck 1))) (Pa.yes (Ev.int)) (Pa.no)) ((er_L er_z) (cut words (some (1 : Int)) none)))) (.keep (.keep (.keep (.keep (.keep (.keep (.keep (.keep (.keep .nil))))))))) (fun s word => Gt.name ck d 4 (Nat.le_of_ble_eq_true rfl) rfl) (fun s word hx => ?_) (fun s => ?_)
    · show Sts C Z X W [some (.fz (dS text)), some (.nz ((dL dS) words)), some (.fz (dI many)), some ((oL (zz (dP dI dI))) s), some (.fz (dS word)), none, none, none, none] _ _ _ _
      refine Sts.chk fun hc4 => ?_
      refine Sts.asgL (i := 5) (zn (dL dS)) ck d (Ev.nrz_new (Ev.split rfl hc4 (Ev.fz ck 4) (Ev.str)) ((er_L er_z) (Txt.split word ("-" : Str))) ((fu_L (fu_z (fun _ => Flat.sc))) (Txt.split word ("-" : Str)))) (Nat.le_of_ble_eq_true rfl) ?_
      intro parts eparts
      show Sts C Z X W [some (.fz (dS text)), some (.nz ((dL dS) words)), some (.fz (dI many)), some ((oL (zz (dP dI dI))) s), some (.fz (dS word)), some (.nz ((dL dS) parts)), none, none, none] _ _ _ _
      refine Sts.ifX (Cb.neI (Ev.lenL ck 1 (ha := Ev.cur_nrz (Ev.nz ck 5))) (Ev.int)) Fl.ex_rt (fun _ => ?_) (fun _ => ?_)
      · exact Sts.ret (Ev.nsc (Ev.non))
      · refine Sts.req fun item3 hitem3 => ?_
        refine Sts.req fun r2 hr2 => ?_
        refine Sts.asgL (i := 6) (zz dI) ck d (Ev.sc (Ev.call ck 0 (cal_ok (h_l_number item3) hr2) (Ea.cons (d := dS item3) (Ev.cur_nrz (Ev.ixn (atI_map (f := dS) hitem3) (Ev.nz ck 5) (Ev.int))) (Ea.nil)))) (Nat.le_of_ble_eq_true rfl) ?_
        intro one eone
        show Sts C Z X W [some (.fz (dS text)), some (.nz ((dL dS) words)), some (.fz (dI many)), some ((oL (zz (dP dI dI))) s), some (.fz (dS word)), some (.nz ((dL dS) parts)), some (.fz (dI one)), none, none] _ _ _ _
        refine Sts.req fun item4 hitem4 => ?_
        refine Sts.req fun r3 hr3 => ?_
        refine Sts.asgL (i := 7) (zz dI) ck d (Ev.sc (Ev.call ck 0 (cal_ok (h_l_number item4) hr3) (Ea.cons (d := dS item4) (Ev.cur_nrz (Ev.ixn (atI_map (f := dS) hitem4) (Ev.nz ck 5) (Ev.int))) (Ea.nil)))) (Nat.le_of_ble_eq_true rfl) ?_
        intro other eother
        show Sts C Z X W [some (.fz (dS text)), some (.nz ((dL dS) words)), some (.fz (dI many)), some ((oL (zz (dP dI dI))) s), some (.fz (dS word)), some (.nz ((dL dS) parts)), some (.fz (dI one)), some (.fz (dI other)), none] _ _ _ _
        refine Sts.ifX ((Cw.or_ (Cb.ge (Ev.fz ck 6) (Ev.fz ck 2)) (fun _ => Cw.or_ (Cb.ge (Ev.fz ck 7) (Ev.fz ck 2)) (fun _ => Cw.one (Cb.eqI (Ev.fz ck 6) (Ev.fz ck 7))))).cb) Fl.ex_rt (fun _ => ?_) (fun _ => ?_)
        · exact Sts.ret (Ev.nsc (Ev.non))
        · refine Sts.appL (f := (zz (dP dI dI))) 3 ck (Ev.tupz (ds := [dI one, dI other]) (show (2 : Nat) ≤ sizeLine by decide) (Ei.cons (o := .fz (dI one)) (Ev.fz ck 6) (Ei.cons (o := .fz (dI other)) (Ev.fz ck 7) (Ei.nil)))) ?_
          intro ties1 eties1
          show Sts C Z X W [some (.fz (dS text)), some (.nz ((dL dS) words)), some (.fz (dI many)), some ((oL (zz (dP dI dI))) ties1), some (.fz (dS word)), some (.nz ((dL dS) parts)), some (.fz (dI one)), some (.fz (dI other)), none] _ _ _ _
          exact Sts.nil (.keep (.keep (.keep (.keep (.drop (.drop (.drop (.drop (.keep .nil)))))))))
    · show Sts C Z X W [some (.fz (dS text)), some (.nz ((dL dS) words)), some (.fz (dI many)), some ((oL (zz (dP dI dI))) s), none, none, none, none, none] _ _ _ _
      refine Sts.req fun r4 hr4 => ?_
      refine Sts.asgL (i := 8) (zn (dL (dL dI))) ck d (Ev.call ck 2 (cal_ok (h_l_near many s) hr4) (Ea.cons (d := dI many) (Ev.cur_frz (Ev.fz ck 2)) (Ea.cons (d := (dL (dP dI dI)) s) (Ev.ow ck 3 ((er_L er_z) _)) (Ea.nil)))) (Nat.le_of_ble_eq_true rfl) ?_
      intro near enear
      show Sts C Z X W [some (.fz (dS text)), some (.nz ((dL dS) words)), some (.fz (dI many)), some ((oL (zz (dP dI dI))) s), none, none, none, none, some (.nz ((dL (dL dI)) near))] _ _ _ _
      refine Sts.req fun r5 hr5 => ?_
      refine Sts.ifX (Cb.neT (Ev.sc (Ev.call ck 3 (cal_ok (h_l_shown many near) hr5) (Ea.cons (d := dI many) (Ev.cur_frz (Ev.fz ck 2)) (Ea.cons (d := (dL (dL dI)) near) (Ev.cur_nrz (Ev.nz ck 8)) (Ea.nil))))) (Ev.fz ck 0)) Fl.ex_rt (fun _ => ?_) (fun _ => ?_)
      · exact Sts.ret (Ev.nsc (Ev.non))
      · exact Sts.ret (Ev.nrz_new (Ev.tup (os := [(zz dI) many, (zn (dL (dL dI))) near]) (show (2 : Nat) ≤ sizeLine by decide) (Ei.cons (o := (zz dI) many) (Ev.fz ck 2) (Ei.cons (o := (zn (dL (dL dI))) near) (Ev.nz ck 8) (Ei.nil)))) ((er_O (er_P er_z er_n)) (some (many, near))) ((fu_O (fu_P (fu_z (fun _ => Flat.sc)) fu_n)) (some (many, near))))
abbrev s_p_number_of : Stmt := top 14
abbrev N_p_number_of : List Str := ["word", "sign"]
abbrev G_p_number_of : List Str := ["FIGURES", "BadText", "len", "int"]
theorem w_p_number_of {C : Cf} {Z : Hp} {X : Cx} {W : Nat → Hp → Prop} (ck : Cok C X N_p_number_of (fun i => Nat.blt i 2) G_p_number_of) (d : Dok X N_p_number_of (fun i => Nat.blt i 2)) (hsc : X.env.scope = defScope s_p_number_of) (T : Txt C X.K X.mg) (tk : L2N.Takes X (WXc C W)) (word : Str) : Sts C Z X W [some (.fz (dS word)), none] (defBody s_p_number_of) (fun _ : Unit => ([none, none] : En)) (fun r : Int => RM.frz (dI r)) (b_p_number_of word) := by
  unfold b_p_number_of
  refine Sts.chk fun hc => ?_
  refine Sts.for_ (ss := [some (.fz (dS word)), none]) (S' := Unit) (s0 := ()) (f := (zz dC)) (xs := (word).cps.toList) (fun (s : Unit) => [some (.fz (dS word)), none]) (fun (s : Unit) (sign : Nat) => [some (.fz (dS word)), some (.fz (dC sign))]) ck d (fun _ => trivial) (Iv.str hc (Ev.fz ck 0)) (.keep (.keep .nil)) (fun s sign => Gt.name ck d 1 (Nat.le_of_ble_eq_true rfl) rfl) (fun s sign hx => ?_) (fun s => ?_)
  · show Sts C Z X W [some (.fz (dS word)), some (.fz (dC sign))] _ _ _ _
    refine Sts.ifX (Cb.niS (x := sign) (y := ("0123456789" : Str)) (by rfl) (Ev.fz ck 1) (Ev.globS ck 0 (v := "0123456789") T.c_FIGURES)) Fl.ex_exc (fun _ => ?_) (fun _ => ?_)
    · exact Sts.raise tk ck 1 T.x_BadText
    · exact Sts.nil (.keep (.drop .nil))
  · show Sts C Z X W [some (.fz (dS word)), none] _ _ _ _
    refine Sts.chk fun hc1 => ?_
    refine Sts.req fun t ht => ?_
    refine Sts.ifX ((Cw.orO (Cb.eqI (Ev.lenstr ck hc1 2 (ha := Ev.fz ck 0)) (Ev.int)) (fun _ q hq => by
          obtain ⟨hc2, hq⟩ := ifO_some.mp hq
          cases hq
          exact Cw.one (Cb.gt (Ev.lenstr ck hc2 2 (ha := Ev.fz ck 0)) (Ev.int))) ht).cb) Fl.ex_exc (fun _ => ?_) (fun _ => ?_)
    · exact Sts.raise tk ck 1 T.x_BadText
    · refine Sts.req fun number hnumber => ?_
      refine Sts.chk fun hc3 => ?_
      exact Sts.ret (Ev.intS hnumber hc3 ck 3 (ha := Ev.fz ck 0))
abbrev s_p_tie_of : Stmt := top 15
abbrev N_p_tie_of : List Str := ["word", "parts"]
abbrev G_p_tie_of : List Str := ["len", "BadText", "number_of"]
theorem w_p_tie_of {C : Cf} {Z : Hp} {X : Cx} {W : Nat → Hp → Prop} (ck : Cok C X N_p_tie_of (fun i => Nat.blt i 2) G_p_tie_of) (d : Dok X N_p_tie_of (fun i => Nat.blt i 2)) (hsc : X.env.scope = defScope s_p_tie_of) (T : Txt C X.K X.mg) (tk : L2N.Takes X (WXc C W))
    (h_p_number_of : ∀ (a0 : Str), Cal X.prog X.w X.K X.mg X.base X.A C "number_of" [dS a0] ((m_p_number_of a0).map fun r => RM.frz (dI r))) (word : Str) : Sts C Z X W [some (.fz (dS word)), none] (defBody s_p_tie_of) (fun _ : Unit => ([none, none] : En)) (fun r : (Int × Int) => RM.frz ((dP dI dI) r)) (b_p_tie_of word) := by
  unfold b_p_tie_of
  refine Sts.chk fun hc => ?_
  refine Sts.asgL (i := 1) (zn (dL dS)) ck d (Ev.nrz_new (Ev.split rfl hc (Ev.fz ck 0) (Ev.str)) ((er_L er_z) (Txt.split word ("-" : Str))) ((fu_L (fu_z (fun _ => Flat.sc))) (Txt.split word ("-" : Str)))) (Nat.le_of_ble_eq_true rfl) ?_
  intro parts eparts
  show Sts C Z X W [some (.fz (dS word)), some (.nz ((dL dS) parts))] _ _ _ _
  refine Sts.ifX (Cb.neI (Ev.lenL ck 0 (ha := Ev.cur_nrz (Ev.nz ck 1))) (Ev.int)) Fl.ex_exc (fun _ => ?_) (fun _ => ?_)
  · exact Sts.raise tk ck 1 T.x_BadText
  · refine Sts.req fun item hitem => ?_
    refine Sts.runS (fun r hr => ?_) (fun cc hcc => Sts.rzRet (Rz.tup1 (Rz.call tk ck 2 (h_p_number_of item) hcc (Ea.cons (d := dS item) (Ev.cur_nrz (Ev.ixn (atI_map (f := dS) hitem) (Ev.nz ck 1) (Ev.int))) (Ea.nil)))))
    refine Sts.req fun item1 hitem1 => ?_
    refine Sts.runS (fun r1 hr1 => ?_) (fun cc hcc => Sts.rzRet (Rz.tup2 (Ev.sc (Ev.call ck 2 (cal_ok (h_p_number_of item) (get_of hr)) (Ea.cons (d := dS item) (Ev.cur_nrz (Ev.ixn (atI_map (f := dS) hitem) (Ev.nz ck 1) (Ev.int))) (Ea.nil)))) (Rz.call tk ck 2 (h_p_number_of item1) hcc (Ea.cons (d := dS item1) (Ev.cur_nrz (Ev.ixn (atI_map (f := dS) hitem1) (Ev.nz ck 1) (Ev.int))) (Ea.nil)))))
    exact Sts.ret (Ev.tupz (ds := [dI r, dI r1]) (show (2 : Nat) ≤ sizeLine by decide) (Ei.cons (o := .fz (dI r)) (Ev.sc (Ev.call ck 2 (cal_ok (h_p_number_of item) (get_of hr)) (Ea.cons (d := dS item) (Ev.cur_nrz (Ev.ixn (atI_map (f := dS) hitem) (Ev.nz ck 1) (Ev.int))) (Ea.nil)))) (Ei.cons (o := .fz (dI r1)) (Ev.sc (Ev.call ck 2 (cal_ok (h_p_number_of item1) (get_of hr1)) (Ea.cons (d := dS item1) (Ev.cur_nrz (Ev.ixn (atI_map (f := dS) hitem1) (Ev.nz ck 1) (Ev.int))) (Ea.nil)))) (Ei.nil))))
abbrev s_p_web_of : Stmt := top 10
abbrev N_p_web_of : List Str := ["many", "ties", "one", "other", "rows", "point", "row"]
abbrev G_p_web_of : List Str := ["MOST", "BadWeb", "range", "Web"]
theorem w_p_web_of {C : Cf} {Z : Hp} {X : Cx} {W : Nat → Hp → Prop} (ck : Cok C X N_p_web_of (fun i => Nat.blt i 5) G_p_web_of) (d : Dok X N_p_web_of (fun i => Nat.blt i 5)) (hsc : X.env.scope = defScope s_p_web_of) (T : Txt C X.K X.mg) (tk : L2N.Takes X (WXc C W))
    (h_mkWeb : Mkd C X.prog X.w X.K X.mg X.base X.A "Web" 0 2) (many : Int) (ties : (List (Int × Int))) : Sts C Z X W [some (.fz (dI many)), some (.fz ((dL (dP dI dI)) ties)), none, none, none, none, none] (defBody s_p_web_of) (fun _ : Unit => ([none, none, none, none, none, none, none] : En)) (fun r : Web => RM.nrz (dW r)) (b_p_web_of many ties) := by
  unfold b_p_web_of
  refine Sts.ifX (Cb.not_ (Cb.lele (Ev.int) (Ev.fz ck 0) (Ev.globI ck 0 (v := 60) T.c_MOST))) Fl.ex_exc (fun _ => ?_) (fun _ => ?_)
  · exact Sts.raise tk ck 1 T.x_BadWeb
  · refine Sts.for_ (ss := [some (.fz (dI many)), some (.fz ((dL (dP dI dI)) ties)), none, none, none, none, none]) (S' := Unit) (s0 := ()) (f := (zz (dP dI dI))) (xs := ties) (fun (s : Unit) => [some (.fz (dI many)), some (.fz ((dL (dP dI dI)) ties)), none, none, none, none, none]) (fun (s : Unit) (x : (Int × Int)) => [some (.fz (dI many)), some (.fz ((dL (dP dI dI)) ties)), some (.fz (dI x.1)), some (.fz (dI x.2)), none, none, none]) ck d (fun _ => trivial) (Iv.frz (Ev.fz ck 1)) (.keep (.keep (.keep (.keep (.keep (.keep (.keep .nil))))))) (fun s x => Gt.two (p1 := ⟨0, 0, 0, 0⟩) (d1 := dI x.1) (d2 := dI x.2) ck d 2 3 (Nat.le_of_ble_eq_true rfl) (Nat.le_of_ble_eq_true rfl) rfl) (fun s x hx => ?_) (fun s => ?_)
    · show Sts C Z X W [some (.fz (dI many)), some (.fz ((dL (dP dI dI)) ties)), some (.fz (dI x.1)), some (.fz (dI x.2)), none, none, none] _ _ _ _
      refine Sts.ifX ((Cw.or_ (Cb.not_ (Cb.lelt (Ev.int) (Ev.fz ck 2) (Ev.fz ck 0))) (fun _ => Cw.or_ (Cb.not_ (Cb.lelt (Ev.int) (Ev.fz ck 3) (Ev.fz ck 0))) (fun _ => Cw.one (Cb.eqI (Ev.fz ck 2) (Ev.fz ck 3))))).cb) Fl.ex_exc (fun _ => ?_) (fun _ => ?_)
      · exact Sts.raise tk ck 1 T.x_BadWeb
      · exact Sts.nil (.keep (.keep (.drop (.drop (.keep (.keep (.keep .nil)))))))
    · show Sts C Z X W [some (.fz (dI many)), some (.fz ((dL (dP dI dI)) ties)), none, none, none, none, none] _ _ _ _
      refine Sts.chk fun hc => ?_
      refine Sts.asgCL (x := "point") (f := (zz dI)) (fo := (oL (zz dI))) (pt := (fun point : Int => some true)) (fe := (fun point : Int => some [])) (i := 5) (j := 4) ck d (compO_all (fun point : Int => []) _) (Nat.le_of_ble_eq_true rfl) (Nat.le_of_ble_eq_true rfl) (fun _ => trivial) (blk_ok ck hsc (blkOk_by (by decide +kernel))) (fun _ _ _ _ _ => pg_name (i := 5) (by show X.N.Nodup; rw [ck.hN]; exact ck.nd) (by show X.N[5]? = _; rw [ck.hN]; rfl) (Or.inl rfl)) (by rw [hsc]; rfl) (sw_true (by rw [hsc]; rfl) (by rw [hsc]; rfl) rfl (by decide +kernel)) ((Iv.range1 hc ck 2 (ha := Ev.fz ck 0)).c)
          (fun X' fam point b hx hb => by
            cases hb
            exact Tts.no)
          (fun X' fam point y hx hp hy => by
            have k' := blk_cok ck fam (vis := []) (G' := []) (by decide +kernel)
            obtain ⟨s0, H0, C0, cl0, fp0, rfl⟩ := fam
            cases hy
            exact Ev.displ (xs := []) (show (0 : Nat) ≤ sizeLine by decide) Ei.nil) ?_
      intro rows erows
      show Sts C Z X W [some (.fz (dI many)), some (.fz ((dL (dP dI dI)) ties)), none, none, some ((oL (oL (zz dI))) rows), none, none] _ _ _ _
      refine Sts.for_ (ss := [some (.fz (dI many)), some (.fz ((dL (dP dI dI)) ties)), none, none, some ((oL (oL (zz dI))) rows), none, none]) (S' := (List (List Int))) (s0 := (rows)) (f := (zz (dP dI dI))) (xs := ties) (fun (s1 : (List (List Int))) => [some (.fz (dI many)), some (.fz ((dL (dP dI dI)) ties)), none, none, some ((oL (oL (zz dI))) s1), none, none]) (fun (s1 : (List (List Int))) (x1 : (Int × Int)) => [some (.fz (dI many)), some (.fz ((dL (dP dI dI)) ties)), some (.fz (dI x1.1)), some (.fz (dI x1.2)), some ((oL (oL (zz dI))) s1), none, none]) ck d (fun _ => trivial) (Iv.frz (Ev.fz ck 1)) (.keep (.keep (.keep (.keep (.keep (.keep (.keep .nil))))))) (fun s1 x1 => Gt.two (p1 := ⟨0, 0, 0, 0⟩) (d1 := dI x1.1) (d2 := dI x1.2) ck d 2 3 (Nat.le_of_ble_eq_true rfl) (Nat.le_of_ble_eq_true rfl) rfl) (fun s1 x1 hx => ?_) (fun s1 => ?_)
      · show Sts C Z X W [some (.fz (dI many)), some (.fz ((dL (dP dI dI)) ties)), some (.fz (dI x1.1)), some (.fz (dI x1.2)), some ((oL (oL (zz dI))) s1), none, none] _ _ _ _
        refine Sts.req fun item hitem => ?_
        refine Sts.ifJ (S' := (List (List Int))) (fun (s2 : (List (List Int))) => [some (.fz (dI many)), some (.fz ((dL (dP dI dI)) ties)), some (.fz (dI x1.1)), some (.fz (dI x1.2)), some ((oL (oL (zz dI))) s2), none, none]) (Cb.niL (by rfl) (Ev.fz ck 3) (Ev.ixc (atI_map (f := (dL dI)) hitem) (Ev.ow ck 4 ((er_L (er_L er_z)) _)) (Ev.fz ck 2))) (fun _ => ?_) (fun _ => ?_) (fun s2 => ?_)
        · refine Sts.appIL (f := (zz dI)) 4 ck (Ev.fz ck 2) (fun _ => trivial) (Ev.fz ck 3) ?_
          intro rows1 hrows1
          show Sts C Z X W [some (.fz (dI many)), some (.fz ((dL (dP dI dI)) ties)), some (.fz (dI x1.1)), some (.fz (dI x1.2)), some ((oL (oL (zz dI))) rows1), none, none] _ _ _ _
          refine Sts.appIL (f := (zz dI)) 4 ck (Ev.fz ck 3) (fun _ => trivial) (Ev.fz ck 2) ?_
          intro rows2 hrows2
          show Sts C Z X W [some (.fz (dI many)), some (.fz ((dL (dP dI dI)) ties)), some (.fz (dI x1.1)), some (.fz (dI x1.2)), some ((oL (oL (zz dI))) rows2), none, none] _ _ _ _
          exact Sts.nil (.keep (.keep (.keep (.keep (.keep (.keep (.keep .nil)))))))
        · exact Sts.nil (.keep (.keep (.keep (.keep (.keep (.keep (.keep .nil)))))))
        · show Sts C Z X W [some (.fz (dI many)), some (.fz ((dL (dP dI dI)) ties)), some (.fz (dI x1.1)), some (.fz (dI x1.2)), some ((oL (oL (zz dI))) s2), none, none] _ _ _ _
          exact Sts.nil (.keep (.keep (.drop (.drop (.keep (.keep (.keep .nil)))))))
      · show Sts C Z X W [some (.fz (dI many)), some (.fz ((dL (dP dI dI)) ties)), none, none, some ((oL (oL (zz dI))) s1), none, none] _ _ _ _
        refine Sts.nfreeze 4 ((er_L (er_L er_z)) _) ((fu_L (fu_L (fu_z (fun _ => Flat.sc)))) _) rfl ?_
        show Sts C Z X W [some (.fz (dI many)), some (.fz ((dL (dP dI dI)) ties)), none, none, some (.nz ((dL (dL dI)) s1)), none, none] _ _ _ _
        exact Sts.ret (Ev.nrz_new (Ev.mkW ck 3 h_mkWeb (Ev.fz ck 0) (Ev.lc (x := "row") (f := (zn (dL dI))) (fo := (oL (zz dI))) (pt := (fun row : (List Int) => some true)) (fe := (fun row : (List Int) => some (isort row))) (i := 6) ck (compO_all (fun row : (List Int) => (isort row)) _) (Nat.le_of_ble_eq_true rfl) (fun _ => trivial) (blk_ok ck hsc (blkOk_by (by decide +kernel))) (fun _ _ _ _ _ => pg_name (i := 6) (by show X.N.Nodup; rw [ck.hN]; exact ck.nd) (by show X.N[6]? = _; rw [ck.hN]; rfl) (Or.inl rfl)) ((Iv.nrz (Ev.nz ck 4)).c)
          (fun X' fam row b hx hb => by
            cases hb
            exact Tts.no)
          (fun X' fam row y hx hp hy => by
            have k' := blk_cok ck fam (vis := [6]) (G' := [("sorted" : Str)]) (by decide +kernel)
            obtain ⟨s0, H0, C0, cl0, fp0, rfl⟩ := fam
            cases hy
            exact Ev.sortedI k' 0 (ha := Ev.cur_nrz (Ev.nz k' 6))))) (er_W (Web.mk many ((s1).map (fun row : (List Int) => (isort row))))) (fu_W (Web.mk many ((s1).map (fun row : (List Int) => (isort row))))))
abbrev s_p_read : Stmt := top 16
abbrev N_p_read : List Str := ["text", "words", "many", "ties", "found", "word"]
abbrev G_p_read : List Str := ["BadText", "number_of", "web_of", "BadWeb", "shown"]
theorem w_p_read {C : Cf} {Z : Hp} {X : Cx} {W : Nat → Hp → Prop} (ck : Cok C X N_p_read (fun i => Nat.blt i 5) G_p_read) (d : Dok X N_p_read (fun i => Nat.blt i 5)) (hsc : X.env.scope = defScope s_p_read) (T : Txt C X.K X.mg) (tkx : L2.Takes X (WXc C W))
    (h_p_number_of : ∀ (a0 : Str), Cal X.prog X.w X.K X.mg X.base X.A C "number_of" [dS a0] ((m_p_number_of a0).map fun r => RM.frz (dI r)))
    (h_p_tie_of : ∀ (a0 : Str), Cal X.prog X.w X.K X.mg X.base X.A C "tie_of" [dS a0] ((m_p_tie_of a0).map fun r => RM.frz ((dP dI dI) r)))
    (h_p_web_of : ∀ (a0 : Int) (a1 : (List (Int × Int))), Cal X.prog X.w X.K X.mg X.base X.A C "web_of" [dI a0, (dL (dP dI dI)) a1] ((m_p_web_of a0 a1).map fun r => RM.nrz (dW r)))
    (h_p_shown : ∀ (a0 : Web), Cal X.prog X.w X.K X.mg X.base X.A C "shown" [dW a0] ((m_p_shown a0).map fun r => RM.frz (dS r)))
    (hst : X.stack = X.env :: X.outer)
    (hfr : X.env.frame = some X.env.locals)
    (hpa : ∀ hd : Option Value, PassesOwnAt (model X.prog X.w) (X.A.mark hd) X.A X.env X.xe) (text : Str) : Sts C Z X W [some (.fz (dS text)), none, none, none, none, none] (defBody s_p_read) (fun _ : Unit => ([none, none, none, none, none, none] : En)) (fun r : Web => RM.nrz (dW r)) (b_p_read text) := by
  have tk : L2N.Takes X (WXc C W) := takesN tkx
  unfold b_p_read
  refine Sts.chk fun hc => ?_
  refine Sts.asgL (i := 1) (zn (dL dS)) ck d (Ev.nrz_new (Ev.split rfl hc (Ev.fz ck 0) (Ev.str)) ((er_L er_z) (Txt.split text (" " : Str))) ((fu_L (fu_z (fun _ => Flat.sc))) (Txt.split text (" " : Str)))) (Nat.le_of_ble_eq_true rfl) ?_
  intro words ewords
  show Sts C Z X W [some (.fz (dS text)), some (.nz ((dL dS) words)), none, none, none, none] _ _ _ _
  refine Sts.req fun item hitem => ?_
  refine Sts.chk fun hc1 => ?_
  refine Sts.ifX (Cb.neT (Ev.sliceT hc1 (Ev.frz_nrz (Ev.ixn (atI_map (f := dS) hitem) (Ev.nz ck 1) (Ev.int))) (Pa.yes (Ev.neg (Ev.int))) (Pa.no)) (Ev.str)) Fl.ex_exc (fun _ => ?_) (fun _ => ?_)
  · exact Sts.raise tk ck 0 T.x_BadText
  · refine Sts.req fun item1 hitem1 => ?_
    refine Sts.chk fun hc2 => ?_
    refine Sts.runS (fun r hr => ?_) (fun cc hcc => Sts.rzAsg (i := 2) ck d (Rz.call tk ck 1 (h_p_number_of (cutS item1 none (some (-(1 : Int))))) hcc (Ea.cons (d := dS (cutS item1 none (some (-(1 : Int))))) (Ev.cur_frz (Ev.sliceT hc2 (Ev.frz_nrz (Ev.ixn (atI_map (f := dS) hitem1) (Ev.nz ck 1) (Ev.int))) (Pa.no) (Pa.yes (Ev.neg (Ev.int))))) (Ea.nil))))
    refine Sts.asgL (i := 2) (zz dI) ck d (Ev.sc (Ev.call ck 1 (cal_ok (h_p_number_of (cutS item1 none (some (-(1 : Int))))) (get_of hr)) (Ea.cons (d := dS (cutS item1 none (some (-(1 : Int))))) (Ev.cur_frz (Ev.sliceT hc2 (Ev.frz_nrz (Ev.ixn (atI_map (f := dS) hitem1) (Ev.nz ck 1) (Ev.int))) (Pa.no) (Pa.yes (Ev.neg (Ev.int))))) (Ea.nil)))) (Nat.le_of_ble_eq_true rfl) ?_
    intro many emany
    show Sts C Z X W [some (.fz (dS text)), some (.nz ((dL dS) words)), some (.fz (dI many)), none, none, none] _ _ _ _
    refine Sts.asgCR (x := "word") (f := (zz dS)) (fo := (zz (dP dI dI))) (fe := (fun word : Str => m_p_tie_of word)) (xs := (cut words (some (1 : Int)) none)) (i := 5) (j := 3) tk ck hst hfr (Nat.le_of_ble_eq_true rfl) (Nat.le_of_ble_eq_true rfl) (blk_ok ck hsc (blkOk_by (by decide +kernel))) (fun _ _ _ _ _ => pg_name (i := 5) (by show X.N.Nodup; rw [ck.hN]; exact ck.nd) (by show X.N[5]? = _; rw [ck.hN]; rfl) (Or.inl rfl)) (by rw [hsc]; rfl) (sw_true (by rw [hsc]; rfl) (by rw [hsc]; rfl) rfl (by decide +kernel)) ((Iv.frz (Ev.frz_new (Ev.sliceL (f := (zz dS)) (Ev.itm_frz (Ev.frz_nrz (Ev.nz ck 1))) (Pa.yes (Ev.int)) (Pa.no)) ((er_L er_z) (cut words (some (1 : Int)) none)))).c)
          (fun X' fam word y0 hx hy => by
            have k' := blk_cokX ck fam (vis := [5]) (G' := [("tie_of" : Str)]) (by decide +kernel)
            obtain ⟨s0, H0, C0, cl0, fp0, xe0, rfl, hps⟩ := fam
            exact Ev.flat (Ev.call k' 0 (cal_ok (h_p_tie_of word) (get_of hy)) (Ea.cons (d := dS word) (Ev.cur_frz (Ev.fz k' 5)) (Ea.nil))) ((fl_P (fun _ => Flat.sc) (fun _ => Flat.sc)) _))
          (fun X' fam word c0 hx hy => by
            have k' := blk_cokX ck fam (vis := [5]) (G' := [("tie_of" : Str)]) (by decide +kernel)
            obtain ⟨s0, H0, C0, cl0, fp0, xe0, rfl, hps⟩ := fam
            exact Rz.callB hps k' 0 (h_p_tie_of word) hy (Ea.cons (d := dS word) (Ev.cur_frz (Ev.fz k' 5)) (Ea.nil))) ?_
    intro ties eties
    show Sts C Z X W [some (.fz (dS text)), some (.nz ((dL dS) words)), some (.fz (dI many)), some ((oL (zz (dP dI dI))) ties), none, none] _ _ _ _
    refine Sts.tryX (x := "BadText") (i := 0) tkx ck hst hfr hpa T.xc ⟨(ck.gl 3 _ rfl).1, (ck.gl 3 _ rfl).2.1, .inl T.g_BadWeb⟩ (by decide) T.x_BadText rfl (fun WW pn xe tk2 => TbA.asg (X := X) (i := 4) (f := (zn dW)) ck d (EvT.call tk2 (ck.tr pn xe) 2 (h_p_web_of many ties) (Ea.cons (d := dI many) (Ev.cur_frz (Ev.fz (ck.tr pn xe) 2)) (Ea.cons (d := (dL (dP dI dI)) ties) (Ev.ow (ck.tr pn xe) 3 ((er_L er_z) _)) (Ea.nil)))) (fun _ => rfl) (Nat.le_of_ble_eq_true rfl)) (fun found hfound => ?_)
    show Sts C Z X W [some (.fz (dS text)), some (.nz ((dL dS) words)), some (.fz (dI many)), some ((oL (zz (dP dI dI))) ties), some (.nz (dW found)), none] _ _ _ _
    refine Sts.req fun r1 hr1 => ?_
    refine Sts.ifX (Cb.neT (Ev.sc (Ev.call ck 4 (cal_ok (h_p_shown found) hr1) (Ea.cons (d := dW found) (Ev.cur_nrz (Ev.nz ck 4)) (Ea.nil)))) (Ev.fz ck 0)) Fl.ex_exc (fun _ => ?_) (fun _ => ?_)
    · exact Sts.raise tk ck 0 T.x_BadText
    · exact Sts.ret (Ev.nz ck 4)
abbrev s_l_earlier : Stmt := top 23
abbrev N_l_earlier : List Str := ["_law_script", "_law_many_here", "_law_ring", "_law_rows_here", "_law_k", "_law_cell", "_law_row", "_law_mate", "_law_left", "_law_one"]
abbrev G_l_earlier : List Str := ["range", "_law_cell_at", "_law_mixed", "len"]
theorem w_l_earlier {C : Cf} {Z : Hp} {X : Cx} {W : Nat → Hp → Prop} (ck : Cok C X N_l_earlier (fun i => Nat.blt i 10) G_l_earlier) (d : Dok X N_l_earlier (fun i => Nat.blt i 10)) (hsc : X.env.scope = defScope s_l_earlier) (T : Txt C X.K X.mg) (tk : L2N.Takes X (WXc C W))
    (h_l_cell_at : ∀ (a0 : List Int) (a1 : Int), Cal X.prog X.w X.K X.mg X.base X.A C "_law_cell_at" [D.scr a0, dI a1] ((m_l_cell_at a0 a1).map fun r => RM.frz (dI r)))
    (h_l_mixed : ∀ (a0 : Int) (a1 : Int), Cal X.prog X.w X.K X.mg X.base X.A C "_law_mixed" [dI a0, dI a1] ((m_l_mixed a0 a1).map fun r => RM.frz (dI r))) (script : List Int) (many : Int) (ring : Int) : Sts C Z X W [some (.fz (D.scr script)), some (.fz (dI many)), some (.fz (dI ring)), none, none, none, none, none, none, none] (defBody s_l_earlier) (fun _ : Unit => ([none, none, none, none, none, none, none, none, none, none] : En)) (fun r : (List (List Int)) => RM.nrz ((dL (dL dI)) r)) (b_l_earlier script many ring) := by
  unfold b_l_earlier
  refine Sts.asgL (i := 3) (oL (zn (dL dI))) ck d (Ev.displ (xs := []) (show (0 : Nat) ≤ sizeLine by decide) Ei.nil) (Nat.le_of_ble_eq_true rfl) ?_
  intro rows erows
  show Sts C Z X W [some (.fz (D.scr script)), some (.fz (dI many)), some (.fz (dI ring)), some ((oL (zn (dL dI))) rows), none, none, none, none, none, none] _ _ _ _
  refine Sts.chk fun hc => ?_
  refine Sts.for_ (ss := [some (.fz (D.scr script)), some (.fz (dI many)), some (.fz (dI ring)), some ((oL (zn (dL dI))) rows), none, none, none, none, none, none]) (S' := (List (List Int))) (s0 := (rows)) (f := (zz dI)) (xs := (rangeI 0 many)) (fun (s : (List (List Int))) => [some (.fz (D.scr script)), some (.fz (dI many)), some (.fz (dI ring)), some ((oL (zn (dL dI))) s), none, none, none, none, none, none]) (fun (s : (List (List Int))) (k : Int) => [some (.fz (D.scr script)), some (.fz (dI many)), some (.fz (dI ring)), some ((oL (zn (dL dI))) s), some (.fz (dI k)), none, none, none, none, none]) ck d (fun _ => trivial) (Iv.range1 hc ck 0 (ha := Ev.fz ck 1)) (.keep (.keep (.keep (.keep (.keep (.keep (.keep (.keep (.keep (.keep .nil)))))))))) (fun s k => Gt.name ck d 4 (Nat.le_of_ble_eq_true rfl) rfl) (fun s k hx => ?_) (fun s => ?_)
  · show Sts C Z X W [some (.fz (D.scr script)), some (.fz (dI many)), some (.fz (dI ring)), some ((oL (zn (dL dI))) s), some (.fz (dI k)), none, none, none, none, none] _ _ _ _
    refine Sts.req fun r hr => ?_
    refine Sts.req fun r1 hr1 => ?_
    refine Sts.asgL (i := 5) (zz dI) ck d (Ev.sc (Ev.call ck 2 (cal_ok (h_l_mixed r k) hr1) (Ea.cons (d := dI r) (Ev.cur_frz (Ev.sc (Ev.call ck 1 (cal_ok (h_l_cell_at script ((3 : Int) + k)) hr) (Ea.cons (d := D.scr script) (Ev.cur_frz (Ev.fz ck 0)) (Ea.cons (d := dI ((3 : Int) + k)) (Ev.cur_frz (Ev.add (Ev.int) (Ev.fz ck 4))) (Ea.nil)))))) (Ea.cons (d := dI k) (Ev.cur_frz (Ev.fz ck 4)) (Ea.nil))))) (Nat.le_of_ble_eq_true rfl) ?_
    intro cell ecell
    show Sts C Z X W [some (.fz (D.scr script)), some (.fz (dI many)), some (.fz (dI ring)), some ((oL (zn (dL dI))) s), some (.fz (dI k)), some (.fz (dI cell)), none, none, none, none] _ _ _ _
    refine Sts.asgL (i := 6) (oL (zz dI)) ck d (Ev.displ (xs := []) (show (0 : Nat) ≤ sizeLine by decide) Ei.nil) (Nat.le_of_ble_eq_true rfl) ?_
    intro row erow
    show Sts C Z X W [some (.fz (D.scr script)), some (.fz (dI many)), some (.fz (dI ring)), some ((oL (zn (dL dI))) s), some (.fz (dI k)), some (.fz (dI cell)), some ((oL (zz dI)) row), none, none, none] _ _ _ _
    refine Sts.ifJ (S' := (List Int)) (fun (s1 : (List Int)) => [some (.fz (D.scr script)), some (.fz (dI many)), some (.fz (dI ring)), some ((oL (zn (dL dI))) s), some (.fz (dI k)), some (.fz (dI cell)), some ((oL (zz dI)) s1), none, none, none]) (Cb.ltlt (Ev.int) (Ev.fz ck 4) (Ev.fz ck 2)) (fun _ => ?_) (fun _ => ?_) (fun s1 => ?_)
    · refine Sts.asgL (i := 6) (oL (zz dI)) ck d (Ev.displ (f := (zz dI)) (xs := [(k - (1 : Int))]) (show (1 : Nat) ≤ sizeLine by decide) (Ei.cons (o := (zz dI) (k - (1 : Int))) (Ev.sub (Ev.fz ck 4) (Ev.int)) (Ei.nil))) (Nat.le_of_ble_eq_true rfl) ?_
      intro row1 erow1
      show Sts C Z X W [some (.fz (D.scr script)), some (.fz (dI many)), some (.fz (dI ring)), some ((oL (zn (dL dI))) s), some (.fz (dI k)), some (.fz (dI cell)), some ((oL (zz dI)) row1), none, none, none] _ _ _ _
      refine Sts.ifJ (S' := (List Int)) (fun (s2 : (List Int)) => [some (.fz (D.scr script)), some (.fz (dI many)), some (.fz (dI ring)), some ((oL (zn (dL dI))) s), some (.fz (dI k)), some (.fz (dI cell)), some ((oL (zz dI)) s2), none, none, none]) (Cb.eqI (Ev.fz ck 4) (Ev.sub (Ev.fz ck 2) (Ev.int))) (fun _ => ?_) (fun _ => ?_) (fun s2 => ?_)
      · refine Sts.asgL (i := 6) (oL (zz dI)) ck d (Ev.displ (f := (zz dI)) (xs := [(0 : Int), (k - (1 : Int))]) (show (2 : Nat) ≤ sizeLine by decide) (Ei.cons (o := (zz dI) (0 : Int)) (Ev.int) (Ei.cons (o := (zz dI) (k - (1 : Int))) (Ev.sub (Ev.fz ck 4) (Ev.int)) (Ei.nil)))) (Nat.le_of_ble_eq_true rfl) ?_
        intro row2 erow2
        show Sts C Z X W [some (.fz (D.scr script)), some (.fz (dI many)), some (.fz (dI ring)), some ((oL (zn (dL dI))) s), some (.fz (dI k)), some (.fz (dI cell)), some ((oL (zz dI)) row2), none, none, none] _ _ _ _
        exact Sts.nil (.keep (.keep (.keep (.keep (.keep (.keep (.keep (.keep (.keep (.keep .nil))))))))))
      · exact Sts.nil (.keep (.keep (.keep (.keep (.keep (.keep (.keep (.keep (.keep (.keep .nil))))))))))
      · show Sts C Z X W [some (.fz (D.scr script)), some (.fz (dI many)), some (.fz (dI ring)), some ((oL (zn (dL dI))) s), some (.fz (dI k)), some (.fz (dI cell)), some ((oL (zz dI)) s2), none, none, none] _ _ _ _
        exact Sts.nil (.keep (.keep (.keep (.keep (.keep (.keep (.keep (.keep (.keep (.keep .nil))))))))))
    · refine Sts.ifJ (S' := (List Int)) (fun (s3 : (List Int)) => [some (.fz (D.scr script)), some (.fz (dI many)), some (.fz (dI ring)), some ((oL (zn (dL dI))) s), some (.fz (dI k)), some (.fz (dI cell)), some ((oL (zz dI)) s3), none, none, none]) ((Cw.and_ (Cb.gt (Ev.fz ck 4) (Ev.int)) (fun _ => Cw.one (Cb.neI (Ev.mod (by decide) (Ev.fz ck 5) (Ev.int)) (Ev.int)))).cb) (fun _ => ?_) (fun _ => ?_) (fun s3 => ?_)
      · refine Sts.chk fun hc1 => ?_
        refine Sts.asgL (i := 7) (zz dI) ck d (Ev.mod hc1 (Ev.fdiv ⟨by decide, by decide⟩ (Ev.fz ck 5) (Ev.int)) (Ev.fz ck 4)) (Nat.le_of_ble_eq_true rfl) ?_
        intro mate emate
        show Sts C Z X W [some (.fz (D.scr script)), some (.fz (dI many)), some (.fz (dI ring)), some ((oL (zn (dL dI))) s), some (.fz (dI k)), some (.fz (dI cell)), some ((oL (zz dI)) row), some (.fz (dI mate)), none, none] _ _ _ _
        refine Sts.asgL (i := 6) (oL (zz dI)) ck d (Ev.displ (f := (zz dI)) (xs := [mate]) (show (1 : Nat) ≤ sizeLine by decide) (Ei.cons (o := (zz dI) mate) (Ev.fz ck 7) (Ei.nil))) (Nat.le_of_ble_eq_true rfl) ?_
        intro row3 erow3
        show Sts C Z X W [some (.fz (D.scr script)), some (.fz (dI many)), some (.fz (dI ring)), some ((oL (zn (dL dI))) s), some (.fz (dI k)), some (.fz (dI cell)), some ((oL (zz dI)) row3), some (.fz (dI mate)), none, none] _ _ _ _
        refine Sts.chk fun hc2 => ?_
        refine Sts.asgL (i := 8) (zz dI) ck d (Ev.fdiv hc2 (Ev.fdiv ⟨by decide, by decide⟩ (Ev.fz ck 5) (Ev.int)) (Ev.fz ck 4)) (Nat.le_of_ble_eq_true rfl) ?_
        intro left eleft
        show Sts C Z X W [some (.fz (D.scr script)), some (.fz (dI many)), some (.fz (dI ring)), some ((oL (zn (dL dI))) s), some (.fz (dI k)), some (.fz (dI cell)), some ((oL (zz dI)) row3), some (.fz (dI mate)), some (.fz (dI left)), none] _ _ _ _
        refine Sts.req fun item hitem => ?_
        refine Sts.for_ (ss := [some (.fz (D.scr script)), some (.fz (dI many)), some (.fz (dI ring)), some ((oL (zn (dL dI))) s), some (.fz (dI k)), some (.fz (dI cell)), some ((oL (zz dI)) row3), some (.fz (dI mate)), some (.fz (dI left)), none]) (S' := (List Int) × Int) (s0 := (row3, left)) (f := (zz dI)) (xs := item) (fun (s4 : (List Int) × Int) => [some (.fz (D.scr script)), some (.fz (dI many)), some (.fz (dI ring)), some ((oL (zn (dL dI))) s), some (.fz (dI k)), some (.fz (dI cell)), some ((oL (zz dI)) s4.1), some (.fz (dI mate)), some (.fz (dI s4.2)), none]) (fun (s4 : (List Int) × Int) (one : Int) => [some (.fz (D.scr script)), some (.fz (dI many)), some (.fz (dI ring)), some ((oL (zn (dL dI))) s), some (.fz (dI k)), some (.fz (dI cell)), some ((oL (zz dI)) s4.1), some (.fz (dI mate)), some (.fz (dI s4.2)), some (.fz (dI one))]) ck d (fun _ => trivial) (Iv.frz (Ev.frz_nrz (Ev.ixin (atI_map (f := (zn (dL dI))) hitem) (Ev.owiL (f := (zn (dL dI))) ck 3 (fun _ => trivial)) (Ev.fz ck 7)))) (.keep (.keep (.keep (.keep (.keep (.keep (.keep (.keep (.keep (.keep .nil)))))))))) (fun s4 one => Gt.name ck d 9 (Nat.le_of_ble_eq_true rfl) rfl) (fun s4 one hx => ?_) (fun s4 => ?_)
        · show Sts C Z X W [some (.fz (D.scr script)), some (.fz (dI many)), some (.fz (dI ring)), some ((oL (zn (dL dI))) s), some (.fz (dI k)), some (.fz (dI cell)), some ((oL (zz dI)) s4.1), some (.fz (dI mate)), some (.fz (dI s4.2)), some (.fz (dI one))] _ _ _ _
          refine Sts.ifJ (S' := (List Int)) (fun (s5 : (List Int)) => [some (.fz (D.scr script)), some (.fz (dI many)), some (.fz (dI ring)), some ((oL (zn (dL dI))) s), some (.fz (dI k)), some (.fz (dI cell)), some ((oL (zz dI)) s5), some (.fz (dI mate)), some (.fz (dI s4.2)), some (.fz (dI one))]) ((Cw.and_ (Cb.gt (Ev.mod (by decide) (Ev.fz ck 8) (Ev.int)) (Ev.int)) (fun _ => Cw.one ((Cw.or_ (Cb.ge (Ev.fz ck 7) (Ev.fz ck 2)) (fun _ => Cw.one (Cb.lt (Ev.lenL ck 3 (ha := Ev.ow ck 6 ((er_L er_z) _))) (Ev.int)))).cb))).cb) (fun _ => ?_) (fun _ => ?_) (fun s5 => ?_)
          · refine Sts.appL (f := (zz dI)) 6 ck (Ev.fz ck 9) ?_
            intro row4 erow4
            show Sts C Z X W [some (.fz (D.scr script)), some (.fz (dI many)), some (.fz (dI ring)), some ((oL (zn (dL dI))) s), some (.fz (dI k)), some (.fz (dI cell)), some ((oL (zz dI)) row4), some (.fz (dI mate)), some (.fz (dI s4.2)), some (.fz (dI one))] _ _ _ _
            exact Sts.nil (.keep (.keep (.keep (.keep (.keep (.keep (.keep (.keep (.keep (.keep .nil))))))))))
          · exact Sts.nil (.keep (.keep (.keep (.keep (.keep (.keep (.keep (.keep (.keep (.keep .nil))))))))))
          · show Sts C Z X W [some (.fz (D.scr script)), some (.fz (dI many)), some (.fz (dI ring)), some ((oL (zn (dL dI))) s), some (.fz (dI k)), some (.fz (dI cell)), some ((oL (zz dI)) s5), some (.fz (dI mate)), some (.fz (dI s4.2)), some (.fz (dI one))] _ _ _ _
            refine Sts.asgL (i := 8) (zz dI) ck d (Ev.fdiv ⟨by decide, by decide⟩ (Ev.fz ck 8) (Ev.int)) (Nat.le_of_ble_eq_true rfl) ?_
            intro left1 eleft1
            show Sts C Z X W [some (.fz (D.scr script)), some (.fz (dI many)), some (.fz (dI ring)), some ((oL (zn (dL dI))) s), some (.fz (dI k)), some (.fz (dI cell)), some ((oL (zz dI)) s5), some (.fz (dI mate)), some (.fz (dI left1)), some (.fz (dI one))] _ _ _ _
            exact Sts.nil (.keep (.keep (.keep (.keep (.keep (.keep (.keep (.keep (.keep (.drop .nil))))))))))
        · show Sts C Z X W [some (.fz (D.scr script)), some (.fz (dI many)), some (.fz (dI ring)), some ((oL (zn (dL dI))) s), some (.fz (dI k)), some (.fz (dI cell)), some ((oL (zz dI)) s4.1), some (.fz (dI mate)), some (.fz (dI s4.2)), none] _ _ _ _
          exact Sts.nil (.keep (.keep (.keep (.keep (.keep (.keep (.keep (.drop (.drop (.keep .nil))))))))))
      · exact Sts.nil (.keep (.keep (.keep (.keep (.keep (.keep (.keep (.keep (.keep (.keep .nil))))))))))
      · show Sts C Z X W [some (.fz (D.scr script)), some (.fz (dI many)), some (.fz (dI ring)), some ((oL (zn (dL dI))) s), some (.fz (dI k)), some (.fz (dI cell)), some ((oL (zz dI)) s3), none, none, none] _ _ _ _
        exact Sts.nil (.keep (.keep (.keep (.keep (.keep (.keep (.keep (.keep (.keep (.keep .nil))))))))))
    · show Sts C Z X W [some (.fz (D.scr script)), some (.fz (dI many)), some (.fz (dI ring)), some ((oL (zn (dL dI))) s), some (.fz (dI k)), some (.fz (dI cell)), some ((oL (zz dI)) s1), none, none, none] _ _ _ _
      refine Sts.nfreeze 6 ((er_L er_z) _) ((fu_L (fu_z (fun _ => Flat.sc))) _) rfl ?_
      show Sts C Z X W [some (.fz (D.scr script)), some (.fz (dI many)), some (.fz (dI ring)), some ((oL (zn (dL dI))) s), some (.fz (dI k)), some (.fz (dI cell)), some (.nz ((dL dI) s1)), none, none, none] _ _ _ _
      refine Sts.appL (f := (zn (dL dI))) 3 ck (Ev.nz ck 6) ?_
      intro rows1 erows1
      show Sts C Z X W [some (.fz (D.scr script)), some (.fz (dI many)), some (.fz (dI ring)), some ((oL (zn (dL dI))) rows1), some (.fz (dI k)), some (.fz (dI cell)), some (.nz ((dL dI) s1)), none, none, none] _ _ _ _
      exact Sts.nil (.keep (.keep (.keep (.keep (.drop (.drop (.drop (.keep (.keep (.keep .nil))))))))))
  · show Sts C Z X W [some (.fz (D.scr script)), some (.fz (dI many)), some (.fz (dI ring)), some ((oL (zn (dL dI))) s), none, none, none, none, none, none] _ _ _ _
    refine Sts.nfreeze 3 ((er_L er_n) _) ((fu_L fu_n) _) rfl ?_
    show Sts C Z X W [some (.fz (D.scr script)), some (.fz (dI many)), some (.fz (dI ring)), some (.nz ((dL (dL dI)) s)), none, none, none, none, none, none] _ _ _ _
    exact Sts.ret (Ev.nz ck 3)
abbrev s_l_any_rows : Stmt := top 24
abbrev N_l_any_rows : List Str := ["_law_script", "_law_many_here", "_law_share", "_law_parts", "_law_rows_here", "_law_k", "_law_cells", "_law_j"]
abbrev G_l_any_rows : List Str := ["_law_cell_at", "range"]
theorem w_l_any_rows {C : Cf} {Z : Hp} {X : Cx} {W : Nat → Hp → Prop} (ck : Cok C X N_l_any_rows (fun i => Nat.blt i 7) G_l_any_rows) (d : Dok X N_l_any_rows (fun i => Nat.blt i 7)) (hsc : X.env.scope = defScope s_l_any_rows) (T : Txt C X.K X.mg) (tk : L2N.Takes X (WXc C W))
    (h_l_cell_at : ∀ (a0 : List Int) (a1 : Int), Cal X.prog X.w X.K X.mg X.base X.A C "_law_cell_at" [D.scr a0, dI a1] ((m_l_cell_at a0 a1).map fun r => RM.frz (dI r)))
    (h_l_mixed : ∀ (a0 : Int) (a1 : Int), Cal X.prog X.w X.K X.mg X.base X.A C "_law_mixed" [dI a0, dI a1] ((m_l_mixed a0 a1).map fun r => RM.frz (dI r))) (script : List Int) (many : Int) : Sts C Z X W [some (.fz (D.scr script)), some (.fz (dI many)), none, none, none, none, none, none] (defBody s_l_any_rows) (fun _ : Unit => ([none, none, none, none, none, none, none, none] : En)) (fun r : (List (List Int)) => RM.nrz ((dL (dL dI)) r)) (b_l_any_rows script many) := by
  unfold b_l_any_rows
  refine Sts.req fun r hr => ?_
  refine Sts.asgL (i := 2) (zz dI) ck d (Ev.add (Ev.int) (Ev.mod (by decide) (Ev.fdiv ⟨by decide, by decide⟩ (Ev.sc (Ev.call ck 0 (cal_ok (h_l_cell_at script (2 : Int)) hr) (Ea.cons (d := D.scr script) (Ev.cur_frz (Ev.fz ck 0)) (Ea.cons (d := dI (2 : Int)) (Ev.cur_frz (Ev.int)) (Ea.nil))))) (Ev.int)) (Ev.int))) (Nat.le_of_ble_eq_true rfl) ?_
  intro share eshare
  show Sts C Z X W [some (.fz (D.scr script)), some (.fz (dI many)), some (.fz (dI share)), none, none, none, none, none] _ _ _ _
  refine Sts.asgL (i := 3) (zz dI) ck d (Ev.int) (Nat.le_of_ble_eq_true rfl) ?_
  intro parts eparts
  show Sts C Z X W [some (.fz (D.scr script)), some (.fz (dI many)), some (.fz (dI share)), some (.fz (dI parts)), none, none, none, none] _ _ _ _
  refine Sts.ifJ (S' := Int) (fun (s : Int) => [some (.fz (D.scr script)), some (.fz (dI many)), some (.fz (dI share)), some (.fz (dI s)), none, none, none, none]) (Cb.gt (Ev.fz ck 1) (Ev.int)) (fun _ => ?_) (fun _ => ?_) (fun s => ?_)
  · refine Sts.asgL (i := 3) (zz dI) ck d (Ev.int) (Nat.le_of_ble_eq_true rfl) ?_
    intro parts1 eparts1
    show Sts C Z X W [some (.fz (D.scr script)), some (.fz (dI many)), some (.fz (dI share)), some (.fz (dI parts1)), none, none, none, none] _ _ _ _
    exact Sts.nil (.keep (.keep (.keep (.keep (.keep (.keep (.keep (.keep .nil))))))))
  · exact Sts.nil (.keep (.keep (.keep (.keep (.keep (.keep (.keep (.keep .nil))))))))
  · show Sts C Z X W [some (.fz (D.scr script)), some (.fz (dI many)), some (.fz (dI share)), some (.fz (dI s)), none, none, none, none] _ _ _ _
    refine Sts.asgL (i := 4) (oL (zn (dL dI))) ck d (Ev.displ (xs := []) (show (0 : Nat) ≤ sizeLine by decide) Ei.nil) (Nat.le_of_ble_eq_true rfl) ?_
    intro rows erows
    show Sts C Z X W [some (.fz (D.scr script)), some (.fz (dI many)), some (.fz (dI share)), some (.fz (dI s)), some ((oL (zn (dL dI))) rows), none, none, none] _ _ _ _
    refine Sts.chk fun hc => ?_
    refine Sts.for_ (ss := [some (.fz (D.scr script)), some (.fz (dI many)), some (.fz (dI share)), some (.fz (dI s)), some ((oL (zn (dL dI))) rows), none, none, none]) (S' := (List (List Int))) (s0 := (rows)) (f := (zz dI)) (xs := (rangeI 0 many)) (fun (s1 : (List (List Int))) => [some (.fz (D.scr script)), some (.fz (dI many)), some (.fz (dI share)), some (.fz (dI s)), some ((oL (zn (dL dI))) s1), none, none, none]) (fun (s1 : (List (List Int))) (k : Int) => [some (.fz (D.scr script)), some (.fz (dI many)), some (.fz (dI share)), some (.fz (dI s)), some ((oL (zn (dL dI))) s1), some (.fz (dI k)), none, none]) ck d (fun _ => trivial) (Iv.range1 hc ck 1 (ha := Ev.fz ck 1)) (.keep (.keep (.keep (.keep (.keep (.keep (.keep (.keep .nil)))))))) (fun s1 k => Gt.name ck d 5 (Nat.le_of_ble_eq_true rfl) rfl) (fun s1 k hx => ?_) (fun s1 => ?_)
    · show Sts C Z X W [some (.fz (D.scr script)), some (.fz (dI many)), some (.fz (dI share)), some (.fz (dI s)), some ((oL (zn (dL dI))) s1), some (.fz (dI k)), none, none] _ _ _ _
      refine Sts.chk fun hc1 => ?_
      refine Sts.req fun ys hys => ?_
      refine Sts.asgL (i := 6) (oL (zz dI)) ck d (Ev.lc (x := "_law_j") (f := (zz dI)) (fo := (zz dI)) (pt := (fun j : Int => some true)) (fe := (fun j : Int => (((m_l_cell_at script ((3 : Int) + ((((7 : Int) * k) + ((13 : Int) * j)) % (60 : Int)))).get).bind fun r1 => (((m_l_mixed r1 (((60 : Int) * k) + j)).get).bind fun r2 => some r2)))) (i := 7) ck hys (Nat.le_of_ble_eq_true rfl) (fun _ => trivial) (blk_ok ck hsc (blkOk_by (by decide +kernel))) (fun _ _ _ _ _ => pg_name (i := 7) (by show X.N.Nodup; rw [ck.hN]; exact ck.nd) (by show X.N[7]? = _; rw [ck.hN]; rfl) (Or.inl rfl)) ((Iv.range1 hc1 ck 1 (ha := Ev.fz ck 5)).c)
          (fun X' fam j b hx hb => by
            cases hb
            exact Tts.no)
          (fun X' fam j y hx hp hy => by
            have k' := blk_cok ck fam (vis := [0, 5, 7]) (G' := [("_law_cell_at" : Str), ("_law_mixed" : Str)]) (by decide +kernel)
            obtain ⟨s0, H0, C0, cl0, fp0, rfl⟩ := fam
            obtain ⟨r1, hr1, hy⟩ := Option.bind_eq_some_iff.mp hy
            obtain ⟨r2, hr2, hy⟩ := Option.bind_eq_some_iff.mp hy
            cases hy
            exact Ev.sc (Ev.call k' 1 (cal_ok (h_l_mixed r1 (((60 : Int) * k) + j)) hr2) (Ea.cons (d := dI r1) (Ev.cur_frz (Ev.sc (Ev.call k' 0 (cal_ok (h_l_cell_at script ((3 : Int) + ((((7 : Int) * k) + ((13 : Int) * j)) % (60 : Int)))) hr1) (Ea.cons (d := D.scr script) (Ev.cur_frz (Ev.fz k' 0)) (Ea.cons (d := dI ((3 : Int) + ((((7 : Int) * k) + ((13 : Int) * j)) % (60 : Int)))) (Ev.cur_frz (Ev.add (Ev.int) (Ev.mod (by decide) (Ev.add (Ev.mul (Or.inl ⟨by decide, by decide⟩) (Ev.int) (Ev.fz k' 5)) (Ev.mul (Or.inl ⟨by decide, by decide⟩) (Ev.int) (Ev.fz k' 7))) (Ev.int)))) (Ea.nil)))))) (Ea.cons (d := dI (((60 : Int) * k) + j)) (Ev.cur_frz (Ev.add (Ev.mul (Or.inl ⟨by decide, by decide⟩) (Ev.int) (Ev.fz k' 5)) (Ev.fz k' 7))) (Ea.nil)))))) (Nat.le_of_ble_eq_true rfl) ?_ (hs := sw_cell (by rw [hsc]; rfl))
      intro cells ecells
      show Sts C Z X W [some (.fz (D.scr script)), some (.fz (dI many)), some (.fz (dI share)), some (.fz (dI s)), some ((oL (zn (dL dI))) s1), some (.fz (dI k)), some ((oL (zz dI)) cells), none] _ _ _ _
      refine Sts.chk fun hc2 => ?_
      refine Sts.req fun ys1 hys1 => ?_
      refine Sts.appL (f := (zn (dL dI))) 4 ck (Ev.nrz_new (Ev.lc (x := "_law_j") (f := (zz dI)) (fo := (zz dI)) (pt := (fun j1 : Int => ((atI cells j1).bind fun item => (ifO (0 < s) (some (decide ((item % s) < share))))))) (fe := (fun j1 : Int => some j1)) (i := 7) ck hys1 (Nat.le_of_ble_eq_true rfl) (fun _ => trivial) (blk_ok ck hsc (blkOk_by (by decide +kernel))) (fun _ _ _ _ _ => pg_name (i := 7) (by show X.N.Nodup; rw [ck.hN]; exact ck.nd) (by show X.N[7]? = _; rw [ck.hN]; rfl) (Or.inl rfl)) ((Iv.range1 hc2 ck 1 (ha := Ev.fz ck 5)).c)
          (fun X' fam j1 b hx hb => by
            have k' := blk_cok ck fam (vis := [2, 3, 6, 7]) (G' := []) (by decide +kernel)
            obtain ⟨s0, H0, C0, cl0, fp0, rfl⟩ := fam
            obtain ⟨item, hitem, hb⟩ := Option.bind_eq_some_iff.mp hb
            obtain ⟨hc3, hb⟩ := ifO_some.mp hb
            cases hb
            exact Tts.one (Cb.lt (Ev.mod hc3 (Ev.sc (Ev.ixc (atI_map (f := dI) hitem) (Ev.ow k' 6 ((er_L er_z) _)) (Ev.fz k' 7))) (Ev.fz k' 3)) (Ev.fz k' 2)))
          (fun X' fam j1 y hx hp hy => by
            have k' := blk_cok ck fam (vis := [2, 3, 6, 7]) (G' := []) (by decide +kernel)
            obtain ⟨s0, H0, C0, cl0, fp0, rfl⟩ := fam
            cases hy
            exact Ev.fz k' 7)) ((er_L er_z) ys1) ((fu_L (fu_z (fun _ => Flat.sc))) ys1)) ?_
      intro rows1 erows1
      show Sts C Z X W [some (.fz (D.scr script)), some (.fz (dI many)), some (.fz (dI share)), some (.fz (dI s)), some ((oL (zn (dL dI))) rows1), some (.fz (dI k)), some ((oL (zz dI)) cells), none] _ _ _ _
      exact Sts.nil (.keep (.keep (.keep (.keep (.keep (.drop (.drop (.keep .nil))))))))
    · show Sts C Z X W [some (.fz (D.scr script)), some (.fz (dI many)), some (.fz (dI share)), some (.fz (dI s)), some ((oL (zn (dL dI))) s1), none, none, none] _ _ _ _
      refine Sts.nfreeze 4 ((er_L er_n) _) ((fu_L fu_n) _) rfl ?_
      show Sts C Z X W [some (.fz (D.scr script)), some (.fz (dI many)), some (.fz (dI share)), some (.fz (dI s)), some (.nz ((dL (dL dI)) s1)), none, none, none] _ _ _ _
      exact Sts.ret (Ev.nz ck 4)
abbrev s_l_banded : Stmt := top 26
abbrev N_l_banded : List Str := ["_law_many_here", "_law_cell", "_law_size", "_law_k"]
abbrev G_l_banded : List Str := ["range"]
theorem w_l_banded {C : Cf} {Z : Hp} {X : Cx} {W : Nat → Hp → Prop} (ck : Cok C X N_l_banded (fun i => Nat.blt i 3) G_l_banded) (d : Dok X N_l_banded (fun i => Nat.blt i 3)) (hsc : X.env.scope = defScope s_l_banded) (T : Txt C X.K X.mg) (tk : L2N.Takes X (WXc C W)) (many : Int) (cell : Int) : Sts C Z X W [some (.fz (dI many)), some (.fz (dI cell)), none, none] (defBody s_l_banded) (fun _ : Unit => ([none, none, none, none] : En)) (fun r : (List (List Int)) => RM.nrz ((dL (dL dI)) r)) (b_l_banded many cell) := by
  unfold b_l_banded
  refine Sts.asgL (i := 2) (zz dI) ck d (Ev.mod (by decide) (Ev.fz ck 1) (Ev.int)) (Nat.le_of_ble_eq_true rfl) ?_
  intro size esize
  show Sts C Z X W [some (.fz (dI many)), some (.fz (dI cell)), some (.fz (dI size)), none] _ _ _ _
  refine Sts.ifJ (S' := Int) (fun (s : Int) => [some (.fz (dI many)), some (.fz (dI cell)), some (.fz (dI s)), none]) (Cb.gt (Ev.fz ck 0) (Ev.int)) (fun _ => ?_) (fun _ => ?_) (fun s => ?_)
  · refine Sts.asgL (i := 2) (zz dI) ck d (Ev.mod (by decide) (Ev.fz ck 1) (Ev.int)) (Nat.le_of_ble_eq_true rfl) ?_
    intro size1 esize1
    show Sts C Z X W [some (.fz (dI many)), some (.fz (dI cell)), some (.fz (dI size1)), none] _ _ _ _
    exact Sts.nil (.keep (.keep (.keep (.keep .nil))))
  · exact Sts.nil (.keep (.keep (.keep (.keep .nil))))
  · show Sts C Z X W [some (.fz (dI many)), some (.fz (dI cell)), some (.fz (dI s)), none] _ _ _ _
    refine Sts.chk fun hc => ?_
    refine Sts.req fun ys hys => ?_
    exact Sts.ret (Ev.nrz_new (Ev.lc (x := "_law_k") (f := (zz dI)) (fo := (oL (zz dI))) (pt := (fun k : Int => some true)) (fe := (fun k : Int => (ifO (RgOk (max (0 : Int) (k - s)) k) (some (rangeI (max (0 : Int) (k - s)) k))))) (i := 3) ck hys (Nat.le_of_ble_eq_true rfl) (fun _ => trivial) (blk_ok ck hsc (blkOk_by (by decide +kernel))) (fun _ _ _ _ _ => pg_name (i := 3) (by show X.N.Nodup; rw [ck.hN]; exact ck.nd) (by show X.N[3]? = _; rw [ck.hN]; rfl) (Or.inl rfl)) ((Iv.range1 hc ck 0 (ha := Ev.fz ck 0)).c)
          (fun X' fam k b hx hb => by
            cases hb
            exact Tts.no)
          (fun X' fam k y hx hp hy => by
            have k' := blk_cok ck fam (vis := [2, 3]) (G' := [("max" : Str), ("list" : Str), ("range" : Str)]) (by decide +kernel)
            obtain ⟨s0, H0, C0, cl0, fp0, rfl⟩ := fam
            obtain ⟨hc1, hy⟩ := ifO_some.mp hy
            cases hy
            exact Ev.lrange2 hc1 k' 1 2 (ha := Ev.max2 k' 0 (ha := Ev.int) (hb := Ev.sub (Ev.fz k' 3) (Ev.fz k' 2))) (hb := Ev.fz k' 3))) ((er_L (er_L er_z)) ys) ((fu_L (fu_L (fu_z (fun _ => Flat.sc)))) ys))
abbrev s_l_ringed : Stmt := top 27
abbrev N_l_ringed : List Str := ["_law_many_here", "_law_cell", "_law_size", "_law_step", "_law_k", "_law_rows_here"]
abbrev G_l_ringed : List Str := ["range"]
theorem w_l_ringed {C : Cf} {Z : Hp} {X : Cx} {W : Nat → Hp → Prop} (ck : Cok C X N_l_ringed (fun i => Nat.blt i 6) G_l_ringed) (d : Dok X N_l_ringed (fun i => Nat.blt i 6)) (hsc : X.env.scope = defScope s_l_ringed) (T : Txt C X.K X.mg) (tk : L2N.Takes X (WXc C W)) (many : Int) (cell : Int) : Sts C Z X W [some (.fz (dI many)), some (.fz (dI cell)), none, none, none, none] (defBody s_l_ringed) (fun _ : Unit => ([none, none, none, none, none, none] : En)) (fun r : (List (List Int)) => RM.nrz ((dL (dL dI)) r)) (b_l_ringed many cell) := by
  unfold b_l_ringed
  refine Sts.asgL (i := 2) (zz dI) ck d (Ev.add (Ev.int) (Ev.mod (by decide) (Ev.fz ck 1) (Ev.int))) (Nat.le_of_ble_eq_true rfl) ?_
  intro size esize
  show Sts C Z X W [some (.fz (dI many)), some (.fz (dI cell)), some (.fz (dI size)), none, none, none] _ _ _ _
  refine Sts.asgL (i := 3) (zz dI) ck d (Ev.add (Ev.fz ck 2) (Ev.mod (by decide) (Ev.fdiv ⟨by decide, by decide⟩ (Ev.fz ck 1) (Ev.int)) (Ev.int))) (Nat.le_of_ble_eq_true rfl) ?_
  intro step estep
  show Sts C Z X W [some (.fz (dI many)), some (.fz (dI cell)), some (.fz (dI size)), some (.fz (dI step)), none, none] _ _ _ _
  refine Sts.chk fun hc => ?_
  refine Sts.req fun ys hys => ?_
  refine Sts.asgCL (x := "_law_k") (f := (zz dI)) (fo := (oL (zz dI))) (pt := (fun k : Int => some true)) (fe := (fun k : Int => (ifO (RgOk (max (0 : Int) (k - (1 : Int))) k) (some (rangeI (max (0 : Int) (k - (1 : Int))) k))))) (i := 4) (j := 5) ck d hys (Nat.le_of_ble_eq_true rfl) (Nat.le_of_ble_eq_true rfl) (fun _ => trivial) (blk_ok ck hsc (blkOk_by (by decide +kernel))) (fun _ _ _ _ _ => pg_name (i := 4) (by show X.N.Nodup; rw [ck.hN]; exact ck.nd) (by show X.N[4]? = _; rw [ck.hN]; rfl) (Or.inl rfl)) (by rw [hsc]; rfl) (sw_true (by rw [hsc]; rfl) (by rw [hsc]; rfl) rfl (by decide +kernel)) ((Iv.range1 hc ck 0 (ha := Ev.fz ck 0)).c)
          (fun X' fam k b hx hb => by
            cases hb
            exact Tts.no)
          (fun X' fam k y hx hp hy => by
            have k' := blk_cok ck fam (vis := [4]) (G' := [("max" : Str), ("list" : Str), ("range" : Str)]) (by decide +kernel)
            obtain ⟨s0, H0, C0, cl0, fp0, rfl⟩ := fam
            obtain ⟨hc1, hy⟩ := ifO_some.mp hy
            cases hy
            exact Ev.lrange2 hc1 k' 1 2 (ha := Ev.max2 k' 0 (ha := Ev.int) (hb := Ev.sub (Ev.fz k' 4) (Ev.int))) (hb := Ev.fz k' 4)) ?_
  intro rows erows
  show Sts C Z X W [some (.fz (dI many)), some (.fz (dI cell)), some (.fz (dI size)), some (.fz (dI step)), none, some ((oL (oL (zz dI))) rows)] _ _ _ _
  refine Sts.chk fun hc2 => ?_
  refine Sts.for_ (ss := [some (.fz (dI many)), some (.fz (dI cell)), some (.fz (dI size)), some (.fz (dI step)), none, some ((oL (oL (zz dI))) rows)]) (S' := (List (List Int))) (s0 := (rows)) (f := (zz dI)) (xs := (rangeI 0 many)) (fun (s : (List (List Int))) => [some (.fz (dI many)), some (.fz (dI cell)), some (.fz (dI size)), some (.fz (dI step)), none, some ((oL (oL (zz dI))) s)]) (fun (s : (List (List Int))) (k1 : Int) => [some (.fz (dI many)), some (.fz (dI cell)), some (.fz (dI size)), some (.fz (dI step)), some (.fz (dI k1)), some ((oL (oL (zz dI))) s)]) ck d (fun _ => trivial) (Iv.range1 hc2 ck 0 (ha := Ev.fz ck 0)) (.keep (.keep (.keep (.keep (.keep (.keep .nil)))))) (fun s k1 => Gt.name ck d 4 (Nat.le_of_ble_eq_true rfl) rfl) (fun s k1 hx => ?_) (fun s => ?_)
  · show Sts C Z X W [some (.fz (dI many)), some (.fz (dI cell)), some (.fz (dI size)), some (.fz (dI step)), some (.fz (dI k1)), some ((oL (oL (zz dI))) s)] _ _ _ _
    refine Sts.chk fun hc3 => ?_
    refine Sts.ifJ (S' := (List (List Int))) (fun (s1 : (List (List Int))) => [some (.fz (dI many)), some (.fz (dI cell)), some (.fz (dI size)), some (.fz (dI step)), some (.fz (dI k1)), some ((oL (oL (zz dI))) s1)]) (Cb.eqI (Ev.mod hc3 (Ev.fz ck 4) (Ev.fz ck 3)) (Ev.sub (Ev.fz ck 2) (Ev.int))) (fun _ => ?_) (fun _ => ?_) (fun s1 => ?_)
    · refine Sts.setL (f := (oL (zz dI))) 5 ck (Ev.displ (f := (zz dI)) (xs := [((k1 + (1 : Int)) - size), (k1 - (1 : Int))]) (show (2 : Nat) ≤ sizeLine by decide) (Ei.cons (o := (zz dI) ((k1 + (1 : Int)) - size)) (Ev.sub (Ev.add (Ev.fz ck 4) (Ev.int)) (Ev.fz ck 2)) (Ei.cons (o := (zz dI) (k1 - (1 : Int))) (Ev.sub (Ev.fz ck 4) (Ev.int)) (Ei.nil)))) (Ev.fz ck 4) ?_
      intro rows1 hrows1
      show Sts C Z X W [some (.fz (dI many)), some (.fz (dI cell)), some (.fz (dI size)), some (.fz (dI step)), some (.fz (dI k1)), some ((oL (oL (zz dI))) rows1)] _ _ _ _
      exact Sts.nil (.keep (.keep (.keep (.keep (.keep (.keep .nil))))))
    · exact Sts.nil (.keep (.keep (.keep (.keep (.keep (.keep .nil))))))
    · show Sts C Z X W [some (.fz (dI many)), some (.fz (dI cell)), some (.fz (dI size)), some (.fz (dI step)), some (.fz (dI k1)), some ((oL (oL (zz dI))) s1)] _ _ _ _
      exact Sts.nil (.keep (.keep (.keep (.keep (.drop (.keep .nil))))))
  · show Sts C Z X W [some (.fz (dI many)), some (.fz (dI cell)), some (.fz (dI size)), some (.fz (dI step)), none, some ((oL (oL (zz dI))) s)] _ _ _ _
    refine Sts.nfreeze 5 ((er_L (er_L er_z)) _) ((fu_L (fu_L (fu_z (fun _ => Flat.sc)))) _) rfl ?_
    show Sts C Z X W [some (.fz (dI many)), some (.fz (dI cell)), some (.fz (dI size)), some (.fz (dI step)), none, some (.nz ((dL (dL dI)) s))] _ _ _ _
    exact Sts.ret (Ev.nz ck 5)
abbrev s_l_hubbed : Stmt := top 28
abbrev N_l_hubbed : List Str := ["_law_many_here", "_law_cell", "_law_size", "_law_k"]
abbrev G_l_hubbed : List Str := ["range"]
theorem w_l_hubbed {C : Cf} {Z : Hp} {X : Cx} {W : Nat → Hp → Prop} (ck : Cok C X N_l_hubbed (fun i => Nat.blt i 3) G_l_hubbed) (d : Dok X N_l_hubbed (fun i => Nat.blt i 3)) (hsc : X.env.scope = defScope s_l_hubbed) (T : Txt C X.K X.mg) (tk : L2N.Takes X (WXc C W)) (many : Int) (cell : Int) : Sts C Z X W [some (.fz (dI many)), some (.fz (dI cell)), none, none] (defBody s_l_hubbed) (fun _ : Unit => ([none, none, none, none] : En)) (fun r : (List (List Int)) => RM.nrz ((dL (dL dI)) r)) (b_l_hubbed many cell) := by
  unfold b_l_hubbed
  refine Sts.req fun item hitem => ?_
  refine Sts.asgL (i := 2) (zz dI) ck d (Ev.sc (Ev.ixc (atI_map (f := dI) hitem) (Ev.cur_new (Ev.displ (f := (zz dI)) (xs := [(1 : Int), (2 : Int), (3 : Int), ((cell / (4 : Int)) % (30 : Int))]) (show (4 : Nat) ≤ sizeLine by decide) (Ei.cons (o := (zz dI) (1 : Int)) (Ev.int) (Ei.cons (o := (zz dI) (2 : Int)) (Ev.int) (Ei.cons (o := (zz dI) (3 : Int)) (Ev.int) (Ei.cons (o := (zz dI) ((cell / (4 : Int)) % (30 : Int))) (Ev.mod (by decide) (Ev.fdiv ⟨by decide, by decide⟩ (Ev.fz ck 1) (Ev.int)) (Ev.int)) (Ei.nil)))))) ((er_L er_z) [(1 : Int), (2 : Int), (3 : Int), ((cell / (4 : Int)) % (30 : Int))])) (Ev.mod (by decide) (Ev.fz ck 1) (Ev.int)))) (Nat.le_of_ble_eq_true rfl) ?_
  intro size esize
  show Sts C Z X W [some (.fz (dI many)), some (.fz (dI cell)), some (.fz (dI size)), none] _ _ _ _
  refine Sts.ifJ (S' := Int) (fun (s : Int) => [some (.fz (dI many)), some (.fz (dI cell)), some (.fz (dI s)), none]) (Cb.gt (Ev.fz ck 0) (Ev.int)) (fun _ => ?_) (fun _ => ?_) (fun s => ?_)
  · refine Sts.asgL (i := 2) (zz dI) ck d (Ev.mod (by decide) (Ev.fz ck 2) (Ev.int)) (Nat.le_of_ble_eq_true rfl) ?_
    intro size1 esize1
    show Sts C Z X W [some (.fz (dI many)), some (.fz (dI cell)), some (.fz (dI size1)), none] _ _ _ _
    exact Sts.nil (.keep (.keep (.keep (.keep .nil))))
  · exact Sts.nil (.keep (.keep (.keep (.keep .nil))))
  · show Sts C Z X W [some (.fz (dI many)), some (.fz (dI cell)), some (.fz (dI s)), none] _ _ _ _
    refine Sts.chk fun hc => ?_
    refine Sts.req fun ys hys => ?_
    exact Sts.ret (Ev.nrz_new (Ev.lc (x := "_law_k") (f := (zz dI)) (fo := (oL (zz dI))) (pt := (fun k : Int => some true)) (fe := (fun k : Int => (ifO (RgOk 0 (min k s)) (some (rangeI 0 (min k s)))))) (i := 3) ck hys (Nat.le_of_ble_eq_true rfl) (fun _ => trivial) (blk_ok ck hsc (blkOk_by (by decide +kernel))) (fun _ _ _ _ _ => pg_name (i := 3) (by show X.N.Nodup; rw [ck.hN]; exact ck.nd) (by show X.N[3]? = _; rw [ck.hN]; rfl) (Or.inl rfl)) ((Iv.range1 hc ck 0 (ha := Ev.fz ck 0)).c)
          (fun X' fam k b hx hb => by
            cases hb
            exact Tts.no)
          (fun X' fam k y hx hp hy => by
            have k' := blk_cok ck fam (vis := [2, 3]) (G' := [("min" : Str), ("list" : Str), ("range" : Str)]) (by decide +kernel)
            obtain ⟨s0, H0, C0, cl0, fp0, rfl⟩ := fam
            obtain ⟨hc1, hy⟩ := ifO_some.mp hy
            cases hy
            exact Ev.lrange1 hc1 k' 1 2 (ha := Ev.min2 k' 0 (ha := Ev.fz k' 3) (hb := Ev.fz k' 2)))) ((er_L (er_L er_z)) ys) ((fu_L (fu_L (fu_z (fun _ => Flat.sc)))) ys))
abbrev s_l_rows : Stmt := top 29
abbrev N_l_rows : List Str := ["_law_script", "_law_many_here", "_law_kind", "_law_cell"]
abbrev G_l_rows : List Str := ["_law_cell_at", "_law_earlier", "_law_any_rows", "_law_banded", "_law_ringed", "_law_hubbed"]
theorem w_l_rows {C : Cf} {Z : Hp} {X : Cx} {W : Nat → Hp → Prop} (ck : Cok C X N_l_rows (fun i => Nat.blt i 4) G_l_rows) (d : Dok X N_l_rows (fun i => Nat.blt i 4)) (hsc : X.env.scope = defScope s_l_rows) (T : Txt C X.K X.mg) (tk : L2N.Takes X (WXc C W))
    (h_l_cell_at : ∀ (a0 : List Int) (a1 : Int), Cal X.prog X.w X.K X.mg X.base X.A C "_law_cell_at" [D.scr a0, dI a1] ((m_l_cell_at a0 a1).map fun r => RM.frz (dI r)))
    (h_l_earlier : ∀ (a0 : List Int) (a1 : Int) (a2 : Int), Cal X.prog X.w X.K X.mg X.base X.A C "_law_earlier" [D.scr a0, dI a1, dI a2] ((m_l_earlier a0 a1 a2).map fun r => RM.nrz ((dL (dL dI)) r)))
    (h_l_any_rows : ∀ (a0 : List Int) (a1 : Int), Cal X.prog X.w X.K X.mg X.base X.A C "_law_any_rows" [D.scr a0, dI a1] ((m_l_any_rows a0 a1).map fun r => RM.nrz ((dL (dL dI)) r)))
    (h_l_banded : ∀ (a0 : Int) (a1 : Int), Cal X.prog X.w X.K X.mg X.base X.A C "_law_banded" [dI a0, dI a1] ((m_l_banded a0 a1).map fun r => RM.nrz ((dL (dL dI)) r)))
    (h_l_ringed : ∀ (a0 : Int) (a1 : Int), Cal X.prog X.w X.K X.mg X.base X.A C "_law_ringed" [dI a0, dI a1] ((m_l_ringed a0 a1).map fun r => RM.nrz ((dL (dL dI)) r)))
    (h_l_hubbed : ∀ (a0 : Int) (a1 : Int), Cal X.prog X.w X.K X.mg X.base X.A C "_law_hubbed" [dI a0, dI a1] ((m_l_hubbed a0 a1).map fun r => RM.nrz ((dL (dL dI)) r))) (script : List Int) (many : Int) : Sts C Z X W [some (.fz (D.scr script)), some (.fz (dI many)), none, none] (defBody s_l_rows) (fun _ : Unit => ([none, none, none, none] : En)) (fun r : (List (List Int)) => RM.nrz ((dL (dL dI)) r)) (b_l_rows script many) := by
  unfold b_l_rows
  refine Sts.req fun r hr => ?_
  refine Sts.asgL (i := 2) (zz dI) ck d (Ev.mod (by decide) (Ev.sc (Ev.call ck 0 (cal_ok (h_l_cell_at script (2 : Int)) hr) (Ea.cons (d := D.scr script) (Ev.cur_frz (Ev.fz ck 0)) (Ea.cons (d := dI (2 : Int)) (Ev.cur_frz (Ev.int)) (Ea.nil))))) (Ev.int)) (Nat.le_of_ble_eq_true rfl) ?_
  intro kind ekind
  show Sts C Z X W [some (.fz (D.scr script)), some (.fz (dI many)), some (.fz (dI kind)), none] _ _ _ _
  refine Sts.req fun r1 hr1 => ?_
  refine Sts.asgL (i := 3) (zz dI) ck d (Ev.fdiv ⟨by decide, by decide⟩ (Ev.sc (Ev.call ck 0 (cal_ok (h_l_cell_at script (2 : Int)) hr1) (Ea.cons (d := D.scr script) (Ev.cur_frz (Ev.fz ck 0)) (Ea.cons (d := dI (2 : Int)) (Ev.cur_frz (Ev.int)) (Ea.nil))))) (Ev.int)) (Nat.le_of_ble_eq_true rfl) ?_
  intro cell ecell
  show Sts C Z X W [some (.fz (D.scr script)), some (.fz (dI many)), some (.fz (dI kind)), some (.fz (dI cell))] _ _ _ _
  refine Sts.ifX ((Cw.and_ (Cb.eqI (Ev.fz ck 2) (Ev.int)) (fun _ => Cw.one (Cb.gt (Ev.fz ck 1) (Ev.int)))).cb) (Fl.ex_chk (Fl.ex_req fun _ => Fl.ex_rt)) (fun _ => ?_) (fun _ => ?_)
  · refine Sts.chk fun hc => ?_
    refine Sts.req fun r2 hr2 => ?_
    exact Sts.ret (Ev.call ck 1 (cal_ok (h_l_earlier script many ((4 : Int) + (cell % (many - (3 : Int))))) hr2) (Ea.cons (d := D.scr script) (Ev.cur_frz (Ev.fz ck 0)) (Ea.cons (d := dI many) (Ev.cur_frz (Ev.fz ck 1)) (Ea.cons (d := dI ((4 : Int) + (cell % (many - (3 : Int))))) (Ev.cur_frz (Ev.add (Ev.int) (Ev.mod hc (Ev.fz ck 3) (Ev.sub (Ev.fz ck 1) (Ev.int))))) (Ea.nil)))))
  · refine Sts.ifX ((Cw.and_ (Cb.ltlt (Ev.int) (Ev.fz ck 2) (Ev.int)) (fun _ => Cw.one (Cb.lt (Ev.fz ck 1) (Ev.int)))).cb) (Fl.ex_req fun _ => Fl.ex_rt) (fun _ => ?_) (fun _ => ?_)
    · refine Sts.req fun r3 hr3 => ?_
      exact Sts.ret (Ev.call ck 2 (cal_ok (h_l_any_rows script many) hr3) (Ea.cons (d := D.scr script) (Ev.cur_frz (Ev.fz ck 0)) (Ea.cons (d := dI many) (Ev.cur_frz (Ev.fz ck 1)) (Ea.nil))))
    · refine Sts.ifX (Cb.eqI (Ev.fz ck 2) (Ev.int)) (Fl.ex_req fun _ => Fl.ex_rt) (fun _ => ?_) (fun _ => ?_)
      · refine Sts.req fun r4 hr4 => ?_
        exact Sts.ret (Ev.call ck 3 (cal_ok (h_l_banded many cell) hr4) (Ea.cons (d := dI many) (Ev.cur_frz (Ev.fz ck 1)) (Ea.cons (d := dI cell) (Ev.cur_frz (Ev.fz ck 3)) (Ea.nil))))
      · refine Sts.ifX (Cb.eqI (Ev.fz ck 2) (Ev.int)) (Fl.ex_req fun _ => Fl.ex_rt) (fun _ => ?_) (fun _ => ?_)
        · refine Sts.req fun r5 hr5 => ?_
          exact Sts.ret (Ev.call ck 4 (cal_ok (h_l_ringed many cell) hr5) (Ea.cons (d := dI many) (Ev.cur_frz (Ev.fz ck 1)) (Ea.cons (d := dI cell) (Ev.cur_frz (Ev.fz ck 3)) (Ea.nil))))
        · refine Sts.ifX (Cb.eqI (Ev.fz ck 2) (Ev.int)) (Fl.ex_req fun _ => Fl.ex_rt) (fun _ => ?_) (fun _ => ?_)
          · refine Sts.req fun r6 hr6 => ?_
            exact Sts.ret (Ev.call ck 5 (cal_ok (h_l_hubbed many cell) hr6) (Ea.cons (d := dI many) (Ev.cur_frz (Ev.fz ck 1)) (Ea.cons (d := dI cell) (Ev.cur_frz (Ev.fz ck 3)) (Ea.nil))))
          · refine Sts.req fun r7 hr7 => ?_
            exact Sts.ret (Ev.call ck 1 (cal_ok (h_l_earlier script many (0 : Int)) hr7) (Ea.cons (d := D.scr script) (Ev.cur_frz (Ev.fz ck 0)) (Ea.cons (d := dI many) (Ev.cur_frz (Ev.fz ck 1)) (Ea.cons (d := dI (0 : Int)) (Ev.cur_frz (Ev.int)) (Ea.nil)))))
abbrev s_p_Web_need : Stmt := inClass (top 9) 1
abbrev N_p_Web_need : List Str := ["self", "point"]
abbrev G_p_Web_need : List Str := ["NoPoint"]
theorem w_p_Web_need {C : Cf} {Z : Hp} {X : Cx} {W : Nat → Hp → Prop} (ck : Cok C X N_p_Web_need (fun i => Nat.blt i 2) G_p_Web_need) (d : Dok X N_p_Web_need (fun i => Nat.blt i 2)) (hsc : X.env.scope = defScope s_p_Web_need) (T : Txt C X.K X.mg) (tk : L2N.Takes X (WXc C W)) (self : Web) (point : Int) : Sts C Z X W [some (.fz (dW self)), some (.fz (dI point))] (defBody s_p_Web_need) (fun _ : Unit => ([none, none] : En)) (fun r : Int => RM.frz (dI r)) (b_p_Web_need self point) := by
  unfold b_p_Web_need
  refine Sts.ifX (Cb.not_ (Cb.lelt (Ev.int) (Ev.fz ck 1) (Ev.fldz T.cW 0 T.f_W_many rfl (Ev.fz ck 0)))) Fl.ex_exc (fun _ => ?_) (fun _ => ?_)
  · exact Sts.raise tk ck 0 T.x_NoPoint
  · exact Sts.ret (Ev.fz ck 1)
abbrev s_p_Web_beside : Stmt := inClass (top 9) 2
abbrev N_p_Web_beside : List Str := ["self", "point"]
abbrev G_p_Web_beside : List Str := ["list"]
theorem w_p_Web_beside {C : Cf} {Z : Hp} {X : Cx} {W : Nat → Hp → Prop} (ck : Cok C X N_p_Web_beside (fun i => Nat.blt i 2) G_p_Web_beside) (d : Dok X N_p_Web_beside (fun i => Nat.blt i 2)) (hsc : X.env.scope = defScope s_p_Web_beside) (T : Txt C X.K X.mg) (tk : L2N.Takes X (WXc C W))
    (h_p_Web_need : ∀ (a0 : Web) (a1 : Int), Met X.prog X.w X.K X.mg X.base X.A C 0 "need" [dW a0, dI a1] ((m_p_Web_need a0 a1).map fun r => RM.frz (dI r))) (self : Web) (point : Int) : Sts C Z X W [some (.fz (dW self)), some (.fz (dI point))] (defBody s_p_Web_beside) (fun _ : Unit => ([none, none] : En)) (fun r : (List Int) => RM.new ((oL (zz dI)) r)) (b_p_Web_beside self point) := by
  unfold b_p_Web_beside
  refine Sts.runS (fun r hr => ?_) (fun cc hcc => Sts.rzRet (Rz.list1 ck 0 (Rz.ix (Ev.cur_frz (Ev.fldz T.cW 1 T.f_W_rows rfl (Ev.fz ck 0))) (Rz.meth tk ck (h_p_Web_need self point) hcc T.n_W_need (Ev.cur_frz (Ev.fz ck 0)) (Ea.cons (d := dI point) (Ev.cur_frz (Ev.fz ck 1)) (Ea.nil))))))
  refine Sts.req fun item hitem => ?_
  exact Sts.ret (Ev.listL ck 0 (ha := Ev.itm_frz (Ev.ixz (atI_map (f := (dL dI)) hitem) (Ev.fldz T.cW 1 T.f_W_rows rfl (Ev.fz ck 0)) (Ev.sc (Ev.meth ck (met_ok (h_p_Web_need self point) (get_of hr)) T.n_W_need (Ev.cur_frz (Ev.fz ck 0)) (Ea.cons (d := dI point) (Ev.cur_frz (Ev.fz ck 1)) (Ea.nil)))))))
abbrev s_l_whole : Stmt := top 19
abbrev N_l_whole : List Str := ["_law_found"]
abbrev G_l_whole : List Str := ["isinstance", "int", "bool"]
theorem w_l_whole {C : Cf} {Z : Hp} {X : Cx} {W : Nat → Hp → Prop} (ck : Cok C X N_l_whole (fun i => Nat.blt i 1) G_l_whole) (d : Dok X N_l_whole (fun i => Nat.blt i 1)) (hsc : X.env.scope = defScope s_l_whole) (T : Txt C X.K X.mg) (tk : L2N.Takes X (WXc C W)) (found : Int) : Sts C Z X W [some (.fz (dI found))] (defBody s_l_whole) (fun _ : Unit => ([none] : En)) (fun r : Bool => RM.frz (dB r)) (b_l_whole found) := by
  unfold b_l_whole
  exact Sts.ret (((Cw.and_ (Cb.val (Ev.isi (T := "int") (U := "int") (r := true) ck 0 1 rfl (by decide) (by decide +kernel) ck.bt.int (by decide +kernel) (Ev.cur_frz (Ev.fz ck 0)))) (fun _ => Cw.one (Cb.not_ (Cb.val (Ev.isi (T := "int") (U := "bool") (r := false) ck 0 2 rfl (by decide) (by decide +kernel) ck.bt.bool (by decide +kernel) (Ev.cur_frz (Ev.fz ck 0))))))).cb).ev)
abbrev s_l_pairs : Stmt := top 21
abbrev N_l_pairs : List Str := ["_law_found", "_law_due", "_law_k"]
abbrev G_l_pairs : List Str := ["isinstance", "list", "len", "range", "tuple", "_law_whole"]
theorem w_l_pairs {C : Cf} {Z : Hp} {X : Cx} {W : Nat → Hp → Prop} (ck : Cok C X N_l_pairs (fun i => Nat.blt i 3) G_l_pairs) (d : Dok X N_l_pairs (fun i => Nat.blt i 3)) (hsc : X.env.scope = defScope s_l_pairs) (T : Txt C X.K X.mg) (tk : L2N.Takes X (WXc C W))
    (h_l_whole : ∀ (a0 : Int), Cal X.prog X.w X.K X.mg X.base X.A C "_law_whole" [dI a0] ((m_l_whole a0).map fun r => RM.frz (dB r))) (found : (List (Int × Int))) (due : (List (Int × Int))) : Sts C Z X W [some (.fz ((dL (dP dI dI)) found)), some (.fz ((dL (dP dI dI)) due)), none] (defBody s_l_pairs) (fun _ : Unit => ([none, none, none] : En)) (fun r : Bool => RM.frz (dB r)) (b_l_pairs found due) := by
  unfold b_l_pairs
  refine Sts.ifX ((Cw.or_ (Cb.not_ (Cb.val (Ev.isi (T := "list") (U := "list") (r := true) ck 0 1 rfl (by decide) (by decide +kernel) ck.bt.list (by decide +kernel) (Ev.cur_frz (Ev.fz ck 0))))) (fun _ => Cw.one (Cb.neI (Ev.lenL ck 2 (ha := Ev.cur_frz (Ev.fz ck 0))) (Ev.lenL ck 2 (ha := Ev.cur_frz (Ev.fz ck 1)))))).cb) Fl.ex_rt (fun _ => ?_) (fun _ => ?_)
  · exact Sts.ret (Ev.bl)
  · refine Sts.chk fun hc => ?_
    refine Sts.for_ (ss := [some (.fz ((dL (dP dI dI)) found)), some (.fz ((dL (dP dI dI)) due)), none]) (S' := Unit) (s0 := ()) (f := (zz dI)) (xs := (rangeI 0 ((due).length : Int))) (fun (s : Unit) => [some (.fz ((dL (dP dI dI)) found)), some (.fz ((dL (dP dI dI)) due)), none]) (fun (s : Unit) (k : Int) => [some (.fz ((dL (dP dI dI)) found)), some (.fz ((dL (dP dI dI)) due)), some (.fz (dI k))]) ck d (fun _ => trivial) (Iv.range1 hc ck 3 (ha := Ev.lenL ck 2 (ha := Ev.cur_frz (Ev.fz ck 1)))) (.keep (.keep (.keep .nil))) (fun s k => Gt.name ck d 2 (Nat.le_of_ble_eq_true rfl) rfl) (fun s k hx => ?_) (fun s => ?_)
    · show Sts C Z X W [some (.fz ((dL (dP dI dI)) found)), some (.fz ((dL (dP dI dI)) due)), some (.fz (dI k))] _ _ _ _
      refine Sts.req fun item hitem => ?_
      refine Sts.req fun t ht => ?_
      refine Sts.ifX ((Cw.orO (Cb.not_ (Cb.val (Ev.isi (T := "tuple") (U := "tuple") (r := true) ck 0 4 rfl (by decide) (by decide +kernel) ck.bt.tuple (by decide +kernel) (Ev.cur_frz (Ev.ixz (atI_map (f := (dP dI dI)) hitem) (Ev.fz ck 0) (Ev.fz ck 2)))))) (fun _ q hq => by
          obtain ⟨item1, hitem1, hq⟩ := Option.bind_eq_some_iff.mp hq
          cases hq
          exact Cw.one (Cb.neI (Ev.lent (ss := [some (.fz ((dL (dP dI dI)) found)), some (.fz ((dL (dP dI dI)) due)), some (.fz (dI k))]) (ds := [dI item1.1, dI item1.2]) ck 2 (ha := Ev.cur_frz (Ev.ixz (atI_map (f := (dP dI dI)) hitem1) (Ev.fz ck 0) (Ev.fz ck 2)))) (Ev.int))) ht).cb) Fl.ex_rt (fun _ => ?_) (fun _ => ?_)
      · exact Sts.ret (Ev.bl)
      · refine Sts.req fun item2 hitem2 => ?_
        refine Sts.req fun r hr => ?_
        refine Sts.req fun t2 ht2 => ?_
        refine Sts.ifX ((Cw.orO (Cb.not_ (Cb.val (Ev.sc (Ev.call ck 5 (cal_ok (h_l_whole item2.1) hr) (Ea.cons (d := dI item2.1) (Ev.cur_frz (Ev.ixtz (d := dI item2.1) rfl (Ev.ixz (atI_map (f := (dP dI dI)) hitem2) (Ev.fz ck 0) (Ev.fz ck 2)) Ev.int)) (Ea.nil)))))) (fun _ q hq => by
          obtain ⟨item3, hitem3, hq⟩ := Option.bind_eq_some_iff.mp hq
          obtain ⟨r1, hr1, hq⟩ := Option.bind_eq_some_iff.mp hq
          obtain ⟨t1, ht1, hq⟩ := Option.bind_eq_some_iff.mp hq
          cases hq
          exact Cw.orO (Cb.not_ (Cb.val (Ev.sc (Ev.call ck 5 (cal_ok (h_l_whole item3.2) hr1) (Ea.cons (d := dI item3.2) (Ev.cur_frz (Ev.ixtz (d := dI item3.2) rfl (Ev.ixz (atI_map (f := (dP dI dI)) hitem3) (Ev.fz ck 0) (Ev.fz ck 2)) Ev.int)) (Ea.nil)))))) (fun _ q hq => by
            obtain ⟨item4, hitem4, hq⟩ := Option.bind_eq_some_iff.mp hq
            obtain ⟨item5, hitem5, hq⟩ := Option.bind_eq_some_iff.mp hq
            cases hq
            exact Cw.one (Cb.neD (x := item4) (y := item5) ck (eqC_P eqC_I eqC_I) (by decide) (Ev.cur_frz (Ev.ixz (atI_map (f := (dP dI dI)) hitem4) (Ev.fz ck 0) (Ev.fz ck 2))) (Ev.cur_frz (Ev.ixz (atI_map (f := (dP dI dI)) hitem5) (Ev.fz ck 1) (Ev.fz ck 2))))) ht1) ht2).cb) Fl.ex_rt (fun _ => ?_) (fun _ => ?_)
        · exact Sts.ret (Ev.bl)
        · exact Sts.nil (.keep (.keep (.drop .nil)))
    · show Sts C Z X W [some (.fz ((dL (dP dI dI)) found)), some (.fz ((dL (dP dI dI)) due)), none] _ _ _ _
      exact Sts.ret (Ev.bl)
abbrev s_l_refused : Stmt := top 38
abbrev N_l_refused : List Str := ["_law_text", "e"]
abbrev G_l_refused : List Str := ["read", "isinstance", "BadWeb", "NoPoint", "BadOrder", "HasGap", "BadText"]
theorem w_l_refused {C : Cf} {Z : Hp} {X : Cx} {W : Nat → Hp → Prop} (ck : Cok C X N_l_refused (fun i => Nat.blt i 2) G_l_refused) (d : Dok X N_l_refused (fun i => Nat.blt i 2)) (hsc : X.env.scope = defScope s_l_refused) (T : Txt C X.K X.mg) (tk : L2N.Takes X (WXc C W))
    (h_p_read : ∀ (a0 : Str), CalX X.prog X.w X.K X.mg X.base X.A C "read" [dS a0] ((m_p_read a0).map fun r => RM.nrz (dW r)))
    (hst : X.stack = X.env :: X.outer)
    (hfr : X.env.frame = some X.env.locals) (text : Str) : Sts C Z X W [some (.fz (dS text)), none] (defBody s_l_refused) (fun _ : Unit => ([none, none] : En)) (fun r : Bool => RM.frz (dB r)) (b_l_refused text) := by
  unfold b_l_refused
  refine Sts.tryC (hs := fun (cx : Nat) => [(3, (if ((isX cx 1) || (isX cx 2)) = true then
Fl.rt false
else
Fl.rt ((!(isX cx 4)) && (!(isX cx 5)))))]) ck hst hfr T.xc (fun WW pn xe tk2 own => Tb.expr (EvT.callX tk2 (ck.tr pn xe) 0 (h_p_read text) (Ea.cons (d := dS text) (Ev.cur_frz (Ev.fz (ck.tr pn xe) 0)) (Ea.nil)))) (fun cx hcx => (HSC.as_ (i := 1) ⟨(ck.gl 6 _ rfl).1, (ck.gl 6 _ rfl).2.1, .inl T.g_BadText⟩ (by decide) (by repeat (first | exact Fl.rt_rt | exact Fl.rt_bad | apply Fl.rt_ite | (refine Fl.rt_req fun _ => ?_) | refine Fl.rt_chk ?_ | (refine Fl.rt_lt fun _ => ?_))) (by rw [ck.hN]; rfl) (by unfold Env.kindOf; rw [hsc]; rfl) (Nat.le_of_ble_eq_true rfl) (fun ea oe pn hz hf => by
            refine Sts.ifX ((Cw.or_ (Cb.val (Ev.isEc (t := 1) ck T.xc hcx (by decide) hz hf 1 1 2 T.g_BadWeb)) (fun _ => Cw.one (Cb.val (Ev.isEc (t := 2) ck T.xc hcx (by decide) hz hf 1 1 3 T.g_NoPoint)))).cb) Fl.ex_rt (fun _ => ?_) (fun _ => ?_)
            · exact Sts.ret (Ev.bl)
            · exact Sts.ret (((Cw.and_ (Cb.not_ (Cb.val (Ev.isEc (t := 4) ck T.xc hcx (by decide) hz hf 1 1 4 T.g_BadOrder))) (fun _ => Cw.one (Cb.not_ (Cb.val (Ev.isEc (t := 5) ck T.xc hcx (by decide) hz hf 1 1 5 T.g_HasGap))))).cb).ev)) HSC.nil)) (fun hok => ?_)
  exact Sts.ret (Ev.bl)
abbrev s_l_by_base : Stmt := top 39
abbrev N_l_by_base : List Str := ["_law_text", "e"]
abbrev G_l_by_base : List Str := ["read", "isinstance", "ValueError", "WebError", "BadText"]
theorem w_l_by_base {C : Cf} {Z : Hp} {X : Cx} {W : Nat → Hp → Prop} (ck : Cok C X N_l_by_base (fun i => Nat.blt i 2) G_l_by_base) (d : Dok X N_l_by_base (fun i => Nat.blt i 2)) (hsc : X.env.scope = defScope s_l_by_base) (T : Txt C X.K X.mg) (tk : L2N.Takes X (WXc C W))
    (h_p_read : ∀ (a0 : Str), CalX X.prog X.w X.K X.mg X.base X.A C "read" [dS a0] ((m_p_read a0).map fun r => RM.nrz (dW r)))
    (hst : X.stack = X.env :: X.outer)
    (hfr : X.env.frame = some X.env.locals) (text : Str) : Sts C Z X W [some (.fz (dS text)), none] (defBody s_l_by_base) (fun _ : Unit => ([none, none] : En)) (fun r : Bool => RM.frz (dB r)) (b_l_by_base text) := by
  unfold b_l_by_base
  refine Sts.tryC (hs := fun (cx : Nat) => [(0, Fl.rt true), (3, Fl.rt false)]) ck hst hfr T.xc (fun WW pn xe tk2 own => Tb.expr (EvT.callX tk2 (ck.tr pn xe) 0 (h_p_read text) (Ea.cons (d := dS text) (Ev.cur_frz (Ev.fz (ck.tr pn xe) 0)) (Ea.nil)))) (fun cx hcx => (HSC.as_ (i := 1) ⟨(ck.gl 3 _ rfl).1, (ck.gl 3 _ rfl).2.1, .inl T.g_WebError⟩ (by decide) (by repeat (first | exact Fl.rt_rt | exact Fl.rt_bad | apply Fl.rt_ite | (refine Fl.rt_req fun _ => ?_) | refine Fl.rt_chk ?_ | (refine Fl.rt_lt fun _ => ?_))) (by rw [ck.hN]; rfl) (by unfold Env.kindOf; rw [hsc]; rfl) (Nat.le_of_ble_eq_true rfl) (fun ea oe pn hz hf => by
            exact Sts.ret (Ev.isEVc ck T.xc hcx hz hf 1 1 2 T.b_ValueError)) (HSC.no ⟨(ck.gl 4 _ rfl).1, (ck.gl 4 _ rfl).2.1, .inl T.g_BadText⟩ (by decide) (by repeat (first | exact Fl.rt_rt | exact Fl.rt_bad | apply Fl.rt_ite | (refine Fl.rt_req fun _ => ?_) | refine Fl.rt_chk ?_ | (refine Fl.rt_lt fun _ => ?_))) (fun ea oe pn hz hf => by
            exact Sts.ret (Ev.bl)) HSC.nil))) (fun hok => ?_)
  exact Sts.ret (Ev.bl)
abbrev s_l_numbers : Stmt := top 20
abbrev N_l_numbers : List Str := ["_law_found", "_law_due", "_law_k"]
abbrev G_l_numbers : List Str := ["isinstance", "list", "len", "range", "_law_whole"]
theorem w_l_numbers {C : Cf} {Z : Hp} {X : Cx} {W : Nat → Hp → Prop} (ck : Cok C X N_l_numbers (fun i => Nat.blt i 3) G_l_numbers) (d : Dok X N_l_numbers (fun i => Nat.blt i 3)) (hsc : X.env.scope = defScope s_l_numbers) (T : Txt C X.K X.mg) (tk : L2N.Takes X (WXc C W))
    (h_l_whole : ∀ (a0 : Int), Cal X.prog X.w X.K X.mg X.base X.A C "_law_whole" [dI a0] ((m_l_whole a0).map fun r => RM.frz (dB r))) (found : (List Int)) (due : (List Int)) : Sts C Z X W [some (.fz ((dL dI) found)), some (.fz ((dL dI) due)), none] (defBody s_l_numbers) (fun _ : Unit => ([none, none, none] : En)) (fun r : Bool => RM.frz (dB r)) (b_l_numbers found due) := by
  unfold b_l_numbers
  refine Sts.ifX ((Cw.or_ (Cb.not_ (Cb.val (Ev.isi (T := "list") (U := "list") (r := true) ck 0 1 rfl (by decide) (by decide +kernel) ck.bt.list (by decide +kernel) (Ev.cur_frz (Ev.fz ck 0))))) (fun _ => Cw.one (Cb.neI (Ev.lenL ck 2 (ha := Ev.cur_frz (Ev.fz ck 0))) (Ev.lenL ck 2 (ha := Ev.cur_frz (Ev.fz ck 1)))))).cb) Fl.ex_rt (fun _ => ?_) (fun _ => ?_)
  · exact Sts.ret (Ev.bl)
  · refine Sts.chk fun hc => ?_
    refine Sts.for_ (ss := [some (.fz ((dL dI) found)), some (.fz ((dL dI) due)), none]) (S' := Unit) (s0 := ()) (f := (zz dI)) (xs := (rangeI 0 ((due).length : Int))) (fun (s : Unit) => [some (.fz ((dL dI) found)), some (.fz ((dL dI) due)), none]) (fun (s : Unit) (k : Int) => [some (.fz ((dL dI) found)), some (.fz ((dL dI) due)), some (.fz (dI k))]) ck d (fun _ => trivial) (Iv.range1 hc ck 3 (ha := Ev.lenL ck 2 (ha := Ev.cur_frz (Ev.fz ck 1)))) (.keep (.keep (.keep .nil))) (fun s k => Gt.name ck d 2 (Nat.le_of_ble_eq_true rfl) rfl) (fun s k hx => ?_) (fun s => ?_)
    · show Sts C Z X W [some (.fz ((dL dI) found)), some (.fz ((dL dI) due)), some (.fz (dI k))] _ _ _ _
      refine Sts.req fun item hitem => ?_
      refine Sts.req fun r hr => ?_
      refine Sts.req fun t ht => ?_
      refine Sts.ifX ((Cw.orO (Cb.not_ (Cb.val (Ev.sc (Ev.call ck 4 (cal_ok (h_l_whole item) hr) (Ea.cons (d := dI item) (Ev.cur_frz (Ev.ixz (atI_map (f := dI) hitem) (Ev.fz ck 0) (Ev.fz ck 2))) (Ea.nil)))))) (fun _ q hq => by
          obtain ⟨item1, hitem1, hq⟩ := Option.bind_eq_some_iff.mp hq
          obtain ⟨item2, hitem2, hq⟩ := Option.bind_eq_some_iff.mp hq
          cases hq
          exact Cw.one (Cb.neI (Ev.ixz (atI_map (f := dI) hitem1) (Ev.fz ck 0) (Ev.fz ck 2)) (Ev.ixz (atI_map (f := dI) hitem2) (Ev.fz ck 1) (Ev.fz ck 2)))) ht).cb) Fl.ex_rt (fun _ => ?_) (fun _ => ?_)
      · exact Sts.ret (Ev.bl)
      · exact Sts.nil (.keep (.keep (.drop .nil)))
    · show Sts C Z X W [some (.fz ((dL dI) found)), some (.fz ((dL dI) due)), none] _ _ _ _
      exact Sts.ret (Ev.bl)
abbrev s_p_Web_tied : Stmt := inClass (top 9) 3
abbrev N_p_Web_tied : List Str := ["self", "one", "other"]
abbrev G_p_Web_tied : List Str := []
theorem w_p_Web_tied {C : Cf} {Z : Hp} {X : Cx} {W : Nat → Hp → Prop} (ck : Cok C X N_p_Web_tied (fun i => Nat.blt i 3) G_p_Web_tied) (d : Dok X N_p_Web_tied (fun i => Nat.blt i 3)) (hsc : X.env.scope = defScope s_p_Web_tied) (T : Txt C X.K X.mg) (tk : L2N.Takes X (WXc C W))
    (h_p_Web_need : ∀ (a0 : Web) (a1 : Int), Met X.prog X.w X.K X.mg X.base X.A C 0 "need" [dW a0, dI a1] ((m_p_Web_need a0 a1).map fun r => RM.frz (dI r))) (self : Web) (one : Int) (other : Int) : Sts C Z X W [some (.fz (dW self)), some (.fz (dI one)), some (.fz (dI other))] (defBody s_p_Web_tied) (fun _ : Unit => ([none, none, none] : En)) (fun r : Bool => RM.frz (dB r)) (b_p_Web_tied self one other) := by
  unfold b_p_Web_tied
  refine Sts.exprX (EvX.back (EvX.meth tk ck (h_p_Web_need self other) T.n_W_need (Ev.cur_frz (Ev.fz ck 0)) (Ea.cons (d := dI other) (Ev.cur_frz (Ev.fz ck 2)) (Ea.nil)))) ?_
  intro u hu
  refine Sts.runS (fun r hr => ?_) (fun cc hcc => Sts.rzRet (Rz.in_ (by rfl) (Ev.fz ck 2) (Rz.ix (Ev.cur_frz (Ev.fldz T.cW 1 T.f_W_rows rfl (Ev.fz ck 0))) (Rz.meth tk ck (h_p_Web_need self one) hcc T.n_W_need (Ev.cur_frz (Ev.fz ck 0)) (Ea.cons (d := dI one) (Ev.cur_frz (Ev.fz ck 1)) (Ea.nil))))))
  refine Sts.req fun item hitem => ?_
  exact Sts.ret ((Cb.inL (by rfl) (Ev.fz ck 2) (Ev.cur_frz (Ev.ixz (atI_map (f := (dL dI)) hitem) (Ev.fldz T.cW 1 T.f_W_rows rfl (Ev.fz ck 0)) (Ev.sc (Ev.meth ck (met_ok (h_p_Web_need self one) (get_of hr)) T.n_W_need (Ev.cur_frz (Ev.fz ck 0)) (Ea.cons (d := dI one) (Ev.cur_frz (Ev.fz ck 1)) (Ea.nil))))))).ev)
abbrev s_l_no_point : Stmt := top 40
abbrev N_l_no_point : List Str := ["_law_web", "_law_many_here", "_law_kind"]
abbrev G_l_no_point : List Str := ["NoPoint"]
theorem w_l_no_point {C : Cf} {Z : Hp} {X : Cx} {W : Nat → Hp → Prop} (ck : Cok C X N_l_no_point (fun i => Nat.blt i 3) G_l_no_point) (d : Dok X N_l_no_point (fun i => Nat.blt i 3)) (hsc : X.env.scope = defScope s_l_no_point) (T : Txt C X.K X.mg) (tk : L2N.Takes X (WXc C W))
    (h_p_Web_beside : ∀ (a0 : Web) (a1 : Int), Met X.prog X.w X.K X.mg X.base X.A C 0 "beside" [dW a0, dI a1] ((m_p_Web_beside a0 a1).map fun r => RM.new ((oL (zz dI)) r)))
    (h_p_Web_tied : ∀ (a0 : Web) (a1 : Int) (a2 : Int), Met X.prog X.w X.K X.mg X.base X.A C 0 "tied" [dW a0, dI a1, dI a2] ((m_p_Web_tied a0 a1 a2).map fun r => RM.frz (dB r)))
    (hst : X.stack = X.env :: X.outer)
    (hfr : X.env.frame = some X.env.locals) (web : Web) (many : Int) (kind : Int) : Sts C Z X W [some (.fz (dW web)), some (.fz (dI many)), some (.fz (dI kind))] (defBody s_l_no_point) (fun _ : Unit => ([none, none, none] : En)) (fun r : Bool => RM.frz (dB r)) (b_l_no_point web many kind) := by
  unfold b_l_no_point
  refine Sts.try_ (hs := fun (cx : Nat) => [(2, Fl.rt true)]) tk ck hst hfr T.xc (fun WW pn xe tk2 own => Tb.ite (Cb.eqI (Ev.fz (ck.tr pn xe) 2) (Ev.int)) (fun _ => Tb.expr (EvT.meth tk2 (ck.tr pn xe) (h_p_Web_beside web many) T.n_W_beside (Ev.cur_frz (Ev.fz (ck.tr pn xe) 0)) (Ea.cons (d := dI many) (Ev.cur_frz (Ev.fz (ck.tr pn xe) 1)) (Ea.nil)))) (fun _ => Tb.expr (EvT.meth tk2 (ck.tr pn xe) (h_p_Web_tied web (0 : Int) many) T.n_W_tied (Ev.cur_frz (Ev.fz (ck.tr pn xe) 0)) (Ea.cons (d := dI (0 : Int)) (Ev.cur_frz (Ev.int)) (Ea.cons (d := dI many) (Ev.cur_frz (Ev.fz (ck.tr pn xe) 1)) (Ea.nil)))))) (fun cx hcx => (HS.no ⟨(ck.gl 0 _ rfl).1, (ck.gl 0 _ rfl).2.1, .inl T.g_NoPoint⟩ (by decide) (by repeat (first | exact Fl.rt_rt | exact Fl.rt_bad | apply Fl.rt_ite | (refine Fl.rt_req fun _ => ?_) | refine Fl.rt_chk ?_ | (refine Fl.rt_lt fun _ => ?_))) (fun ea oe pn hz hf => by
            exact Sts.ret (Ev.bl)) HS.nil)) (fun hok => ?_)
  exact Sts.ret (Ev.bl)
abbrev s_l_law : Stmt := top 41
abbrev N_l_law : List Str := ["_law_script", "_law_many_here", "_law_ties_here", "_law_near_here", "_law_told", "_law_cell", "_law_text", "_law_due", "_law_web", "_law_k", "_law_rows_here", "_law_other", "_law_pairs_here"]
abbrev G_l_law : List Str := ["_law_many", "_law_rows", "_law_ties", "_law_near", "list", "web_of", "shown", "isinstance", "str", "_law_shown", "_law_cell_at", "_law_mixed", "_law_text_by", "_law_read", "_law_refused", "_law_by_base", "read", "_law_whole", "range", "_law_numbers", "_law_no_point", "_law_pairs"]
theorem w_l_law {C : Cf} {Z : Hp} {X : Cx} {W : Nat → Hp → Prop} (ck : Cok C X N_l_law (fun i => Nat.blt i 13) G_l_law) (d : Dok X N_l_law (fun i => Nat.blt i 13)) (hsc : X.env.scope = defScope s_l_law) (T : Txt C X.K X.mg) (tk : L2N.Takes X (WXc C W))
    (h_l_many : ∀ (a0 : List Int), Cal X.prog X.w X.K X.mg X.base X.A C "_law_many" [D.scr a0] ((m_l_many a0).map fun r => RM.frz (dI r)))
    (h_l_rows : ∀ (a0 : List Int) (a1 : Int), Cal X.prog X.w X.K X.mg X.base X.A C "_law_rows" [D.scr a0, dI a1] ((m_l_rows a0 a1).map fun r => RM.nrz ((dL (dL dI)) r)))
    (h_l_ties : ∀ (a0 : List Int) (a1 : Int) (a2 : (List (List Int))), Cal X.prog X.w X.K X.mg X.base X.A C "_law_ties" [D.scr a0, dI a1, (dL (dL dI)) a2] ((m_l_ties a0 a1 a2).map fun r => RM.new ((oL (zz (dP dI dI))) r)))
    (h_l_near : ∀ (a0 : Int) (a1 : (List (Int × Int))), Cal X.prog X.w X.K X.mg X.base X.A C "_law_near" [dI a0, (dL (dP dI dI)) a1] ((m_l_near a0 a1).map fun r => RM.nrz ((dL (dL dI)) r)))
    (h_p_web_of : ∀ (a0 : Int) (a1 : (List (Int × Int))), Cal X.prog X.w X.K X.mg X.base X.A C "web_of" [dI a0, (dL (dP dI dI)) a1] ((m_p_web_of a0 a1).map fun r => RM.nrz (dW r)))
    (h_p_shown : ∀ (a0 : Web), Cal X.prog X.w X.K X.mg X.base X.A C "shown" [dW a0] ((m_p_shown a0).map fun r => RM.frz (dS r)))
    (h_l_shown : ∀ (a0 : Int) (a1 : (List (List Int))), Cal X.prog X.w X.K X.mg X.base X.A C "_law_shown" [dI a0, (dL (dL dI)) a1] ((m_l_shown a0 a1).map fun r => RM.frz (dS r)))
    (h_l_cell_at : ∀ (a0 : List Int) (a1 : Int), Cal X.prog X.w X.K X.mg X.base X.A C "_law_cell_at" [D.scr a0, dI a1] ((m_l_cell_at a0 a1).map fun r => RM.frz (dI r)))
    (h_l_mixed : ∀ (a0 : Int) (a1 : Int), Cal X.prog X.w X.K X.mg X.base X.A C "_law_mixed" [dI a0, dI a1] ((m_l_mixed a0 a1).map fun r => RM.frz (dI r)))
    (h_l_text_by : ∀ (a0 : Str) (a1 : Int) (a2 : Int), Cal X.prog X.w X.K X.mg X.base X.A C "_law_text_by" [dS a0, dI a1, dI a2] ((m_l_text_by a0 a1 a2).map fun r => RM.frz (dS r)))
    (h_l_read : ∀ (a0 : Str), Cal X.prog X.w X.K X.mg X.base X.A C "_law_read" [dS a0] ((m_l_read a0).map fun r => RM.nrz ((dO (dP dI (dL (dL dI)))) r)))
    (h_l_refused : ∀ (a0 : Str), Cal X.prog X.w X.K X.mg X.base X.A C "_law_refused" [dS a0] ((m_l_refused a0).map fun r => RM.frz (dB r)))
    (h_l_by_base : ∀ (a0 : Str), Cal X.prog X.w X.K X.mg X.base X.A C "_law_by_base" [dS a0] ((m_l_by_base a0).map fun r => RM.frz (dB r)))
    (h_p_read : ∀ (a0 : Str), CalX X.prog X.w X.K X.mg X.base X.A C "read" [dS a0] ((m_p_read a0).map fun r => RM.nrz (dW r)))
    (h_l_whole : ∀ (a0 : Int), Cal X.prog X.w X.K X.mg X.base X.A C "_law_whole" [dI a0] ((m_l_whole a0).map fun r => RM.frz (dB r)))
    (h_p_Web_beside : ∀ (a0 : Web) (a1 : Int), Met X.prog X.w X.K X.mg X.base X.A C 0 "beside" [dW a0, dI a1] ((m_p_Web_beside a0 a1).map fun r => RM.new ((oL (zz dI)) r)))
    (h_l_numbers : ∀ (a0 : (List Int)) (a1 : (List Int)), Cal X.prog X.w X.K X.mg X.base X.A C "_law_numbers" [(dL dI) a0, (dL dI) a1] ((m_l_numbers a0 a1).map fun r => RM.frz (dB r)))
    (h_p_Web_tied : ∀ (a0 : Web) (a1 : Int) (a2 : Int), Met X.prog X.w X.K X.mg X.base X.A C 0 "tied" [dW a0, dI a1, dI a2] ((m_p_Web_tied a0 a1 a2).map fun r => RM.frz (dB r)))
    (h_l_no_point : ∀ (a0 : Web) (a1 : Int) (a2 : Int), Cal X.prog X.w X.K X.mg X.base X.A C "_law_no_point" [dW a0, dI a1, dI a2] ((m_l_no_point a0 a1 a2).map fun r => RM.frz (dB r)))
    (h_p_Web_ties : ∀ (a0 : Web), Met X.prog X.w X.K X.mg X.base X.A C 0 "ties" [dW a0] ((m_p_Web_ties a0).map fun r => RM.new ((oL (zz (dP dI dI))) r)))
    (h_l_pairs : ∀ (a0 : (List (Int × Int))) (a1 : (List (Int × Int))), Cal X.prog X.w X.K X.mg X.base X.A C "_law_pairs" [(dL (dP dI dI)) a0, (dL (dP dI dI)) a1] ((m_l_pairs a0 a1).map fun r => RM.frz (dB r))) (script : List Int) : Sts C Z X W [some (.fz (D.scr script)), none, none, none, none, none, none, none, none, none, none, none, none] (defBody s_l_law) (fun _ : Unit => ([none, none, none, none, none, none, none, none, none, none, none, none, none] : En)) (fun r : Bool => RM.frz (dB r)) (b_l_law script) := by
  unfold b_l_law
  refine Sts.req fun r hr => ?_
  refine Sts.asgL (i := 1) (zz dI) ck d (Ev.sc (Ev.call ck 0 (cal_ok (h_l_many script) hr) (Ea.cons (d := D.scr script) (Ev.cur_frz (Ev.fz ck 0)) (Ea.nil)))) (Nat.le_of_ble_eq_true rfl) ?_
  intro many emany
  show Sts C Z X W [some (.fz (D.scr script)), some (.fz (dI many)), none, none, none, none, none, none, none, none, none, none, none] _ _ _ _
  refine Sts.req fun r1 hr1 => ?_
  refine Sts.req fun r2 hr2 => ?_
  refine Sts.asgL (i := 2) (zn (dL (dP dI dI))) ck d (Ev.nrz_new (Ev.call ck 2 (cal_ok (h_l_ties script many r1) hr2) (Ea.cons (d := D.scr script) (Ev.cur_frz (Ev.fz ck 0)) (Ea.cons (d := dI many) (Ev.cur_frz (Ev.fz ck 1)) (Ea.cons (d := (dL (dL dI)) r1) (Ev.cur_nrz (Ev.call ck 1 (cal_ok (h_l_rows script many) hr1) (Ea.cons (d := D.scr script) (Ev.cur_frz (Ev.fz ck 0)) (Ea.cons (d := dI many) (Ev.cur_frz (Ev.fz ck 1)) (Ea.nil))))) (Ea.nil))))) ((er_L er_z) r2) ((fu_L (fu_z (fl_P (fun _ => Flat.sc) (fun _ => Flat.sc)))) r2)) (Nat.le_of_ble_eq_true rfl) ?_
  intro ties eties
  show Sts C Z X W [some (.fz (D.scr script)), some (.fz (dI many)), some (.nz ((dL (dP dI dI)) ties)), none, none, none, none, none, none, none, none, none, none] _ _ _ _
  refine Sts.req fun r3 hr3 => ?_
  refine Sts.asgL (i := 3) (zn (dL (dL dI))) ck d (Ev.call ck 3 (cal_ok (h_l_near many ties) hr3) (Ea.cons (d := dI many) (Ev.cur_frz (Ev.fz ck 1)) (Ea.cons (d := (dL (dP dI dI)) ties) (Ev.cur_nrz (Ev.nz ck 2)) (Ea.nil)))) (Nat.le_of_ble_eq_true rfl) ?_
  intro near enear
  show Sts C Z X W [some (.fz (D.scr script)), some (.fz (dI many)), some (.nz ((dL (dP dI dI)) ties)), some (.nz ((dL (dL dI)) near)), none, none, none, none, none, none, none, none, none] _ _ _ _
  refine Sts.req fun r4 hr4 => ?_
  refine Sts.req fun r5 hr5 => ?_
  refine Sts.asgL (i := 4) (zz dS) ck d (Ev.sc (Ev.call ck 6 (cal_ok (h_p_shown r4) hr5) (Ea.cons (d := dW r4) (Ev.cur_nrz (Ev.call ck 5 (cal_ok (h_p_web_of many ties) hr4) (Ea.cons (d := dI many) (Ev.cur_frz (Ev.fz ck 1)) (Ea.cons (d := (dL (dP dI dI)) ties) (Ev.cur_new (Ev.listL ck 4 (ha := Ev.itm_frz (Ev.frz_nrz (Ev.nz ck 2)))) ((er_L er_z) ties)) (Ea.nil))))) (Ea.nil)))) (Nat.le_of_ble_eq_true rfl) ?_
  intro told etold
  show Sts C Z X W [some (.fz (D.scr script)), some (.fz (dI many)), some (.nz ((dL (dP dI dI)) ties)), some (.nz ((dL (dL dI)) near)), some (.fz (dS told)), none, none, none, none, none, none, none, none] _ _ _ _
  refine Sts.req fun t ht => ?_
  refine Sts.ifX ((Cw.orO (Cb.not_ (Cb.val (Ev.isi (T := "str") (U := "str") (r := true) ck 7 8 rfl (by decide) (by decide +kernel) ck.bt.str (by decide +kernel) (Ev.cur_frz (Ev.fz ck 4))))) (fun _ q hq => by
          obtain ⟨r6, hr6, hq⟩ := Option.bind_eq_some_iff.mp hq
          cases hq
          exact Cw.one (Cb.neT (Ev.fz ck 4) (Ev.sc (Ev.call ck 9 (cal_ok (h_l_shown many near) hr6) (Ea.cons (d := dI many) (Ev.cur_frz (Ev.fz ck 1)) (Ea.cons (d := (dL (dL dI)) near) (Ev.cur_nrz (Ev.nz ck 3)) (Ea.nil))))))) ht).cb) Fl.ex_rt (fun _ => ?_) (fun _ => ?_)
  · exact Sts.ret (Ev.bl)
  · refine Sts.req fun r7 hr7 => ?_
    refine Sts.req fun r8 hr8 => ?_
    refine Sts.asgL (i := 5) (zz dI) ck d (Ev.sc (Ev.call ck 11 (cal_ok (h_l_mixed r7 (5 : Int)) hr8) (Ea.cons (d := dI r7) (Ev.cur_frz (Ev.sc (Ev.call ck 10 (cal_ok (h_l_cell_at script (1 : Int)) hr7) (Ea.cons (d := D.scr script) (Ev.cur_frz (Ev.fz ck 0)) (Ea.cons (d := dI (1 : Int)) (Ev.cur_frz (Ev.int)) (Ea.nil)))))) (Ea.cons (d := dI (5 : Int)) (Ev.cur_frz (Ev.int)) (Ea.nil))))) (Nat.le_of_ble_eq_true rfl) ?_
    intro cell ecell
    show Sts C Z X W [some (.fz (D.scr script)), some (.fz (dI many)), some (.nz ((dL (dP dI dI)) ties)), some (.nz ((dL (dL dI)) near)), some (.fz (dS told)), some (.fz (dI cell)), none, none, none, none, none, none, none] _ _ _ _
    refine Sts.req fun r9 hr9 => ?_
    refine Sts.req fun r10 hr10 => ?_
    refine Sts.req fun r11 hr11 => ?_
    refine Sts.asgL (i := 6) (zz dS) ck d (Ev.sc (Ev.call ck 12 (cal_ok (h_l_text_by told cell (r10 % (8 : Int))) hr11) (Ea.cons (d := dS told) (Ev.cur_frz (Ev.fz ck 4)) (Ea.cons (d := dI cell) (Ev.cur_frz (Ev.fz ck 5)) (Ea.cons (d := dI (r10 % (8 : Int))) (Ev.cur_frz (Ev.mod (by decide) (Ev.sc (Ev.call ck 11 (cal_ok (h_l_mixed r9 (6 : Int)) hr10) (Ea.cons (d := dI r9) (Ev.cur_frz (Ev.sc (Ev.call ck 10 (cal_ok (h_l_cell_at script (0 : Int)) hr9) (Ea.cons (d := D.scr script) (Ev.cur_frz (Ev.fz ck 0)) (Ea.cons (d := dI (0 : Int)) (Ev.cur_frz (Ev.int)) (Ea.nil)))))) (Ea.cons (d := dI (6 : Int)) (Ev.cur_frz (Ev.int)) (Ea.nil))))) (Ev.int))) (Ea.nil)))))) (Nat.le_of_ble_eq_true rfl) ?_
    intro text etext
    show Sts C Z X W [some (.fz (D.scr script)), some (.fz (dI many)), some (.nz ((dL (dP dI dI)) ties)), some (.nz ((dL (dL dI)) near)), some (.fz (dS told)), some (.fz (dI cell)), some (.fz (dS text)), none, none, none, none, none, none] _ _ _ _
    refine Sts.req fun r12 hr12 => ?_
    refine Sts.asgL (i := 7) (zn (dO (dP dI (dL (dL dI))))) ck d (Ev.call ck 13 (cal_ok (h_l_read text) hr12) (Ea.cons (d := dS text) (Ev.cur_frz (Ev.fz ck 6)) (Ea.nil))) (Nat.le_of_ble_eq_true rfl) ?_
    intro due edue
    show Sts C Z X W [some (.fz (D.scr script)), some (.fz (dI many)), some (.nz ((dL (dP dI dI)) ties)), some (.nz ((dL (dL dI)) near)), some (.fz (dS told)), some (.fz (dI cell)), some (.fz (dS text)), some (.nz ((dO (dP dI (dL (dL dI)))) due)), none, none, none, none, none] _ _ _ _
    refine Sts.ifX (Cb.isNO (fun _ => rfl) (Ev.cur_nrz (Ev.nz ck 7))) (Fl.ex_req fun _ => (Fl.ex_req fun _ => Fl.ex_rt)) (fun _ => ?_) (fun _ => ?_)
    · refine Sts.req fun r13 hr13 => ?_
      refine Sts.req fun t1 ht1 => ?_
      exact Sts.ret (((Cw.andO (Cb.val (Ev.sc (Ev.call ck 14 (cal_ok (h_l_refused text) hr13) (Ea.cons (d := dS text) (Ev.cur_frz (Ev.fz ck 6)) (Ea.nil))))) (fun _ q hq => by
          obtain ⟨r14, hr14, hq⟩ := Option.bind_eq_some_iff.mp hq
          cases hq
          exact Cw.one (Cb.val (Ev.sc (Ev.call ck 15 (cal_ok (h_l_by_base text) hr14) (Ea.cons (d := dS text) (Ev.cur_frz (Ev.fz ck 6)) (Ea.nil)))))) ht1).cb).ev)
    · refine Sts.req fun r15 hr15 => ?_
      refine Sts.asgL (i := 8) (zn dW) ck d (Ev.callX ck 16 (calX_ok (h_p_read text) hr15) (Ea.cons (d := dS text) (Ev.cur_frz (Ev.fz ck 6)) (Ea.nil))) (Nat.le_of_ble_eq_true rfl) ?_
      intro web eweb
      show Sts C Z X W [some (.fz (D.scr script)), some (.fz (dI many)), some (.nz ((dL (dP dI dI)) ties)), some (.nz ((dL (dL dI)) near)), some (.fz (dS told)), some (.fz (dI cell)), some (.fz (dS text)), some (.nz ((dO (dP dI (dL (dL dI)))) due)), some (.nz (dW web)), none, none, none, none] _ _ _ _
      refine Sts.req fun r16 hr16 => ?_
      refine Sts.req fun t2 ht2 => ?_
      refine Sts.ifX ((Cw.orO (Cb.not_ (Cb.val (Ev.sc (Ev.call ck 17 (cal_ok (h_l_whole web.many) hr16) (Ea.cons (d := dI web.many) (Ev.cur_frz (Ev.sc (Ev.fldc T.cW 0 T.f_W_many rfl (Ev.cur_nrz (Ev.nz ck 8))))) (Ea.nil)))))) (fun _ q hq => by
          obtain ⟨got, hgot, hq⟩ := Option.bind_eq_some_iff.mp hq
          cases hq
          exact Cw.one (Cb.neI (Ev.sc (Ev.fldc T.cW 0 T.f_W_many rfl (Ev.cur_nrz (Ev.nz ck 8)))) (Ev.sc (Ev.ixtc (d := dI got.1) rfl (Ev.cur_nrz (Ev.gotn (g := (dP dI (dL (dL dI)))) hgot (Ev.nz ck 7))) Ev.int)))) ht2).cb) Fl.ex_rt (fun _ => ?_) (fun _ => ?_)
      · exact Sts.ret (Ev.bl)
      · refine Sts.req fun got1 hgot1 => ?_
        refine Sts.chk fun hc => ?_
        refine Sts.req fun ys hys => ?_
        refine Sts.asgCL (x := "_law_k") (f := (zz dI)) (fo := (oL (zz dI))) (pt := (fun k : Int => some true)) (fe := (fun k : Int => (((m_p_Web_beside web k).get).bind fun r17 => some r17))) (i := 9) (j := 10) ck d hys (Nat.le_of_ble_eq_true rfl) (Nat.le_of_ble_eq_true rfl) (fun _ => trivial) (blk_ok ck hsc (blkOk_by (by decide +kernel))) (fun _ _ _ _ _ => pg_name (i := 9) (by show X.N.Nodup; rw [ck.hN]; exact ck.nd) (by show X.N[9]? = _; rw [ck.hN]; rfl) (Or.inl rfl)) (by rw [hsc]; rfl) (sw_true (by rw [hsc]; rfl) (by rw [hsc]; rfl) rfl (by decide +kernel)) ((Iv.range1 hc ck 18 (ha := Ev.sc (Ev.ixtc (d := dI got1.1) rfl (Ev.cur_nrz (Ev.gotn (g := (dP dI (dL (dL dI)))) hgot1 (Ev.nz ck 7))) Ev.int))).c)
          (fun X' fam k b hx hb => by
            cases hb
            exact Tts.no)
          (fun X' fam k y hx hp hy => by
            have k' := blk_cok ck fam (vis := [8, 9]) (G' := []) (by decide +kernel)
            obtain ⟨s0, H0, C0, cl0, fp0, rfl⟩ := fam
            obtain ⟨r17, hr17, hy⟩ := Option.bind_eq_some_iff.mp hy
            cases hy
            exact Ev.meth k' (met_ok (h_p_Web_beside web k) hr17) T.n_W_beside (Ev.cur_nrz (Ev.nz k' 8)) (Ea.cons (d := dI k) (Ev.cur_frz (Ev.fz k' 9)) (Ea.nil))) ?_
        intro rows erows
        show Sts C Z X W [some (.fz (D.scr script)), some (.fz (dI many)), some (.nz ((dL (dP dI dI)) ties)), some (.nz ((dL (dL dI)) near)), some (.fz (dS told)), some (.fz (dI cell)), some (.fz (dS text)), some (.nz ((dO (dP dI (dL (dL dI)))) due)), some (.nz (dW web)), none, some ((oL (oL (zz dI))) rows), none, none] _ _ _ _
        refine Sts.req fun got2 hgot2 => ?_
        refine Sts.chk fun hc1 => ?_
        refine Sts.for_ (ss := [some (.fz (D.scr script)), some (.fz (dI many)), some (.nz ((dL (dP dI dI)) ties)), some (.nz ((dL (dL dI)) near)), some (.fz (dS told)), some (.fz (dI cell)), some (.fz (dS text)), some (.nz ((dO (dP dI (dL (dL dI)))) due)), some (.nz (dW web)), none, some ((oL (oL (zz dI))) rows), none, none]) (S' := Unit) (s0 := ()) (f := (zz dI)) (xs := (rangeI 0 got2.1)) (fun (s : Unit) => [some (.fz (D.scr script)), some (.fz (dI many)), some (.nz ((dL (dP dI dI)) ties)), some (.nz ((dL (dL dI)) near)), some (.fz (dS told)), some (.fz (dI cell)), some (.fz (dS text)), some (.nz ((dO (dP dI (dL (dL dI)))) due)), some (.nz (dW web)), none, some ((oL (oL (zz dI))) rows), none, none]) (fun (s : Unit) (k1 : Int) => [some (.fz (D.scr script)), some (.fz (dI many)), some (.nz ((dL (dP dI dI)) ties)), some (.nz ((dL (dL dI)) near)), some (.fz (dS told)), some (.fz (dI cell)), some (.fz (dS text)), some (.nz ((dO (dP dI (dL (dL dI)))) due)), some (.nz (dW web)), some (.fz (dI k1)), some ((oL (oL (zz dI))) rows), none, none]) ck d (fun _ => trivial) (Iv.range1 hc1 ck 18 (ha := Ev.sc (Ev.ixtc (d := dI got2.1) rfl (Ev.cur_nrz (Ev.gotn (g := (dP dI (dL (dL dI)))) hgot2 (Ev.nz ck 7))) Ev.int))) (.keep (.keep (.keep (.keep (.keep (.keep (.keep (.keep (.keep (.keep (.keep (.keep (.keep .nil))))))))))))) (fun s k1 => Gt.name ck d 9 (Nat.le_of_ble_eq_true rfl) rfl) (fun s k1 hx => ?_) (fun s => ?_)
        · show Sts C Z X W [some (.fz (D.scr script)), some (.fz (dI many)), some (.nz ((dL (dP dI dI)) ties)), some (.nz ((dL (dL dI)) near)), some (.fz (dS told)), some (.fz (dI cell)), some (.fz (dS text)), some (.nz ((dO (dP dI (dL (dL dI)))) due)), some (.nz (dW web)), some (.fz (dI k1)), some ((oL (oL (zz dI))) rows), none, none] _ _ _ _
          refine Sts.req fun item hitem => ?_
          refine Sts.req fun got3 hgot3 => ?_
          refine Sts.req fun item1 hitem1 => ?_
          refine Sts.req fun r18 hr18 => ?_
          refine Sts.ifX (Cb.not_ (Cb.val (Ev.sc (Ev.call ck 19 (cal_ok (h_l_numbers item item1) hr18) (Ea.cons (d := (dL dI) item) (Ev.ixc (atI_map (f := (dL dI)) hitem) (Ev.ow ck 10 ((er_L (er_L er_z)) _)) (Ev.fz ck 9)) (Ea.cons (d := (dL dI) item1) (Ev.cur_nrz (Ev.ixn (atI_map (f := (dL dI)) hitem1) (Ev.ixtn (d := (dL (dL dI)) got3.2) rfl (Ev.gotn (g := (dP dI (dL (dL dI)))) hgot3 (Ev.nz ck 7)) Ev.int) (Ev.fz ck 9))) (Ea.nil))))))) Fl.ex_rt (fun _ => ?_) (fun _ => ?_)
          · exact Sts.ret (Ev.bl)
          · refine Sts.req fun got4 hgot4 => ?_
            refine Sts.chk fun hc2 => ?_
            refine Sts.req fun got5 hgot5 => ?_
            refine Sts.for_ (ss := [some (.fz (D.scr script)), some (.fz (dI many)), some (.nz ((dL (dP dI dI)) ties)), some (.nz ((dL (dL dI)) near)), some (.fz (dS told)), some (.fz (dI cell)), some (.fz (dS text)), some (.nz ((dO (dP dI (dL (dL dI)))) due)), some (.nz (dW web)), some (.fz (dI k1)), some ((oL (oL (zz dI))) rows), none, none]) (S' := Unit) (s0 := ()) (f := (zz dI)) (xs := [((0 : Int), (cell % got4.1), (got5.1 - (1 : Int))).1, ((0 : Int), (cell % got4.1), (got5.1 - (1 : Int))).2.1, ((0 : Int), (cell % got4.1), (got5.1 - (1 : Int))).2.2]) (fun (s1 : Unit) => [some (.fz (D.scr script)), some (.fz (dI many)), some (.nz ((dL (dP dI dI)) ties)), some (.nz ((dL (dL dI)) near)), some (.fz (dS told)), some (.fz (dI cell)), some (.fz (dS text)), some (.nz ((dO (dP dI (dL (dL dI)))) due)), some (.nz (dW web)), some (.fz (dI k1)), some ((oL (oL (zz dI))) rows), none, none]) (fun (s1 : Unit) (other : Int) => [some (.fz (D.scr script)), some (.fz (dI many)), some (.nz ((dL (dP dI dI)) ties)), some (.nz ((dL (dL dI)) near)), some (.fz (dS told)), some (.fz (dI cell)), some (.fz (dS text)), some (.nz ((dO (dP dI (dL (dL dI)))) due)), some (.nz (dW web)), some (.fz (dI k1)), some ((oL (oL (zz dI))) rows), some (.fz (dI other)), none]) ck d (fun _ => trivial) (Iv.tup (g := dI) (xs := [((0 : Int), (cell % got4.1), (got5.1 - (1 : Int))).1, ((0 : Int), (cell % got4.1), (got5.1 - (1 : Int))).2.1, ((0 : Int), (cell % got4.1), (got5.1 - (1 : Int))).2.2]) (Ev.tupz (ds := [dI (0 : Int), dI (cell % got4.1), dI (got5.1 - (1 : Int))]) (show (3 : Nat) ≤ sizeLine by decide) (Ei.cons (o := .fz (dI (0 : Int))) (Ev.int) (Ei.cons (o := .fz (dI (cell % got4.1))) (Ev.mod hc2 (Ev.fz ck 5) (Ev.sc (Ev.ixtc (d := dI got4.1) rfl (Ev.cur_nrz (Ev.gotn (g := (dP dI (dL (dL dI)))) hgot4 (Ev.nz ck 7))) Ev.int))) (Ei.cons (o := .fz (dI (got5.1 - (1 : Int)))) (Ev.sub (Ev.sc (Ev.ixtc (d := dI got5.1) rfl (Ev.cur_nrz (Ev.gotn (g := (dP dI (dL (dL dI)))) hgot5 (Ev.nz ck 7))) Ev.int)) (Ev.int)) (Ei.nil)))))) (.keep (.keep (.keep (.keep (.keep (.keep (.keep (.keep (.keep (.keep (.keep (.keep (.keep .nil))))))))))))) (fun s1 other => Gt.name ck d 11 (Nat.le_of_ble_eq_true rfl) rfl) (fun s1 other hx => ?_) (fun s1 => ?_)
            · show Sts C Z X W [some (.fz (D.scr script)), some (.fz (dI many)), some (.nz ((dL (dP dI dI)) ties)), some (.nz ((dL (dL dI)) near)), some (.fz (dS told)), some (.fz (dI cell)), some (.fz (dS text)), some (.nz ((dO (dP dI (dL (dL dI)))) due)), some (.nz (dW web)), some (.fz (dI k1)), some ((oL (oL (zz dI))) rows), some (.fz (dI other)), none] _ _ _ _
              refine Sts.req fun r19 hr19 => ?_
              refine Sts.req fun got6 hgot6 => ?_
              refine Sts.req fun item2 hitem2 => ?_
              refine Sts.req fun t3 ht3 => ?_
              refine Sts.ifX ((Cw.orO (Cb.neB (Ev.sc (Ev.meth ck (met_ok (h_p_Web_tied web k1 other) hr19) T.n_W_tied (Ev.cur_nrz (Ev.nz ck 8)) (Ea.cons (d := dI k1) (Ev.cur_frz (Ev.fz ck 9)) (Ea.cons (d := dI other) (Ev.cur_frz (Ev.fz ck 11)) (Ea.nil))))) ((Cb.inL (by rfl) (Ev.fz ck 11) (Ev.cur_nrz (Ev.ixn (atI_map (f := (dL dI)) hitem2) (Ev.ixtn (d := (dL (dL dI)) got6.2) rfl (Ev.gotn (g := (dP dI (dL (dL dI)))) hgot6 (Ev.nz ck 7)) Ev.int) (Ev.fz ck 9)))).ev)) (fun _ q hq => by
          obtain ⟨r20, hr20, hq⟩ := Option.bind_eq_some_iff.mp hq
          obtain ⟨got7, hgot7, hq⟩ := Option.bind_eq_some_iff.mp hq
          obtain ⟨item3, hitem3, hq⟩ := Option.bind_eq_some_iff.mp hq
          cases hq
          exact Cw.one (Cb.neB (Ev.sc (Ev.meth ck (met_ok (h_p_Web_tied web other k1) hr20) T.n_W_tied (Ev.cur_nrz (Ev.nz ck 8)) (Ea.cons (d := dI other) (Ev.cur_frz (Ev.fz ck 11)) (Ea.cons (d := dI k1) (Ev.cur_frz (Ev.fz ck 9)) (Ea.nil))))) ((Cb.inL (by rfl) (Ev.fz ck 11) (Ev.cur_nrz (Ev.ixn (atI_map (f := (dL dI)) hitem3) (Ev.ixtn (d := (dL (dL dI)) got7.2) rfl (Ev.gotn (g := (dP dI (dL (dL dI)))) hgot7 (Ev.nz ck 7)) Ev.int) (Ev.fz ck 9)))).ev))) ht3).cb) Fl.ex_rt (fun _ => ?_) (fun _ => ?_)
              · exact Sts.ret (Ev.bl)
              · exact Sts.nil (.keep (.keep (.keep (.keep (.keep (.keep (.keep (.keep (.keep (.keep (.keep (.drop (.keep .nil)))))))))))))
            · show Sts C Z X W [some (.fz (D.scr script)), some (.fz (dI many)), some (.nz ((dL (dP dI dI)) ties)), some (.nz ((dL (dL dI)) near)), some (.fz (dS told)), some (.fz (dI cell)), some (.fz (dS text)), some (.nz ((dO (dP dI (dL (dL dI)))) due)), some (.nz (dW web)), some (.fz (dI k1)), some ((oL (oL (zz dI))) rows), none, none] _ _ _ _
              exact Sts.nil (.keep (.keep (.keep (.keep (.keep (.keep (.keep (.keep (.keep (.drop (.keep (.keep (.keep .nil)))))))))))))
        · show Sts C Z X W [some (.fz (D.scr script)), some (.fz (dI many)), some (.nz ((dL (dP dI dI)) ties)), some (.nz ((dL (dL dI)) near)), some (.fz (dS told)), some (.fz (dI cell)), some (.fz (dS text)), some (.nz ((dO (dP dI (dL (dL dI)))) due)), some (.nz (dW web)), none, some ((oL (oL (zz dI))) rows), none, none] _ _ _ _
          refine Sts.asgL (i := 12) (zn (dL (dP dI dI))) ck d (Ev.nrz_new (o := (oL (zz (dP dI dI))) []) (Ev.displ (xs := []) (show (0 : Nat) ≤ sizeLine by decide) Ei.nil) ((er_L er_z) _) ((fu_L (fu_z (fl_P (fun _ => Flat.sc) (fun _ => Flat.sc)))) _)) (Nat.le_of_ble_eq_true rfl) ?_
          intro pairs epairs
          show Sts C Z X W [some (.fz (D.scr script)), some (.fz (dI many)), some (.nz ((dL (dP dI dI)) ties)), some (.nz ((dL (dL dI)) near)), some (.fz (dS told)), some (.fz (dI cell)), some (.fz (dS text)), some (.nz ((dO (dP dI (dL (dL dI)))) due)), some (.nz (dW web)), none, some ((oL (oL (zz dI))) rows), none, some (.nz ((dL (dP dI dI)) pairs))] _ _ _ _
          refine Sts.req fun got8 hgot8 => ?_
          refine Sts.chk fun hc3 => ?_
          refine Sts.for_ (ss := [some (.fz (D.scr script)), some (.fz (dI many)), some (.nz ((dL (dP dI dI)) ties)), some (.nz ((dL (dL dI)) near)), some (.fz (dS told)), some (.fz (dI cell)), some (.fz (dS text)), some (.nz ((dO (dP dI (dL (dL dI)))) due)), some (.nz (dW web)), none, some ((oL (oL (zz dI))) rows), none, some (.nz ((dL (dP dI dI)) pairs))]) (S' := (List (Int × Int))) (s0 := (pairs)) (f := (zz dI)) (xs := (rangeI 0 got8.1)) (fun (s2 : (List (Int × Int))) => [some (.fz (D.scr script)), some (.fz (dI many)), some (.nz ((dL (dP dI dI)) ties)), some (.nz ((dL (dL dI)) near)), some (.fz (dS told)), some (.fz (dI cell)), some (.fz (dS text)), some (.nz ((dO (dP dI (dL (dL dI)))) due)), some (.nz (dW web)), none, some ((oL (oL (zz dI))) rows), none, some (.nz ((dL (dP dI dI)) s2))]) (fun (s2 : (List (Int × Int))) (k2 : Int) => [some (.fz (D.scr script)), some (.fz (dI many)), some (.nz ((dL (dP dI dI)) ties)), some (.nz ((dL (dL dI)) near)), some (.fz (dS told)), some (.fz (dI cell)), some (.fz (dS text)), some (.nz ((dO (dP dI (dL (dL dI)))) due)), some (.nz (dW web)), some (.fz (dI k2)), some ((oL (oL (zz dI))) rows), none, some (.nz ((dL (dP dI dI)) s2))]) ck d (fun _ => trivial) (Iv.range1 hc3 ck 18 (ha := Ev.sc (Ev.ixtc (d := dI got8.1) rfl (Ev.cur_nrz (Ev.gotn (g := (dP dI (dL (dL dI)))) hgot8 (Ev.nz ck 7))) Ev.int))) (.keep (.keep (.keep (.keep (.keep (.keep (.keep (.keep (.keep (.keep (.keep (.keep (.keep .nil))))))))))))) (fun s2 k2 => Gt.name ck d 9 (Nat.le_of_ble_eq_true rfl) rfl) (fun s2 k2 hx => ?_) (fun s2 => ?_)
          · show Sts C Z X W [some (.fz (D.scr script)), some (.fz (dI many)), some (.nz ((dL (dP dI dI)) ties)), some (.nz ((dL (dL dI)) near)), some (.fz (dS told)), some (.fz (dI cell)), some (.fz (dS text)), some (.nz ((dO (dP dI (dL (dL dI)))) due)), some (.nz (dW web)), some (.fz (dI k2)), some ((oL (oL (zz dI))) rows), none, some (.nz ((dL (dP dI dI)) s2))] _ _ _ _
            refine Sts.req fun got9 hgot9 => ?_
            refine Sts.req fun item4 hitem4 => ?_
            refine Sts.chk fun hc4 => ?_
            refine Sts.asgL (i := 12) (zn (dL (dP dI dI))) ck d (Ev.nrz_new (Ev.catL (f := (zz (dP dI dI))) hc4 (Ev.itm_frz (Ev.frz_nrz (Ev.nz ck 12))) (Ev.itmL (f := (zz (dP dI dI))) (Ev.lc (x := "_law_other") (f := (zz dI)) (fo := (zz (dP dI dI))) (pt := (fun other1 : Int => some (decide (k2 < other1)))) (fe := (fun other1 : Int => some (k2, other1))) (i := 11) ck (compO_pure (fun other1 : Int => (decide (k2 < other1))) (fun other1 : Int => (k2, other1)) _) (Nat.le_of_ble_eq_true rfl) (fun _ => trivial) (blk_ok ck hsc (blkOk_by (by decide +kernel))) (fun _ _ _ _ _ => pg_name (i := 11) (by show X.N.Nodup; rw [ck.hN]; exact ck.nd) (by show X.N[11]? = _; rw [ck.hN]; rfl) (Or.inl rfl)) ((Iv.frz (Ev.frz_nrz (Ev.ixn (atI_map (f := (dL dI)) hitem4) (Ev.ixtn (d := (dL (dL dI)) got9.2) rfl (Ev.gotn (g := (dP dI (dL (dL dI)))) hgot9 (Ev.nz ck 7)) Ev.int) (Ev.fz ck 9)))).c)
          (fun X' fam other1 b hx hb => by
            have k' := blk_cok ck fam (vis := [9, 11]) (G' := []) (by decide +kernel)
            obtain ⟨s0, H0, C0, cl0, fp0, rfl⟩ := fam
            cases hb
            exact Tts.one (Cb.gt (Ev.fz k' 11) (Ev.fz k' 9)))
          (fun X' fam other1 y hx hp hy => by
            have k' := blk_cok ck fam (vis := [9, 11]) (G' := []) (by decide +kernel)
            obtain ⟨s0, H0, C0, cl0, fp0, rfl⟩ := fam
            cases hy
            exact Ev.tupz (ds := [dI k2, dI other1]) (show (2 : Nat) ≤ sizeLine by decide) (Ei.cons (o := .fz (dI k2)) (Ev.fz k' 9) (Ei.cons (o := .fz (dI other1)) (Ev.fz k' 11) (Ei.nil))))) (fun _ => trivial))) ((er_L er_z) (s2 ++ (((item4).filter (fun other1 : Int => (decide (k2 < other1)))).map (fun other1 : Int => (k2, other1))))) ((fu_L (fu_z (fl_P (fun _ => Flat.sc) (fun _ => Flat.sc)))) (s2 ++ (((item4).filter (fun other1 : Int => (decide (k2 < other1)))).map (fun other1 : Int => (k2, other1)))))) (Nat.le_of_ble_eq_true rfl) ?_
            intro pairs1 epairs1
            show Sts C Z X W [some (.fz (D.scr script)), some (.fz (dI many)), some (.nz ((dL (dP dI dI)) ties)), some (.nz ((dL (dL dI)) near)), some (.fz (dS told)), some (.fz (dI cell)), some (.fz (dS text)), some (.nz ((dO (dP dI (dL (dL dI)))) due)), some (.nz (dW web)), some (.fz (dI k2)), some ((oL (oL (zz dI))) rows), none, some (.nz ((dL (dP dI dI)) pairs1))] _ _ _ _
            exact Sts.nil (.keep (.keep (.keep (.keep (.keep (.keep (.keep (.keep (.keep (.drop (.keep (.keep (.keep .nil)))))))))))))
          · show Sts C Z X W [some (.fz (D.scr script)), some (.fz (dI many)), some (.nz ((dL (dP dI dI)) ties)), some (.nz ((dL (dL dI)) near)), some (.fz (dS told)), some (.fz (dI cell)), some (.fz (dS text)), some (.nz ((dO (dP dI (dL (dL dI)))) due)), some (.nz (dW web)), none, some ((oL (oL (zz dI))) rows), none, some (.nz ((dL (dP dI dI)) s2))] _ _ _ _
            refine Sts.req fun got10 hgot10 => ?_
            refine Sts.req fun r21 hr21 => ?_
            refine Sts.req fun t4 ht4 => ?_
            refine Sts.ifX ((Cw.orO (Cb.not_ (Cb.val (Ev.sc (Ev.call ck 20 (cal_ok (h_l_no_point web got10.1 (0 : Int)) hr21) (Ea.cons (d := dW web) (Ev.cur_nrz (Ev.nz ck 8)) (Ea.cons (d := dI got10.1) (Ev.cur_frz (Ev.sc (Ev.ixtc (d := dI got10.1) rfl (Ev.cur_nrz (Ev.gotn (g := (dP dI (dL (dL dI)))) hgot10 (Ev.nz ck 7))) Ev.int))) (Ea.cons (d := dI (0 : Int)) (Ev.cur_frz (Ev.int)) (Ea.nil)))))))) (fun _ q hq => by
          obtain ⟨got11, hgot11, hq⟩ := Option.bind_eq_some_iff.mp hq
          obtain ⟨r22, hr22, hq⟩ := Option.bind_eq_some_iff.mp hq
          cases hq
          exact Cw.one (Cb.not_ (Cb.val (Ev.sc (Ev.call ck 20 (cal_ok (h_l_no_point web got11.1 (1 : Int)) hr22) (Ea.cons (d := dW web) (Ev.cur_nrz (Ev.nz ck 8)) (Ea.cons (d := dI got11.1) (Ev.cur_frz (Ev.sc (Ev.ixtc (d := dI got11.1) rfl (Ev.cur_nrz (Ev.gotn (g := (dP dI (dL (dL dI)))) hgot11 (Ev.nz ck 7))) Ev.int))) (Ea.cons (d := dI (1 : Int)) (Ev.cur_frz (Ev.int)) (Ea.nil))))))))) ht4).cb) Fl.ex_rt (fun _ => ?_) (fun _ => ?_)
            · exact Sts.ret (Ev.bl)
            · refine Sts.req fun r23 hr23 => ?_
              refine Sts.req fun r24 hr24 => ?_
              refine Sts.req fun t5 ht5 => ?_
              exact Sts.ret (((Cw.andO (Cb.val (Ev.sc (Ev.call ck 21 (cal_ok (h_l_pairs r23 s2) hr24) (Ea.cons (d := (dL (dP dI dI)) r23) (Ev.cur_new (Ev.meth0 ck (met_ok (h_p_Web_ties web) hr23) T.n_W_ties (Ev.cur_nrz (Ev.nz ck 8))) ((er_L er_z) r23)) (Ea.cons (d := (dL (dP dI dI)) s2) (Ev.cur_nrz (Ev.nz ck 12)) (Ea.nil)))))) (fun _ q hq => by
          obtain ⟨r25, hr25, hq⟩ := Option.bind_eq_some_iff.mp hq
          cases hq
          exact Cw.one (Cb.eqT (Ev.sc (Ev.call ck 6 (cal_ok (h_p_shown web) hr25) (Ea.cons (d := dW web) (Ev.cur_nrz (Ev.nz ck 8)) (Ea.nil)))) (Ev.fz ck 6))) ht5).cb).ev)
end VL

set_option Elab.async false
set_option linter.all false
set_option maxRecDepth 100000
set_option maxHeartbeats 4000000
namespace VL
open PySem PySem.Spec PyProof.Rows L2
abbrev s_p_Web___init__ : Stmt := inClass (top 9) 0
theorem init_Web {P : Program} {w : World} {K : PySem.W.Frag} {mg : Str → Option Value} {base : Heap} {C : Cf} {f : Addr} {fd : FuncData} (F : Fun K "__init__" "Web.__init__" s_p_Web___init__ f fd) (hK : C.K = K) (T : Txt C K mg) : FnOk P w K mg base (L2N.CX P w) 1 f fd ["self", "many", "rows"] (spIn C 0 2) :=
  init2 F hK ⟨rfl, rfl, rfl, by decide +kernel, rfl, by decide +kernel, by decide +kernel⟩ T.cW T.fW rfl rfl rfl rfl (by decide +kernel) (by decide +kernel)
theorem sc_l_cell_at : FnScope N_l_cell_at ["_law_script", "_law_k"] (defScope s_l_cell_at) := ⟨rfl, rfl, rfl, by decide +kernel, rfl, by decide +kernel, by decide +kernel⟩
def sp_l_cell_at (C : Cf) : Sp := fun vs H Q E => ∃ i : List Int × Int, spM C [D.scr i.1, dI i.2] ((m_l_cell_at i.1 i.2).map fun r : Int => RM.frz (dI r)) vs H Q E
theorem ok_l_cell_at {P : Program} {w : World} {K : PySem.W.Frag} {mg : Str → Option Value} {base : Heap} {C : Cf} {f : Addr} {fd : FuncData} (F : Fun K "_law_cell_at" "_law_cell_at" s_l_cell_at f fd) (hK : C.K = K) (bt : Bt mg) (T : Txt C K mg) :
    FnOk P w K mg base (L2N.CX P w) 1 f fd ["_law_script", "_law_k"] (sp_l_cell_at C) :=
  fn_walk (N := N_l_cell_at) (G := G_l_cell_at) (k := 0) (ι := List Int × Int) (ds := fun i => [D.scr i.1, dI i.2]) (o := fun i => b_l_cell_at i.1 i.2) (un := (none : Option Int)) (ER := fun (i : List Int × Int) (r : Int) => RM.frz (dI r)) F sc_l_cell_at 2 (by decide +kernel) hK bt (fun _ => rfl) (fun _ r => (fun _ => Flat.sc) r) (fun _ r h => nomatch h) fun X Z W e1 e2 e3 e4 e5 hsc ck d hr tk hst hfr i => by
    subst e1 e2 e3 e4 e5
    exact w_l_cell_at ck d hsc T tk  i.1 i.2
theorem sc_l_many : FnScope N_l_many ["_law_script"] (defScope s_l_many) := ⟨rfl, rfl, rfl, by decide +kernel, rfl, by decide +kernel, by decide +kernel⟩
def sp_l_many (C : Cf) : Sp := fun vs H Q E => ∃ i : List Int, spM C [D.scr i] ((m_l_many i).map fun r : Int => RM.frz (dI r)) vs H Q E
theorem ok_l_many {P : Program} {w : World} {K : PySem.W.Frag} {mg : Str → Option Value} {base : Heap} {C : Cf} {f : Addr} {fd : FuncData} (F : Fun K "_law_many" "_law_many" s_l_many f fd) (hK : C.K = K) (bt : Bt mg) (T : Txt C K mg)
    (c_l_cell_at : Cld P w K mg base 1 "_law_cell_at" (sp_l_cell_at C)) :
    FnOk P w K mg base (L2N.CX P w) 2 f fd ["_law_script"] (sp_l_many C) :=
  fn_walk (N := N_l_many) (G := G_l_many) (k := 1) (ι := List Int) (ds := fun i => [D.scr i]) (o := fun i => b_l_many i) (un := (none : Option Int)) (ER := fun (i : List Int) (r : Int) => RM.frz (dI r)) F sc_l_many 2 (by decide +kernel) hK bt (fun _ => rfl) (fun _ r => (fun _ => Flat.sc) r) (fun _ r h => nomatch h) fun X Z W e1 e2 e3 e4 e5 hsc ck d hr tk hst hfr i => by
    subst e1 e2 e3 e4 e5
    exact w_l_many ck d hsc T tk (fun a0 a1 => c_l_cell_at.cal hr (by decide) fun vs H Q E h => ⟨(a0, a1), h⟩) i
theorem sc_l_name : FnScope N_l_name ["_law_script", "_law_many_here", "_law_k"] (defScope s_l_name) := ⟨rfl, rfl, rfl, by decide +kernel, rfl, by decide +kernel, by decide +kernel⟩
def sp_l_name (C : Cf) : Sp := fun vs H Q E => ∃ i : List Int × Int × Int, spM C [D.scr i.1, dI i.2.1, dI i.2.2] ((m_l_name i.1 i.2.1 i.2.2).map fun r : Int => RM.frz (dI r)) vs H Q E
theorem ok_l_name {P : Program} {w : World} {K : PySem.W.Frag} {mg : Str → Option Value} {base : Heap} {C : Cf} {f : Addr} {fd : FuncData} (F : Fun K "_law_name" "_law_name" s_l_name f fd) (hK : C.K = K) (bt : Bt mg) (T : Txt C K mg)
    (c_l_cell_at : Cld P w K mg base 1 "_law_cell_at" (sp_l_cell_at C)) :
    FnOk P w K mg base (L2N.CX P w) 2 f fd ["_law_script", "_law_many_here", "_law_k"] (sp_l_name C) :=
  fn_walk (N := N_l_name) (G := G_l_name) (k := 1) (ι := List Int × Int × Int) (ds := fun i => [D.scr i.1, dI i.2.1, dI i.2.2]) (o := fun i => b_l_name i.1 i.2.1 i.2.2) (un := (none : Option Int)) (ER := fun (i : List Int × Int × Int) (r : Int) => RM.frz (dI r)) F sc_l_name 4 (by decide +kernel) hK bt (fun _ => rfl) (fun _ r => (fun _ => Flat.sc) r) (fun _ r h => nomatch h) fun X Z W e1 e2 e3 e4 e5 hsc ck d hr tk hst hfr i => by
    subst e1 e2 e3 e4 e5
    exact w_l_name ck d hsc T tk (fun a0 a1 => c_l_cell_at.cal hr (by decide) fun vs H Q E h => ⟨(a0, a1), h⟩) i.1 i.2.1 i.2.2
theorem sc_l_ties : FnScope N_l_ties ["_law_script", "_law_many_here", "_law_rows_here"] (defScope s_l_ties) := ⟨rfl, rfl, rfl, by decide +kernel, rfl, by decide +kernel, by decide +kernel⟩
def sp_l_ties (C : Cf) : Sp := fun vs H Q E => ∃ i : List Int × Int × (List (List Int)), spM C [D.scr i.1, dI i.2.1, (dL (dL dI)) i.2.2] ((m_l_ties i.1 i.2.1 i.2.2).map fun r : (List (Int × Int)) => RM.new ((oL (zz (dP dI dI))) r)) vs H Q E
theorem ok_l_ties {P : Program} {w : World} {K : PySem.W.Frag} {mg : Str → Option Value} {base : Heap} {C : Cf} {f : Addr} {fd : FuncData} (F : Fun K "_law_ties" "_law_ties" s_l_ties f fd) (hK : C.K = K) (bt : Bt mg) (T : Txt C K mg)
    (c_l_name : Cld P w K mg base 2 "_law_name" (sp_l_name C)) :
    FnOk P w K mg base (L2N.CX P w) 3 f fd ["_law_script", "_law_many_here", "_law_rows_here"] (sp_l_ties C) :=
  fn_walk (N := N_l_ties) (G := G_l_ties) (k := 2) (ι := List Int × Int × (List (List Int))) (ds := fun i => [D.scr i.1, dI i.2.1, (dL (dL dI)) i.2.2]) (o := fun i => b_l_ties i.1 i.2.1 i.2.2) (un := (none : Option (List (Int × Int)))) (ER := fun (i : List Int × Int × (List (List Int))) (r : (List (Int × Int))) => RM.new ((oL (zz (dP dI dI))) r)) F sc_l_ties 7 (by decide +kernel) hK bt (fun _ => rfl) (fun _ r => (fu_L (fu_z (fl_P (fun _ => Flat.sc) (fun _ => Flat.sc)))) r) (fun _ r h => nomatch h) fun X Z W e1 e2 e3 e4 e5 hsc ck d hr tk hst hfr i => by
    subst e1 e2 e3 e4 e5
    exact w_l_ties ck d hsc T tk (fun a0 a1 a2 => c_l_name.cal hr (by decide) fun vs H Q E h => ⟨(a0, a1, a2), h⟩) i.1 i.2.1 i.2.2
theorem sc_l_near : FnScope N_l_near ["_law_many_here", "_law_ties_here"] (defScope s_l_near) := ⟨rfl, rfl, rfl, by decide +kernel, rfl, by decide +kernel, by decide +kernel⟩
def sp_l_near (C : Cf) : Sp := fun vs H Q E => ∃ i : Int × (List (Int × Int)), spM C [dI i.1, (dL (dP dI dI)) i.2] ((m_l_near i.1 i.2).map fun r : (List (List Int)) => RM.nrz ((dL (dL dI)) r)) vs H Q E
theorem ok_l_near {P : Program} {w : World} {K : PySem.W.Frag} {mg : Str → Option Value} {base : Heap} {C : Cf} {f : Addr} {fd : FuncData} (F : Fun K "_law_near" "_law_near" s_l_near f fd) (hK : C.K = K) (bt : Bt mg) (T : Txt C K mg) :
    FnOk P w K mg base (L2N.CX P w) 1 f fd ["_law_many_here", "_law_ties_here"] (sp_l_near C) :=
  fn_walk (N := N_l_near) (G := G_l_near) (k := 0) (ι := Int × (List (Int × Int))) (ds := fun i => [dI i.1, (dL (dP dI dI)) i.2]) (o := fun i => b_l_near i.1 i.2) (un := (none : Option (List (List Int)))) (ER := fun (i : Int × (List (Int × Int))) (r : (List (List Int))) => RM.nrz ((dL (dL dI)) r)) F sc_l_near 5 (by decide +kernel) hK bt (fun _ => rfl) (fun _ _ => trivial) (fun _ r h => nomatch h) fun X Z W e1 e2 e3 e4 e5 hsc ck d hr tk hst hfr i => by
    subst e1 e2 e3 e4 e5
    exact w_l_near ck d hsc T tk  i.1 i.2
theorem sc_p_Web_ties : FnScope N_p_Web_ties ["self"] (defScope s_p_Web_ties) := ⟨rfl, rfl, rfl, by decide +kernel, rfl, by decide +kernel, by decide +kernel⟩
def sp_p_Web_ties (C : Cf) : Sp := fun vs H Q E => ∃ i : Web, spM C [dW i] ((m_p_Web_ties i).map fun r : (List (Int × Int)) => RM.new ((oL (zz (dP dI dI))) r)) vs H Q E
theorem ok_p_Web_ties {P : Program} {w : World} {K : PySem.W.Frag} {mg : Str → Option Value} {base : Heap} {C : Cf} {f : Addr} {fd : FuncData} (F : Fun K "ties" "Web.ties" s_p_Web_ties f fd) (hK : C.K = K) (bt : Bt mg) (T : Txt C K mg) :
    FnOk P w K mg base (L2N.CX P w) 1 f fd ["self"] (sp_p_Web_ties C) :=
  fn_walk (N := N_p_Web_ties) (G := G_p_Web_ties) (k := 0) (ι := Web) (ds := fun i => [dW i]) (o := fun i => b_p_Web_ties i) (un := (none : Option (List (Int × Int)))) (ER := fun (i : Web) (r : (List (Int × Int))) => RM.new ((oL (zz (dP dI dI))) r)) F sc_p_Web_ties 4 (by decide +kernel) hK bt (fun _ => rfl) (fun _ r => (fu_L (fu_z (fl_P (fun _ => Flat.sc) (fun _ => Flat.sc)))) r) (fun _ r h => nomatch h) fun X Z W e1 e2 e3 e4 e5 hsc ck d hr tk hst hfr i => by
    subst e1 e2 e3 e4 e5
    exact w_p_Web_ties ck d hsc T tk  i
theorem sc_p_shown : FnScope N_p_shown ["web"] (defScope s_p_shown) := ⟨rfl, rfl, rfl, by decide +kernel, rfl, by decide +kernel, by decide +kernel⟩
def sp_p_shown (C : Cf) : Sp := fun vs H Q E => ∃ i : Web, spM C [dW i] ((m_p_shown i).map fun r : Str => RM.frz (dS r)) vs H Q E
theorem ok_p_shown {P : Program} {w : World} {K : PySem.W.Frag} {mg : Str → Option Value} {base : Heap} {C : Cf} {f : Addr} {fd : FuncData} (F : Fun K "shown" "shown" s_p_shown f fd) (hK : C.K = K) (bt : Bt mg) (T : Txt C K mg)
    (c_p_Web_ties : Mtd C P w K mg base 1 0 "ties" (sp_p_Web_ties C)) :
    FnOk P w K mg base (L2N.CX P w) 2 f fd ["web"] (sp_p_shown C) :=
  fn_walk (N := N_p_shown) (G := G_p_shown) (k := 1) (ι := Web) (ds := fun i => [dW i]) (o := fun i => b_p_shown i) (un := (none : Option Str)) (ER := fun (i : Web) (r : Str) => RM.frz (dS r)) F sc_p_shown 4 (by decide +kernel) hK bt (fun _ => rfl) (fun _ r => (fun _ => Flat.sc) r) (fun _ r h => nomatch h) fun X Z W e1 e2 e3 e4 e5 hsc ck d hr tk hst hfr i => by
    subst e1 e2 e3 e4 e5
    exact w_p_shown ck d hsc T tk (fun a0 => c_p_Web_ties.met hr (by decide) fun vs H Q E h => ⟨(a0), h⟩) i
theorem sc_l_mixed : FnScope N_l_mixed ["_law_cell", "_law_k"] (defScope s_l_mixed) := ⟨rfl, rfl, rfl, by decide +kernel, rfl, by decide +kernel, by decide +kernel⟩
def sp_l_mixed (C : Cf) : Sp := fun vs H Q E => ∃ i : Int × Int, spM C [dI i.1, dI i.2] ((m_l_mixed i.1 i.2).map fun r : Int => RM.frz (dI r)) vs H Q E
theorem ok_l_mixed {P : Program} {w : World} {K : PySem.W.Frag} {mg : Str → Option Value} {base : Heap} {C : Cf} {f : Addr} {fd : FuncData} (F : Fun K "_law_mixed" "_law_mixed" s_l_mixed f fd) (hK : C.K = K) (bt : Bt mg) (T : Txt C K mg) :
    FnOk P w K mg base (L2N.CX P w) 1 f fd ["_law_cell", "_law_k"] (sp_l_mixed C) :=
  fn_walk (N := N_l_mixed) (G := G_l_mixed) (k := 0) (ι := Int × Int) (ds := fun i => [dI i.1, dI i.2]) (o := fun i => b_l_mixed i.1 i.2) (un := (none : Option Int)) (ER := fun (i : Int × Int) (r : Int) => RM.frz (dI r)) F sc_l_mixed 2 (by decide +kernel) hK bt (fun _ => rfl) (fun _ r => (fun _ => Flat.sc) r) (fun _ r h => nomatch h) fun X Z W e1 e2 e3 e4 e5 hsc ck d hr tk hst hfr i => by
    subst e1 e2 e3 e4 e5
    exact w_l_mixed ck d hsc T tk  i.1 i.2
theorem sc_l_odd_text : FnScope N_l_odd_text ["_law_cell"] (defScope s_l_odd_text) := ⟨rfl, rfl, rfl, by decide +kernel, rfl, by decide +kernel, by decide +kernel⟩
def sp_l_odd_text (C : Cf) : Sp := fun vs H Q E => ∃ i : Int, spM C [dI i] ((m_l_odd_text i).map fun r : Str => RM.frz (dS r)) vs H Q E
theorem ok_l_odd_text {P : Program} {w : World} {K : PySem.W.Frag} {mg : Str → Option Value} {base : Heap} {C : Cf} {f : Addr} {fd : FuncData} (F : Fun K "_law_odd_text" "_law_odd_text" s_l_odd_text f fd) (hK : C.K = K) (bt : Bt mg) (T : Txt C K mg) :
    FnOk P w K mg base (L2N.CX P w) 1 f fd ["_law_cell"] (sp_l_odd_text C) :=
  fn_walk (N := N_l_odd_text) (G := G_l_odd_text) (k := 0) (ι := Int) (ds := fun i => [dI i]) (o := fun i => b_l_odd_text i) (un := (none : Option Str)) (ER := fun (i : Int) (r : Str) => RM.frz (dS r)) F sc_l_odd_text 2 (by decide +kernel) hK bt (fun _ => rfl) (fun _ r => (fun _ => Flat.sc) r) (fun _ r h => nomatch h) fun X Z W e1 e2 e3 e4 e5 hsc ck d hr tk hst hfr i => by
    subst e1 e2 e3 e4 e5
    cases sw_l_odd_text (Z := Z) (W := W) ck d hsc T tk i with
    | mk h => assumption
theorem sc_l_text_by : FnScope N_l_text_by ["_law_text", "_law_cell", "_law_kind"] (defScope s_l_text_by) := ⟨rfl, rfl, rfl, by decide +kernel, rfl, by decide +kernel, by decide +kernel⟩
def sp_l_text_by (C : Cf) : Sp := fun vs H Q E => ∃ i : Str × Int × Int, spM C [dS i.1, dI i.2.1, dI i.2.2] ((m_l_text_by i.1 i.2.1 i.2.2).map fun r : Str => RM.frz (dS r)) vs H Q E
theorem ok_l_text_by {P : Program} {w : World} {K : PySem.W.Frag} {mg : Str → Option Value} {base : Heap} {C : Cf} {f : Addr} {fd : FuncData} (F : Fun K "_law_text_by" "_law_text_by" s_l_text_by f fd) (hK : C.K = K) (bt : Bt mg) (T : Txt C K mg)
    (c_l_odd_text : Cld P w K mg base 1 "_law_odd_text" (sp_l_odd_text C)) :
    FnOk P w K mg base (L2N.CX P w) 2 f fd ["_law_text", "_law_cell", "_law_kind"] (sp_l_text_by C) :=
  fn_walk (N := N_l_text_by) (G := G_l_text_by) (k := 1) (ι := Str × Int × Int) (ds := fun i => [dS i.1, dI i.2.1, dI i.2.2]) (o := fun i => b_l_text_by i.1 i.2.1 i.2.2) (un := (none : Option Str)) (ER := fun (i : Str × Int × Int) (r : Str) => RM.frz (dS r)) F sc_l_text_by 8 (by decide +kernel) hK bt (fun _ => rfl) (fun _ r => (fun _ => Flat.sc) r) (fun _ r h => nomatch h) fun X Z W e1 e2 e3 e4 e5 hsc ck d hr tk hst hfr i => by
    subst e1 e2 e3 e4 e5
    exact w_l_text_by ck d hsc T tk (fun a0 => c_l_odd_text.cal hr (by decide) fun vs H Q E h => ⟨(a0), h⟩) i.1 i.2.1 i.2.2
theorem sc_l_number : FnScope N_l_number ["_law_word"] (defScope s_l_number) := ⟨rfl, rfl, rfl, by decide +kernel, rfl, by decide +kernel, by decide +kernel⟩
def sp_l_number (C : Cf) : Sp := fun vs H Q E => ∃ i : Str, spM C [dS i] ((m_l_number i).map fun r : Int => RM.frz (dI r)) vs H Q E
theorem ok_l_number {P : Program} {w : World} {K : PySem.W.Frag} {mg : Str → Option Value} {base : Heap} {C : Cf} {f : Addr} {fd : FuncData} (F : Fun K "_law_number" "_law_number" s_l_number f fd) (hK : C.K = K) (bt : Bt mg) (T : Txt C K mg) :
    FnOk P w K mg base (L2N.CX P w) 1 f fd ["_law_word"] (sp_l_number C) :=
  fn_walk (N := N_l_number) (G := G_l_number) (k := 0) (ι := Str) (ds := fun i => [dS i]) (o := fun i => b_l_number i) (un := (none : Option Int)) (ER := fun (i : Str) (r : Int) => RM.frz (dI r)) F sc_l_number 2 (by decide +kernel) hK bt (fun _ => rfl) (fun _ r => (fun _ => Flat.sc) r) (fun _ r h => nomatch h) fun X Z W e1 e2 e3 e4 e5 hsc ck d hr tk hst hfr i => by
    subst e1 e2 e3 e4 e5
    exact w_l_number ck d hsc T tk  i
theorem sc_l_shown : FnScope N_l_shown ["_law_many_here", "_law_near_here"] (defScope s_l_shown) := ⟨rfl, rfl, rfl, by decide +kernel, rfl, by decide +kernel, by decide +kernel⟩
def sp_l_shown (C : Cf) : Sp := fun vs H Q E => ∃ i : Int × (List (List Int)), spM C [dI i.1, (dL (dL dI)) i.2] ((m_l_shown i.1 i.2).map fun r : Str => RM.frz (dS r)) vs H Q E
theorem ok_l_shown {P : Program} {w : World} {K : PySem.W.Frag} {mg : Str → Option Value} {base : Heap} {C : Cf} {f : Addr} {fd : FuncData} (F : Fun K "_law_shown" "_law_shown" s_l_shown f fd) (hK : C.K = K) (bt : Bt mg) (T : Txt C K mg) :
    FnOk P w K mg base (L2N.CX P w) 1 f fd ["_law_many_here", "_law_near_here"] (sp_l_shown C) :=
  fn_walk (N := N_l_shown) (G := G_l_shown) (k := 0) (ι := Int × (List (List Int))) (ds := fun i => [dI i.1, (dL (dL dI)) i.2]) (o := fun i => b_l_shown i.1 i.2) (un := (none : Option Str)) (ER := fun (i : Int × (List (List Int))) (r : Str) => RM.frz (dS r)) F sc_l_shown 4 (by decide +kernel) hK bt (fun _ => rfl) (fun _ r => (fun _ => Flat.sc) r) (fun _ r h => nomatch h) fun X Z W e1 e2 e3 e4 e5 hsc ck d hr tk hst hfr i => by
    subst e1 e2 e3 e4 e5
    exact w_l_shown ck d hsc T tk  i.1 i.2
theorem sc_l_read : FnScope N_l_read ["_law_text"] (defScope s_l_read) := ⟨rfl, rfl, rfl, by decide +kernel, rfl, by decide +kernel, by decide +kernel⟩
def sp_l_read (C : Cf) : Sp := fun vs H Q E => ∃ i : Str, spM C [dS i] ((m_l_read i).map fun r : (Option (Int × (List (List Int)))) => RM.nrz ((dO (dP dI (dL (dL dI)))) r)) vs H Q E
theorem ok_l_read {P : Program} {w : World} {K : PySem.W.Frag} {mg : Str → Option Value} {base : Heap} {C : Cf} {f : Addr} {fd : FuncData} (F : Fun K "_law_read" "_law_read" s_l_read f fd) (hK : C.K = K) (bt : Bt mg) (T : Txt C K mg)
    (c_l_number : Cld P w K mg base 1 "_law_number" (sp_l_number C))
    (c_l_near : Cld P w K mg base 1 "_law_near" (sp_l_near C))
    (c_l_shown : Cld P w K mg base 1 "_law_shown" (sp_l_shown C)) :
    FnOk P w K mg base (L2N.CX P w) 2 f fd ["_law_text"] (sp_l_read C) :=
  fn_walk (N := N_l_read) (G := G_l_read) (k := 1) (ι := Str) (ds := fun i => [dS i]) (o := fun i => b_l_read i) (un := (none : Option (Option (Int × (List (List Int)))))) (ER := fun (i : Str) (r : (Option (Int × (List (List Int))))) => RM.nrz ((dO (dP dI (dL (dL dI)))) r)) F sc_l_read 9 (by decide +kernel) hK bt (fun _ => rfl) (fun _ _ => trivial) (fun _ r h => nomatch h) fun X Z W e1 e2 e3 e4 e5 hsc ck d hr tk hst hfr i => by
    subst e1 e2 e3 e4 e5
    exact w_l_read ck d hsc T tk (fun a0 => c_l_number.cal hr (by decide) fun vs H Q E h => ⟨(a0), h⟩) (fun a0 a1 => c_l_near.cal hr (by decide) fun vs H Q E h => ⟨(a0, a1), h⟩) (fun a0 a1 => c_l_shown.cal hr (by decide) fun vs H Q E h => ⟨(a0, a1), h⟩) i
theorem sc_p_number_of : FnScope N_p_number_of ["word"] (defScope s_p_number_of) := ⟨rfl, rfl, rfl, by decide +kernel, rfl, by decide +kernel, by decide +kernel⟩
def sp_p_number_of (C : Cf) : Sp := fun vs H Q E => ∃ i : Str, spM C [dS i] ((m_p_number_of i).map fun r : Int => RM.frz (dI r)) vs H Q E
theorem ok_p_number_of {P : Program} {w : World} {K : PySem.W.Frag} {mg : Str → Option Value} {base : Heap} {C : Cf} {f : Addr} {fd : FuncData} (F : Fun K "number_of" "number_of" s_p_number_of f fd) (hK : C.K = K) (bt : Bt mg) (T : Txt C K mg) :
    FnOk P w K mg base (L2N.CX P w) 1 f fd ["word"] (sp_p_number_of C) :=
  fn_walk (N := N_p_number_of) (G := G_p_number_of) (k := 0) (ι := Str) (ds := fun i => [dS i]) (o := fun i => b_p_number_of i) (un := (none : Option Int)) (ER := fun (i : Str) (r : Int) => RM.frz (dI r)) F sc_p_number_of 2 (by decide +kernel) hK bt (fun _ => rfl) (fun _ r => (fun _ => Flat.sc) r) (fun _ r h => nomatch h) fun X Z W e1 e2 e3 e4 e5 hsc ck d hr tk hst hfr i => by
    subst e1 e2 e3 e4 e5
    exact w_p_number_of ck d hsc T tk  i
theorem sc_p_tie_of : FnScope N_p_tie_of ["word"] (defScope s_p_tie_of) := ⟨rfl, rfl, rfl, by decide +kernel, rfl, by decide +kernel, by decide +kernel⟩
def sp_p_tie_of (C : Cf) : Sp := fun vs H Q E => ∃ i : Str, spM C [dS i] ((m_p_tie_of i).map fun r : (Int × Int) => RM.frz ((dP dI dI) r)) vs H Q E
theorem ok_p_tie_of {P : Program} {w : World} {K : PySem.W.Frag} {mg : Str → Option Value} {base : Heap} {C : Cf} {f : Addr} {fd : FuncData} (F : Fun K "tie_of" "tie_of" s_p_tie_of f fd) (hK : C.K = K) (bt : Bt mg) (T : Txt C K mg)
    (c_p_number_of : Cld P w K mg base 1 "number_of" (sp_p_number_of C)) :
    FnOk P w K mg base (L2N.CX P w) 2 f fd ["word"] (sp_p_tie_of C) :=
  fn_walk (N := N_p_tie_of) (G := G_p_tie_of) (k := 1) (ι := Str) (ds := fun i => [dS i]) (o := fun i => b_p_tie_of i) (un := (none : Option (Int × Int))) (ER := fun (i : Str) (r : (Int × Int)) => RM.frz ((dP dI dI) r)) F sc_p_tie_of 2 (by decide +kernel) hK bt (fun _ => rfl) (fun _ r => (fl_P (fun _ => Flat.sc) (fun _ => Flat.sc)) r) (fun _ r h => nomatch h) fun X Z W e1 e2 e3 e4 e5 hsc ck d hr tk hst hfr i => by
    subst e1 e2 e3 e4 e5
    exact w_p_tie_of ck d hsc T tk (fun a0 => c_p_number_of.cal hr (by decide) fun vs H Q E h => ⟨(a0), h⟩) i
theorem sc_p_web_of : FnScope N_p_web_of ["many", "ties"] (defScope s_p_web_of) := ⟨rfl, rfl, rfl, by decide +kernel, rfl, by decide +kernel, by decide +kernel⟩
def sp_p_web_of (C : Cf) : Sp := fun vs H Q E => ∃ i : Int × (List (Int × Int)), spM C [dI i.1, (dL (dP dI dI)) i.2] ((m_p_web_of i.1 i.2).map fun r : Web => RM.nrz (dW r)) vs H Q E
theorem ok_p_web_of {P : Program} {w : World} {K : PySem.W.Frag} {mg : Str → Option Value} {base : Heap} {C : Cf} {f : Addr} {fd : FuncData} (F : Fun K "web_of" "web_of" s_p_web_of f fd) (hK : C.K = K) (bt : Bt mg) (T : Txt C K mg)
    (c_mkWeb : Mke C P w K mg base "Web" 0 2) :
    FnOk P w K mg base (L2N.CX P w) 3 f fd ["many", "ties"] (sp_p_web_of C) :=
  fn_walk (N := N_p_web_of) (G := G_p_web_of) (k := 2) (ι := Int × (List (Int × Int))) (ds := fun i => [dI i.1, (dL (dP dI dI)) i.2]) (o := fun i => b_p_web_of i.1 i.2) (un := (none : Option Web)) (ER := fun (i : Int × (List (Int × Int))) (r : Web) => RM.nrz (dW r)) F sc_p_web_of 5 (by decide +kernel) hK bt (fun _ => rfl) (fun _ _ => trivial) (fun _ r h => nomatch h) fun X Z W e1 e2 e3 e4 e5 hsc ck d hr tk hst hfr i => by
    subst e1 e2 e3 e4 e5
    exact w_p_web_of ck d hsc T tk (c_mkWeb.mkd hr (by decide)) i.1 i.2
theorem sc_p_read : FnScope N_p_read ["text"] (defScope s_p_read) := ⟨rfl, rfl, rfl, by decide +kernel, rfl, by decide +kernel, by decide +kernel⟩
def sp_p_read (C : Cf) : Sp := fun vs H Q E => ∃ i : Str, spM C [dS i] ((m_p_read i).map fun r : Web => RM.nrz (dW r)) vs H Q E
theorem ok_p_read {P : Program} {w : World} {K : PySem.W.Frag} {mg : Str → Option Value} {base : Heap} {C : Cf} {f : Addr} {fd : FuncData} (F : Fun K "read" "read" s_p_read f fd) (hK : C.K = K) (bt : Bt mg) (T : Txt C K mg)
    (c_p_number_of : Cld P w K mg base 1 "number_of" (sp_p_number_of C))
    (c_p_tie_of : Cld P w K mg base 2 "tie_of" (sp_p_tie_of C))
    (c_p_web_of : Cld P w K mg base 3 "web_of" (sp_p_web_of C))
    (c_p_shown : Cld P w K mg base 2 "shown" (sp_p_shown C)) :
    FnOk P w K mg base (L2.CX P w) 4 f fd ["text"] (sp_p_read C) :=
  fn_walkX (N := N_p_read) (G := G_p_read) (k := 3) (ι := Str) (ds := fun i => [dS i]) (o := fun i => b_p_read i) (un := (none : Option Web)) (ER := fun (i : Str) (r : Web) => RM.nrz (dW r)) F sc_p_read 5 (by decide +kernel) hK bt (fun _ => rfl) (fun _ _ => trivial) (fun _ r h => nomatch h) fun X Z W e1 e2 e3 e4 e5 hsc ck d hr tk hst hfr hpa i => by
    subst e1 e2 e3 e4 e5
    exact w_p_read ck d hsc T tk (fun a0 => c_p_number_of.cal hr (by decide) fun vs H Q E h => ⟨(a0), h⟩) (fun a0 => c_p_tie_of.cal hr (by decide) fun vs H Q E h => ⟨(a0), h⟩) (fun a0 a1 => c_p_web_of.cal hr (by decide) fun vs H Q E h => ⟨(a0, a1), h⟩) (fun a0 => c_p_shown.cal hr (by decide) fun vs H Q E h => ⟨(a0), h⟩) hst hfr hpa i
theorem sc_l_earlier : FnScope N_l_earlier ["_law_script", "_law_many_here", "_law_ring"] (defScope s_l_earlier) := ⟨rfl, rfl, rfl, by decide +kernel, rfl, by decide +kernel, by decide +kernel⟩
def sp_l_earlier (C : Cf) : Sp := fun vs H Q E => ∃ i : List Int × Int × Int, spM C [D.scr i.1, dI i.2.1, dI i.2.2] ((m_l_earlier i.1 i.2.1 i.2.2).map fun r : (List (List Int)) => RM.nrz ((dL (dL dI)) r)) vs H Q E
theorem ok_l_earlier {P : Program} {w : World} {K : PySem.W.Frag} {mg : Str → Option Value} {base : Heap} {C : Cf} {f : Addr} {fd : FuncData} (F : Fun K "_law_earlier" "_law_earlier" s_l_earlier f fd) (hK : C.K = K) (bt : Bt mg) (T : Txt C K mg)
    (c_l_cell_at : Cld P w K mg base 1 "_law_cell_at" (sp_l_cell_at C))
    (c_l_mixed : Cld P w K mg base 1 "_law_mixed" (sp_l_mixed C)) :
    FnOk P w K mg base (L2N.CX P w) 2 f fd ["_law_script", "_law_many_here", "_law_ring"] (sp_l_earlier C) :=
  fn_walk (N := N_l_earlier) (G := G_l_earlier) (k := 1) (ι := List Int × Int × Int) (ds := fun i => [D.scr i.1, dI i.2.1, dI i.2.2]) (o := fun i => b_l_earlier i.1 i.2.1 i.2.2) (un := (none : Option (List (List Int)))) (ER := fun (i : List Int × Int × Int) (r : (List (List Int))) => RM.nrz ((dL (dL dI)) r)) F sc_l_earlier 10 (by decide +kernel) hK bt (fun _ => rfl) (fun _ _ => trivial) (fun _ r h => nomatch h) fun X Z W e1 e2 e3 e4 e5 hsc ck d hr tk hst hfr i => by
    subst e1 e2 e3 e4 e5
    exact w_l_earlier ck d hsc T tk (fun a0 a1 => c_l_cell_at.cal hr (by decide) fun vs H Q E h => ⟨(a0, a1), h⟩) (fun a0 a1 => c_l_mixed.cal hr (by decide) fun vs H Q E h => ⟨(a0, a1), h⟩) i.1 i.2.1 i.2.2
theorem sc_l_any_rows : FnScope N_l_any_rows ["_law_script", "_law_many_here"] (defScope s_l_any_rows) := ⟨rfl, rfl, rfl, by decide +kernel, rfl, by decide +kernel, by decide +kernel⟩
def sp_l_any_rows (C : Cf) : Sp := fun vs H Q E => ∃ i : List Int × Int, spM C [D.scr i.1, dI i.2] ((m_l_any_rows i.1 i.2).map fun r : (List (List Int)) => RM.nrz ((dL (dL dI)) r)) vs H Q E
theorem ok_l_any_rows {P : Program} {w : World} {K : PySem.W.Frag} {mg : Str → Option Value} {base : Heap} {C : Cf} {f : Addr} {fd : FuncData} (F : Fun K "_law_any_rows" "_law_any_rows" s_l_any_rows f fd) (hK : C.K = K) (bt : Bt mg) (T : Txt C K mg)
    (c_l_cell_at : Cld P w K mg base 1 "_law_cell_at" (sp_l_cell_at C))
    (c_l_mixed : Cld P w K mg base 1 "_law_mixed" (sp_l_mixed C)) :
    FnOk P w K mg base (L2N.CX P w) 2 f fd ["_law_script", "_law_many_here"] (sp_l_any_rows C) :=
  fn_walk (N := N_l_any_rows) (G := G_l_any_rows) (k := 1) (ι := List Int × Int) (ds := fun i => [D.scr i.1, dI i.2]) (o := fun i => b_l_any_rows i.1 i.2) (un := (none : Option (List (List Int)))) (ER := fun (i : List Int × Int) (r : (List (List Int))) => RM.nrz ((dL (dL dI)) r)) F sc_l_any_rows 7 (by decide +kernel) hK bt (fun _ => rfl) (fun _ _ => trivial) (fun _ r h => nomatch h) fun X Z W e1 e2 e3 e4 e5 hsc ck d hr tk hst hfr i => by
    subst e1 e2 e3 e4 e5
    exact w_l_any_rows ck d hsc T tk (fun a0 a1 => c_l_cell_at.cal hr (by decide) fun vs H Q E h => ⟨(a0, a1), h⟩) (fun a0 a1 => c_l_mixed.cal hr (by decide) fun vs H Q E h => ⟨(a0, a1), h⟩) i.1 i.2
theorem sc_l_banded : FnScope N_l_banded ["_law_many_here", "_law_cell"] (defScope s_l_banded) := ⟨rfl, rfl, rfl, by decide +kernel, rfl, by decide +kernel, by decide +kernel⟩
def sp_l_banded (C : Cf) : Sp := fun vs H Q E => ∃ i : Int × Int, spM C [dI i.1, dI i.2] ((m_l_banded i.1 i.2).map fun r : (List (List Int)) => RM.nrz ((dL (dL dI)) r)) vs H Q E
theorem ok_l_banded {P : Program} {w : World} {K : PySem.W.Frag} {mg : Str → Option Value} {base : Heap} {C : Cf} {f : Addr} {fd : FuncData} (F : Fun K "_law_banded" "_law_banded" s_l_banded f fd) (hK : C.K = K) (bt : Bt mg) (T : Txt C K mg) :
    FnOk P w K mg base (L2N.CX P w) 1 f fd ["_law_many_here", "_law_cell"] (sp_l_banded C) :=
  fn_walk (N := N_l_banded) (G := G_l_banded) (k := 0) (ι := Int × Int) (ds := fun i => [dI i.1, dI i.2]) (o := fun i => b_l_banded i.1 i.2) (un := (none : Option (List (List Int)))) (ER := fun (i : Int × Int) (r : (List (List Int))) => RM.nrz ((dL (dL dI)) r)) F sc_l_banded 3 (by decide +kernel) hK bt (fun _ => rfl) (fun _ _ => trivial) (fun _ r h => nomatch h) fun X Z W e1 e2 e3 e4 e5 hsc ck d hr tk hst hfr i => by
    subst e1 e2 e3 e4 e5
    exact w_l_banded ck d hsc T tk  i.1 i.2
theorem sc_l_ringed : FnScope N_l_ringed ["_law_many_here", "_law_cell"] (defScope s_l_ringed) := ⟨rfl, rfl, rfl, by decide +kernel, rfl, by decide +kernel, by decide +kernel⟩
def sp_l_ringed (C : Cf) : Sp := fun vs H Q E => ∃ i : Int × Int, spM C [dI i.1, dI i.2] ((m_l_ringed i.1 i.2).map fun r : (List (List Int)) => RM.nrz ((dL (dL dI)) r)) vs H Q E
theorem ok_l_ringed {P : Program} {w : World} {K : PySem.W.Frag} {mg : Str → Option Value} {base : Heap} {C : Cf} {f : Addr} {fd : FuncData} (F : Fun K "_law_ringed" "_law_ringed" s_l_ringed f fd) (hK : C.K = K) (bt : Bt mg) (T : Txt C K mg) :
    FnOk P w K mg base (L2N.CX P w) 1 f fd ["_law_many_here", "_law_cell"] (sp_l_ringed C) :=
  fn_walk (N := N_l_ringed) (G := G_l_ringed) (k := 0) (ι := Int × Int) (ds := fun i => [dI i.1, dI i.2]) (o := fun i => b_l_ringed i.1 i.2) (un := (none : Option (List (List Int)))) (ER := fun (i : Int × Int) (r : (List (List Int))) => RM.nrz ((dL (dL dI)) r)) F sc_l_ringed 6 (by decide +kernel) hK bt (fun _ => rfl) (fun _ _ => trivial) (fun _ r h => nomatch h) fun X Z W e1 e2 e3 e4 e5 hsc ck d hr tk hst hfr i => by
    subst e1 e2 e3 e4 e5
    exact w_l_ringed ck d hsc T tk  i.1 i.2
theorem sc_l_hubbed : FnScope N_l_hubbed ["_law_many_here", "_law_cell"] (defScope s_l_hubbed) := ⟨rfl, rfl, rfl, by decide +kernel, rfl, by decide +kernel, by decide +kernel⟩
def sp_l_hubbed (C : Cf) : Sp := fun vs H Q E => ∃ i : Int × Int, spM C [dI i.1, dI i.2] ((m_l_hubbed i.1 i.2).map fun r : (List (List Int)) => RM.nrz ((dL (dL dI)) r)) vs H Q E
theorem ok_l_hubbed {P : Program} {w : World} {K : PySem.W.Frag} {mg : Str → Option Value} {base : Heap} {C : Cf} {f : Addr} {fd : FuncData} (F : Fun K "_law_hubbed" "_law_hubbed" s_l_hubbed f fd) (hK : C.K = K) (bt : Bt mg) (T : Txt C K mg) :
    FnOk P w K mg base (L2N.CX P w) 1 f fd ["_law_many_here", "_law_cell"] (sp_l_hubbed C) :=
  fn_walk (N := N_l_hubbed) (G := G_l_hubbed) (k := 0) (ι := Int × Int) (ds := fun i => [dI i.1, dI i.2]) (o := fun i => b_l_hubbed i.1 i.2) (un := (none : Option (List (List Int)))) (ER := fun (i : Int × Int) (r : (List (List Int))) => RM.nrz ((dL (dL dI)) r)) F sc_l_hubbed 3 (by decide +kernel) hK bt (fun _ => rfl) (fun _ _ => trivial) (fun _ r h => nomatch h) fun X Z W e1 e2 e3 e4 e5 hsc ck d hr tk hst hfr i => by
    subst e1 e2 e3 e4 e5
    exact w_l_hubbed ck d hsc T tk  i.1 i.2
theorem sc_l_rows : FnScope N_l_rows ["_law_script", "_law_many_here"] (defScope s_l_rows) := ⟨rfl, rfl, rfl, by decide +kernel, rfl, by decide +kernel, by decide +kernel⟩
def sp_l_rows (C : Cf) : Sp := fun vs H Q E => ∃ i : List Int × Int, spM C [D.scr i.1, dI i.2] ((m_l_rows i.1 i.2).map fun r : (List (List Int)) => RM.nrz ((dL (dL dI)) r)) vs H Q E
theorem ok_l_rows {P : Program} {w : World} {K : PySem.W.Frag} {mg : Str → Option Value} {base : Heap} {C : Cf} {f : Addr} {fd : FuncData} (F : Fun K "_law_rows" "_law_rows" s_l_rows f fd) (hK : C.K = K) (bt : Bt mg) (T : Txt C K mg)
    (c_l_cell_at : Cld P w K mg base 1 "_law_cell_at" (sp_l_cell_at C))
    (c_l_earlier : Cld P w K mg base 2 "_law_earlier" (sp_l_earlier C))
    (c_l_any_rows : Cld P w K mg base 2 "_law_any_rows" (sp_l_any_rows C))
    (c_l_banded : Cld P w K mg base 1 "_law_banded" (sp_l_banded C))
    (c_l_ringed : Cld P w K mg base 1 "_law_ringed" (sp_l_ringed C))
    (c_l_hubbed : Cld P w K mg base 1 "_law_hubbed" (sp_l_hubbed C)) :
    FnOk P w K mg base (L2N.CX P w) 3 f fd ["_law_script", "_law_many_here"] (sp_l_rows C) :=
  fn_walk (N := N_l_rows) (G := G_l_rows) (k := 2) (ι := List Int × Int) (ds := fun i => [D.scr i.1, dI i.2]) (o := fun i => b_l_rows i.1 i.2) (un := (none : Option (List (List Int)))) (ER := fun (i : List Int × Int) (r : (List (List Int))) => RM.nrz ((dL (dL dI)) r)) F sc_l_rows 4 (by decide +kernel) hK bt (fun _ => rfl) (fun _ _ => trivial) (fun _ r h => nomatch h) fun X Z W e1 e2 e3 e4 e5 hsc ck d hr tk hst hfr i => by
    subst e1 e2 e3 e4 e5
    exact w_l_rows ck d hsc T tk (fun a0 a1 => c_l_cell_at.cal hr (by decide) fun vs H Q E h => ⟨(a0, a1), h⟩) (fun a0 a1 a2 => c_l_earlier.cal hr (by decide) fun vs H Q E h => ⟨(a0, a1, a2), h⟩) (fun a0 a1 => c_l_any_rows.cal hr (by decide) fun vs H Q E h => ⟨(a0, a1), h⟩) (fun a0 a1 => c_l_banded.cal hr (by decide) fun vs H Q E h => ⟨(a0, a1), h⟩) (fun a0 a1 => c_l_ringed.cal hr (by decide) fun vs H Q E h => ⟨(a0, a1), h⟩) (fun a0 a1 => c_l_hubbed.cal hr (by decide) fun vs H Q E h => ⟨(a0, a1), h⟩) i.1 i.2
theorem sc_p_Web_need : FnScope N_p_Web_need ["self", "point"] (defScope s_p_Web_need) := ⟨rfl, rfl, rfl, by decide +kernel, rfl, by decide +kernel, by decide +kernel⟩
def sp_p_Web_need (C : Cf) : Sp := fun vs H Q E => ∃ i : Web × Int, spM C [dW i.1, dI i.2] ((m_p_Web_need i.1 i.2).map fun r : Int => RM.frz (dI r)) vs H Q E
theorem ok_p_Web_need {P : Program} {w : World} {K : PySem.W.Frag} {mg : Str → Option Value} {base : Heap} {C : Cf} {f : Addr} {fd : FuncData} (F : Fun K "need" "Web.need" s_p_Web_need f fd) (hK : C.K = K) (bt : Bt mg) (T : Txt C K mg) :
    FnOk P w K mg base (L2N.CX P w) 1 f fd ["self", "point"] (sp_p_Web_need C) :=
  fn_walk (N := N_p_Web_need) (G := G_p_Web_need) (k := 0) (ι := Web × Int) (ds := fun i => [dW i.1, dI i.2]) (o := fun i => b_p_Web_need i.1 i.2) (un := (none : Option Int)) (ER := fun (i : Web × Int) (r : Int) => RM.frz (dI r)) F sc_p_Web_need 2 (by decide +kernel) hK bt (fun _ => rfl) (fun _ r => (fun _ => Flat.sc) r) (fun _ r h => nomatch h) fun X Z W e1 e2 e3 e4 e5 hsc ck d hr tk hst hfr i => by
    subst e1 e2 e3 e4 e5
    exact w_p_Web_need ck d hsc T tk  i.1 i.2
theorem sc_p_Web_beside : FnScope N_p_Web_beside ["self", "point"] (defScope s_p_Web_beside) := ⟨rfl, rfl, rfl, by decide +kernel, rfl, by decide +kernel, by decide +kernel⟩
def sp_p_Web_beside (C : Cf) : Sp := fun vs H Q E => ∃ i : Web × Int, spM C [dW i.1, dI i.2] ((m_p_Web_beside i.1 i.2).map fun r : (List Int) => RM.new ((oL (zz dI)) r)) vs H Q E
theorem ok_p_Web_beside {P : Program} {w : World} {K : PySem.W.Frag} {mg : Str → Option Value} {base : Heap} {C : Cf} {f : Addr} {fd : FuncData} (F : Fun K "beside" "Web.beside" s_p_Web_beside f fd) (hK : C.K = K) (bt : Bt mg) (T : Txt C K mg)
    (c_p_Web_need : Mtd C P w K mg base 1 0 "need" (sp_p_Web_need C)) :
    FnOk P w K mg base (L2N.CX P w) 2 f fd ["self", "point"] (sp_p_Web_beside C) :=
  fn_walk (N := N_p_Web_beside) (G := G_p_Web_beside) (k := 1) (ι := Web × Int) (ds := fun i => [dW i.1, dI i.2]) (o := fun i => b_p_Web_beside i.1 i.2) (un := (none : Option (List Int))) (ER := fun (i : Web × Int) (r : (List Int)) => RM.new ((oL (zz dI)) r)) F sc_p_Web_beside 2 (by decide +kernel) hK bt (fun _ => rfl) (fun _ r => (fu_L (fu_z (fun _ => Flat.sc))) r) (fun _ r h => nomatch h) fun X Z W e1 e2 e3 e4 e5 hsc ck d hr tk hst hfr i => by
    subst e1 e2 e3 e4 e5
    exact w_p_Web_beside ck d hsc T tk (fun a0 a1 => c_p_Web_need.met hr (by decide) fun vs H Q E h => ⟨(a0, a1), h⟩) i.1 i.2
theorem sc_l_whole : FnScope N_l_whole ["_law_found"] (defScope s_l_whole) := ⟨rfl, rfl, rfl, by decide +kernel, rfl, by decide +kernel, by decide +kernel⟩
def sp_l_whole (C : Cf) : Sp := fun vs H Q E => ∃ i : Int, spM C [dI i] ((m_l_whole i).map fun r : Bool => RM.frz (dB r)) vs H Q E
theorem ok_l_whole {P : Program} {w : World} {K : PySem.W.Frag} {mg : Str → Option Value} {base : Heap} {C : Cf} {f : Addr} {fd : FuncData} (F : Fun K "_law_whole" "_law_whole" s_l_whole f fd) (hK : C.K = K) (bt : Bt mg) (T : Txt C K mg) :
    FnOk P w K mg base (L2N.CX P w) 1 f fd ["_law_found"] (sp_l_whole C) :=
  fn_walk (N := N_l_whole) (G := G_l_whole) (k := 0) (ι := Int) (ds := fun i => [dI i]) (o := fun i => b_l_whole i) (un := (none : Option Bool)) (ER := fun (i : Int) (r : Bool) => RM.frz (dB r)) F sc_l_whole 1 (by decide +kernel) hK bt (fun _ => rfl) (fun _ r => (fun _ => Flat.sc) r) (fun _ r h => nomatch h) fun X Z W e1 e2 e3 e4 e5 hsc ck d hr tk hst hfr i => by
    subst e1 e2 e3 e4 e5
    exact w_l_whole ck d hsc T tk  i
theorem sc_l_pairs : FnScope N_l_pairs ["_law_found", "_law_due"] (defScope s_l_pairs) := ⟨rfl, rfl, rfl, by decide +kernel, rfl, by decide +kernel, by decide +kernel⟩
def sp_l_pairs (C : Cf) : Sp := fun vs H Q E => ∃ i : (List (Int × Int)) × (List (Int × Int)), spM C [(dL (dP dI dI)) i.1, (dL (dP dI dI)) i.2] ((m_l_pairs i.1 i.2).map fun r : Bool => RM.frz (dB r)) vs H Q E
theorem ok_l_pairs {P : Program} {w : World} {K : PySem.W.Frag} {mg : Str → Option Value} {base : Heap} {C : Cf} {f : Addr} {fd : FuncData} (F : Fun K "_law_pairs" "_law_pairs" s_l_pairs f fd) (hK : C.K = K) (bt : Bt mg) (T : Txt C K mg)
    (c_l_whole : Cld P w K mg base 1 "_law_whole" (sp_l_whole C)) :
    FnOk P w K mg base (L2N.CX P w) 2 f fd ["_law_found", "_law_due"] (sp_l_pairs C) :=
  fn_walk (N := N_l_pairs) (G := G_l_pairs) (k := 1) (ι := (List (Int × Int)) × (List (Int × Int))) (ds := fun i => [(dL (dP dI dI)) i.1, (dL (dP dI dI)) i.2]) (o := fun i => b_l_pairs i.1 i.2) (un := (none : Option Bool)) (ER := fun (i : (List (Int × Int)) × (List (Int × Int))) (r : Bool) => RM.frz (dB r)) F sc_l_pairs 3 (by decide +kernel) hK bt (fun _ => rfl) (fun _ r => (fun _ => Flat.sc) r) (fun _ r h => nomatch h) fun X Z W e1 e2 e3 e4 e5 hsc ck d hr tk hst hfr i => by
    subst e1 e2 e3 e4 e5
    exact w_l_pairs ck d hsc T tk (fun a0 => c_l_whole.cal hr (by decide) fun vs H Q E h => ⟨(a0), h⟩) i.1 i.2
theorem sc_l_refused : FnScope N_l_refused ["_law_text"] (defScope s_l_refused) := ⟨rfl, rfl, rfl, by decide +kernel, rfl, by decide +kernel, by decide +kernel⟩
def sp_l_refused (C : Cf) : Sp := fun vs H Q E => ∃ i : Str, spM C [dS i] ((m_l_refused i).map fun r : Bool => RM.frz (dB r)) vs H Q E
theorem ok_l_refused {P : Program} {w : World} {K : PySem.W.Frag} {mg : Str → Option Value} {base : Heap} {C : Cf} {f : Addr} {fd : FuncData} (F : Fun K "_law_refused" "_law_refused" s_l_refused f fd) (hK : C.K = K) (bt : Bt mg) (T : Txt C K mg)
    (c_p_read : Cldx P w K mg base 4 "read" (sp_p_read C)) :
    FnOk P w K mg base (L2N.CX P w) 5 f fd ["_law_text"] (sp_l_refused C) :=
  fn_walk (N := N_l_refused) (G := G_l_refused) (k := 4) (ι := Str) (ds := fun i => [dS i]) (o := fun i => b_l_refused i) (un := (none : Option Bool)) (ER := fun (i : Str) (r : Bool) => RM.frz (dB r)) F sc_l_refused 2 (by decide +kernel) hK bt (fun _ => rfl) (fun _ r => (fun _ => Flat.sc) r) (fun _ r h => nomatch h) fun X Z W e1 e2 e3 e4 e5 hsc ck d hr tk hst hfr i => by
    subst e1 e2 e3 e4 e5
    exact w_l_refused ck d hsc T tk (fun a0 => c_p_read.cal hr (by decide) fun vs H Q E h => ⟨(a0), h⟩) hst hfr i
theorem sc_l_by_base : FnScope N_l_by_base ["_law_text"] (defScope s_l_by_base) := ⟨rfl, rfl, rfl, by decide +kernel, rfl, by decide +kernel, by decide +kernel⟩
def sp_l_by_base (C : Cf) : Sp := fun vs H Q E => ∃ i : Str, spM C [dS i] ((m_l_by_base i).map fun r : Bool => RM.frz (dB r)) vs H Q E
theorem ok_l_by_base {P : Program} {w : World} {K : PySem.W.Frag} {mg : Str → Option Value} {base : Heap} {C : Cf} {f : Addr} {fd : FuncData} (F : Fun K "_law_by_base" "_law_by_base" s_l_by_base f fd) (hK : C.K = K) (bt : Bt mg) (T : Txt C K mg)
    (c_p_read : Cldx P w K mg base 4 "read" (sp_p_read C)) :
    FnOk P w K mg base (L2N.CX P w) 5 f fd ["_law_text"] (sp_l_by_base C) :=
  fn_walk (N := N_l_by_base) (G := G_l_by_base) (k := 4) (ι := Str) (ds := fun i => [dS i]) (o := fun i => b_l_by_base i) (un := (none : Option Bool)) (ER := fun (i : Str) (r : Bool) => RM.frz (dB r)) F sc_l_by_base 2 (by decide +kernel) hK bt (fun _ => rfl) (fun _ r => (fun _ => Flat.sc) r) (fun _ r h => nomatch h) fun X Z W e1 e2 e3 e4 e5 hsc ck d hr tk hst hfr i => by
    subst e1 e2 e3 e4 e5
    exact w_l_by_base ck d hsc T tk (fun a0 => c_p_read.cal hr (by decide) fun vs H Q E h => ⟨(a0), h⟩) hst hfr i
theorem sc_l_numbers : FnScope N_l_numbers ["_law_found", "_law_due"] (defScope s_l_numbers) := ⟨rfl, rfl, rfl, by decide +kernel, rfl, by decide +kernel, by decide +kernel⟩
def sp_l_numbers (C : Cf) : Sp := fun vs H Q E => ∃ i : (List Int) × (List Int), spM C [(dL dI) i.1, (dL dI) i.2] ((m_l_numbers i.1 i.2).map fun r : Bool => RM.frz (dB r)) vs H Q E
theorem ok_l_numbers {P : Program} {w : World} {K : PySem.W.Frag} {mg : Str → Option Value} {base : Heap} {C : Cf} {f : Addr} {fd : FuncData} (F : Fun K "_law_numbers" "_law_numbers" s_l_numbers f fd) (hK : C.K = K) (bt : Bt mg) (T : Txt C K mg)
    (c_l_whole : Cld P w K mg base 1 "_law_whole" (sp_l_whole C)) :
    FnOk P w K mg base (L2N.CX P w) 2 f fd ["_law_found", "_law_due"] (sp_l_numbers C) :=
  fn_walk (N := N_l_numbers) (G := G_l_numbers) (k := 1) (ι := (List Int) × (List Int)) (ds := fun i => [(dL dI) i.1, (dL dI) i.2]) (o := fun i => b_l_numbers i.1 i.2) (un := (none : Option Bool)) (ER := fun (i : (List Int) × (List Int)) (r : Bool) => RM.frz (dB r)) F sc_l_numbers 3 (by decide +kernel) hK bt (fun _ => rfl) (fun _ r => (fun _ => Flat.sc) r) (fun _ r h => nomatch h) fun X Z W e1 e2 e3 e4 e5 hsc ck d hr tk hst hfr i => by
    subst e1 e2 e3 e4 e5
    exact w_l_numbers ck d hsc T tk (fun a0 => c_l_whole.cal hr (by decide) fun vs H Q E h => ⟨(a0), h⟩) i.1 i.2
theorem sc_p_Web_tied : FnScope N_p_Web_tied ["self", "one", "other"] (defScope s_p_Web_tied) := ⟨rfl, rfl, rfl, by decide +kernel, rfl, by decide +kernel, by decide +kernel⟩
def sp_p_Web_tied (C : Cf) : Sp := fun vs H Q E => ∃ i : Web × Int × Int, spM C [dW i.1, dI i.2.1, dI i.2.2] ((m_p_Web_tied i.1 i.2.1 i.2.2).map fun r : Bool => RM.frz (dB r)) vs H Q E
theorem ok_p_Web_tied {P : Program} {w : World} {K : PySem.W.Frag} {mg : Str → Option Value} {base : Heap} {C : Cf} {f : Addr} {fd : FuncData} (F : Fun K "tied" "Web.tied" s_p_Web_tied f fd) (hK : C.K = K) (bt : Bt mg) (T : Txt C K mg)
    (c_p_Web_need : Mtd C P w K mg base 1 0 "need" (sp_p_Web_need C)) :
    FnOk P w K mg base (L2N.CX P w) 2 f fd ["self", "one", "other"] (sp_p_Web_tied C) :=
  fn_walk (N := N_p_Web_tied) (G := G_p_Web_tied) (k := 1) (ι := Web × Int × Int) (ds := fun i => [dW i.1, dI i.2.1, dI i.2.2]) (o := fun i => b_p_Web_tied i.1 i.2.1 i.2.2) (un := (none : Option Bool)) (ER := fun (i : Web × Int × Int) (r : Bool) => RM.frz (dB r)) F sc_p_Web_tied 3 (by decide +kernel) hK bt (fun _ => rfl) (fun _ r => (fun _ => Flat.sc) r) (fun _ r h => nomatch h) fun X Z W e1 e2 e3 e4 e5 hsc ck d hr tk hst hfr i => by
    subst e1 e2 e3 e4 e5
    exact w_p_Web_tied ck d hsc T tk (fun a0 a1 => c_p_Web_need.met hr (by decide) fun vs H Q E h => ⟨(a0, a1), h⟩) i.1 i.2.1 i.2.2
theorem sc_l_no_point : FnScope N_l_no_point ["_law_web", "_law_many_here", "_law_kind"] (defScope s_l_no_point) := ⟨rfl, rfl, rfl, by decide +kernel, rfl, by decide +kernel, by decide +kernel⟩
def sp_l_no_point (C : Cf) : Sp := fun vs H Q E => ∃ i : Web × Int × Int, spM C [dW i.1, dI i.2.1, dI i.2.2] ((m_l_no_point i.1 i.2.1 i.2.2).map fun r : Bool => RM.frz (dB r)) vs H Q E
theorem ok_l_no_point {P : Program} {w : World} {K : PySem.W.Frag} {mg : Str → Option Value} {base : Heap} {C : Cf} {f : Addr} {fd : FuncData} (F : Fun K "_law_no_point" "_law_no_point" s_l_no_point f fd) (hK : C.K = K) (bt : Bt mg) (T : Txt C K mg)
    (c_p_Web_beside : Mtd C P w K mg base 2 0 "beside" (sp_p_Web_beside C))
    (c_p_Web_tied : Mtd C P w K mg base 2 0 "tied" (sp_p_Web_tied C)) :
    FnOk P w K mg base (L2N.CX P w) 3 f fd ["_law_web", "_law_many_here", "_law_kind"] (sp_l_no_point C) :=
  fn_walk (N := N_l_no_point) (G := G_l_no_point) (k := 2) (ι := Web × Int × Int) (ds := fun i => [dW i.1, dI i.2.1, dI i.2.2]) (o := fun i => b_l_no_point i.1 i.2.1 i.2.2) (un := (none : Option Bool)) (ER := fun (i : Web × Int × Int) (r : Bool) => RM.frz (dB r)) F sc_l_no_point 3 (by decide +kernel) hK bt (fun _ => rfl) (fun _ r => (fun _ => Flat.sc) r) (fun _ r h => nomatch h) fun X Z W e1 e2 e3 e4 e5 hsc ck d hr tk hst hfr i => by
    subst e1 e2 e3 e4 e5
    exact w_l_no_point ck d hsc T tk (fun a0 a1 => c_p_Web_beside.met hr (by decide) fun vs H Q E h => ⟨(a0, a1), h⟩) (fun a0 a1 a2 => c_p_Web_tied.met hr (by decide) fun vs H Q E h => ⟨(a0, a1, a2), h⟩) hst hfr i.1 i.2.1 i.2.2
theorem sc_l_law : FnScope N_l_law ["_law_script"] (defScope s_l_law) := ⟨rfl, rfl, rfl, by decide +kernel, rfl, by decide +kernel, by decide +kernel⟩
def sp_l_law (C : Cf) : Sp := fun vs H Q E => ∃ i : List Int, spM C [D.scr i] ((m_l_law i).map fun r : Bool => RM.frz (dB r)) vs H Q E
theorem ok_l_law {P : Program} {w : World} {K : PySem.W.Frag} {mg : Str → Option Value} {base : Heap} {C : Cf} {f : Addr} {fd : FuncData} (F : Fun K "law" "law" s_l_law f fd) (hK : C.K = K) (bt : Bt mg) (T : Txt C K mg)
    (c_l_many : Cld P w K mg base 2 "_law_many" (sp_l_many C))
    (c_l_rows : Cld P w K mg base 3 "_law_rows" (sp_l_rows C))
    (c_l_ties : Cld P w K mg base 3 "_law_ties" (sp_l_ties C))
    (c_l_near : Cld P w K mg base 1 "_law_near" (sp_l_near C))
    (c_p_web_of : Cld P w K mg base 3 "web_of" (sp_p_web_of C))
    (c_p_shown : Cld P w K mg base 2 "shown" (sp_p_shown C))
    (c_l_shown : Cld P w K mg base 1 "_law_shown" (sp_l_shown C))
    (c_l_cell_at : Cld P w K mg base 1 "_law_cell_at" (sp_l_cell_at C))
    (c_l_mixed : Cld P w K mg base 1 "_law_mixed" (sp_l_mixed C))
    (c_l_text_by : Cld P w K mg base 2 "_law_text_by" (sp_l_text_by C))
    (c_l_read : Cld P w K mg base 2 "_law_read" (sp_l_read C))
    (c_l_refused : Cld P w K mg base 5 "_law_refused" (sp_l_refused C))
    (c_l_by_base : Cld P w K mg base 5 "_law_by_base" (sp_l_by_base C))
    (c_p_read : Cldx P w K mg base 4 "read" (sp_p_read C))
    (c_l_whole : Cld P w K mg base 1 "_law_whole" (sp_l_whole C))
    (c_p_Web_beside : Mtd C P w K mg base 2 0 "beside" (sp_p_Web_beside C))
    (c_l_numbers : Cld P w K mg base 2 "_law_numbers" (sp_l_numbers C))
    (c_p_Web_tied : Mtd C P w K mg base 2 0 "tied" (sp_p_Web_tied C))
    (c_l_no_point : Cld P w K mg base 3 "_law_no_point" (sp_l_no_point C))
    (c_p_Web_ties : Mtd C P w K mg base 1 0 "ties" (sp_p_Web_ties C))
    (c_l_pairs : Cld P w K mg base 2 "_law_pairs" (sp_l_pairs C)) :
    FnOk P w K mg base (L2N.CX P w) 6 f fd ["_law_script"] (sp_l_law C) :=
  fn_walk (N := N_l_law) (G := G_l_law) (k := 5) (ι := List Int) (ds := fun i => [D.scr i]) (o := fun i => b_l_law i) (un := (none : Option Bool)) (ER := fun (i : List Int) (r : Bool) => RM.frz (dB r)) F sc_l_law 13 (by decide +kernel) hK bt (fun _ => rfl) (fun _ r => (fun _ => Flat.sc) r) (fun _ r h => nomatch h) fun X Z W e1 e2 e3 e4 e5 hsc ck d hr tk hst hfr i => by
    subst e1 e2 e3 e4 e5
    exact w_l_law ck d hsc T tk (fun a0 => c_l_many.cal hr (by decide) fun vs H Q E h => ⟨(a0), h⟩) (fun a0 a1 => c_l_rows.cal hr (by decide) fun vs H Q E h => ⟨(a0, a1), h⟩) (fun a0 a1 a2 => c_l_ties.cal hr (by decide) fun vs H Q E h => ⟨(a0, a1, a2), h⟩) (fun a0 a1 => c_l_near.cal hr (by decide) fun vs H Q E h => ⟨(a0, a1), h⟩) (fun a0 a1 => c_p_web_of.cal hr (by decide) fun vs H Q E h => ⟨(a0, a1), h⟩) (fun a0 => c_p_shown.cal hr (by decide) fun vs H Q E h => ⟨(a0), h⟩) (fun a0 a1 => c_l_shown.cal hr (by decide) fun vs H Q E h => ⟨(a0, a1), h⟩) (fun a0 a1 => c_l_cell_at.cal hr (by decide) fun vs H Q E h => ⟨(a0, a1), h⟩) (fun a0 a1 => c_l_mixed.cal hr (by decide) fun vs H Q E h => ⟨(a0, a1), h⟩) (fun a0 a1 a2 => c_l_text_by.cal hr (by decide) fun vs H Q E h => ⟨(a0, a1, a2), h⟩) (fun a0 => c_l_read.cal hr (by decide) fun vs H Q E h => ⟨(a0), h⟩) (fun a0 => c_l_refused.cal hr (by decide) fun vs H Q E h => ⟨(a0), h⟩) (fun a0 => c_l_by_base.cal hr (by decide) fun vs H Q E h => ⟨(a0), h⟩) (fun a0 => c_p_read.cal hr (by decide) fun vs H Q E h => ⟨(a0), h⟩) (fun a0 => c_l_whole.cal hr (by decide) fun vs H Q E h => ⟨(a0), h⟩) (fun a0 a1 => c_p_Web_beside.met hr (by decide) fun vs H Q E h => ⟨(a0, a1), h⟩) (fun a0 a1 => c_l_numbers.cal hr (by decide) fun vs H Q E h => ⟨(a0, a1), h⟩) (fun a0 a1 a2 => c_p_Web_tied.met hr (by decide) fun vs H Q E h => ⟨(a0, a1, a2), h⟩) (fun a0 a1 a2 => c_l_no_point.cal hr (by decide) fun vs H Q E h => ⟨(a0, a1, a2), h⟩) (fun a0 => c_p_Web_ties.met hr (by decide) fun vs H Q E h => ⟨(a0), h⟩) (fun a0 a1 => c_l_pairs.cal hr (by decide) fun vs H Q E h => ⟨(a0, a1), h⟩) i
end VL

set_option Elab.async false
set_option linter.all false
set_option maxHeartbeats 1000000
/-! MA0: the plain law's tools: what a block satisfies; lists. -/
namespace VL
open PySem L2

def Fl.Sat {S R : Type} (P : S → Prop) (Q : R → Prop) (E : Nat → Prop) : Fl S R → Prop
  | .nx s => P s
  | .rt r => Q r
  | .exc c => E c
  | .bad => False
def Res.Sat {R : Type} (Q : R → Prop) (E : Nat → Prop) : Res R → Prop
  | .ok r => Q r
  | .exc c => E c
  | .bad => False
def noE : Nat → Prop := fun _ => False
section
variable {S S' R α β γ : Type} {P : S → Prop} {Q : R → Prop} {E : Nat → Prop}
theorem sat_nx {s : S} (h : P s) : (Fl.nx s : Fl S R).Sat P Q E := h
theorem sat_rt {r : R} (h : Q r) : (Fl.rt r : Fl S R).Sat P Q E := h
theorem sat_exc {c : Nat} (h : E c) : (Fl.exc c : Fl S R).Sat P Q E := h
theorem sat_req {o : Option α} {k : α → Fl S R} {a : α} (h : o = some a) (hk : (k a).Sat P Q E) : (Fl.req o k).Sat P Q E := by subst h; exact hk
theorem sat_get {r : Res α} {k : α → Fl S R} {T : α → Prop} (h : r.Sat T noE) (hk : ∀ a, T a → (k a).Sat P Q E) : (Fl.req r.get k).Sat P Q E := by
  cases r with
  | ok a => exact hk a h
  | exc c => exact h.elim
  | bad => exact h.elim
theorem sat_getv {r : Res α} {k : α → Fl S R} {v : α} (h : r = .ok v) (hk : (k v).Sat P Q E) : (Fl.req r.get k).Sat P Q E := by subst h; exact hk
theorem sat_run {r : Res α} {k : α → Fl S R} {T : α → Prop} (h : r.Sat T E) (hk : ∀ a, T a → (k a).Sat P Q E) : (Fl.run r k).Sat P Q E := by
  cases r with
  | ok a => exact hk a h
  | exc c => exact h
  | bad => exact h.elim
theorem sat_runv {r : Res α} {k : α → Fl S R} {v : α} (h : r = .ok v) (hk : (k v).Sat P Q E) : (Fl.run r k).Sat P Q E := by subst h; exact hk
theorem sat_chk {p : Prop} {k : Fl S R} (hp : p) (hk : k.Sat P Q E) : (Fl.chk p k).Sat P Q E := by unfold Fl.chk; rw [if_pos hp]; exact hk
theorem sat_lt {v : α} {k : α → Fl S R} (hk : (k v).Sat P Q E) : (Fl.lt v k).Sat P Q E := hk
theorem sat_app {xs : List α} {v : α} {k : List α → Fl S R} (h : xs.length < sizeLine) (hk : (k (xs ++ [v])).Sat P Q E) : (Fl.app xs v k).Sat P Q E := by exact sat_chk h hk
theorem sat_if {z : Bool} {a b : Fl S R} (h1 : z = true → a.Sat P Q E) (h2 : z = false → b.Sat P Q E) : (if z = true then a else b).Sat P Q E := by
  cases z with
  | true => exact h1 rfl
  | false => exact h2 rfl
theorem sat_bind {o : Fl S' R} {k : S' → Fl S R} (h : o.Sat (fun s => (k s).Sat P Q E) Q E) : (o.bind k).Sat P Q E := by cases o <;> exact h
theorem sat_mono {P' : S → Prop} {Q' : R → Prop} {o : Fl S R} (h : o.Sat P' Q' E) (hp : ∀ s, P' s → P s) (hq : ∀ r, Q' r → Q r) : o.Sat P Q E := by
  cases o with
  | nx s => exact hp s h
  | rt r => exact hq r h
  | exc c => exact h
  | bad => exact h
theorem sat_for {f : S → α → Fl S R} {xs : List α} {s0 : S} (Inv : Nat → S → Prop) (h0 : Inv 0 s0) (hf : ∀ (i : Nat) (h : i < xs.length) (s : S), Inv i s → (f s xs[i]).Sat (Inv (i + 1)) Q E) (hl : ∀ s, Inv xs.length s → P s) : (forF f xs s0).Sat P Q E := by
  induction xs generalizing s0 Inv with
  | nil => exact hl s0 h0
  | cons x xs ih =>
    unfold forF
    refine sat_bind (sat_mono (hf 0 (Nat.zero_lt_succ _) s0 h0) (fun s hs => ?_) fun _ q => q)
    exact ih (fun i => Inv (i + 1)) hs (fun i h s hi => hf (i + 1) (Nat.succ_lt_succ h) s hi) hl
theorem sat_res {o : Fl Unit R} {un : Option R} (h : o.Sat (fun _ => ∃ r, un = some r ∧ Q r) Q E) : (o.res un).Sat Q E := by
  cases o with
  | nx s => obtain ⟨r, e, q⟩ := h; subst e; exact q
  | rt r => exact h
  | exc c => exact h
  | bad => exact h
theorem sat_resn {o : Fl Unit R} {un : Option R} (h : o.Sat (fun _ => False) Q E) : (o.res un).Sat Q E := sat_res (sat_mono h (fun _ q => q.elim) fun _ q => q)
theorem Res.Sat.mono {Q' : R → Prop} {r : Res R} (h : r.Sat Q' E) (hq : ∀ x, Q' x → Q x) : r.Sat Q E := by
  cases r with
  | ok x => exact hq x h
  | exc c => exact h
  | bad => exact h
theorem Res.Sat.eq {r : Res R} {v : R} (h : r.Sat (· = v) noE) : r = .ok v := by
  cases r with
  | ok x => exact congrArg _ h
  | exc c => exact h.elim
  | bad => exact h.elim
theorem Res.Sat.ex {r : Res R} (h : r.Sat Q noE) : ∃ v, r = .ok v ∧ Q v := by
  cases r with
  | ok x => exact ⟨x, rfl, h⟩
  | exc c => exact h.elim
  | bad => exact h.elim
theorem Res.sat_of {r : Res R} {v : R} (h : r = .ok v) (q : Q v) : r.Sat Q E := by subst h; exact q

/-! lists -/
theorem atI_ok {xs : List α} {i : Int} (h0 : 0 ≤ i) (h1 : i < xs.length) : atI xs i = some (xs[i.toNat]'(by omega)) := by
  unfold atI ixN
  rw [if_pos h0, if_pos h1]
  show xs[i.toNat]? = _
  rw [List.getElem?_eq_getElem]
theorem atI_nat {xs : List α} {i : Nat} (h : i < xs.length) : atI xs (i : Int) = some xs[i] := by
  rw [atI_ok (by omega) (by omega)]
  simp
theorem atI_neg1 {xs : List α} (h : 0 < xs.length) : atI xs (-1) = some (xs[xs.length - 1]'(by omega)) := by
  unfold atI ixN
  rw [if_neg (by omega), if_pos (by omega)]
  show xs[(-1 + (xs.length : Int)).toNat]? = _
  rw [show (-1 + (xs.length : Int)).toNat = xs.length - 1 by omega, List.getElem?_eq_getElem]
theorem compO_eq {p : α → Option Bool} {f : α → Option β} (p' : α → Bool) (f' : α → β) : ∀ {xs : List α}, (∀ x ∈ xs, p x = some (p' x)) → (∀ x ∈ xs, p' x = true → f x = some (f' x)) → compO p f xs = some ((xs.filter p').map f')
  | [], _, _ => rfl
  | x :: xs, hp, hf => by
    unfold compO
    rw [hp x (by simp), compO_eq p' f' (fun y hy => hp y (by simp [hy])) fun y hy => hf y (by simp [hy])]
    cases h : p' x with
    | true => rw [hf x (by simp) h]; simp [h]
    | false => simp [h]
theorem compO_map {f : α → Option β} (f' : α → β) {xs : List α} (hf : ∀ x ∈ xs, f x = some (f' x)) : compO (fun _ => some true) f xs = some (xs.map f') := by
  rw [compO_eq (fun _ => true) f' (fun _ _ => rfl) fun x hx _ => hf x hx, List.filter_eq_self.mpr (by simp)]
theorem rangeI_mem {a b x : Int} : x ∈ rangeI a b ↔ a ≤ x ∧ x < b := by
  unfold rangeI
  simp only [List.mem_map, List.mem_range]
  constructor
  · rintro ⟨i, h, rfl⟩
    omega
  · intro h
    exact ⟨(x - a).toNat, by omega, by omega⟩
theorem rangeI_at {a b : Int} {i : Nat} (h : i < (rangeI a b).length) : (rangeI a b)[i] = a + i := by
  have h' : i < (b - a).toNat := by rw [rangeI_length] at h; exact h
  have q := rangeI_get (a := a) h'
  rw [List.getElem?_eq_getElem h] at q
  exact Option.some.inj q
theorem rangeI_nodup (a b : Int) : (rangeI a b).Nodup := by
  unfold rangeI
  refine List.Pairwise.map _ (fun x y h e => h ?_) List.nodup_range
  omega
theorem rg_ok {a b : Int} (h1 : -1000000 ≤ a) (h2 : a ≤ 1000000) (h3 : -1000000 ≤ b) (h4 : b ≤ 1000000) : RgOk a b := by
  unfold RgOk
  omega
theorem cdiv_ok {a b : Int} (h1 : 0 < b) (h2 : b ≤ 1000000) : CDiv a b := by unfold CDiv; omega
theorem cut_from {xs : List α} {k : Int} (h : 0 ≤ k) : cut xs (some k) none = xs.drop k.toNat := by
  unfold cut HT.sIx
  simp only
  rw [if_neg (by omega)]
  by_cases h1 : k.toNat ≤ xs.length
  · rw [Nat.min_eq_left h1]
    exact List.take_of_length_le (by simp)
  · rw [Nat.min_eq_right (by omega), List.drop_of_length_le (Nat.le_refl _), List.drop_of_length_le (by omega)]
    simp
theorem cut_to {xs : List α} {k : Int} (h : 0 ≤ k) : cut xs none (some k) = xs.take k.toNat := by
  unfold cut HT.sIx
  simp only
  rw [if_neg (by omega), List.drop_zero, Nat.sub_zero]
  by_cases h1 : k.toNat ≤ xs.length
  · rw [Nat.min_eq_left h1]
  · rw [Nat.min_eq_right (by omega), List.take_of_length_le (Nat.le_refl _), List.take_of_length_le (by omega)]
theorem cut_len {xs : List α} {l u : Option Int} : (cut xs l u).length ≤ xs.length := by
  unfold cut
  rw [List.length_take, List.length_drop]
  omega
theorem cut_mem {xs : List α} {l u : Option Int} {x : α} (h : x ∈ cut xs l u) : x ∈ xs := List.mem_of_mem_drop (List.mem_of_mem_take h)
theorem repL_mem {k : Nat} {xs : List α} {x : α} (h : x ∈ repL k xs) : x ∈ xs := by
  unfold repL at h
  simp only [List.mem_flatten, List.mem_replicate] at h
  obtain ⟨l, ⟨_, rfl⟩, h⟩ := h
  exact h
theorem repL_len {k : Nat} {xs : List α} : (repL k xs).length = k * xs.length := by
  unfold repL
  simp
theorem setI_ok {xs : List α} {m : Int} {v : α} (h0 : 0 ≤ m) (h1 : m < xs.length) : setI? xs m v = some (xs.set m.toNat v) := by
  unfold setI? ixN
  rw [if_pos h0, if_pos h1]
  exact ifO_pos (by omega)
theorem appI_ok {xss : List (List α)} {m : Int} {v : α} (h0 : 0 ≤ m) (h1 : m < xss.length) (h2 : (xss[m.toNat]'(by omega)).length < sizeLine) : appI? xss m v = some (xss.set m.toNat ((xss[m.toNat]'(by omega)) ++ [v])) := by
  unfold appI? ixN
  rw [if_pos h0, if_pos h1]
  show ((xss[m.toNat]?).bind fun ys => ifO (ys.length < sizeLine) (some (xss.set m.toNat (ys ++ [v])))) = _
  rw [List.getElem?_eq_getElem (by omega)]
  exact ifO_pos h2
theorem ext_ok {xs ys : List α} (h : xs.length + ys.length ≤ sizeLine) : ext? xs ys = some (xs ++ ys) := by unfold ext?; exact ifO_pos h
theorem size_ge : (1000000 : Nat) ≤ sizeLine := by decide
/-- how many are different -/
theorem ndist_iff (xs : List Int) : (ndist xs = xs.length) ↔ xs.Nodup := by
  have sd : ∀ (acc : List Int) (x : Int), PyProof.Rows.step_dedup acc x = if acc.any (· == x) then acc else acc ++ [x] := fun _ _ => rfl
  have key : ∀ (ys acc : List Int), acc.Nodup → (ys.foldl PyProof.Rows.step_dedup acc).length ≤ acc.length + ys.length ∧ ((ys.foldl PyProof.Rows.step_dedup acc).length = acc.length + ys.length ↔ (acc ++ ys).Nodup) := by
    intro ys
    induction ys with
    | nil => intro acc h; simp [h]
    | cons y ys ih =>
      intro acc h
      rw [List.foldl_cons, sd]
      by_cases hy : y ∈ acc
      · have e : acc.any (· == y) = true := by simp [hy]
        rw [if_pos e]
        have q := ih acc h
        refine ⟨by rw [List.length_cons]; omega, ⟨fun z => ?_, fun z => ?_⟩⟩
        · rw [List.length_cons] at z
          omega
        · have := List.nodup_append.mp z
          exact absurd rfl (this.2.2 y hy y (by simp))
      · have e : ¬ acc.any (· == y) = true := by simp [hy]
        rw [if_neg e]
        have nd : (acc ++ [y]).Nodup := by
          rw [List.nodup_append]
          refine ⟨h, by simp, fun a ha b hb => ?_⟩
          rw [List.mem_singleton.mp hb]
          exact fun e => hy (e ▸ ha)
        have q := ih (acc ++ [y]) nd
        rw [List.length_append, List.length_singleton, List.append_assoc, List.singleton_append] at q
        rw [List.length_cons]
        refine ⟨by omega, ⟨fun z => q.2.mp (by omega), fun z => ?_⟩⟩
        have := q.2.mpr z
        omega
  have e : (List.range xs.length).map (fun i => xs.getD i 0) = xs := by
    refine List.ext_getElem (by simp) fun i h1 h2 => ?_
    simp [List.getD_eq_getElem?_getD, h2]
  have q := key xs [] List.nodup_nil
  unfold ndist PyProof.Rows.firstMet
  rw [e]
  simpa using q.2
end
end VL

set_option Elab.async false
set_option linter.all false
set_option maxHeartbeats 1000000
/-! MA1: the drawn rows. -/
namespace VL
open PySem L2
def cellv (script : List Int) (k : Int) : Int := if k < (script.length : Int) then script.getD k.toNat 0 else 0
theorem cell_at_eq {script : List Int} {k : Int} (h : 0 ≤ k) : m_l_cell_at script k = .ok (cellv script k) := by
  refine Res.Sat.eq (sat_resn ?_)
  unfold b_l_cell_at cellv
  refine sat_if (fun hz => ?_) fun hz => ?_
  · have hz := of_decide_eq_true hz
    refine sat_req (atI_ok h hz) ?_
    show _ = _
    rw [if_pos hz]
    simp [List.getD_eq_getElem?_getD, show k.toNat < script.length by omega]
  · have hz := of_decide_eq_false hz
    show _ = _
    rw [if_neg hz]
def mixv (c k : Int) : Int := ((c + 101 * k) * 48271) % 1000003
theorem mixed_eq (c k : Int) : m_l_mixed c k = .ok (mixv c k) := rfl
theorem mixv_rg (c k : Int) : 0 ≤ mixv c k ∧ mixv c k < 1000003 := by unfold mixv; omega

/-- what rows are: row k has at most k points, all before k -/
def RowsOk (rows : List (List Int)) : Prop := ∀ (k : Nat) (h : k < rows.length), rows[k].length ≤ k ∧ ∀ x ∈ rows[k], 0 ≤ x ∧ x < (k : Int)
theorem RowsOk.nil : RowsOk [] := fun k h => absurd h (Nat.not_lt_zero _)
theorem RowsOk.snoc {rows : List (List Int)} {row : List Int} (h : RowsOk rows) (h1 : row.length ≤ rows.length) (h2 : ∀ x ∈ row, 0 ≤ x ∧ x < (rows.length : Int)) : RowsOk (rows ++ [row]) := fun k hk => by
  rw [List.length_append, List.length_singleton] at hk
  by_cases e : k < rows.length
  · rw [List.getElem_append_left e]
    exact h k e
  · have e' : k = rows.length := by omega
    subst e'
    rw [List.getElem_append_right (Nat.le_refl _)]
    simpa using ⟨h1, h2⟩
theorem RowsOk.map {many : Int} {f : Int → List Int} (h : ∀ k : Int, 0 ≤ k → k < many → (f k).length ≤ k.toNat ∧ ∀ x ∈ f k, 0 ≤ x ∧ x < k) : RowsOk ((rangeI 0 many).map f) := fun k hk => by
  rw [List.length_map] at hk
  rw [List.getElem_map, rangeI_at hk]
  rw [rangeI_length] at hk
  have q := h (0 + k) (by omega) (by omega)
  refine ⟨by omega, fun x hx => ?_⟩
  have := q.2 x hx
  omega
theorem RowsOk.set {rows : List (List Int)} {row : List Int} {k : Nat} (h : RowsOk rows) (h1 : row.length ≤ k) (h2 : ∀ x ∈ row, 0 ≤ x ∧ x < (k : Int)) : RowsOk (rows.set k row) := fun j hj => by
  rw [List.getElem_set]
  by_cases e : k = j
  · subst e
    simpa using ⟨h1, h2⟩
  · rw [if_neg e]
    exact h j (by simpa using hj)

theorem earlier_ok {script : List Int} {many ring : Int} (hm : 0 ≤ many) (hm2 : many ≤ 60) (hr : ring = 0 ∨ 4 ≤ ring) : (m_l_earlier script many ring).Sat (fun rows => (rows.length : Int) = many ∧ RowsOk rows) noE := by
  refine sat_resn ?_
  unfold b_l_earlier
  refine sat_lt (sat_chk (rg_ok (by omega) (by omega) (by omega) (by omega)) (sat_bind ?_))
  refine sat_for (fun i s => s.length = i ∧ RowsOk s) ⟨rfl, .nil⟩ (fun i hi s hs => ?_) fun s hs => ?_
  · obtain ⟨hl, hs⟩ := hs
    rw [rangeI_at hi]
    rw [rangeI_length] at hi
    generalize hk : (0 : Int) + (i : Int) = k
    refine sat_getv (cell_at_eq (by omega)) (sat_getv (mixed_eq _ _) (sat_lt (sat_lt (sat_bind ?_))))
    have fin : ∀ row : List Int, row.length ≤ i → (∀ x ∈ row, 0 ≤ x ∧ x < (i : Int)) → (Fl.app s row fun rows1 => (Fl.nx rows1 : Fl (List (List Int)) (List (List Int)))).Sat (fun s => s.length = i + 1 ∧ RowsOk s) (fun rows => (rows.length : Int) = many ∧ RowsOk rows) noE := fun row h1 h2 => by
      refine sat_app (by have := size_ge; omega) ⟨by simp [hl], hs.snoc (by omega) (by rw [hl]; exact h2)⟩
    refine sat_if (fun hz => ?_) fun hz => sat_bind (sat_if (fun hz2 => ?_) fun hz2 => ?_)
    · simp only [Bool.and_eq_true, decide_eq_true_eq] at hz
      refine sat_lt (sat_bind (sat_if (fun hz2 => ?_) fun hz2 => ?_))
      · have hz2 := of_decide_eq_true hz2
        refine sat_lt (sat_nx (sat_nx (fin _ ?_ ?_)))
        · show 2 ≤ i
          omega
        · intro x hx
          simp only [List.mem_cons, List.not_mem_nil, or_false] at hx
          omega
      · refine sat_nx (sat_nx (fin _ ?_ ?_))
        · show 1 ≤ i
          omega
        · intro x hx
          simp only [List.mem_cons, List.not_mem_nil, or_false] at hx
          omega
    · simp only [Bool.and_eq_true, decide_eq_true_eq] at hz2
      refine sat_chk hz2.1 (sat_lt (sat_lt (sat_chk (cdiv_ok hz2.1 (by omega)) (sat_lt ?_))))
      have m1 := Int.emod_nonneg (mixv (cellv script (3 + k)) k / 9) (show k ≠ 0 by omega)
      have m2 := Int.emod_lt_of_pos (mixv (cellv script (3 + k)) k / 9) (show 0 < k by omega)
      generalize mixv (cellv script (3 + k)) k / 9 % k = mate at m1 m2
      refine sat_req (atI_ok m1 (by omega)) (sat_bind ?_)
      have q := hs mate.toNat (by omega)
      generalize s[mate.toNat] = item at q
      refine sat_for (fun j st => st.1.length ≤ j + 1 ∧ ∀ x ∈ st.1, 0 ≤ x ∧ x < (i : Int)) ⟨Nat.le_refl _, fun x hx => ?_⟩ (fun j hj st hst => ?_) fun st hst => ?_
      · rw [List.mem_singleton.mp hx]
        omega
      · have qx := q.2 item[j] (List.getElem_mem hj)
        refine sat_bind (sat_if (fun _ => sat_app (by have := size_ge; omega) (sat_nx (sat_lt (sat_nx ⟨?_, ?_⟩)))) fun _ => sat_nx (sat_lt (sat_nx ⟨?_, hst.2⟩)))
        · show (st.1 ++ [item[j]]).length ≤ j + 1 + 1
          rw [List.length_append, List.length_singleton]
          omega
        · intro x hx
          rcases List.mem_append.mp hx with hx | hx
          · exact hst.2 x hx
          · rw [List.mem_singleton.mp hx]
            omega
        · exact Nat.le_succ_of_le hst.1
      · refine sat_nx (sat_nx (fin _ ?_ hst.2))
        have := q.1
        omega
    · exact sat_nx (sat_nx (fin _ (Nat.zero_le _) fun x hx => absurd hx List.not_mem_nil))
  · refine sat_rt ⟨?_, hs.2⟩
    rw [hs.1, rangeI_length]
    omega
theorem any_rows_ok {script : List Int} {many : Int} (hm : 0 ≤ many) (hm2 : many ≤ 60) : (m_l_any_rows script many).Sat (fun rows => (rows.length : Int) = many ∧ RowsOk rows) noE := by
  refine sat_resn ?_
  unfold b_l_any_rows
  refine sat_getv (cell_at_eq (by omega)) (sat_lt (sat_lt (sat_bind ?_)))
  have key : ∀ (s : Int), 0 < s → (Fl.lt ([] : (List (List Int))) fun rows =>
  Fl.chk (RgOk 0 many) <|
  Fl.bind (forF (fun (s1 : (List (List Int))) (k : Int) =>
  Fl.chk (RgOk 0 k) <|
  Fl.req (compO (fun j : Int => some true) (fun j : Int => (((m_l_cell_at script ((3 : Int) + ((((7 : Int) * k) + ((13 : Int) * j)) % (60 : Int)))).get).bind fun r1 => (((m_l_mixed r1 (((60 : Int) * k) + j)).get).bind fun r2 => some r2))) (rangeI 0 k)) fun ys =>
  Fl.lt ys fun cells =>
  Fl.chk (RgOk 0 k) <|
  Fl.req (compO (fun j1 : Int => ((atI cells j1).bind fun item => (ifO (0 < s) (some (decide ((item % s) < ((1 : Int) + ((cellv script 2 / (8 : Int)) % (4 : Int))))))))) (fun j1 : Int => some j1) (rangeI 0 k)) fun ys1 =>
  Fl.app s1 ys1 fun rows1 =>
  Fl.nx (rows1)) (rangeI 0 many) (rows)) fun (s1 : (List (List Int))) =>
  (Fl.rt s1 : Fl Unit (List (List Int)))).Sat (fun _ => False) (fun rows => (rows.length : Int) = many ∧ RowsOk rows) noE := fun s hs => by
    refine sat_lt (sat_chk (rg_ok (by omega) (by omega) (by omega) (by omega)) (sat_bind ?_))
    refine sat_for (fun i s => s.length = i ∧ RowsOk s) ⟨rfl, .nil⟩ (fun i hi t ht => ?_) fun s hs => ?_
    · obtain ⟨hl, ht⟩ := ht
      rw [rangeI_at hi]
      rw [rangeI_length] at hi
      generalize hk : (0 : Int) + (i : Int) = k
      refine sat_chk (rg_ok (by omega) (by omega) (by omega) (by omega)) (sat_req (compO_map (fun j => mixv (cellv script (3 + (7 * k + 13 * j) % 60)) (60 * k + j)) fun x hx => ?_) (sat_lt (sat_chk (rg_ok (by omega) (by omega) (by omega) (by omega)) ?_)))
      · rw [cell_at_eq (by omega)]
        rfl
      · generalize hc : (rangeI 0 k).map (fun j => mixv (cellv script (3 + (7 * k + 13 * j) % 60)) (60 * k + j)) = cells
        have cl : (cells.length : Int) = k := by
          rw [← hc, List.length_map, rangeI_length]
          omega
        refine sat_req (compO_eq (fun j => decide (cells.getD j.toNat 0 % s < 1 + cellv script 2 / 8 % 4)) id (fun x hx => ?_) fun x hx _ => rfl) ?_
        · rw [rangeI_mem] at hx
          rw [atI_ok hx.1 (by omega)]
          show ifO (0 < s) _ = _
          rw [ifO_pos hs]
          simp [List.getD_eq_getElem?_getD, show x.toNat < cells.length by omega]
        · rw [List.map_id]
          refine sat_app (by have := size_ge; omega) (sat_nx ⟨by simp [hl], ht.snoc ?_ fun x hx => ?_⟩)
          · refine Nat.le_trans (List.length_filter_le _ _) ?_
            rw [rangeI_length]
            omega
          · have := rangeI_mem.mp (List.mem_filter.mp hx).1
            omega
    · refine sat_rt ⟨?_, hs.2⟩
      rw [hs.1, rangeI_length]
      omega
  refine sat_if (fun _ => sat_lt (sat_nx (key _ (by omega)))) fun _ => sat_nx (key _ (by omega))
theorem rows_of_ranges {many : Int} {lo hi : Int → Int} (hm : 0 ≤ many) (hm2 : many ≤ 60) (h : ∀ k : Int, 0 ≤ k → k < many → 0 ≤ lo k ∧ lo k ≤ 60 ∧ -60 ≤ hi k ∧ hi k ≤ k) :
    ∃ ys, compO (fun k : Int => some true) (fun k : Int => (ifO (RgOk (lo k) (hi k)) (some (rangeI (lo k) (hi k))))) (rangeI 0 many) = some ys ∧ (ys.length : Int) = many ∧ RowsOk ys := by
  refine ⟨_, compO_map (fun k => rangeI (lo k) (hi k)) fun x hx => ?_, ?_, RowsOk.map fun k h0 h1 => ?_⟩
  · rw [rangeI_mem] at hx
    have q := h x hx.1 hx.2
    exact ifO_pos (rg_ok (by omega) (by omega) (by omega) (by omega))
  · rw [List.length_map, rangeI_length]
    omega
  · have q := h k h0 h1
    refine ⟨by rw [rangeI_length]; omega, fun x hx => ?_⟩
    rw [rangeI_mem] at hx
    omega
theorem banded_ok {many cell : Int} (hm : 0 ≤ many) (hm2 : many ≤ 60) : (m_l_banded many cell).Sat (fun rows => (rows.length : Int) = many ∧ RowsOk rows) noE := by
  refine sat_resn ?_
  unfold b_l_banded
  have key : ∀ s : Int, 0 ≤ s → (Fl.chk (RgOk 0 many) <| Fl.req (compO (fun k : Int => some true) (fun k : Int => (ifO (RgOk (max (0 : Int) (k - s)) k) (some (rangeI (max (0 : Int) (k - s)) k)))) (rangeI 0 many)) fun ys => (Fl.rt ys : Fl Unit (List (List Int)))).Sat (fun _ => False) (fun rows => (rows.length : Int) = many ∧ RowsOk rows) noE := fun s h => by
    refine sat_chk (rg_ok (by omega) (by omega) (by omega) (by omega)) ?_
    obtain ⟨ys, h1, h2⟩ := rows_of_ranges (many := many) (lo := fun k => max 0 (k - s)) (hi := fun k => k) hm hm2 (fun k h0 h1 => by omega)
    exact sat_req h1 (sat_rt h2)
  exact sat_lt (sat_bind (sat_if (fun _ => sat_lt (sat_nx (key _ (by omega)))) fun _ => sat_nx (key _ (by omega))))
theorem hubbed_ok {many cell : Int} (hm : 0 ≤ many) (hm2 : many ≤ 60) : (m_l_hubbed many cell).Sat (fun rows => (rows.length : Int) = many ∧ RowsOk rows) noE := by
  refine sat_resn ?_
  unfold b_l_hubbed
  have c1 := Int.emod_nonneg cell (show (4 : Int) ≠ 0 by omega)
  have c2 := Int.emod_lt_of_pos cell (show (0 : Int) < 4 by omega)
  refine sat_req (atI_ok c1 (by show cell % 4 < 4; omega)) (sat_lt ?_)
  have hv : ∀ x ∈ [(1 : Int), 2, 3, cell / 4 % 30], 0 ≤ x ∧ x ≤ 30 := fun x hx => by
    simp only [List.mem_cons, List.not_mem_nil, or_false] at hx
    omega
  have hs := hv _ (List.getElem_mem (l := [(1 : Int), 2, 3, cell / 4 % 30]) (n := (cell % 4).toNat) (by show (cell % 4).toNat < 4; omega))
  generalize [(1 : Int), 2, 3, cell / 4 % 30][(cell % 4).toNat]'(by show (cell % 4).toNat < 4; omega) = size at hs
  have key : ∀ s : Int, 0 ≤ s → (Fl.chk (RgOk 0 many) <| Fl.req (compO (fun k : Int => some true) (fun k : Int => (ifO (RgOk 0 (min k s)) (some (rangeI 0 (min k s))))) (rangeI 0 many)) fun ys => (Fl.rt ys : Fl Unit (List (List Int)))).Sat (fun _ => False) (fun rows => (rows.length : Int) = many ∧ RowsOk rows) noE := fun s h => by
    refine sat_chk (rg_ok (by omega) (by omega) (by omega) (by omega)) ?_
    obtain ⟨ys, h1, h2⟩ := rows_of_ranges (many := many) (lo := fun k => 0) (hi := fun k => min k s) hm hm2 (fun k h0 h1 => by omega)
    exact sat_req h1 (sat_rt h2)
  exact sat_bind (sat_if (fun _ => sat_lt (sat_nx (key _ (by omega)))) fun _ => sat_nx (key _ (by omega)))
theorem ringed_ok {many cell : Int} (hm : 0 ≤ many) (hm2 : many ≤ 60) : (m_l_ringed many cell).Sat (fun rows => (rows.length : Int) = many ∧ RowsOk rows) noE := by
  refine sat_resn ?_
  unfold b_l_ringed
  refine sat_lt (sat_lt (sat_chk (rg_ok (by omega) (by omega) (by omega) (by omega)) ?_))
  obtain ⟨ys, h1, h2, h3⟩ := rows_of_ranges (many := many) (lo := fun k => max 0 (k - 1)) (hi := fun k => k) hm hm2 (fun k h0 h1 => by omega)
  refine sat_req h1 (sat_lt (sat_chk (rg_ok (by omega) (by omega) (by omega) (by omega)) (sat_bind ?_)))
  refine sat_for (fun i s => (s.length : Int) = many ∧ RowsOk s) ⟨h2, h3⟩ (fun i hi s hs => ?_) fun s hs => sat_rt hs
  rw [rangeI_at hi]
  rw [rangeI_length] at hi
  have st : 0 < 4 + cell % 5 + cell / 5 % 4 := by omega
  refine sat_chk st (sat_bind (sat_if (fun hz => ?_) fun _ => sat_nx (sat_nx hs)))
  have hz := of_decide_eq_true hz
  have e1 := Int.emod_nonneg (0 + (i : Int)) (show 4 + cell % 5 + cell / 5 % 4 ≠ 0 by omega)
  have e2 : (0 + (i : Int)) % (4 + cell % 5 + cell / 5 % 4) ≤ i := by
    rw [Int.emod_def]
    have q1 := Int.mul_nonneg (show 0 ≤ 4 + cell % 5 + cell / 5 % 4 by omega) (Int.ediv_nonneg (show (0 : Int) ≤ 0 + (i : Int) by omega) (show 0 ≤ 4 + cell % 5 + cell / 5 % 4 by omega))
    omega
  refine sat_req (setI_ok (by omega) (by omega)) (sat_nx (sat_nx ⟨by rw [List.length_set]; exact hs.1, ?_⟩))
  rw [show (0 + (i : Int)).toNat = i by omega]
  refine hs.2.set (by show 2 ≤ i; omega) fun x hx => ?_
  simp only [List.mem_cons, List.not_mem_nil, or_false] at hx
  omega
theorem rows_ok {script : List Int} {many : Int} (hm : 0 ≤ many) (hm2 : many ≤ 60) : (m_l_rows script many).Sat (fun rows => (rows.length : Int) = many ∧ RowsOk rows) noE := by
  refine sat_resn ?_
  unfold b_l_rows
  refine sat_getv (cell_at_eq (by omega)) (sat_lt (sat_getv (cell_at_eq (by omega)) (sat_lt ?_)))
  refine sat_if (fun hz => ?_) fun _ => sat_if (fun _ => ?_) fun _ => sat_if (fun _ => ?_) fun _ => sat_if (fun _ => ?_) fun _ => sat_if (fun _ => ?_) fun _ => ?_
  · simp only [Bool.and_eq_true, decide_eq_true_eq] at hz
    have := Int.emod_nonneg (cellv script 2 / 8) (show many - 3 ≠ 0 by omega)
    exact sat_chk (by omega) (sat_get (earlier_ok hm hm2 (Or.inr (by omega))) fun a h => sat_rt h)
  · exact sat_get (any_rows_ok hm hm2) fun a h => sat_rt h
  · exact sat_get (banded_ok hm hm2) fun a h => sat_rt h
  · exact sat_get (ringed_ok hm hm2) fun a h => sat_rt h
  · exact sat_get (hubbed_ok hm hm2) fun a h => sat_rt h
  · exact sat_get (earlier_ok hm hm2 (Or.inl rfl)) fun a h => sat_rt h
/-- the names of the points -/
def namev (script : List Int) (many k : Int) : Int := if cellv script 1 % 2 = 1 then (cellv script 1 / 2 - k) % many else (cellv script 1 / 2 + k) % many
theorem name_eq {script : List Int} {many k : Int} (hm : 0 < many) : m_l_name script many k = .ok (namev script many k) := by
  refine Res.Sat.eq (sat_resn ?_)
  unfold b_l_name namev
  refine sat_getv (cell_at_eq (by omega)) (sat_lt (sat_if (fun hz => ?_) fun hz => ?_))
  · have hz := of_decide_eq_true hz
    refine sat_chk hm (sat_rt ?_)
    rw [if_pos hz]
  · have hz := of_decide_eq_false hz
    refine sat_chk hm (sat_rt ?_)
    rw [if_neg hz]
theorem namev_rg {script : List Int} {many k : Int} (hm : 0 < many) : 0 ≤ namev script many k ∧ namev script many k < many := by
  unfold namev
  split
  · exact ⟨Int.emod_nonneg _ (by omega), Int.emod_lt_of_pos _ hm⟩
  · exact ⟨Int.emod_nonneg _ (by omega), Int.emod_lt_of_pos _ hm⟩
theorem emod_ne {a b m : Int} (hm : 0 < m) (h1 : a - b < m) (h2 : b - a < m) (h3 : a ≠ b) : a % m ≠ b % m := fun e => by
  have q : (a - b) % m = 0 := by rw [Int.sub_emod, e, Int.sub_self, Int.zero_emod]
  obtain ⟨c, hc⟩ := Int.dvd_of_emod_eq_zero q
  have h4 : c = 0 := by
    rcases Int.lt_trichotomy c 0 with h | h | h
    · have : m * c ≤ m * (-1) := Int.mul_le_mul_of_nonneg_left (by omega) (by omega)
      omega
    · exact h
    · have : m * 1 ≤ m * c := Int.mul_le_mul_of_nonneg_left (by omega) (by omega)
      omega
  rw [h4, Int.mul_zero] at hc
  omega
theorem namev_inj {script : List Int} {many j k : Int} (hj : 0 ≤ j) (hj2 : j < many) (hk : 0 ≤ k) (hk2 : k < many) (h : j ≠ k) : namev script many j ≠ namev script many k := by
  unfold namev
  split
  · exact emod_ne (by omega) (by omega) (by omega) (by omega)
  · exact emod_ne (by omega) (by omega) (by omega) (by omega)
end VL

set_option Elab.async false
set_option linter.all false
set_option maxRecDepth 100000
set_option maxHeartbeats 1000000
/-! MAm: how many points. -/
namespace VL
open PySem L2
theorem many_ok (script : List Int) : (m_l_many script).Sat (fun r => 0 ≤ r ∧ r ≤ 60) noE := by
  refine sat_resn ?_
  unfold b_l_many
  refine sat_getv (cell_at_eq (by omega)) ?_
  refine sat_lt ?_
  refine sat_if (fun _ => ?_) fun _ => sat_if (fun _ => ?_) fun _ => ?_
  · show _ ∧ _
    omega
  · show _ ∧ _
    omega
  · show _ ∧ _
    omega
end VL

set_option Elab.async false
set_option linter.all false
set_option maxHeartbeats 1000000
/-! MA2: the ties, the neighbours. -/
namespace VL
open PySem L2
def TiesOk (many : Int) (ties : List (Int × Int)) : Prop := ∀ p ∈ ties, 0 ≤ p.1 ∧ p.1 < many ∧ 0 ≤ p.2 ∧ p.2 < many ∧ p.1 ≠ p.2
theorem TiesOk.append {many : Int} {a b : List (Int × Int)} (h1 : TiesOk many a) (h2 : TiesOk many b) : TiesOk many (a ++ b) := fun p hp => by
  rcases List.mem_append.mp hp with h | h
  · exact h1 p h
  · exact h2 p h
theorem TiesOk.sub {many : Int} {a b : List (Int × Int)} (h1 : TiesOk many a) (h : ∀ p ∈ b, p ∈ a) : TiesOk many b := fun p hp => h1 p (h p hp)
theorem TiesOk.swap {many : Int} {a : List (Int × Int)} (h1 : TiesOk many a) : TiesOk many (a.map fun p => (p.2, p.1)) := fun p hp => by
  obtain ⟨q, hq, rfl⟩ := List.mem_map.mp hp
  have := h1 q hq
  show _ ∧ _ ∧ _ ∧ _ ∧ _
  exact ⟨this.2.2.1, this.2.2.2.1, this.1, this.2.1, fun e => this.2.2.2.2 e.symm⟩
theorem ties_ok {script : List Int} {many : Int} {rows : List (List Int)} (hm : 0 ≤ many) (hm2 : many ≤ 60) (hl : (rows.length : Int) = many) (hr : RowsOk rows) : (m_l_ties script many rows).Sat (fun t => t.length ≤ 20000 ∧ TiesOk many t) noE := by
  refine sat_resn ?_
  unfold b_l_ties
  refine sat_lt (sat_chk (rg_ok (by omega) (by omega) (by omega) (by omega)) (sat_bind ?_))
  refine sat_for (fun i s => s.length ≤ 60 * i ∧ TiesOk many s) ⟨Nat.zero_le _, fun p hp => absurd hp List.not_mem_nil⟩ (fun i hi s hs => ?_) fun s hs => ?_
  · rw [rangeI_at hi]
    rw [rangeI_length] at hi
    refine sat_req (atI_ok (by omega) (by omega)) (sat_bind ?_)
    have q := hr ((0 : Int) + i).toNat (by omega)
    generalize rows[((0 : Int) + i).toNat] = item at q
    refine sat_for (fun j t => t.length ≤ 60 * i + j ∧ TiesOk many t) hs (fun j hj t ht => ?_) fun t ht => ?_
    · have qx := q.2 item[j] (List.getElem_mem hj)
      refine sat_getv (name_eq (by omega)) (sat_getv (name_eq (by omega)) (sat_lt (sat_bind ?_)))
      have r1 := namev_rg (script := script) (many := many) (k := 0 + (i : Int)) (by omega)
      have r2 := namev_rg (script := script) (many := many) (k := item[j]) (by omega)
      have ne := namev_inj (script := script) (many := many) (j := 0 + (i : Int)) (k := item[j]) (by omega) (by omega) (by omega) (by omega) (by omega)
      have fin : ∀ p : Int × Int, TiesOk many [p] → (Fl.app t p fun ties1 => (Fl.nx ties1 : Fl (List (Int × Int)) (List (Int × Int)))).Sat (fun t => t.length ≤ 60 * i + (j + 1) ∧ TiesOk many t) (fun t => t.length ≤ 20000 ∧ TiesOk many t) noE := fun p hp => by
        refine sat_app (by have := size_ge; omega) ⟨?_, ht.2.append hp⟩
        rw [List.length_append, List.length_singleton]
        omega
      refine sat_if (fun _ => sat_lt (sat_nx (fin _ fun p hp => ?_))) fun _ => sat_nx (fin _ fun p hp => ?_)
      · rw [List.mem_singleton.mp hp]
        exact ⟨r2.1, r2.2, r1.1, r1.2, fun e => ne e.symm⟩
      · rw [List.mem_singleton.mp hp]
        exact ⟨r1.1, r1.2, r2.1, r2.2, ne⟩
    · refine ⟨?_, ht.2⟩
      have := q.1
      omega
  · have l0 := hs.1
    rw [rangeI_length] at l0
    have sz := size_ge
    have c1 := cut_len (xs := s) (l := none) (u := some 3)
    have c2 := cut_len (xs := s) (l := some 1) (u := some 4)
    have c3 := cut_len (xs := s) (l := none) (u := some 1)
    refine sat_chk (by rw [List.length_map]; omega) (sat_chk (by rw [List.length_append, List.length_map]; omega) (sat_chk (by omega) (sat_chk (by rw [repL_len, List.length_append, List.length_append, List.length_map]; omega) (sat_rt ⟨?_, ?_⟩))))
    · rw [List.length_append, List.length_append, List.length_append, List.length_map, repL_len]
      omega
    · exact ((hs.2.append (hs.2.sub fun p hp => cut_mem hp).swap).append (hs.2.sub fun p hp => cut_mem hp)).append (hs.2.sub fun p hp => cut_mem (repL_mem hp))

/-! the neighbours -/
def AdjOk (many : Int) (s : List (List Int)) (T : List (Int × Int)) : Prop := (s.length : Int) = many ∧ ∀ (i : Nat) (h : i < s.length), s[i].Nodup ∧ s[i].length ≤ T.length ∧ ∀ x : Int, x ∈ s[i] ↔ ((i : Int), x) ∈ T ∨ (x, (i : Int)) ∈ T
theorem AdjOk.symm {many : Int} {s : List (List Int)} {T : List (Int × Int)} (h : AdjOk many s T) {i j : Nat} (hi : i < s.length) (hj : j < s.length) : (j : Int) ∈ s[i] ↔ (i : Int) ∈ s[j] := by
  rw [(h.2 i hi).2.2, (h.2 j hj).2.2]
  exact Or.comm
theorem adj_loop {R : Type} {Q : R → Prop} {E : Nat → Prop} {many : Int} {ties : List (Int × Int)} (hm : 0 ≤ many) (ht : TiesOk many ties) (hl : ties.length ≤ 100000) {P : List (List Int) → Prop} (h : ∀ s, AdjOk many s ties → P s) :
    (forF (fun (s : (List (List Int))) (x : (Int × Int)) =>
  Fl.req (atI s x.1) fun item =>
  Fl.bind (if (!((item).contains x.2)) = true then
  Fl.req (appI? s x.1 x.2) fun near1 =>
  Fl.req (appI? near1 x.2 x.1) fun near2 =>
  Fl.nx (near2)
  else
  Fl.nx (s)) fun (s1 : (List (List Int))) =>
  (Fl.nx (s1) : Fl (List (List Int)) R)) ties ((rangeI 0 many).map fun _ => [])).Sat P Q E := by
  refine sat_for (fun i s => AdjOk many s (ties.take i)) ⟨?_, fun i hi => ?_⟩ (fun i hi s hs => ?_) fun s hs => ?_
  · rw [List.length_map, rangeI_length]
    omega
  · rw [List.getElem_map]
    simp
  · have tx := ht ties[i] (List.getElem_mem hi)
    have htk : ties.take (i + 1) = ties.take i ++ [ties[i]] := by
      rw [List.take_add_one, List.getElem?_eq_getElem hi]
      rfl
    rw [htk]
    have tl : (ties.take i).length ≤ 100000 := by rw [List.length_take]; omega
    generalize ties.take i = T at hs tl
    generalize ties[i] = e at tx
    obtain ⟨a, b⟩ := e
    obtain ⟨a0, a1, b0, b1, ne⟩ := tx
    simp only at a0 a1 b0 b1 ne
    obtain ⟨ia, rfl⟩ := Int.eq_ofNat_of_zero_le a0
    obtain ⟨ib, rfl⟩ := Int.eq_ofNat_of_zero_le b0
    have sl := hs.1
    have ha : ia < s.length := by omega
    have hb : ib < s.length := by omega
    have nab : ia ≠ ib := fun z => ne (by rw [z])
    refine sat_req (atI_nat ha) (sat_bind (sat_if (fun hz => ?_) fun hz => ?_))
    · have hn : (ib : Int) ∉ s[ia] := by simpa using hz
      have hn2 : (ia : Int) ∉ s[ib] := fun z => hn ((hs.symm ha hb).mpr z)
      have sz := size_ge
      have q1 := hs.2 ia ha
      have q2 := hs.2 ib hb
      refine sat_req (appI_ok (by omega) (by omega) (by simp only [Int.toNat_natCast]; omega)) ?_
      simp only [Int.toNat_natCast]
      refine sat_req (appI_ok (by omega) (by rw [List.length_set]; omega) (by simp only [Int.toNat_natCast]; rw [List.getElem_set, if_neg nab]; omega)) (sat_nx (sat_nx ?_))
      simp only [Int.toNat_natCast]
      refine ⟨by rw [List.length_set, List.length_set]; exact sl, fun j hj => ?_⟩
      rw [List.length_set, List.length_set] at hj
      rw [List.length_append, List.length_singleton]
      simp only [List.getElem_set, nab, ↓reduceIte]
      have qj := hs.2 j hj
      by_cases e1 : ib = j
      · subst e1
        rw [if_pos rfl]
        refine ⟨?_, by rw [List.length_append, List.length_singleton]; omega, fun x => ?_⟩
        · rw [List.nodup_append]
          refine ⟨qj.1, by simp, fun u hu v hv z => ?_⟩
          rw [List.mem_singleton.mp hv] at z
          exact hn2 (z ▸ hu)
        · rw [List.mem_append, List.mem_singleton, qj.2.2, List.mem_append, List.mem_append, List.mem_singleton, List.mem_singleton, Prod.mk.injEq, Prod.mk.injEq]
          constructor
          · rintro ((h | h) | h)
            · exact .inl (.inl h)
            · exact .inr (.inl h)
            · exact .inr (.inr ⟨h, rfl⟩)
          · rintro ((h | h) | (h | h))
            · exact .inl (.inl h)
            · exact absurd h.1 (by omega)
            · exact .inl (.inr h)
            · exact .inr h.1
      · rw [if_neg e1]
        by_cases e2 : ia = j
        · subst e2
          rw [if_pos rfl]
          refine ⟨?_, by rw [List.length_append, List.length_singleton]; omega, fun x => ?_⟩
          · rw [List.nodup_append]
            refine ⟨qj.1, by simp, fun u hu v hv z => ?_⟩
            rw [List.mem_singleton.mp hv] at z
            exact hn (z ▸ hu)
          · rw [List.mem_append, List.mem_singleton, qj.2.2, List.mem_append, List.mem_append, List.mem_singleton, List.mem_singleton, Prod.mk.injEq, Prod.mk.injEq]
            constructor
            · rintro ((h | h) | h)
              · exact .inl (.inl h)
              · exact .inr (.inl h)
              · exact .inl (.inr ⟨rfl, h⟩)
            · rintro ((h | h) | (h | h))
              · exact .inl (.inl h)
              · exact .inr h.2
              · exact .inl (.inr h)
              · exact absurd h.2 (by omega)
        · rw [if_neg e2]
          refine ⟨qj.1, by omega, fun x => ?_⟩
          rw [qj.2.2, List.mem_append, List.mem_append, List.mem_singleton, List.mem_singleton, Prod.mk.injEq, Prod.mk.injEq]
          constructor
          · rintro (h | h)
            · exact .inl (.inl h)
            · exact .inr (.inl h)
          · rintro ((h | h) | (h | h))
            · exact .inl h
            · exact absurd h.1 (by omega)
            · exact .inr h
            · exact absurd h.2 (by omega)
    · have hn : (ib : Int) ∈ s[ia] := by simpa using hz
      have hn2 : (ia : Int) ∈ s[ib] := (hs.symm ha hb).mp hn
      refine sat_nx (sat_nx ⟨sl, fun j hj => ?_⟩)
      have qj := hs.2 j hj
      rw [List.length_append, List.length_singleton]
      refine ⟨qj.1, by omega, fun x => ?_⟩
      rw [List.mem_append, List.mem_append, List.mem_singleton, List.mem_singleton, Prod.mk.injEq, Prod.mk.injEq]
      constructor
      · intro h
        rcases (qj.2.2 x).mp h with h | h
        · exact .inl (.inl h)
        · exact .inr (.inl h)
      · rintro ((h | h) | (h | h))
        · exact (qj.2.2 x).mpr (.inl h)
        · obtain ⟨h1, h2⟩ := h
          have e : ia = j := by omega
          subst e
          rw [h2]
          exact hn
        · exact (qj.2.2 x).mpr (.inr h)
        · obtain ⟨h1, h2⟩ := h
          have e : ib = j := by omega
          subst e
          rw [h1]
          exact hn2
  · rw [List.take_length] at hs
    exact h s hs
/-- the rows of a web: sorted, each pair on both sides -/
def NearOk (many : Int) (s : List (List Int)) (T : List (Int × Int)) : Prop := (s.length : Int) = many ∧ ∀ (i : Nat) (h : i < s.length), s[i].Pairwise (· < ·) ∧ ∀ x : Int, x ∈ s[i] ↔ ((i : Int), x) ∈ T ∨ (x, (i : Int)) ∈ T
theorem isort_lt {xs : List Int} (h : xs.Nodup) : (isort xs).Pairwise (· < ·) := by
  have h1 := isort_sorted xs
  have h2 : (isort xs).Nodup := (isort_perm xs).nodup_iff.mpr h
  exact (h1.and h2).imp fun ⟨a, b⟩ => by omega
theorem AdjOk.near {many : Int} {s : List (List Int)} {T : List (Int × Int)} (h : AdjOk many s T) : NearOk many (s.map fun row => isort row) T := by
  refine ⟨by rw [List.length_map]; exact h.1, fun i hi => ?_⟩
  rw [List.length_map] at hi
  rw [List.getElem_map]
  refine ⟨isort_lt (h.2 i hi).1, fun x => ?_⟩
  rw [(isort_perm _).mem_iff]
  exact (h.2 i hi).2.2 x
theorem lt_unique {a b : List Int} (ha : a.Pairwise (· < ·)) (hb : b.Pairwise (· < ·)) (h : ∀ x, x ∈ a ↔ x ∈ b) : a = b := by
  have na : a.Nodup := ha.imp fun q => by omega
  have nb : b.Nodup := hb.imp fun q => by omega
  exact sorted_unique ((List.perm_ext_iff_of_nodup na nb).mpr h) (ha.imp fun q => by omega) (hb.imp fun q => by omega)
theorem NearOk.unique {many : Int} {s t : List (List Int)} {T : List (Int × Int)} (hs : NearOk many s T) (ht : NearOk many t T) : s = t := by
  refine List.ext_getElem (by have := hs.1; have := ht.1; omega) fun i h1 h2 => ?_
  refine lt_unique (hs.2 i h1).1 (ht.2 i h2).1 fun x => ?_
  rw [(hs.2 i h1).2, (ht.2 i h2).2]
theorem near_ok {many : Int} {ties : List (Int × Int)} (hm : 0 ≤ many) (hm2 : many ≤ 60) (ht : TiesOk many ties) (hl : ties.length ≤ 100000) : (m_l_near many ties).Sat (fun s => NearOk many s ties) noE := by
  refine sat_resn ?_
  unfold b_l_near
  refine sat_chk (rg_ok (by omega) (by omega) (by omega) (by omega)) (sat_lt (sat_bind ?_))
  exact adj_loop hm ht hl fun s hs => sat_rt hs.near
theorem web_of_ok {many : Int} {ties : List (Int × Int)} (hm : 0 ≤ many) (hm2 : many ≤ 60) (ht : TiesOk many ties) (hl : ties.length ≤ 100000) : (m_p_web_of many ties).Sat (fun w => w.many = many ∧ NearOk many w.rows ties) noE := by
  refine sat_resn ?_
  unfold b_p_web_of
  refine sat_if (fun hz => ?_) fun _ => sat_bind ?_
  · simp only [Bool.not_eq_true', Bool.and_eq_false_iff, decide_eq_false_iff_not] at hz
    omega
  · refine sat_for (fun _ _ => True) trivial (fun i hi s _ => ?_) fun s _ => ?_
    · have tx := ht ties[i] (List.getElem_mem hi)
      refine sat_if (fun hz => ?_) fun _ => trivial
      simp only [Bool.not_eq_true', Bool.and_eq_false_iff, decide_eq_false_iff_not, Bool.or_eq_true, decide_eq_true_eq] at hz
      omega
    · refine sat_chk (rg_ok (by omega) (by omega) (by omega) (by omega)) (sat_lt (sat_bind ?_))
      exact adj_loop hm ht hl fun s hs => sat_rt ⟨rfl, hs.near⟩
/-- what is known of a web -/
theorem NearOk.rg {many : Int} {s : List (List Int)} {T : List (Int × Int)} (h : NearOk many s T) (ht : TiesOk many T) {i : Nat} (hi : i < s.length) {x : Int} (hx : x ∈ s[i]) : 0 ≤ x ∧ x < many ∧ x ≠ (i : Int) := by
  rcases ((h.2 i hi).2 x).mp hx with q | q
  · have := ht _ q
    exact ⟨this.2.2.1, this.2.2.2.1, fun e => this.2.2.2.2 e.symm⟩
  · have := ht _ q
    exact ⟨this.1, this.2.1, this.2.2.2.2⟩
theorem NearOk.symm {many : Int} {s : List (List Int)} {T : List (Int × Int)} (h : NearOk many s T) {i j : Nat} (hi : i < s.length) (hj : j < s.length) : (j : Int) ∈ s[i] ↔ (i : Int) ∈ s[j] := by
  rw [(h.2 i hi).2, (h.2 j hj).2]
  exact Or.comm
end VL

set_option Elab.async false
set_option linter.all false
set_option maxRecDepth 100000
set_option maxHeartbeats 1000000
/-! MB0: a web. -/
namespace VL
open PySem L2
def nb (s : List (List Int)) (a : Int) : List Int := s.getD a.toNat []
/-- what a law knows of a web: many points, its rows irreflexive and the same on both sides -/
structure WebOk (many : Int) (s : List (List Int)) : Prop where
  m0 : 0 ≤ many
  m1 : many ≤ 60
  len : (s.length : Int) = many
  rg : ∀ a x : Int, 0 ≤ a → a < many → x ∈ nb s a → 0 ≤ x ∧ x < many ∧ x ≠ a
  sy : ∀ a b : Int, 0 ≤ a → a < many → 0 ≤ b → b < many → (b ∈ nb s a ↔ a ∈ nb s b)
  so : ∀ a : Int, 0 ≤ a → a < many → (nb s a).Pairwise (· < ·)
theorem nb_at {s : List (List Int)} {a : Int} (h0 : 0 ≤ a) (h1 : a < s.length) : atI s a = some (nb s a) := by
  rw [atI_ok h0 h1]
  unfold nb
  simp [List.getD_eq_getElem?_getD, show a.toNat < s.length by omega]
theorem nb_get {s : List (List Int)} {i : Nat} (h : i < s.length) : nb s (i : Int) = s[i] := by
  unfold nb
  simp [List.getD_eq_getElem?_getD, h]
theorem NearOk.web {many : Int} {s : List (List Int)} {T : List (Int × Int)} (h : NearOk many s T) (ht : TiesOk many T) (m0 : 0 ≤ many) (m1 : many ≤ 60) : WebOk many s := by
  have l := h.1
  refine ⟨m0, m1, l, fun a x h0 h1 hx => ?_, fun a b a0 a1 b0 b1 => ?_, fun a h0 h1 => ?_⟩
  · obtain ⟨i, rfl⟩ := Int.eq_ofNat_of_zero_le h0
    rw [nb_get (by omega)] at hx
    exact h.rg ht (by omega) hx
  · obtain ⟨i, rfl⟩ := Int.eq_ofNat_of_zero_le a0
    obtain ⟨j, rfl⟩ := Int.eq_ofNat_of_zero_le b0
    rw [nb_get (by omega), nb_get (by omega)]
    exact h.symm (by omega) (by omega)
  · obtain ⟨i, rfl⟩ := Int.eq_ofNat_of_zero_le h0
    rw [nb_get (by omega)]
    exact (h.2 i (by omega)).1
theorem need_eq {w : Web} {p : Int} (h0 : 0 ≤ p) (h1 : p < w.many) : m_p_Web_need w p = .ok p := by
  refine Res.Sat.eq (sat_resn ?_)
  unfold b_p_Web_need
  refine sat_if (fun hz => ?_) fun _ => rfl
  simp only [Bool.not_eq_true', Bool.and_eq_false_iff, decide_eq_false_iff_not] at hz
  omega
theorem tied_eq {w : Web} {a b : Int} (hw : WebOk w.many w.rows) (a0 : 0 ≤ a) (a1 : a < w.many) (b0 : 0 ≤ b) (b1 : b < w.many) : m_p_Web_tied w a b = .ok ((nb w.rows a).contains b) := by
  refine Res.Sat.eq (sat_resn ?_)
  unfold b_p_Web_tied
  have := hw.len
  exact sat_runv (need_eq b0 b1) (sat_runv (need_eq a0 a1) (sat_req (nb_at a0 (by omega)) rfl))
theorem contains_no {xs : List Int} {x : Int} (h : (!xs.contains x) = true) (hx : x ∈ xs) : False := by
  rw [List.contains_iff_mem.mpr hx] at h
  exact absurd h (by decide)
theorem nodup_inj {α : Type} {xs : List α} (nd : xs.Nodup) {i j : Nat} (hi : i < xs.length) (hj : j < xs.length) (e : xs[i] = xs[j]) : i = j := by
  rcases Nat.lt_trichotomy i j with h | h | h
  · exact absurd e (List.pairwise_iff_getElem.mp nd i j hi hj h)
  · exact h
  · exact absurd e.symm (List.pairwise_iff_getElem.mp nd j i hj hi h)
theorem mem_drop {α : Type} {xs : List α} {n : Nat} {x : α} : x ∈ xs.drop n ↔ ∃ (i : Nat) (h : i < xs.length), n ≤ i ∧ xs[i] = x := by
  rw [List.mem_iff_getElem]
  constructor
  · rintro ⟨i, h, e⟩
    rw [List.getElem_drop] at e
    rw [List.length_drop] at h
    exact ⟨n + i, by omega, by omega, e⟩
  · rintro ⟨i, h, hn, e⟩
    refine ⟨i - n, by rw [List.length_drop]; omega, ?_⟩
    rw [List.getElem_drop]
    simp only [show n + (i - n) = i by omega]
    exact e
theorem isort_iff {a b : List Int} (ha : a.Nodup) (hb : b.Nodup) : isort a = isort b ↔ ∀ x, x ∈ a ↔ x ∈ b := by
  constructor
  · intro e x
    rw [← (isort_perm a).mem_iff, e, (isort_perm b).mem_iff]
  · intro h
    refine sorted_unique ?_ (isort_sorted a) (isort_sorted b)
    exact (isort_perm a).trans (((List.perm_ext_iff_of_nodup ha hb).mpr h).trans (isort_perm b).symm)
theorem bool_eq {a b : Bool} {p : Prop} (h : a = true ↔ p) (h2 : b = true ↔ p) : a = b := by
  cases a <;> cases b <;> simp_all
/-- the neighbours of p in l are tied among each other -/
def Simp (s : List (List Int)) (l : List Int) (p : Int) : Prop := ∀ a ∈ l, ∀ b ∈ l, a ∈ nb s p → b ∈ nb s p → a ≠ b → b ∈ nb s a
noncomputable def simpD (s : List (List Int)) (l : List Int) (p : Int) : Bool := @decide (Simp s l p) (Classical.propDecidable _)
theorem simpD_iff {s : List (List Int)} {l : List Int} {p : Int} : simpD s l p = true ↔ Simp s l p := by
  unfold simpD
  exact @decide_eq_true_iff _ (Classical.propDecidable _)
theorem simpD_not {s : List (List Int)} {l : List Int} {p : Int} : simpD s l p = false ↔ ¬Simp s l p := by
  rw [← simpD_iff, Bool.not_eq_true]
theorem drop_pw {r : Int → Int → Prop} {pts : List Int} : (∀ (j : Nat) (h : j < pts.length), ∀ o ∈ pts.drop (j + 1), r pts[j] o) ↔ pts.Pairwise r := by
  rw [List.pairwise_iff_getElem]
  constructor
  · intro h i j hi hj hij
    exact h i hi _ (mem_drop.mpr ⟨j, hj, hij, rfl⟩)
  · intro h j hj o ho
    obtain ⟨i, hi, hij, rfl⟩ := mem_drop.mp ho
    exact h j i hj hi hij
/-- pairwise tied, of a list without repeats with the members of the neighbourhood -/
theorem simp_pw {many : Int} {s : List (List Int)} {l ns : List Int} {p : Int} (hw : WebOk many s) (hl : ∀ x ∈ l, 0 ≤ x ∧ x < many) (nd : ns.Nodup) (hm : ∀ x, x ∈ ns ↔ x ∈ l ∧ x ∈ nb s p) : ns.Pairwise (fun a b => b ∈ nb s a) ↔ Simp s l p := by
  rw [List.pairwise_iff_getElem]
  constructor
  · intro h a ha b hb ha' hb' ne
    obtain ⟨i, hi, ei⟩ := List.mem_iff_getElem.mp ((hm a).mpr ⟨ha, ha'⟩)
    obtain ⟨j, hj, ej⟩ := List.mem_iff_getElem.mp ((hm b).mpr ⟨hb, hb'⟩)
    rcases Nat.lt_trichotomy i j with q | q | q
    · have := h i j hi hj q
      rw [ei, ej] at this
      exact this
    · subst q
      exact absurd (ei.symm.trans ej) ne
    · have := h j i hj hi q
      rw [ei, ej] at this
      exact (hw.sy _ _ (hl b hb).1 (hl b hb).2 (hl a ha).1 (hl a ha).2).mp this
  · intro h i j hi hj hij
    have mi := (hm _).mp (List.getElem_mem hi)
    have mj := (hm _).mp (List.getElem_mem hj)
    exact h _ mi.1 _ mj.1 mi.2 mj.2 (List.pairwise_iff_getElem.mp nd i j hi hj hij)
theorem beside_eq {w : Web} {p : Int} (hw : WebOk w.many w.rows) (h0 : 0 ≤ p) (h1 : p < w.many) : m_p_Web_beside w p = .ok (nb w.rows p) := by
  refine Res.Sat.eq (sat_resn ?_)
  unfold b_p_Web_beside
  have := hw.len
  exact sat_runv (need_eq h0 h1) (sat_req (nb_at h0 (by omega)) rfl)
theorem nb_nodup {many : Int} {s : List (List Int)} (hw : WebOk many s) {p : Int} (h0 : 0 ≤ p) (h1 : p < many) : (nb s p).Nodup := (hw.so p h0 h1).imp fun h => by omega
theorem nodup_len : ∀ {a b : List Int}, a.Nodup → (∀ x ∈ a, x ∈ b) → a.length ≤ b.length
  | [], _, _, _ => Nat.zero_le _
  | x :: a, b, nd, h => by
    have hx := h x (by simp)
    have n := List.nodup_cons.mp nd
    have q := nodup_len (b := b.erase x) n.2 fun y hy => by
      have ne : y ≠ x := fun e => n.1 (e ▸ hy)
      exact (List.mem_erase_of_ne ne).mpr (h y (by simp [hy]))
    rw [List.length_erase_of_mem hx] at q
    have := List.length_pos_of_mem hx
    rw [List.length_cons]
    omega
theorem nb_len {many : Int} {s : List (List Int)} (hw : WebOk many s) {p : Int} (h0 : 0 ≤ p) (h1 : p < many) : (nb s p).length ≤ 60 := by
  have nd := nb_nodup hw h0 h1
  have sub : ∀ x ∈ nb s p, x ∈ rangeI 0 many := fun x hx => by
    have := hw.rg p x h0 h1 hx
    exact rangeI_mem.mpr ⟨this.1, this.2.1⟩
  have := nodup_len nd sub
  rw [rangeI_length] at this
  have := hw.m1
  omega
theorem find_for {R : Type} {p : Int → Bool} {Q : R → Prop} {E : Nat → Prop} {P : Unit → Prop} {f : Unit → Int → Fl Unit R} {xs : List Int} (h1 : ∀ x ∈ xs, p x = true → xs.find? p = some x → (f () x).Sat (fun _ => False) Q E) (h2 : ∀ x ∈ xs, p x = false → (f () x).Sat (fun _ => True) (fun _ => False) E) (h3 : xs.find? p = none → P ()) : (forF f xs ()).Sat P Q E := by
  induction xs with
  | nil => exact h3 rfl
  | cons x xs ih =>
    unfold forF
    cases hp : p x with
    | true =>
      exact sat_bind (sat_mono (h1 x (by simp) hp (by simp [List.find?, hp])) (fun _ q => q.elim) fun _ q => q)
    | false =>
      have e : (x :: xs).find? p = xs.find? p := by simp [List.find?, hp]
      rw [e] at h1 h3
      refine sat_bind (sat_mono (h2 x (by simp) hp) (fun _ _ => ?_) fun _ q => q.elim)
      exact ih (fun y hy => h1 y (by simp [hy])) (fun y hy => h2 y (by simp [hy])) h3
theorem Simp.sub {s : List (List Int)} {l l' : List Int} {p : Int} (h : Simp s l p) (hs : ∀ x ∈ l', x ∈ l) : Simp s l' p := fun a ha b hb => h a (hs a ha) b (hs b hb)
theorem whileF_step {S R : Type} {t : S → Fl Bool R} {f : S → Fl S R} {n : Nat} {s : S} : whileF t f (n + 1) s = (t s).bind fun b => if b = true then (f s).bind fun s' => whileF t f n s' else .nx s := rfl
end VL

set_option Elab.async false
set_option linter.all false
set_option maxRecDepth 100000
set_option maxHeartbeats 1000000
/-! MA9n: the law's look at numbers. -/
namespace VL
open PySem L2
theorem numbers_ok {a b : List Int} (hl : b.length ≤ 100000) : (m_l_numbers a b).Sat (fun r => r = true ↔ a = b) noE := by
  refine sat_resn ?_
  unfold b_l_numbers
  refine sat_if (fun hz => ?_) fun hz => ?_
  · refine sat_rt ⟨fun q => (nomatch q), fun q => ?_⟩
    subst q
    simp at hz
  · have le : a.length = b.length := by
      simp only [Bool.not_true, Bool.false_or, Bool.not_eq_false', decide_eq_true_eq] at hz
      omega
    refine sat_chk (rg_ok (by omega) (by omega) (by omega) (by omega)) (sat_bind ?_)
    refine sat_for (fun i _ => ∀ (j : Nat) (h1 : j < a.length) (h2 : j < b.length), j < i → a[j] = b[j]) (fun j _ _ q => absurd q (Nat.not_lt_zero _)) (fun i hi _ hs => ?_) fun _ hs => ?_
    · rw [rangeI_at hi]
      rw [rangeI_length] at hi
      rw [Int.zero_add]
      have h1 : i < a.length := by omega
      have h2 : i < b.length := by omega
      refine sat_req (atI_nat h1) (sat_getv (show m_l_whole a[i] = .ok true from rfl) (sat_req (a := !(decide (a[i] = b[i]))) ?_ (sat_if (fun hz => ?_) fun hz => ?_)))
      · unfold orO
        rw [atI_nat h1, atI_nat h2]
        rfl
      · refine sat_rt ⟨fun q => (nomatch q), fun q => ?_⟩
        subst q
        simp at hz
      · refine sat_nx fun j h1 h2 hj => ?_
        by_cases e : j = i
        · subst e
          simpa using hz
        · exact hs j h1 h2 (by omega)
    · refine sat_rt ⟨fun _ => List.ext_getElem le fun j h1 h2 => hs j h1 h2 (by rw [rangeI_length]; omega), fun _ => rfl⟩
end VL

set_option Elab.async false
set_option linter.all false
set_option maxRecDepth 100000
set_option maxHeartbeats 1000000
/-! MDq: all ties of a web. -/
namespace VL
open PySem L2
/-- the ties of k with those above it -/
def upt (s : List (List Int)) (k : Int) : List (Int × Int) := ((nb s k).filter fun x => decide (k < x)).map fun x => (k, x)
def allT (s : List (List Int)) (many : Int) : List (Int × Int) := (rangeI 0 many).flatMap (upt s)
theorem upt_len {many : Int} {s : List (List Int)} (hw : WebOk many s) {p : Int} (h0 : 0 ≤ p) (h1 : p < many) : (upt s p).length ≤ 60 := by
  unfold upt
  rw [List.length_map]
  exact Nat.le_trans (List.length_filter_le _ _) (nb_len hw h0 h1)
theorem take_flat {α : Type} {f : Int → List α} {xs : List Int} {i : Nat} (h : i < xs.length) : (xs.take (i + 1)).flatMap f = (xs.take i).flatMap f ++ f xs[i] := by
  rw [List.take_add_one, List.getElem?_eq_getElem h, List.flatMap_append]
  show _ ++ List.flatMap f [xs[i]] = _
  rw [List.flatMap_singleton]
theorem ties_eq {w : Web} (hw : WebOk w.many w.rows) : m_p_Web_ties w = .ok (allT w.rows w.many) := by
  refine Res.Sat.eq (sat_resn ?_)
  unfold b_p_Web_ties
  have m0 := hw.m0
  have m1 := hw.m1
  have sl := hw.len
  have sz := size_ge
  refine sat_lt (sat_chk (rg_ok (by omega) (by omega) (by omega) (by omega)) (sat_bind ?_))
  refine sat_for (fun i t => t = ((rangeI 0 w.many).take i).flatMap (upt w.rows) ∧ t.length ≤ 60 * i) ⟨rfl, Nat.le_refl _⟩ (fun i hi t ht => ?_) fun t ht => ?_
  · rw [take_flat hi, rangeI_at hi]
    rw [rangeI_length] at hi
    rw [Int.zero_add]
    obtain ⟨ht, hl⟩ := ht
    rw [← ht]
    refine sat_req (nb_at (by omega) (by omega)) (sat_bind ?_)
    have nl := nb_len hw (p := (i : Int)) (by omega) (by omega)
    unfold upt
    generalize nb w.rows (i : Int) = L at nl
    refine sat_for (fun j u => u = t ++ ((L.take j).filter fun x => decide ((i : Int) < x)).map (fun x => ((i : Int), x)) ∧ u.length ≤ 60 * i + j) ⟨by simp, by omega⟩ (fun j hj u hu => ?_) fun u hu => ?_
    · obtain ⟨hu, ul⟩ := hu
      have tk : L.take (j + 1) = L.take j ++ [L[j]] := by
        rw [List.take_add_one, List.getElem?_eq_getElem hj]
        rfl
      rw [tk, List.filter_append, List.map_append]
      refine sat_bind (sat_if (fun hz => ?_) fun hz => ?_)
      · refine sat_app (by omega) (sat_nx (sat_nx ⟨?_, by rw [List.length_append, List.length_singleton]; omega⟩))
        rw [hu, List.append_assoc]
        have e : ([L[j]].filter fun x => decide ((i : Int) < x)) = [L[j]] := by
          rw [List.filter_cons, hz]
          rfl
        rw [e]
        rfl
      · refine sat_nx (sat_nx ⟨?_, by omega⟩)
        have e : ([L[j]].filter fun x => decide ((i : Int) < x)) = [] := by
          rw [List.filter_cons, hz]
          rfl
        rw [e, hu]
        simp
    · rw [List.take_length] at hu
      exact ⟨hu.1, by omega⟩
  · refine sat_rt ?_
    rw [List.take_length] at ht
    exact ht.1
theorem allT_len {many : Int} {s : List (List Int)} (hw : WebOk many s) : (allT s many).length ≤ 3600 := by
  have m0 := hw.m0
  have m1 := hw.m1
  have key : ∀ xs : List Int, (∀ x ∈ xs, 0 ≤ x ∧ x < many) → (xs.flatMap (upt s)).length ≤ 60 * xs.length := by
    intro xs
    induction xs with
    | nil => intro _; simp
    | cons x xs ih =>
      intro h
      rw [List.flatMap_cons, List.length_append, List.length_cons]
      have := ih fun y hy => h y (by simp [hy])
      have hx := h x (by simp)
      have := upt_len hw hx.1 hx.2
      omega
  have := key (rangeI 0 many) fun x hx => rangeI_mem.mp hx
  rw [rangeI_length] at this
  unfold allT
  omega
end VL

set_option Elab.async false
set_option linter.all false
set_option maxRecDepth 100000
set_option maxHeartbeats 1000000
/-! MDp: pairs looked at. -/
namespace VL
open PySem L2
theorem l_pairs_ok {a b : List (Int × Int)} (hl : b.length ≤ 100000) : (m_l_pairs a b).Sat (fun r => r = true ↔ a = b) noE := by
  refine sat_resn ?_
  unfold b_l_pairs
  refine sat_if (fun hz => ?_) fun hz => ?_
  · refine sat_rt ⟨fun q => (nomatch q), fun q => ?_⟩
    subst q
    simp at hz
  · have le : a.length = b.length := by
      simp only [Bool.not_true, Bool.false_or, Bool.not_eq_false', decide_eq_true_eq] at hz
      omega
    refine sat_chk (rg_ok (by omega) (by omega) (by omega) (by omega)) (sat_bind ?_)
    refine sat_for (fun i _ => ∀ (j : Nat) (h1 : j < a.length) (h2 : j < b.length), j < i → a[j] = b[j]) (fun j _ _ q => absurd q (Nat.not_lt_zero _)) (fun i hi _ hs => ?_) fun _ hs => ?_
    · rw [rangeI_at hi]
      rw [rangeI_length] at hi
      rw [Int.zero_add]
      have h1 : i < a.length := by omega
      have h2 : i < b.length := by omega
      refine sat_req (atI_nat h1) (sat_req (a := false) ?_ (sat_if (fun hz => nomatch hz) fun _ => sat_req (atI_nat h1) (sat_getv (show m_l_whole a[i].1 = .ok true from rfl) (sat_req (a := !(decide (a[i] = b[i]))) ?_ (sat_if (fun hz => ?_) fun hz => ?_)))))
      · rw [atI_nat h1]
        rfl
      · rw [atI_nat h1, atI_nat h2]
        rfl
      · refine sat_rt ⟨fun q => (nomatch q), fun q => ?_⟩
        subst q
        simp at hz
      · refine sat_nx fun j h1 h2 hj => ?_
        by_cases e : j = i
        · subst e
          simpa using hz
        · exact hs j h1 h2 (by omega)
    · refine sat_rt ⟨fun _ => List.ext_getElem le fun j h1 h2 => hs j h1 h2 (by rw [rangeI_length]; omega), fun _ => rfl⟩
/-- the law's own list of them -/
theorem l_all {many : Int} {s : List (List Int)} (hw : WebOk many s) {R : Type} {Q : R → Prop} {P : List (Int × Int) → Prop} (h : P (allT s many)) :
    (forF (fun (s5 : (List (Int × Int))) (k1 : Int) =>
  Fl.req (atI s k1) fun item1 =>
  Fl.chk ((s5).length + ((((item1).filter (fun other : Int => (decide (k1 < other)))).map (fun other : Int => (k1, other)))).length ≤ sizeLine) <|
  Fl.lt ((s5 ++ (((item1).filter (fun other : Int => (decide (k1 < other)))).map (fun other : Int => (k1, other)))) : (List (Int × Int))) fun pairs1 =>
  (Fl.nx (pairs1) : Fl (List (Int × Int)) R)) (rangeI 0 many) []).Sat P Q noE := by
  have m0 := hw.m0
  have m1 := hw.m1
  have sl := hw.len
  have sz := size_ge
  refine sat_for (fun i t => t = ((rangeI 0 many).take i).flatMap (upt s) ∧ t.length ≤ 60 * i) ⟨rfl, Nat.le_refl _⟩ (fun i hi t ht => ?_) fun t ht => ?_
  · rw [take_flat hi, rangeI_at hi]
    rw [rangeI_length] at hi
    rw [Int.zero_add]
    obtain ⟨ht, hl⟩ := ht
    rw [← ht]
    have ul := upt_len hw (p := (i : Int)) (by omega) (by omega)
    have e : ((nb s (i : Int)).filter fun other : Int => decide ((i : Int) < other)).map (fun other : Int => ((i : Int), other)) = upt s i := rfl
    refine sat_req (nb_at (by omega) (by omega)) (sat_chk (by rw [e]; omega) (sat_lt (sat_nx ⟨by rw [e], ?_⟩)))
    rw [e, List.length_append]
    omega
  · rw [List.take_length] at ht
    rw [ht.1]
    exact h
end VL

set_option Elab.async false
set_option linter.all false
set_option maxRecDepth 100000
set_option maxHeartbeats 1000000
/-! MGw: webs refused; points that are not there; what a web tells. -/
namespace VL
open PySem L2
section
variable {S R α : Type} {P : S → Prop} {Q : R → Prop} {E : Nat → Prop}
theorem res_exc {R : Type} {r : Res R} {c : Nat} (h : r.Sat (fun _ => False) (· = c)) : r = .exc c := by
  cases r with
  | ok x => exact h.elim
  | exc d => exact congrArg Res.exc h
  | bad => exact h.elim
theorem sat_resx' {o : Fl Unit R} {un : Option R} (h : o.Sat (fun _ => False) Q E) : (o.res un).Sat Q E := by
  cases o with
  | nx s => exact h.elim
  | rt r => exact h
  | exc c => exact h
  | bad => exact h
theorem sat_runx' {r : Res α} {k : α → Fl S R} {c : Nat} (h : r = .exc c) (he : E c) : (Fl.run r k).Sat P Q E := by subst h; exact he
end
/-- a tie between two points that are there -/
def TieOk (many : Int) (p : Int × Int) : Prop := 0 ≤ p.1 ∧ p.1 < many ∧ 0 ≤ p.2 ∧ p.2 < many ∧ p.1 ≠ p.2
theorem web_of_x1 {many : Int} {ties : List (Int × Int)} (h : many < 0 ∨ 60 < many) : m_p_web_of many ties = .exc 1 := by
  refine res_exc (sat_resx' ?_)
  unfold b_p_web_of
  refine sat_if (fun _ => sat_exc rfl) fun hz => ?_
  simp only [Bool.not_eq_false', Bool.and_eq_true, decide_eq_true_eq] at hz
  omega
theorem web_of_x2 {many : Int} {ties : List (Int × Int)} {p : Int × Int} (hp : p ∈ ties) (h : ¬TieOk many p) : m_p_web_of many ties = .exc 1 := by
  refine res_exc (sat_resx' ?_)
  unfold b_p_web_of
  refine sat_if (fun _ => sat_exc rfl) fun hz => sat_bind ?_
  refine sat_for (fun i _ => ∀ (j : Nat) (hj : j < ties.length), j < i → TieOk many ties[j]) (fun j _ q => absurd q (Nat.not_lt_zero _)) (fun i hi _ hs => ?_) fun _ hs => ?_
  · refine sat_if (fun _ => sat_exc rfl) fun hz => sat_nx fun j hj q => ?_
    by_cases e : j = i
    · subst e
      simp only [Bool.or_eq_false_iff, Bool.not_eq_false', Bool.and_eq_true, decide_eq_true_eq, decide_eq_false_iff_not] at hz
      exact ⟨hz.1.1, hz.1.2, hz.2.1.1, hz.2.1.2, hz.2.2⟩
    · exact hs j hj (by omega)
  · obtain ⟨j, hj, rfl⟩ := List.mem_iff_getElem.mp hp
    exact absurd (hs j hj hj) h
theorem need_x {w : Web} {p : Int} (h : ¬(0 ≤ p ∧ p < w.many)) : m_p_Web_need w p = .exc 2 := by
  refine res_exc (sat_resx' ?_)
  unfold b_p_Web_need
  refine sat_if (fun _ => sat_exc rfl) fun hz => ?_
  simp only [Bool.not_eq_false', Bool.and_eq_true, decide_eq_true_eq] at hz
  exact absurd hz h
theorem beside_x {w : Web} {p : Int} (h : ¬(0 ≤ p ∧ p < w.many)) : m_p_Web_beside w p = .exc 2 := by
  refine res_exc (sat_resx' ?_)
  unfold b_p_Web_beside
  exact sat_runx' (need_x h) rfl
theorem tied_x {w : Web} {a b : Int} (hw : WebOk w.many w.rows) (h : ¬(0 ≤ a ∧ a < w.many) ∨ ¬(0 ≤ b ∧ b < w.many)) : m_p_Web_tied w a b = .exc 2 := by
  refine res_exc (sat_resx' ?_)
  unfold b_p_Web_tied
  by_cases hb : 0 ≤ b ∧ b < w.many
  · refine sat_runv (need_eq hb.1 hb.2) ?_
    exact sat_runx' (need_x (h.resolve_right fun z => z hb)) rfl
  · exact sat_runx' (need_x hb) rfl
end VL

set_option Elab.async false
set_option linter.all false
set_option maxRecDepth 100000
set_option maxHeartbeats 1000000
/-! MTg: the text of a web. -/
namespace VL
open PySem L2 TL
def hdT (m : Int) : Str := (strI m) ++ (":" : Str)
def tieT (p : Int × Int) : Str := joinS [(strI p.1), ("-" : Str), (strI p.2)]
def wordsT (w : Web) : List Str := hdT w.many :: (allT w.rows w.many).map tieT
theorem tl_strI {n : Int} (h : 0 ≤ n) : tl (strI n) = numL n.toNat := by
  obtain ⟨k, rfl⟩ := Int.eq_ofNat_of_zero_le h
  exact tl_num k
theorem tl_hdT {m : Int} (h : 0 ≤ m) : tl (hdT m) = numL m.toNat ++ [58] := by
  unfold hdT
  rw [tl_append, tl_strI h]
  rfl
theorem tl_tieT {p : Int × Int} (h1 : 0 ≤ p.1) (h2 : 0 ≤ p.2) : tl (tieT p) = numL p.1.toNat ++ (45 :: numL p.2.toNat) := by
  have e : tieT p = ((Str.empty ++ strI p.1) ++ ("-" : Str)) ++ strI p.2 := rfl
  rw [e, tl_append, tl_append, tl_append, tl_strI h1, tl_strI h2]
  show ([] ++ numL p.1.toNat ++ [45]) ++ numL p.2.toNat = _
  simp
theorem numL_two {n : Int} (h0 : 0 ≤ n) (h1 : n ≤ 60) : (numL n.toNat).length ≤ 2 := numL_len (by decide) (by omega)
theorem hdT_len {m : Int} (h0 : 0 ≤ m) (h1 : m ≤ 60) : (hdT m).length ≤ 5 := by
  rw [len_tl, tl_hdT h0, List.length_append]
  have := numL_two h0 h1
  simp only [List.length_cons, List.length_nil]
  omega
theorem tieT_len {p : Int × Int} (h0 : 0 ≤ p.1) (h1 : p.1 ≤ 60) (h2 : 0 ≤ p.2) (h3 : p.2 ≤ 60) : (tieT p).length ≤ 5 := by
  rw [len_tl, tl_tieT h0 h2, List.length_append, List.length_cons]
  have := numL_two h0 h1
  have := numL_two h2 h3
  omega
theorem log_ok {n : Int} (h0 : 0 ≤ n) (h1 : n ≤ 60) : n.natAbs.log2 < 1920 := by
  have : n.natAbs.log2 ≤ n.natAbs := Nat.log2_le_self _
  omega
theorem line_ge : (1000000 : Nat) ≤ sizeLine := by decide
theorem allT_mem {many : Int} {s : List (List Int)} {p : Int × Int} (h : p ∈ allT s many) : 0 ≤ p.1 ∧ p.1 < many ∧ p.2 ∈ nb s p.1 := by
  unfold allT at h
  obtain ⟨k, hk, hp⟩ := List.mem_flatMap.mp h
  unfold upt at hp
  obtain ⟨x, hx, rfl⟩ := List.mem_map.mp hp
  have rk := rangeI_mem.mp hk
  exact ⟨rk.1, rk.2, (List.mem_filter.mp hx).1⟩
theorem allT_rg {w : Web} (hw : WebOk w.many w.rows) {p : Int × Int} (h : p ∈ allT w.rows w.many) : 0 ≤ p.1 ∧ p.1 ≤ 60 ∧ 0 ≤ p.2 ∧ p.2 ≤ 60 := by
  have q := allT_mem h
  have r := hw.rg _ _ q.1 q.2.1 q.2.2
  have := hw.m1
  omega
theorem wordsT_five {w : Web} (hw : WebOk w.many w.rows) : ∀ x ∈ wordsT w, x.length ≤ 5 := fun x hx => by
  unfold wordsT at hx
  rcases List.mem_cons.mp hx with rfl | hx
  · exact hdT_len hw.m0 hw.m1
  · obtain ⟨p, hp, rfl⟩ := List.mem_map.mp hx
    have r := allT_rg hw hp
    exact tieT_len r.1 r.2.1 r.2.2.1 r.2.2.2
theorem wordsT_len {w : Web} (hw : WebOk w.many w.rows) : (wordsT w).length ≤ 3601 := by
  have := allT_len hw
  unfold wordsT
  rw [List.length_cons, List.length_map]
  omega
theorem sum_five {xs : List Str} (h : ∀ x ∈ xs, x.length ≤ 5) : ((xs).map (·.length)).sum ≤ 5 * xs.length := by
  induction xs with
  | nil => simp
  | cons x xs ih =>
    have := ih fun y hy => h y (List.mem_cons_of_mem _ hy)
    have := h x (List.mem_cons_self ..)
    simp only [List.map_cons, List.sum_cons, List.length_cons]
    omega
def textT (w : Web) : Str := Txt.join (" " : Str) (wordsT w)
theorem shown_eq {w : Web} (hw : WebOk w.many w.rows) : m_p_shown w = .ok (textT w) := by
  refine Res.Sat.eq (sat_resn ?_)
  unfold b_p_shown
  have ln := line_ge
  have h5 := hdT_len hw.m0 hw.m1
  have al := allT_len hw
  refine sat_chk (log_ok hw.m0 hw.m1) (sat_chk ?_ (sat_lt (sat_getv (ties_eq hw) (sat_bind ?_))))
  · have e : (strI w.many).length + (":" : Str).length = (hdT w.many).length := by
      rw [len_tl, len_tl, len_tl, ← List.length_append, ← tl_append]
      rfl
    rw [e]
    omega
  · refine sat_for (fun i s => s = hdT w.many :: ((allT w.rows w.many).take i).map tieT) rfl (fun i hi s hs => ?_) fun s hs => ?_
    · have r := allT_rg hw (List.getElem_mem hi)
      have tf := tieT_len r.1 r.2.1 r.2.2.1 r.2.2.2
      refine sat_chk (log_ok r.1 r.2.1) (sat_chk (log_ok r.2.2.1 r.2.2.2) (sat_chk ?_ (sat_app ?_ (sat_nx ?_))))
      · show (tieT _).length ≤ _
        omega
      · rw [hs, List.length_cons, List.length_map, List.length_take]
        omega
      · rw [hs, List.take_add_one, List.getElem?_eq_getElem hi, List.map_append]
        rfl
    · rw [List.take_length] at hs
      subst hs
      refine sat_chk ?_ (sat_rt rfl)
      have a := sum_five (wordsT_five hw)
      have b := wordsT_len hw
      show ((wordsT w).map (·.length)).sum + (wordsT w).length * 1 ≤ 16777216
      omega
theorem wordsT_free {w : Web} (hw : WebOk w.many w.rows) : ∀ x ∈ wordsT w, 32 ∉ tl x := fun x hx => by
  unfold wordsT at hx
  rcases List.mem_cons.mp hx with rfl | hx
  · rw [tl_hdT hw.m0]
    intro h
    rcases List.mem_append.mp h with h | h
    · exact numL_free (Or.inl (by decide)) h
    · exact absurd h (by decide)
  · obtain ⟨p, hp, rfl⟩ := List.mem_map.mp hx
    have r := allT_rg hw hp
    rw [tl_tieT r.1 r.2.2.1]
    intro h
    rcases List.mem_append.mp h with h | h
    · exact numL_free (Or.inl (by decide)) h
    · rcases List.mem_cons.mp h with h | h
      · exact absurd h (by decide)
      · exact numL_free (Or.inl (by decide)) h
theorem split_textT {w : Web} (hw : WebOk w.many w.rows) : Txt.split (textT w) (" " : Str) = wordsT w :=
  split_join (s := 32) (S := []) rfl (by rw [← Array.all_toList]; rfl) (by unfold wordsT; simp) (wordsT_free hw)
theorem joinL_len (S : List Nat) : ∀ ps : List (List Nat), (joinL S ps).length ≤ (ps.map (·.length)).sum + ps.length * S.length
  | [] => by simp [joinL]
  | [p] => by simp [joinL]
  | p :: q :: r => by
    have ih := joinL_len S (q :: r)
    show (p ++ (S ++ joinL S (q :: r))).length ≤ _
    simp only [List.length_append, List.map_cons, List.sum_cons, List.length_cons] at ih ⊢
    rw [Nat.add_mul, Nat.one_mul]
    omega
theorem textT_len {w : Web} (hw : WebOk w.many w.rows) : (textT w).length + 2 ≤ sizeLine := by
  have ln := line_ge
  have a := sum_five (wordsT_five hw)
  have b := wordsT_len hw
  have c := joinL_len (tl (" " : Str)) ((wordsT w).map tl)
  unfold textT
  rw [len_tl, join_eq, tl_join]
  rw [List.map_map, List.length_map] at c
  have e : (List.length ∘ tl) = (fun x : Str => x.length) := funext fun x => (len_tl x).symm
  have e1 : (tl (" " : Str)).length = 1 := rfl
  rw [e1] at c
  have c' : (joinL (tl (" " : Str)) ((wordsT w).map tl)).length ≤ ((wordsT w).map (fun x : Str => x.length)).sum + (wordsT w).length * 1 := by rw [← e]; exact c
  omega
theorem digit_mem {c : Nat} (h : 48 ≤ c ∧ c ≤ 57) : c ∈ (("0123456789" : Str)).cps.toList := by
  have e : (("0123456789" : Str)).cps.toList = [48, 49, 50, 51, 52, 53, 54, 55, 56, 57] := rfl
  rw [e]
  simp only [List.mem_cons, List.not_mem_nil, or_false]
  omega
theorem tl_cutS (z : Str) (lo hi : Option Int) : tl (cutS z lo hi) = ((tl z).drop (HT.sIx z.length 0 lo)).take (HT.sIx z.length z.length hi - HT.sIx z.length 0 lo) := rfl
theorem sIx_last {n d : Nat} (h : 0 < n) : HT.sIx n d (some (-1)) = n - 1 := by
  show (if (-1 : Int) < 0 then ((-1 : Int) + (n : Int)).toNat else min (-1 : Int).toNat n) = _
  rw [if_pos (by decide)]
  omega
theorem hd_end {m : Int} (h : 0 ≤ m) : cutS (hdT m) (some (-(1 : Int))) none = (":" : Str) := by
  have l := len_tl (hdT m)
  rw [tl_hdT h, List.length_append] at l
  have l1 : (hdT m).length = (numL m.toNat).length + 1 := l
  refine ext_tl ?_
  rw [tl_cutS, sIx_last (by omega), tl_hdT h, HT.sIx_none, l1, Nat.add_sub_cancel, List.drop_left]
  rw [show (numL m.toNat).length + 1 - (numL m.toNat).length = 1 by omega]
  rfl
theorem hd_num {m : Int} (h : 0 ≤ m) : cutS (hdT m) none (some (-(1 : Int))) = strI m := by
  have l := len_tl (hdT m)
  rw [tl_hdT h, List.length_append] at l
  have l1 : (hdT m).length = (numL m.toNat).length + 1 := l
  refine ext_tl ?_
  rw [tl_cutS, sIx_last (by omega), tl_hdT h, HT.sIx_none, l1, Nat.add_sub_cancel, List.drop_zero, Nat.sub_zero, List.take_left, tl_strI h]
theorem allT_ties {w : Web} (hw : WebOk w.many w.rows) : TiesOk w.many (allT w.rows w.many) := fun p hp => by
  have q := allT_mem hp
  have r := hw.rg _ _ q.1 q.2.1 q.2.2
  exact ⟨q.1, q.2.1, r.1, r.2.1, fun e => r.2.2 e.symm⟩
theorem allT_near {w : Web} (hw : WebOk w.many w.rows) : NearOk w.many w.rows (allT w.rows w.many) := by
  have sl := hw.len
  have inT : ∀ a b : Int, 0 ≤ a → a < w.many → b ∈ nb w.rows a → a < b → (a, b) ∈ allT w.rows w.many := fun a b a0 a1 hb hl => by
    unfold allT upt
    exact List.mem_flatMap.mpr ⟨a, rangeI_mem.mpr ⟨a0, a1⟩, List.mem_map.mpr ⟨b, List.mem_filter.mpr ⟨hb, decide_eq_true hl⟩, rfl⟩⟩
  refine ⟨sl, fun i hi => ?_⟩
  have hi' : (i : Int) < w.many := by omega
  have so := hw.so (i : Int) (by omega) hi'
  rw [nb_get hi] at so
  refine ⟨so, fun x => ⟨fun hx => ?_, fun hx => ?_⟩⟩
  · have hx' : x ∈ nb w.rows (i : Int) := by rw [nb_get hi]; exact hx
    have r := hw.rg _ _ (by omega) hi' hx'
    rcases Int.lt_or_gt_of_ne r.2.2 with h | h
    · exact Or.inr (inT x i r.1 r.2.1 ((hw.sy _ _ (by omega) hi' r.1 r.2.1).mp hx') h)
    · exact Or.inl (inT i x (by omega) hi' hx' h)
  · rw [← nb_get hi]
    rcases hx with hx | hx
    · exact (allT_mem hx).2.2
    · have q := allT_mem hx
      exact (hw.sy _ _ q.1 q.2.1 (by omega) hi').mp q.2.2
end VL

set_option Elab.async false
set_option linter.all false
set_option maxRecDepth 100000
set_option maxHeartbeats 1000000
/-! MTy: numbers and ties read; the parts of a text. -/
namespace VL
open PySem L2 TL
theorem joinL_part (S : List Nat) : ∀ (ps : List (List Nat)) (p : List Nat), p ∈ ps → p.length ≤ (joinL S ps).length
  | [], p, h => absurd h List.not_mem_nil
  | [q], p, h => by rw [List.mem_singleton.mp h]; exact Nat.le_refl _
  | q :: r :: t, p, h => by
    have ih := joinL_part S (r :: t) p
    show _ ≤ (q ++ (S ++ joinL S (r :: t))).length
    rw [List.length_append, List.length_append]
    rcases List.mem_cons.mp h with rfl | h
    · omega
    · have := ih h
      omega
theorem split_part {x y z : Str} (h : z ∈ Txt.split x y) : z.length ≤ x.length := by
  have e := congrArg tl (PySem.StrLaws.join_split x y)
  rw [tl_join] at e
  rw [len_tl z, len_tl x, ← e]
  exact joinL_part _ _ _ (List.mem_map_of_mem h)
theorem split_cons (x y : Str) : ∃ w ws, Txt.split x y = w :: ws := by
  have h := PyProof.Rows.split_pos x y
  cases e : Txt.split x y with
  | nil => rw [e] at h; exact absurd h (by decide)
  | cons w ws => exact ⟨w, ws, rfl⟩
theorem cutS_len (z : Str) (lo hi : Option Int) : (cutS z lo hi).length ≤ z.length := by
  rw [len_tl, len_tl, tl_cutS, List.length_take, List.length_drop]
  omega
theorem digit_iff {c : Nat} : c ∈ (("0123456789" : Str)).cps.toList ↔ 48 ≤ c ∧ c ≤ 57 := by
  refine ⟨fun h => ?_, digit_mem⟩
  have e : (("0123456789" : Str)).cps.toList = [48, 49, 50, 51, 52, 53, 54, 55, 56, 57] := rfl
  rw [e] at h
  simp only [List.mem_cons, List.not_mem_nil, or_false] at h
  omega
def in99 (o : Option Int) : Bool := match o with
  | some n => decide (0 ≤ n) && decide (n ≤ 99)
  | none => false
theorem in99_ex {o : Option Int} (h : in99 o = true) : ∃ n, o = some n ∧ 0 ≤ n ∧ n ≤ 99 := by
  cases o with
  | none => cases h
  | some n =>
    unfold in99 at h
    simp only [Bool.and_eq_true, decide_eq_true_eq] at h
    exact ⟨n, rfl, h⟩
theorem all_one : ((List.range 10).all fun a => in99 (intText? ⟨#[48 + a]⟩)) = true := by decide +kernel
theorem all_two : ((List.range 10).all fun a => (List.range 10).all fun b => in99 (intText? ⟨#[48 + a, 48 + b]⟩)) = true := by decide +kernel
theorem int_two {w : Str} (h : ∀ c ∈ w.cps.toList, c ∈ (("0123456789" : Str)).cps.toList) (l1 : 1 ≤ w.length) (l2 : w.length ≤ 2) : ∃ n, intText? w = some n ∧ 0 ≤ n ∧ n ≤ 99 := by
  obtain ⟨⟨l⟩⟩ := w
  have lz : (⟨⟨l⟩⟩ : Str).length = l.length := rfl
  rw [lz] at l1 l2
  match l, h, l1, l2 with
  | [a], h, _, _ =>
    have q := digit_iff.mp (h a (by simp))
    have z := List.all_eq_true.mp all_one (a - 48) (List.mem_range.mpr (by omega))
    rw [show 48 + (a - 48) = a by omega] at z
    exact in99_ex z
  | [a, b], h, _, _ =>
    have qa := digit_iff.mp (h a (by simp))
    have qb := digit_iff.mp (h b (by simp))
    have z := List.all_eq_true.mp (List.all_eq_true.mp all_two (a - 48) (List.mem_range.mpr (by omega))) (b - 48) (List.mem_range.mpr (by omega))
    rw [show 48 + (a - 48) = a by omega, show 48 + (b - 48) = b by omega] at z
    exact in99_ex z
  | _ :: _ :: _ :: _, _, _, l2 => exact absurd l2 (by simp)
theorem empty_len {w : Str} : w = ("" : Str) ↔ w.length = 0 := by
  constructor
  · intro h
    subst h
    rfl
  · intro h
    obtain ⟨⟨l⟩⟩ := w
    have lz : (⟨⟨l⟩⟩ : Str).length = l.length := rfl
    rw [lz] at h
    have := List.length_eq_zero_iff.mp h
    subst this
    rfl
def numOk (w : Str) (n : Int) : Prop := m_l_number w = .ok n ∧ m_p_number_of w = .ok n ∧ 0 ≤ n ∧ n ≤ 99
def numNo (w : Str) : Prop := m_l_number w = .ok 99 ∧ m_p_number_of w = .exc 3
theorem sat_dig {S R : Type} {Q : R → Prop} {E : Nat → Prop} {w : Str} {o : Fl Unit R} {P : Unit → Prop} (hb : o.Sat (fun _ => False) Q E) (hd : ¬∀ c ∈ w.cps.toList, c ∈ (("0123456789" : Str)).cps.toList) :
    (forF (fun (s : Unit) (sign : Nat) => (if (!decide (sign ∈ (("0123456789" : Str)).cps.toList)) = true then o else Fl.nx ())) (w.cps.toList) ()).Sat P Q E := by
  refine sat_for (fun i _ => ∀ (j : Nat) (hj : j < w.cps.toList.length), j < i → w.cps.toList[j] ∈ (("0123456789" : Str)).cps.toList) (fun j _ q => absurd q (Nat.not_lt_zero _)) (fun i hi _ hs => ?_) fun _ hs => ?_
  · refine sat_if (fun _ => sat_mono hb (fun _ q => q.elim) fun _ q => q) fun hz => sat_nx fun j hj q => ?_
    by_cases e : j = i
    · subst e
      simpa using hz
    · exact hs j hj (by omega)
  · refine absurd (fun c hc => ?_) hd
    obtain ⟨j, hj, rfl⟩ := List.mem_iff_getElem.mp hc
    exact hs j hj hj
theorem sat_digs {R : Type} {Q : R → Prop} {E : Nat → Prop} {w : Str} {o : Fl Unit R} (hd : ∀ c ∈ w.cps.toList, c ∈ (("0123456789" : Str)).cps.toList) {P : Unit → Prop} (hp : P ()) :
    (forF (fun (s : Unit) (sign : Nat) => (if (!decide (sign ∈ (("0123456789" : Str)).cps.toList)) = true then o else Fl.nx ())) (w.cps.toList) ()).Sat P Q E := by
  refine sat_for (fun _ _ => True) trivial (fun i hi _ _ => ?_) fun _ _ => hp
  refine sat_if (fun hz => ?_) fun _ => trivial
  rw [decide_eq_true (hd _ (List.getElem_mem hi))] at hz
  exact absurd hz (by decide)
theorem orO_some (z b : Bool) : orO z (some b) = some (z || b) := by cases z <;> rfl
theorem num_cases {w : Str} (hl : w.length ≤ 50000) : (∃ n, numOk w n) ∨ numNo w := by
  have ln := line_ge
  have tl_ : orO (decide (w = ("" : Str))) (ifO (w.length ≤ sizeLine) (some (decide ((2 : Int) < (w.length : Int))))) = some (decide (¬(1 ≤ w.length ∧ w.length ≤ 2))) := by
    rw [ifO_pos (by omega), orO_some]
    refine congrArg some ?_
    rw [← Bool.decide_or]
    refine decide_eq_decide.mpr ?_
    rw [empty_len]
    omega
  have tp : orO (decide ((w.length : Int) = (0 : Int))) (ifO (w.length ≤ sizeLine) (some (decide ((2 : Int) < (w.length : Int))))) = some (decide (¬(1 ≤ w.length ∧ w.length ≤ 2))) := by
    rw [ifO_pos (by omega), orO_some]
    refine congrArg some ?_
    rw [← Bool.decide_or]
    refine decide_eq_decide.mpr ?_
    omega
  by_cases hlen : 1 ≤ w.length ∧ w.length ≤ 2
  · by_cases hd : ∀ c ∈ w.cps.toList, c ∈ (("0123456789" : Str)).cps.toList
    · obtain ⟨n, e, n0, n1⟩ := int_two hd hlen.1 hlen.2
      refine Or.inl ⟨n, Res.Sat.eq (sat_resn ?_), Res.Sat.eq (sat_resn ?_), n0, n1⟩
      · unfold b_l_number
        refine sat_req tl_ (sat_if (fun hz => absurd hlen (of_decide_eq_true hz)) fun _ => sat_chk (by omega) (sat_bind (sat_digs hd (sat_req e (sat_chk (by omega) (sat_rt rfl))))))
      · unfold b_p_number_of
        refine sat_chk (by omega) (sat_bind (sat_digs hd (sat_chk (by omega) (sat_req tp (sat_if (fun hz => absurd hlen (of_decide_eq_true hz)) fun _ => sat_req e (sat_chk (by omega) (sat_rt rfl)))))))
    · refine Or.inr ⟨Res.Sat.eq (sat_resn ?_), res_exc (sat_resx' ?_)⟩
      · unfold b_l_number
        refine sat_req tl_ (sat_if (fun _ => sat_rt rfl) fun _ => sat_chk (by omega) (sat_bind (sat_dig (S := Unit) (sat_rt rfl) hd)))
      · unfold b_p_number_of
        refine sat_chk (by omega) (sat_bind (sat_dig (S := Unit) (sat_exc rfl) hd))
  · refine Or.inr ⟨Res.Sat.eq (sat_resn ?_), res_exc (sat_resx' ?_)⟩
    · unfold b_l_number
      refine sat_req tl_ (sat_if (fun _ => sat_rt rfl) fun hz => absurd hlen (of_decide_eq_false hz))
    · unfold b_p_number_of
      refine sat_chk (by omega) (sat_bind ?_)
      refine sat_for (fun _ _ => True) trivial (fun i hi _ _ => sat_if (fun _ => sat_exc rfl) fun _ => trivial) fun _ _ => ?_
      exact sat_chk (by omega) (sat_req tp (sat_if (fun _ => sat_exc rfl) fun hz => absurd hlen (of_decide_eq_false hz)))
theorem tie_cases {w : Str} (hl : w.length ≤ 50000) : ((Txt.split w ("-" : Str)).length ≠ 2 ∧ m_p_tie_of w = .exc 3) ∨
    ∃ a b x y, Txt.split w ("-" : Str) = [a, b] ∧ m_l_number a = .ok x ∧ m_l_number b = .ok y ∧ ((0 ≤ x ∧ 0 ≤ y ∧ m_p_tie_of w = .ok (x, y)) ∨ ((x = 99 ∨ y = 99) ∧ m_p_tie_of w = .exc 3)) := by
  have ln := line_ge
  by_cases h2 : (Txt.split w ("-" : Str)).length = 2
  · refine Or.inr ?_
    obtain ⟨a, b, e⟩ : ∃ a b, Txt.split w ("-" : Str) = [a, b] := by
      generalize Txt.split w ("-" : Str) = l at h2
      match l, h2 with
      | [a, b], _ => exact ⟨a, b, rfl⟩
    have la : a.length ≤ 50000 := Nat.le_trans (split_part (x := w) (y := ("-" : Str)) (by rw [e]; simp)) hl
    have lb : b.length ≤ 50000 := Nat.le_trans (split_part (x := w) (y := ("-" : Str)) (by rw [e]; simp)) hl
    rcases num_cases la with ⟨x, ha⟩ | ha
    · rcases num_cases lb with ⟨y, hb⟩ | hb
      · refine ⟨a, b, x, y, e, ha.1, hb.1, Or.inl ⟨ha.2.2.1, hb.2.2.1, Res.Sat.eq (sat_resn ?_)⟩⟩
        unfold b_p_tie_of
        refine sat_chk (by omega) (sat_lt ?_)
        rw [e]
        exact sat_if (fun hz => absurd hz (by simp)) fun _ => sat_req (a := a) rfl (sat_runv ha.2.1 (sat_req (a := b) rfl (sat_runv hb.2.1 (sat_rt rfl))))
      · refine ⟨a, b, x, 99, e, ha.1, hb.1, Or.inr ⟨Or.inr rfl, res_exc (sat_resx' ?_)⟩⟩
        unfold b_p_tie_of
        refine sat_chk (by omega) (sat_lt ?_)
        rw [e]
        exact sat_if (fun hz => absurd hz (by simp)) fun _ => sat_req (a := a) rfl (sat_runv ha.2.1 (sat_req (a := b) rfl (sat_runx' hb.2 rfl)))
    · obtain ⟨y, hy⟩ : ∃ y, m_l_number b = .ok y := by
        rcases num_cases lb with ⟨y, hb⟩ | hb
        · exact ⟨y, hb.1⟩
        · exact ⟨99, hb.1⟩
      refine ⟨a, b, 99, y, e, ha.1, hy, Or.inr ⟨Or.inl rfl, res_exc (sat_resx' ?_)⟩⟩
      unfold b_p_tie_of
      refine sat_chk (by omega) (sat_lt ?_)
      rw [e]
      exact sat_if (fun hz => absurd hz (by simp)) fun _ => sat_req (a := a) rfl (sat_runx' ha.2 rfl)
  · refine Or.inl ⟨h2, res_exc (sat_resx' ?_)⟩
    unfold b_p_tie_of
    refine sat_chk (by omega) (sat_lt (sat_if (fun _ => sat_exc rfl) fun hz => ?_))
    simp only [Bool.not_eq_false', decide_eq_true_eq] at hz
    omega
theorem tie_out {w : Str} (hl : w.length ≤ 50000) : m_p_tie_of w = .exc 3 ∨ ∃ p, m_p_tie_of w = .ok p := by
  rcases tie_cases hl with ⟨_, h⟩ | ⟨a, b, x, y, _, _, _, ⟨_, _, h⟩ | ⟨_, h⟩⟩
  · exact Or.inl h
  · exact Or.inr ⟨_, h⟩
  · exact Or.inl h
/-! compR -/
section
variable {α β : Type} {f : α → Res β}
theorem compR_append {xs ys : List α} {s : List β} (h : compR f xs = .ok s) : compR f (xs ++ ys) = (compR f ys).map (s ++ ·) := by
  induction xs generalizing s with
  | nil =>
    cases h
    exact (Res.map_id _).symm
  | cons x xs ih =>
    unfold compR at h
    cases hx : f x with
    | exc c => rw [hx] at h; cases h
    | bad => rw [hx] at h; cases h
    | ok y =>
      rw [hx] at h
      cases hs : compR f xs with
      | exc c => rw [hs] at h; cases h
      | bad => rw [hs] at h; cases h
      | ok t =>
        rw [hs] at h
        cases h
        show (match f x with
          | .ok y => (compR f (xs ++ ys)).map (y :: ·)
          | .exc c => .exc c
          | .bad => .bad) = _
        rw [hx, ih hs]
        show ((compR f ys).map _).map _ = _
        rw [Res.map_map]
        rfl
theorem compR_out {xs : List α} {c : Nat} (h : ∀ x ∈ xs, f x = .exc c ∨ ∃ y, f x = .ok y) : compR f xs = .exc c ∨ ∃ s, compR f xs = .ok s := by
  induction xs with
  | nil => exact Or.inr ⟨[], rfl⟩
  | cons x xs ih =>
    unfold compR
    rcases h x (List.mem_cons_self ..) with hx | ⟨y, hx⟩
    · rw [hx]; exact Or.inl rfl
    · rw [hx]
      rcases ih fun z hz => h z (List.mem_cons_of_mem _ hz) with hs | ⟨s, hs⟩
      · rw [hs]; exact Or.inl rfl
      · rw [hs]; exact Or.inr ⟨_, rfl⟩
theorem compR_bad {us vs : List α} {x : α} {s : List β} {c : Nat} (h : compR f us = .ok s) (hx : f x = .exc c) : compR f (us ++ x :: vs) = .exc c := by
  rw [compR_append h]
  unfold compR
  rw [hx]
  rfl
theorem compR_mid {us vs : List α} {x : α} {s : List β} {y : β} {c : Nat} (h : compR f us = .ok s) (hx : f x = .ok y) (hv : ∀ x ∈ vs, f x = .exc c ∨ ∃ y, f x = .ok y) : compR f (us ++ x :: vs) = .exc c ∨ ∃ t, compR f (us ++ x :: vs) = .ok t ∧ y ∈ t := by
  rw [compR_append h]
  unfold compR
  rw [hx]
  rcases compR_out hv with h2 | ⟨t, h2⟩
  · rw [h2]; exact Or.inl rfl
  · rw [h2]
    exact Or.inr ⟨s ++ (y :: t), rfl, by simp⟩
theorem compR_snoc {us : List α} {x : α} {s : List β} {y : β} (h : compR f us = .ok s) (hx : f x = .ok y) : compR f (us ++ [x]) = .ok (s ++ [y]) := by
  rw [compR_append h]
  unfold compR
  rw [hx]
  rfl
end
end VL

set_option Elab.async false
set_option linter.all false
set_option maxRecDepth 100000
set_option maxHeartbeats 1000000
/-! MTz: a text read by the law and by the program. -/
namespace VL
open PySem L2 TL
theorem textT_small {w : Web} (hw : WebOk w.many w.rows) : (textT w).length ≤ 21606 := by
  have a := sum_five (wordsT_five hw)
  have b := wordsT_len hw
  have c := joinL_len (tl (" " : Str)) ((wordsT w).map tl)
  unfold textT
  rw [len_tl, join_eq, tl_join]
  rw [List.map_map, List.length_map] at c
  have e : (List.length ∘ tl) = (fun x : Str => x.length) := funext fun x => (len_tl x).symm
  have e1 : (tl (" " : Str)).length = 1 := rfl
  rw [e1] at c
  have c' : (joinL (tl (" " : Str)) ((wordsT w).map tl)).length ≤ ((wordsT w).map (fun x : Str => x.length)).sum + (wordsT w).length * 1 := by rw [← e]; exact c
  omega
theorem textT_pos {w : Web} (hw : WebOk w.many w.rows) : 1 ≤ (textT w).length := by
  have h : (tl (hdT w.many)).length ≤ (textT w).length := by
    unfold textT
    rw [len_tl, join_eq, tl_join]
    exact joinL_part _ _ _ (List.mem_map_of_mem (List.mem_cons_self ..))
  rw [tl_hdT hw.m0, List.length_append] at h
  simp only [List.length_cons, List.length_nil] at h
  omega
theorem tieT_eq (a b : Int) : tieT (a, b) = (strI a ++ ("-" : Str)) ++ strI b := by
  refine ext_tl ?_
  have e : tieT (a, b) = ((Str.empty ++ strI a) ++ ("-" : Str)) ++ strI b := rfl
  rw [e, tl_append, tl_append, tl_append, tl_append, tl_append]
  rfl
theorem l_shown_eq {w : Web} (hw : WebOk w.many w.rows) : m_l_shown w.many w.rows = .ok (textT w) := by
  refine Res.Sat.eq (sat_resn ?_)
  unfold b_l_shown
  have ln := line_ge
  have m0 := hw.m0
  have m1 := hw.m1
  have sl := hw.len
  have h5 := hdT_len hw.m0 hw.m1
  refine sat_chk (log_ok hw.m0 hw.m1) (sat_chk ?_ (sat_lt (sat_chk (rg_ok (by omega) (by omega) (by omega) (by omega)) (sat_bind ?_))))
  · have e : (strI w.many).length + (":" : Str).length = (hdT w.many).length := by
      rw [len_tl, len_tl, len_tl, ← List.length_append, ← tl_append]
      rfl
    rw [e]
    omega
  · refine sat_for (fun i s => s = hdT w.many :: (((rangeI 0 w.many).take i).flatMap (upt w.rows)).map tieT ∧ s.length ≤ 1 + 60 * i) ⟨rfl, Nat.le_refl _⟩ (fun i hi s hs => ?_) fun s hs => ?_
    · obtain ⟨hs, hl⟩ := hs
      rw [take_flat hi, rangeI_at hi, Int.zero_add]
      rw [rangeI_length] at hi
      have ul := upt_len hw (p := (i : Int)) (by omega) (by omega)
      have ys : compO (fun other : Int => some (decide ((i : Int) < other))) (fun other : Int => (ifO (((i : Int)).natAbs.log2 < 1920) ((ifO (((strI (i : Int))).length + (("-" : Str)).length ≤ sizeLine) ((ifO ((other).natAbs.log2 < 1920) ((ifO ((((strI (i : Int)) ++ ("-" : Str))).length + ((strI other)).length ≤ sizeLine) (some (((strI (i : Int)) ++ ("-" : Str)) ++ (strI other))))))))))) (nb w.rows (i : Int)) = some ((upt w.rows (i : Int)).map tieT) := by
        rw [compO_eq (fun other => decide ((i : Int) < other)) (fun other => tieT ((i : Int), other)) (fun _ _ => rfl) (fun x hx _ => ?_)]
        · unfold upt
          rw [List.map_map]
          rfl
        · have r := hw.rg _ _ (by omega) (by omega) hx
          have t := tieT_len (p := ((i : Int), x)) (by simp only; omega) (by simp only; omega) (by simp only; omega) (by simp only; omega)
          rw [tieT_eq] at t ⊢
          have t1 : ((strI (i : Int)) ++ ("-" : Str)).length + (strI x).length = (((strI (i : Int)) ++ ("-" : Str)) ++ strI x).length := by rw [len_tl, len_tl, len_tl, ← List.length_append, ← tl_append]
          have t2 : (strI (i : Int)).length + ("-" : Str).length = ((strI (i : Int)) ++ ("-" : Str)).length := by rw [len_tl, len_tl, len_tl, ← List.length_append, ← tl_append]
          rw [ifO_pos (log_ok (by omega) (by omega)), ifO_pos (by omega), ifO_pos (log_ok r.1 (by omega)), ifO_pos (by omega)]
      refine sat_req (nb_at (by omega) (by omega)) (sat_req ys (sat_chk (by rw [List.length_map]; omega) (sat_lt (sat_nx ⟨?_, ?_⟩))))
      · rw [hs, List.map_append]
        rfl
      · rw [List.length_append, List.length_map]
        omega
    · rw [List.take_length] at hs
      obtain ⟨hs, _⟩ := hs
      subst hs
      refine sat_chk ?_ (sat_rt rfl)
      have a := sum_five (wordsT_five hw)
      have b := wordsT_len hw
      show ((wordsT w).map (·.length)).sum + (wordsT w).length * 1 ≤ 16777216
      omega
/-! the program's reader -/
theorem read_x {text w0 : Str} {ws : List Str} (hl : text.length ≤ 50000) (hs : Txt.split text (" " : Str) = w0 :: ws)
    (h : cutS w0 (some (-(1 : Int))) none ≠ (":" : Str) ∨ m_p_number_of (cutS w0 none (some (-(1 : Int)))) = .exc 3 ∨ ∃ n, m_p_number_of (cutS w0 none (some (-(1 : Int)))) = .ok n ∧
      (compR (fun word : Str => m_p_tie_of word) ws = .exc 3 ∨ ∃ T, compR (fun word : Str => m_p_tie_of word) ws = .ok T ∧ (m_p_web_of n T = .exc 1 ∨ ∃ v t, m_p_web_of n T = .ok v ∧ m_p_shown v = .ok t ∧ t ≠ text))) : m_p_read text = .exc 3 := by
  have ln := line_ge
  have l0 : w0.length ≤ 50000 := Nat.le_trans (split_part (x := text) (y := (" " : Str)) (by rw [hs]; simp)) hl
  refine res_exc (sat_resx' ?_)
  unfold b_p_read
  refine sat_chk (by omega) (sat_lt ?_)
  rw [hs]
  have e0 : atI (w0 :: ws) (0 : Int) = some w0 := atI_nat (xs := w0 :: ws) (i := 0) (by simp)
  refine sat_req e0 (sat_chk (by omega) (sat_if (fun _ => sat_exc rfl) fun hz => sat_req e0 (sat_chk (by omega) ?_)))
  have hc : cutS w0 (some (-(1 : Int))) none = (":" : Str) := by simpa using hz
  rcases h with h | h | ⟨n, hn, h⟩
  · exact absurd hc h
  · exact sat_runx' h rfl
  · refine sat_runv hn (sat_lt ?_)
    rw [cut_from (by decide)]
    show Fl.Sat _ _ _ (Fl.run (compR (fun word : Str => m_p_tie_of word) ws) _)
    rcases h with h | ⟨T, hT, h⟩
    · exact sat_runx' h rfl
    · refine sat_runv hT ?_
      rcases h with h | ⟨v, t, hv, ht, hne⟩
      · rw [h]
        exact (show (Fl.exc 3 : Fl Unit Web).Sat _ _ _ from rfl)
      · rw [hv]
        show Fl.Sat _ _ _ (Fl.req ((m_p_shown v).get) _)
        refine sat_getv ht (sat_if (fun _ => sat_exc rfl) fun hz => ?_)
        exact absurd (by simpa using hz) hne
theorem read_o {text w0 : Str} {ws : List Str} {n : Int} {T : List (Int × Int)} {v : Web} (hl : text.length ≤ 50000) (hs : Txt.split text (" " : Str) = w0 :: ws)
    (hc : cutS w0 (some (-(1 : Int))) none = (":" : Str)) (hn : m_p_number_of (cutS w0 none (some (-(1 : Int)))) = .ok n) (hT : compR (fun word : Str => m_p_tie_of word) ws = .ok T) (hv : m_p_web_of n T = .ok v) (ht : m_p_shown v = .ok text) : m_p_read text = .ok v := by
  have ln := line_ge
  have l0 : w0.length ≤ 50000 := Nat.le_trans (split_part (x := text) (y := (" " : Str)) (by rw [hs]; simp)) hl
  refine Res.Sat.eq (sat_resn ?_)
  unfold b_p_read
  refine sat_chk (by omega) (sat_lt ?_)
  rw [hs]
  have e0 : atI (w0 :: ws) (0 : Int) = some w0 := atI_nat (xs := w0 :: ws) (i := 0) (by simp)
  refine sat_req e0 (sat_chk (by omega) (sat_if (fun hz => absurd hz (by simp [hc])) fun _ => sat_req e0 (sat_chk (by omega) (sat_runv hn (sat_lt ?_)))))
  rw [cut_from (by decide)]
  show Fl.Sat _ _ _ (Fl.run (compR (fun word : Str => m_p_tie_of word) ws) _)
  refine sat_runv hT ?_
  rw [hv]
  show Fl.Sat _ _ _ (Fl.req ((m_p_shown v).get) _)
  exact sat_getv ht (sat_if (fun hz => absurd hz (by simp)) fun _ => sat_rt rfl)
/-- what the law's reader tells, the program's does -/
theorem l_read_ok {text : Str} (hl : text.length ≤ 50000) : (m_l_read text).Sat (fun r => (r = none ∧ m_p_read text = .exc 3) ∨ ∃ v : Web, r = some (v.many, v.rows) ∧ WebOk v.many v.rows ∧ m_p_read text = .ok v ∧ m_p_shown v = .ok text) noE := by
  have ln := line_ge
  obtain ⟨w0, ws, hs⟩ := split_cons text (" " : Str)
  have lw : ∀ z ∈ w0 :: ws, z.length ≤ 50000 := fun z hz => Nat.le_trans (split_part (x := text) (y := (" " : Str)) (by rw [hs]; exact hz)) hl
  have l0 := lw w0 (List.mem_cons_self ..)
  have le := PyProof.Rows.split_le text (" " : Str)
  rw [hs, List.length_cons] at le
  have lc : (cutS w0 none (some (-(1 : Int)))).length ≤ 50000 := Nat.le_trans (cutS_len ..) l0
  have out : ∀ z ∈ ws, m_p_tie_of z = .exc 3 ∨ ∃ p, m_p_tie_of z = .ok p := fun z hz => tie_out (lw z (List.mem_cons_of_mem _ hz))
  refine sat_resn ?_
  unfold b_l_read
  refine sat_chk (by omega) (sat_lt ?_)
  rw [hs]
  have e0 : atI (w0 :: ws) (0 : Int) = some w0 := atI_nat (xs := w0 :: ws) (i := 0) (by simp)
  refine sat_req e0 (sat_chk (by omega) ?_)
  have eo : ∀ r : Int, m_l_number (cutS w0 none (some (-(1 : Int)))) = .ok r → (orO (!(decide ((cutS w0 (some (-(1 : Int))) none) = (":" : Str)))) ((atI (w0 :: ws) (0 : Int)).bind fun item1 => (ifO ((item1).length ≤ sizeLine) ((((m_l_number (cutS item1 none (some (-(1 : Int))))).get).bind fun r => some (decide ((60 : Int) < r))))))) = some (!(decide ((cutS w0 (some (-(1 : Int))) none) = (":" : Str))) || decide ((60 : Int) < r)) := fun r hr => by
    rw [e0]
    show orO _ (ifO _ (((m_l_number (cutS w0 none (some (-(1 : Int))))).get).bind _)) = _
    rw [ifO_pos (by omega), hr]
    exact orO_some _ _
  rcases num_cases lc with ⟨n, hn⟩ | hn
  · refine sat_req (eo n hn.1) (sat_if (fun hz => sat_rt (Or.inl ⟨rfl, ?_⟩)) fun hz => ?_)
    · simp only [Bool.or_eq_true, Bool.not_eq_true', decide_eq_true_eq, decide_eq_false_iff_not] at hz
      rcases hz with hz | hz
      · exact read_x hl hs (Or.inl hz)
      · refine read_x hl hs (Or.inr (Or.inr ⟨n, hn.2.1, ?_⟩))
        rcases compR_out out with h | ⟨T, h⟩
        · exact Or.inl h
        · exact Or.inr ⟨T, h, Or.inl (web_of_x1 (Or.inr hz))⟩
    · simp only [Bool.or_eq_false_iff, Bool.not_eq_false', decide_eq_true_eq, decide_eq_false_iff_not] at hz
      obtain ⟨hc, h60⟩ := hz
      have n0 := hn.2.2.1
      refine sat_req e0 (sat_chk (by omega) (sat_getv hn.1 (sat_lt (sat_lt (sat_bind ?_)))))
      rw [cut_from (by decide)]
      have bad : ∀ {us vs : List Str} {x : Str} {s : List (Int × Int)}, ws = us ++ x :: vs → compR (fun word : Str => m_p_tie_of word) us = .ok s → (m_p_tie_of x = .exc 3 ∨ ∃ p, m_p_tie_of x = .ok p ∧ ¬TieOk n p) → m_p_read text = .exc 3 := fun {us vs x s} e hu hx => by
        refine read_x hl hs (Or.inr (Or.inr ⟨n, hn.2.1, ?_⟩))
        rw [e]
        rcases hx with hx | ⟨p, hx, hp⟩
        · exact Or.inl (compR_bad (f := fun word : Str => m_p_tie_of word) hu hx)
        · rcases compR_mid (f := fun word : Str => m_p_tie_of word) (vs := vs) (c := 3) hu hx (fun z hz => out z (by rw [e]; simp [hz])) with h | ⟨T, h, hm⟩
          · exact Or.inl h
          · exact Or.inr ⟨T, h, Or.inl (web_of_x2 hm hp)⟩
      refine sat_for (xs := ws) (fun i s => s.length ≤ i ∧ compR (fun word : Str => m_p_tie_of word) (ws.take i) = .ok s ∧ TiesOk n s) ⟨Nat.le_refl _, rfl, fun p hp => absurd hp List.not_mem_nil⟩ (fun i hi s hs2 => ?_) fun s hs2 => ?_
      · obtain ⟨sl, sc, st⟩ := hs2
        have split : ws = ws.take i ++ ws[i] :: ws.drop (i + 1) := by
          have q := List.take_append_drop i ws
          rw [List.drop_eq_getElem_cons hi] at q
          exact q.symm
        have tk : ws.take (i + 1) = ws.take i ++ [ws[i]] := by
          rw [List.take_add_one, List.getElem?_eq_getElem hi]
          rfl
        have lz := lw ws[i] (List.mem_cons_of_mem _ (List.getElem_mem hi))
        refine sat_chk (by omega) (sat_lt ?_)
        rcases tie_cases lz with ⟨h2, hx⟩ | ⟨a, b, x, y, e, ha, hb, hx⟩
        · exact sat_if (fun _ => sat_rt (Or.inl ⟨rfl, bad split sc (Or.inl hx)⟩)) fun hz => absurd hz (by simp; omega)
        · rw [e]
          refine sat_if (fun hz => absurd hz (by simp)) fun _ => sat_req (a := a) rfl (sat_getv ha (sat_lt (sat_req (a := b) rfl (sat_getv hb (sat_lt ?_)))))
          refine sat_if (fun hz => sat_rt (Or.inl ⟨rfl, ?_⟩)) fun hz => ?_
          · simp only [Bool.or_eq_true, decide_eq_true_eq] at hz
            rcases hx with ⟨x0, y0, hx⟩ | ⟨_, hx⟩
            · refine bad split sc (Or.inr ⟨_, hx, fun q => ?_⟩)
              obtain ⟨q1, q2, q3, q4, q5⟩ := q
              simp only at q1 q2 q3 q4 q5
              omega
            · exact bad split sc (Or.inl hx)
          · simp only [Bool.or_eq_false_iff, decide_eq_false_iff_not] at hz
            rcases hx with ⟨x0, y0, hx⟩ | ⟨hq, hx⟩
            · refine sat_app (by omega) (sat_nx ⟨by rw [List.length_append, List.length_singleton]; omega, ?_, ?_⟩)
              · rw [tk]
                exact compR_snoc (f := fun word : Str => m_p_tie_of word) sc hx
              · refine st.append fun p hp => ?_
                rw [List.mem_singleton.mp hp]
                refine ⟨x0, ?_, y0, ?_, ?_⟩ <;> simp only <;> omega
            · omega
      · obtain ⟨sl, sc, st⟩ := hs2
        rw [List.take_length] at sc
        refine sat_get (near_ok n0 (by omega) st (by omega)) fun near hnr => sat_lt ?_
        have W : WebOk n near := hnr.web st n0 (by omega)
        obtain ⟨v, ev, hv1, hv2⟩ := (web_of_ok n0 (by omega) st (by omega)).ex
        have er := hv2.unique hnr
        obtain ⟨vm, vr⟩ := v
        simp only at hv1 er
        subst hv1
        subst er
        have sh := shown_eq (w := ⟨vm, vr⟩) W
        refine sat_getv (l_shown_eq (w := ⟨vm, vr⟩) W) (sat_if (fun hz => sat_rt (Or.inl ⟨rfl, ?_⟩)) fun hz => sat_rt (Or.inr ⟨⟨vm, vr⟩, rfl, W, ?_⟩))
        · refine read_x hl hs (Or.inr (Or.inr ⟨vm, hn.2.1, Or.inr ⟨s, sc, Or.inr ⟨_, _, ev, sh, ?_⟩⟩⟩))
          simpa using hz
        · have e : textT ⟨vm, vr⟩ = text := by simpa using hz
          rw [e] at sh
          exact ⟨read_o hl hs hc hn.2.1 sc ev sh, sh⟩
  · refine sat_req (eo 99 hn.1) (sat_if (fun hz => sat_rt (Or.inl ⟨rfl, read_x hl hs (Or.inr (Or.inl hn.2))⟩)) fun hz => absurd hz (by simp))
/-! texts made -/
theorem app_len (a b : Str) : (a ++ b).length = a.length + b.length := by
  rw [len_tl, len_tl, len_tl, tl_append, List.length_append]
theorem odd_ok (cell : Int) : (m_l_odd_text cell).Sat (fun t => t.length ≤ 50000) noE := by
  refine sat_resn ?_
  unfold b_l_odd_text
  have ln := line_ge
  refine sat_lt (sat_lt (sat_lt (sat_chk (by show 11 + 8 ≤ sizeLine; omega) (sat_lt (sat_lt (sat_chk (by show 19 + 3 ≤ sizeLine; omega) (sat_lt ?_)))))))
  have e0 := Int.emod_nonneg cell (show (22 : Int) ≠ 0 by omega)
  have e1 := Int.emod_lt_of_pos cell (show (0 : Int) < 22 by omega)
  refine sat_req (atI_ok e0 (by show _ < (22 : Int); omega)) (sat_rt ?_)
  have all : ∀ x ∈ ([("" : Str), (":" : Str), ("0" : Str), ("0: " : Str), (" 0:" : Str), ("00:" : Str), ("61:" : Str), ("2:0-1" : Str), ("2: 1-0" : Str), ("2: 0-1 0-1" : Str), ("3: 0-2 0-1" : Str)] ++ [("2: 0-0" : Str), ("2: 0-2" : Str), ("1: 0-1" : Str), ("02: 0-1" : Str), ("2:  0-1" : Str), ("2: 0--1" : Str), ("2: 00-1" : Str), ("60:" : Str)] ++ [("5: 0-1 0-4" : Str), ("3: 0-1 1-2 " : Str), ("-1:" : Str)] : List Str), x.length ≤ 50000 := by
    intro x hx
    simp only [List.cons_append, List.nil_append, List.mem_cons, List.not_mem_nil, or_false] at hx
    rcases hx with rfl | rfl | rfl | rfl | rfl | rfl | rfl | rfl | rfl | rfl | rfl | rfl | rfl | rfl | rfl | rfl | rfl | rfl | rfl | rfl | rfl | rfl <;> decide +kernel
  exact all _ (List.getElem_mem _)
theorem text_by_ok {w : Web} {cell kind : Int} (hw : WebOk w.many w.rows) : (m_l_text_by (textT w) cell kind).Sat (fun t => t.length ≤ 50000) noE := by
  refine sat_resn ?_
  unfold b_l_text_by
  have ln := line_ge
  have ts := textT_small hw
  have tp := textT_pos hw
  generalize hT : textT w = text at ts tp
  refine sat_if (fun _ => ?_) fun _ => sat_if (fun _ => ?_) fun _ => sat_if (fun _ => ?_) fun _ => sat_if (fun _ => ?_) fun _ => sat_rt (by omega)
  · refine sat_chk (by omega) (sat_chk (by omega) (sat_lt ?_))
    generalize cell % ((text.length : Int) + 1) = place
    have e0 := Int.emod_nonneg (cell / 997) (show (19 : Int) ≠ 0 by omega)
    have e1 := Int.emod_lt_of_pos (cell / 997) (show (0 : Int) < 19 by omega)
    have c1 := cutS_len text none (some place)
    have c2 := cutS_len text (some place) none
    refine sat_chk (by omega) (sat_chk (by show (19 : Nat) ≤ sizeLine; omega) (sat_req (atI_ok e0 (by show _ < (19 : Int); omega)) ?_))
    generalize (("0123456789-: a\n\t+_;" : Str)).cps.toList[(cell / 997 % 19).toNat]'_ = sign
    have s1 : (sgn sign).length = 1 := rfl
    refine sat_chk (by omega) (sat_chk (by rw [app_len]; omega) (sat_rt ?_))
    rw [app_len, app_len]
    omega
  · refine sat_chk (by omega) (sat_chk (by omega) (sat_lt ?_))
    generalize cell % (text.length : Int) = place
    have c1 := cutS_len text none (some place)
    have c2 := cutS_len text (some (place + 1)) none
    refine sat_chk (by omega) (sat_chk (by omega) (sat_rt ?_))
    rw [app_len]
    have : text.length ≤ 21606 := ts
    omega
  · refine sat_chk (by omega) (sat_lt ?_)
    have sp : Txt.split text (" " : Str) = wordsT w := by rw [← hT]; exact split_textT hw
    rw [sp]
    have w5 := wordsT_five hw
    have wl := wordsT_len hw
    have wp : 1 ≤ (wordsT w).length := by unfold wordsT; simp
    generalize wordsT w = words at w5 wl wp
    refine sat_chk (by omega) (sat_lt (sat_chk (by omega) (sat_lt ?_)))
    have a0 := Int.emod_nonneg cell (show (words.length : Int) ≠ 0 by omega)
    have a1 := Int.emod_lt_of_pos cell (show (0 : Int) < (words.length : Int) by omega)
    have b0 := Int.emod_nonneg (cell / 97) (show (words.length : Int) ≠ 0 by omega)
    have b1 := Int.emod_lt_of_pos (cell / 97) (show (0 : Int) < (words.length : Int) by omega)
    generalize cell % (words.length : Int) = one at a0 a1
    generalize cell / 97 % (words.length : Int) = other at b0 b1
    refine sat_req (atI_ok a0 a1) (sat_lt (sat_req (atI_ok b0 b1) (sat_req (setI_ok a0 a1) (sat_req (setI_ok b0 (by rw [List.length_set]; exact b1)) ?_))))
    have k5 : ∀ x ∈ (words.set one.toNat (words[other.toNat]'(by omega))).set other.toNat (words[one.toNat]'(by omega)), x.length ≤ 5 := fun x hx => by
      rcases List.mem_or_eq_of_mem_set hx with hx | rfl
      · rcases List.mem_or_eq_of_mem_set hx with hx | rfl
        · exact w5 _ hx
        · exact w5 _ (List.getElem_mem _)
      · exact w5 _ (List.getElem_mem _)
    have kl : ((words.set one.toNat (words[other.toNat]'(by omega))).set other.toNat (words[one.toNat]'(by omega))).length = words.length := by rw [List.length_set, List.length_set]
    generalize (words.set one.toNat (words[other.toNat]'(by omega))).set other.toNat (words[one.toNat]'(by omega)) = ks at k5 kl
    have a := sum_five k5
    refine sat_chk ?_ (sat_rt ?_)
    · show (ks.map (·.length)).sum + ks.length * 1 ≤ 16777216
      omega
    · have c := joinL_len (tl (" " : Str)) (ks.map tl)
      rw [len_tl, join_eq, tl_join]
      rw [List.map_map, List.length_map] at c
      have e : (List.length ∘ tl) = (fun x : Str => x.length) := funext fun x => (len_tl x).symm
      have e1 : (tl (" " : Str)).length = 1 := rfl
      rw [e1] at c
      have c' : (joinL (tl (" " : Str)) (ks.map tl)).length ≤ (ks.map (fun x : Str => x.length)).sum + ks.length * 1 := by rw [← e]; exact c
      omega
  · exact sat_get (odd_ok cell) fun r hr => sat_rt hr
end VL

set_option Elab.async false
set_option linter.all false
set_option maxRecDepth 100000
set_option maxHeartbeats 1000000
namespace VL
open PySem L2 TL
theorem refused_t {text : Str} (h : m_p_read text = .exc 3) : m_l_refused text = .ok true := by
  unfold m_l_refused b_l_refused
  rw [h]
  rfl
theorem by_base_t {text : Str} (h : m_p_read text = .exc 3) : m_l_by_base text = .ok true := by
  unfold m_l_by_base b_l_by_base
  rw [h]
  rfl
theorem no_point_t {w : Web} {k : Int} (hw : WebOk w.many w.rows) : m_l_no_point w w.many k = .ok true := by
  unfold m_l_no_point b_l_no_point
  have h : ¬(0 ≤ w.many ∧ w.many < w.many) := by omega
  rw [beside_x h, tied_x hw (.inr h)]
  have e : (if decide (k = 0) = true then (Res.exc 2 : Res (List Int)).vd else (Res.exc 2 : Res Bool).vd) = .exc 2 := by
    split <;> rfl
  rw [e]
  rfl
theorem numbers_t {a b : List Int} (hl : b.length ≤ 100000) (e : a = b) : m_l_numbers a b = .ok true := Res.Sat.eq ((numbers_ok hl).mono fun r h => h.mpr e)
theorem pairs_t {a b : List (Int × Int)} (hl : b.length ≤ 100000) (e : a = b) : m_l_pairs a b = .ok true := Res.Sat.eq ((l_pairs_ok hl).mono fun r h => h.mpr e)
theorem law_ok (ns : List Int) (h : ns.length ≤ 63) : m_l_law ns = .ok true := by
  refine Res.Sat.eq (sat_resn ?_)
  unfold b_l_law
  have sz := size_ge
  refine sat_get (many_ok ns) fun many hm => sat_lt (sat_get (rows_ok hm.1 hm.2) fun rows hr => sat_get (ties_ok hm.1 hm.2 hr.1 hr.2) fun ties ht => sat_lt (sat_get (near_ok hm.1 hm.2 ht.2 (by omega)) fun near hn => sat_lt ?_))
  refine sat_get (web_of_ok hm.1 hm.2 ht.2 (by omega)) fun web0 hw => ?_
  have W : WebOk many near := hn.web ht.2 hm.1 hm.2
  have hw0 : web0.rows = near := hw.2.unique hn
  obtain ⟨wm, wr⟩ := web0
  have hw1 : wm = many := hw.1
  have hw0 : wr = near := hw0
  subst hw1
  subst hw0
  refine sat_getv (shown_eq (w := ⟨wm, wr⟩) W) (sat_lt (sat_req (a := false) ?_ (sat_if (fun hz => absurd hz (by decide)) fun _ => ?_)))
  · rw [l_shown_eq (w := ⟨wm, wr⟩) W]
    show orO _ (some _) = _
    simp [orO]
  refine sat_getv (cell_at_eq (by omega)) (sat_getv (mixed_eq _ _) (sat_lt (sat_getv (cell_at_eq (by omega)) (sat_getv (mixed_eq _ _) ?_))))
  generalize mixv (cellv ns 1) 5 = cell
  refine sat_get (text_by_ok (w := ⟨wm, wr⟩) W) fun text hl => sat_lt (sat_get (l_read_ok hl) fun due hd => sat_lt ?_)
  rcases hd with ⟨rfl, hx⟩ | ⟨v, rfl, V, hv, hs⟩
  · refine sat_if (fun _ => ?_) fun hz => absurd hz (by decide)
    refine sat_getv (refused_t hx) (sat_req (a := true) ?_ (sat_rt rfl))
    rw [by_base_t hx]
    rfl
  refine sat_if (fun hz => absurd hz (by simp)) fun _ => sat_getv hv (sat_lt ?_)
  have m0 := V.m0
  have m1 := V.m1
  have sl := V.len
  refine sat_getv (show m_l_whole v.many = .ok true from rfl) (sat_req (a := false) ?_ (sat_if (fun hz => absurd hz (by decide)) fun _ => ?_))
  · show orO _ (some _) = _
    simp [orO]
  refine sat_req rfl (sat_chk (rg_ok (by first | omega | (simp only; omega)) (by first | omega | (simp only; omega)) (by first | omega | (simp only; omega)) (by first | omega | (simp only; omega))) (sat_req (compO_map (nb v.rows) fun x hx => ?_) ?_))
  · have rx := rangeI_mem.mp hx
    rw [beside_eq V rx.1 rx.2]
    rfl
  have er : (rangeI 0 v.many).map (nb v.rows) = v.rows := by
    refine List.ext_getElem (by rw [List.length_map, rangeI_length]; omega) fun i h1 h2 => ?_
    rw [List.getElem_map, rangeI_at, Int.zero_add, nb_get h2]
  simp only
  rw [er]
  refine sat_lt (sat_req rfl (sat_chk (rg_ok (by first | omega | (simp only; omega)) (by first | omega | (simp only; omega)) (by first | omega | (simp only; omega)) (by first | omega | (simp only; omega))) (sat_bind ?_)))
  refine sat_for (fun _ _ => True) trivial (fun i hi _ _ => ?_) fun _ _ => ?_
  · rw [rangeI_at hi, Int.zero_add]
    rw [rangeI_length] at hi
    simp only at hi
    have nl := nb_len V (p := (i : Int)) (by omega) (by omega)
    have at_ : atI v.rows (i : Int) = some (nb v.rows (i : Int)) := nb_at (by omega) (by omega)
    refine sat_req at_ (sat_req rfl (sat_req at_ (sat_getv (numbers_t (by omega) rfl) (sat_if (fun hz => absurd hz (by decide)) fun _ => sat_req rfl (sat_chk (by first | omega | (simp only; omega)) (sat_req rfl (sat_bind ?_)))))))
    have key : ∀ ys : List Int, (∀ y ∈ ys, 0 ≤ y ∧ y < v.many) → (forF (fun (s1 : Unit) (other : Int) =>
  Fl.req ((m_p_Web_tied v i other).get) fun r19 =>
  Fl.req (some (v.many, v.rows)) fun got6 =>
  Fl.req (atI got6.2 i) fun item2 =>
  Fl.req ((orO (!(decide (r19 = ((item2).contains other)))) (((m_p_Web_tied v other i).get).bind fun r20 => ((some (v.many, v.rows)).bind fun got7 => ((atI got7.2 i).bind fun item3 => some (!(decide (r20 = ((item3).contains other))))))))) fun t3 =>
  (if t3 = true then
  Fl.rt false
  else
  (Fl.nx () : Fl Unit Bool))) ys ()).Sat (fun _ => True) (· = true) noE := fun ys hy => by
      refine sat_for (fun _ _ => True) trivial (fun j hj _ _ => ?_) fun _ _ => trivial
      have r := hy _ (List.getElem_mem hj)
      generalize ys[j] = other at r
      refine sat_getv (tied_eq V (by omega) (by omega) r.1 r.2) (sat_req rfl (sat_req at_ (sat_req (a := false) ?_ (sat_if (fun hz => absurd hz (by decide)) fun _ => trivial))))
      rw [tied_eq V r.1 r.2 (by omega) (by omega)]
      show orO _ ((atI v.rows (i : Int)).bind _) = _
      rw [at_]
      have sy := V.sy (i : Int) other (by omega) (by omega) r.1 r.2
      have e : ((nb v.rows other).contains (i : Int)) = ((nb v.rows (i : Int)).contains other) := by
        rw [Bool.eq_iff_iff, List.contains_iff_mem, List.contains_iff_mem]
        exact sy.symm
      show orO _ (some (!(decide (((nb v.rows other).contains (i : Int)) = ((nb v.rows (i : Int)).contains other))))) = _
      rw [e]
      simp [orO]
    refine sat_mono (key _ fun y hy => ?_) (fun _ _ => trivial) (fun _ q => q)
    simp only [List.mem_cons, List.not_mem_nil, or_false] at hy
    have c0 := Int.emod_nonneg cell (show v.many ≠ 0 by omega)
    have c1 := Int.emod_lt_of_pos cell (show 0 < v.many by omega)
    rcases hy with rfl | rfl | rfl <;> omega
  refine sat_lt (sat_req rfl (sat_chk (rg_ok (by first | omega | (simp only; omega)) (by first | omega | (simp only; omega)) (by first | omega | (simp only; omega)) (by first | omega | (simp only; omega))) (sat_bind ?_)))
  have tl := allT_len V
  refine sat_mono (l_all V (P := fun t => t = allT v.rows v.many) (Q := fun r : Bool => r = true) rfl) (fun t ht => ?_) (fun _ q => q)
  subst ht
  refine sat_req rfl (sat_getv (no_point_t V) (sat_req (a := false) ?_ (sat_if (fun hz => absurd hz (by decide)) fun _ => ?_)))
  · show orO _ (((m_l_no_point v v.many 1).get).bind _) = _
    rw [no_point_t V]
    rfl
  refine sat_getv (ties_eq V) (sat_getv (pairs_t (by omega) rfl) (sat_req (a := true) ?_ (sat_rt rfl)))
  rw [hs]
  show andO true (some (decide (text = text))) = _
  simp [andO]
end VL

set_option Elab.async false
set_option linter.all false
set_option maxRecDepth 100000
set_option maxHeartbeats 4000000
namespace VL
open PySem PySem.Spec PyProof.Rows L2
def spLaw (K : PySem.W.Frag) : Sp := fun vs H Q _ => ∃ (a : Addr) (ns : List Int), vs = [.ref a] ∧ SqL K H a (ns.map V.int) ∧ ns.length ≤ 63 ∧ ∀ H', Q (.bl true) H'
theorem spLaw_ok {C : Cf} {K : PySem.W.Frag} (hK : C.K = K) {vs : List L2.V} {H : Hp} {Q : VK} {E : XK} (h : spLaw K vs H Q E) : sp_l_law C vs H Q E := by
  obtain ⟨a, ns, rfl, hS, hl, hq⟩ := h
  refine ⟨ns, .cons (.scr (by rw [hK]; exact hS)) .nil, ?_⟩
  rw [show m_l_law ns = .ok true from law_ok ns hl]
  intro v H' s h
  cases h
  exact hq H'
theorem all_mk {P : Program} {w : World} {K : PySem.W.Frag} {h : Heap} {mg : Str → Option Value} {fa CWeb EWebError EBadWeb ENoPoint EBadText EBadOrder EHasGap f1 f2 f3 f4 f5 f6 f7 f8 f9 f10 f11 f12 f13 f14 f15 f16 f17 f18 f19 f20 f21 f22 f23 f24 f25 f26 f27 f28 f29 f30 f31 f32 f33 f34 : Addr} (X : K.In h) (G : h.Ns mainGlobals mg) (hfa : mg "law" = some (.ref fa))
    {od1 an1 od2 an2 od3 an3 od4 an4 od5 an5 od6 an6 od7 an7 od8 an8 od9 an9 od10 an10 od11 an11 od12 an12 od13 an13 od14 an14 od15 an15 od16 an16 od17 an17 od18 an18 od19 an19 od20 an20 od21 an21 od22 an22 od23 an23 od24 an24 od25 an25 od26 an26 od27 an27 od28 an28 od29 an29 od30 an30 od31 an31 od32 an32 od33 an33 od34 an34 : Option Addr} {sl1 sl2 sl3 sl4 sl5 sl6 sl7 sl8 sl9 sl10 sl11 sl12 sl13 sl14 sl15 sl16 sl17 sl18 sl19 sl20 sl21 sl22 sl23 sl24 sl25 sl26 sl27 sl28 sl29 sl30 sl31 sl32 sl33 sl34 : Array (Option Value)} {oc1 kV1 dc1 pm1 cd1 ct1 oc2 kV2 dc2 pm2 cd2 ct2 oc3 kV3 dc3 pm3 cd3 ct3 oc4 kV4 dc4 pm4 cd4 ct4 oc5 kV5 dc5 pm5 cd5 ct5 oc6 kV6 dc6 pm6 cd6 ct6 oc7 kV7 dc7 pm7 cd7 ct7 oc8 kV8 dc8 pm8 cd8 ct8 oc9 kV9 dc9 pm9 cd9 ct9 oc10 kV10 dc10 pm10 cd10 ct10 oc11 kV11 dc11 pm11 cd11 ct11 oc12 kV12 dc12 pm12 cd12 ct12 oc13 kV13 dc13 pm13 cd13 ct13 oc14 kV14 dc14 pm14 cd14 ct14 oc15 kV15 dc15 pm15 cd15 ct15 oc16 kV16 dc16 pm16 cd16 ct16 oc17 kV17 dc17 pm17 cd17 ct17 oc18 kV18 dc18 pm18 cd18 ct18 oc19 kV19 dc19 pm19 cd19 ct19 oc20 kV20 dc20 pm20 cd20 ct20 oc21 kV21 dc21 pm21 cd21 ct21 oc22 kV22 dc22 pm22 cd22 ct22 oc23 kV23 dc23 pm23 cd23 ct23 oc24 kV24 dc24 pm24 cd24 ct24 oc25 kV25 dc25 pm25 cd25 ct25 oc26 kV26 dc26 pm26 cd26 ct26 oc27 kV27 dc27 pm27 cd27 ct27 oc28 kV28 dc28 pm28 cd28 ct28 oc29 kV29 dc29 pm29 cd29 ct29 oc30 kV30 dc30 pm30 cd30 ct30 oc31 kV31 dc31 pm31 cd31 ct31 oc32 kV32 dc32 pm32 cd32 ct32 oc33 kV33 dc33 pm33 cd33 ct33 oc34 kV34 dc34 pm34 cd34 ct34 : Value} {t_FIGURES t_MOST : Tok}
    (aCWeb : PySem.W.nsIn K mainGlobals "Web" = some (some (.ref CWeb)))
    (pgCWeb : PySem.W.plainGet K CWeb Str.empty = true)
    (hdCWeb : PySem.W.hasDictIn K CWeb = true)
    (poCWeb : PySem.W.plainOver K CWeb = true)
    (saCWeb : PySem.W.findIn K (.ref CWeb) "__setattr__" = some (some (.builtin "object.__setattr__")))
    (nCWeb_many : PySem.W.findIn K (.ref CWeb) "many" = some none)
    (nCWeb_rows : PySem.W.findIn K (.ref CWeb) "rows" = some none)
    (mkCWeb : PySem.W.makesIn K CWeb = true)
    (kcCWeb : PySem.W.keepIn K (.ref CWeb) = true)
    (aEWebError : PySem.W.nsIn K mainGlobals "WebError" = some (some (.ref EWebError)))
    (xEWebError : PySem.W.excIn K EWebError [.type "ValueError", .type "Exception", .type "BaseException", .type "object"] "ValueError.__new__" = true)
    (kEWebError : PySem.W.keepIn K (.ref EWebError) = true)
    (sEWebError : PySem.W.subIn K (.ref EWebError) (.type "BaseException") = some true)
    (tEWebError : PySem.W.typeIn K (.ref EWebError) = some (.type "type"))
    (aEBadWeb : PySem.W.nsIn K mainGlobals "BadWeb" = some (some (.ref EBadWeb)))
    (xEBadWeb : PySem.W.excIn K EBadWeb [.type "ValueError", .type "Exception", .type "BaseException", .type "object"] "ValueError.__new__" = true)
    (kEBadWeb : PySem.W.keepIn K (.ref EBadWeb) = true)
    (sEBadWeb : PySem.W.subIn K (.ref EBadWeb) (.type "BaseException") = some true)
    (tEBadWeb : PySem.W.typeIn K (.ref EBadWeb) = some (.type "type"))
    (aENoPoint : PySem.W.nsIn K mainGlobals "NoPoint" = some (some (.ref ENoPoint)))
    (xENoPoint : PySem.W.excIn K ENoPoint [.type "ValueError", .type "Exception", .type "BaseException", .type "object"] "ValueError.__new__" = true)
    (kENoPoint : PySem.W.keepIn K (.ref ENoPoint) = true)
    (sENoPoint : PySem.W.subIn K (.ref ENoPoint) (.type "BaseException") = some true)
    (tENoPoint : PySem.W.typeIn K (.ref ENoPoint) = some (.type "type"))
    (aEBadText : PySem.W.nsIn K mainGlobals "BadText" = some (some (.ref EBadText)))
    (xEBadText : PySem.W.excIn K EBadText [.type "ValueError", .type "Exception", .type "BaseException", .type "object"] "ValueError.__new__" = true)
    (kEBadText : PySem.W.keepIn K (.ref EBadText) = true)
    (sEBadText : PySem.W.subIn K (.ref EBadText) (.type "BaseException") = some true)
    (tEBadText : PySem.W.typeIn K (.ref EBadText) = some (.type "type"))
    (aEBadOrder : PySem.W.nsIn K mainGlobals "BadOrder" = some (some (.ref EBadOrder)))
    (xEBadOrder : PySem.W.excIn K EBadOrder [.type "ValueError", .type "Exception", .type "BaseException", .type "object"] "ValueError.__new__" = true)
    (kEBadOrder : PySem.W.keepIn K (.ref EBadOrder) = true)
    (sEBadOrder : PySem.W.subIn K (.ref EBadOrder) (.type "BaseException") = some true)
    (tEBadOrder : PySem.W.typeIn K (.ref EBadOrder) = some (.type "type"))
    (aEHasGap : PySem.W.nsIn K mainGlobals "HasGap" = some (some (.ref EHasGap)))
    (xEHasGap : PySem.W.excIn K EHasGap [.type "ValueError", .type "Exception", .type "BaseException", .type "object"] "ValueError.__new__" = true)
    (kEHasGap : PySem.W.keepIn K (.ref EHasGap) = true)
    (sEHasGap : PySem.W.subIn K (.ref EHasGap) (.type "BaseException") = some true)
    (tEHasGap : PySem.W.typeIn K (.ref EHasGap) = some (.type "type"))
    (hn_x : PySem.W.specialIn K (.builtin "object.__class__") "__get__" = some (some (.builtin "getset_descriptor.__get__")))
    (ht_x : PySem.W.takesIn K (.builtin "object.__class__") = some true)
    (hgEWebError : PySem.W.findIn K (.ref EWebError) "__getattribute__" = some (some (.builtin "BaseException.__getattribute__")))
    (hkEWebError : PySem.W.findIn K (.ref EWebError) "__getattr__" = some none)
    (hdEWebError : PySem.W.hasDictIn K EWebError = true)
    (haEWebError : PySem.W.findIn K (.ref EWebError) "__class__" = some (some (.builtin "object.__class__")))
    (hmEWebError : PySem.W.mroIn K EWebError (.type "object") = some true)
    (hvEWebError : PySem.W.subIn K (.ref EWebError) (.type "ValueError") = some true)
    (bEWebError_WebError : PySem.W.subIn K (.ref EWebError) (.ref EWebError) = some true)
    (bEWebError_BadWeb : PySem.W.subIn K (.ref EWebError) (.ref EBadWeb) = some false)
    (bEWebError_NoPoint : PySem.W.subIn K (.ref EWebError) (.ref ENoPoint) = some false)
    (bEWebError_BadText : PySem.W.subIn K (.ref EWebError) (.ref EBadText) = some false)
    (bEWebError_BadOrder : PySem.W.subIn K (.ref EWebError) (.ref EBadOrder) = some false)
    (bEWebError_HasGap : PySem.W.subIn K (.ref EWebError) (.ref EHasGap) = some false)
    (hgEBadWeb : PySem.W.findIn K (.ref EBadWeb) "__getattribute__" = some (some (.builtin "BaseException.__getattribute__")))
    (hkEBadWeb : PySem.W.findIn K (.ref EBadWeb) "__getattr__" = some none)
    (hdEBadWeb : PySem.W.hasDictIn K EBadWeb = true)
    (haEBadWeb : PySem.W.findIn K (.ref EBadWeb) "__class__" = some (some (.builtin "object.__class__")))
    (hmEBadWeb : PySem.W.mroIn K EBadWeb (.type "object") = some true)
    (hvEBadWeb : PySem.W.subIn K (.ref EBadWeb) (.type "ValueError") = some true)
    (bEBadWeb_WebError : PySem.W.subIn K (.ref EBadWeb) (.ref EWebError) = some true)
    (bEBadWeb_BadWeb : PySem.W.subIn K (.ref EBadWeb) (.ref EBadWeb) = some true)
    (bEBadWeb_NoPoint : PySem.W.subIn K (.ref EBadWeb) (.ref ENoPoint) = some false)
    (bEBadWeb_BadText : PySem.W.subIn K (.ref EBadWeb) (.ref EBadText) = some false)
    (bEBadWeb_BadOrder : PySem.W.subIn K (.ref EBadWeb) (.ref EBadOrder) = some false)
    (bEBadWeb_HasGap : PySem.W.subIn K (.ref EBadWeb) (.ref EHasGap) = some false)
    (hgENoPoint : PySem.W.findIn K (.ref ENoPoint) "__getattribute__" = some (some (.builtin "BaseException.__getattribute__")))
    (hkENoPoint : PySem.W.findIn K (.ref ENoPoint) "__getattr__" = some none)
    (hdENoPoint : PySem.W.hasDictIn K ENoPoint = true)
    (haENoPoint : PySem.W.findIn K (.ref ENoPoint) "__class__" = some (some (.builtin "object.__class__")))
    (hmENoPoint : PySem.W.mroIn K ENoPoint (.type "object") = some true)
    (hvENoPoint : PySem.W.subIn K (.ref ENoPoint) (.type "ValueError") = some true)
    (bENoPoint_WebError : PySem.W.subIn K (.ref ENoPoint) (.ref EWebError) = some true)
    (bENoPoint_BadWeb : PySem.W.subIn K (.ref ENoPoint) (.ref EBadWeb) = some false)
    (bENoPoint_NoPoint : PySem.W.subIn K (.ref ENoPoint) (.ref ENoPoint) = some true)
    (bENoPoint_BadText : PySem.W.subIn K (.ref ENoPoint) (.ref EBadText) = some false)
    (bENoPoint_BadOrder : PySem.W.subIn K (.ref ENoPoint) (.ref EBadOrder) = some false)
    (bENoPoint_HasGap : PySem.W.subIn K (.ref ENoPoint) (.ref EHasGap) = some false)
    (hgEBadText : PySem.W.findIn K (.ref EBadText) "__getattribute__" = some (some (.builtin "BaseException.__getattribute__")))
    (hkEBadText : PySem.W.findIn K (.ref EBadText) "__getattr__" = some none)
    (hdEBadText : PySem.W.hasDictIn K EBadText = true)
    (haEBadText : PySem.W.findIn K (.ref EBadText) "__class__" = some (some (.builtin "object.__class__")))
    (hmEBadText : PySem.W.mroIn K EBadText (.type "object") = some true)
    (hvEBadText : PySem.W.subIn K (.ref EBadText) (.type "ValueError") = some true)
    (bEBadText_WebError : PySem.W.subIn K (.ref EBadText) (.ref EWebError) = some true)
    (bEBadText_BadWeb : PySem.W.subIn K (.ref EBadText) (.ref EBadWeb) = some false)
    (bEBadText_NoPoint : PySem.W.subIn K (.ref EBadText) (.ref ENoPoint) = some false)
    (bEBadText_BadText : PySem.W.subIn K (.ref EBadText) (.ref EBadText) = some true)
    (bEBadText_BadOrder : PySem.W.subIn K (.ref EBadText) (.ref EBadOrder) = some false)
    (bEBadText_HasGap : PySem.W.subIn K (.ref EBadText) (.ref EHasGap) = some false)
    (hgEBadOrder : PySem.W.findIn K (.ref EBadOrder) "__getattribute__" = some (some (.builtin "BaseException.__getattribute__")))
    (hkEBadOrder : PySem.W.findIn K (.ref EBadOrder) "__getattr__" = some none)
    (hdEBadOrder : PySem.W.hasDictIn K EBadOrder = true)
    (haEBadOrder : PySem.W.findIn K (.ref EBadOrder) "__class__" = some (some (.builtin "object.__class__")))
    (hmEBadOrder : PySem.W.mroIn K EBadOrder (.type "object") = some true)
    (hvEBadOrder : PySem.W.subIn K (.ref EBadOrder) (.type "ValueError") = some true)
    (bEBadOrder_WebError : PySem.W.subIn K (.ref EBadOrder) (.ref EWebError) = some true)
    (bEBadOrder_BadWeb : PySem.W.subIn K (.ref EBadOrder) (.ref EBadWeb) = some false)
    (bEBadOrder_NoPoint : PySem.W.subIn K (.ref EBadOrder) (.ref ENoPoint) = some false)
    (bEBadOrder_BadText : PySem.W.subIn K (.ref EBadOrder) (.ref EBadText) = some false)
    (bEBadOrder_BadOrder : PySem.W.subIn K (.ref EBadOrder) (.ref EBadOrder) = some true)
    (bEBadOrder_HasGap : PySem.W.subIn K (.ref EBadOrder) (.ref EHasGap) = some false)
    (hgEHasGap : PySem.W.findIn K (.ref EHasGap) "__getattribute__" = some (some (.builtin "BaseException.__getattribute__")))
    (hkEHasGap : PySem.W.findIn K (.ref EHasGap) "__getattr__" = some none)
    (hdEHasGap : PySem.W.hasDictIn K EHasGap = true)
    (haEHasGap : PySem.W.findIn K (.ref EHasGap) "__class__" = some (some (.builtin "object.__class__")))
    (hmEHasGap : PySem.W.mroIn K EHasGap (.type "object") = some true)
    (hvEHasGap : PySem.W.subIn K (.ref EHasGap) (.type "ValueError") = some true)
    (bEHasGap_WebError : PySem.W.subIn K (.ref EHasGap) (.ref EWebError) = some true)
    (bEHasGap_BadWeb : PySem.W.subIn K (.ref EHasGap) (.ref EBadWeb) = some false)
    (bEHasGap_NoPoint : PySem.W.subIn K (.ref EHasGap) (.ref ENoPoint) = some false)
    (bEHasGap_BadText : PySem.W.subIn K (.ref EHasGap) (.ref EBadText) = some false)
    (bEHasGap_BadOrder : PySem.W.subIn K (.ref EHasGap) (.ref EBadOrder) = some false)
    (bEHasGap_HasGap : PySem.W.subIn K (.ref EHasGap) (.ref EHasGap) = some true)
    (z_ValueError : PySem.W.nsIn K mainGlobals "ValueError" = some none)
    (a1 : PySem.W.nsIn K mainGlobals "_law_cell_at" = some (some (.ref f1)))
    (l1 : K.lookup f1 = some ⟨oc1, od1, .func (PySem.W.fnOf "_law_cell_at" "_law_cell_at" (defArgs s_l_cell_at) (defBody s_l_cell_at) (defScope s_l_cell_at) .none kV1 dc1 pm1 an1 cd1 ct1), sl1⟩)
    (c1 : PySem.W.codeIn K cd1 "_law_cell_at" = true)
    (k1 : PySem.W.keepIn K (.ref f1) = true)
    (a2 : PySem.W.nsIn K mainGlobals "_law_many" = some (some (.ref f2)))
    (l2 : K.lookup f2 = some ⟨oc2, od2, .func (PySem.W.fnOf "_law_many" "_law_many" (defArgs s_l_many) (defBody s_l_many) (defScope s_l_many) .none kV2 dc2 pm2 an2 cd2 ct2), sl2⟩)
    (c2 : PySem.W.codeIn K cd2 "_law_many" = true)
    (k2 : PySem.W.keepIn K (.ref f2) = true)
    (a3 : PySem.W.nsIn K mainGlobals "_law_name" = some (some (.ref f3)))
    (l3 : K.lookup f3 = some ⟨oc3, od3, .func (PySem.W.fnOf "_law_name" "_law_name" (defArgs s_l_name) (defBody s_l_name) (defScope s_l_name) .none kV3 dc3 pm3 an3 cd3 ct3), sl3⟩)
    (c3 : PySem.W.codeIn K cd3 "_law_name" = true)
    (k3 : PySem.W.keepIn K (.ref f3) = true)
    (a4 : PySem.W.nsIn K mainGlobals "_law_ties" = some (some (.ref f4)))
    (l4 : K.lookup f4 = some ⟨oc4, od4, .func (PySem.W.fnOf "_law_ties" "_law_ties" (defArgs s_l_ties) (defBody s_l_ties) (defScope s_l_ties) .none kV4 dc4 pm4 an4 cd4 ct4), sl4⟩)
    (c4 : PySem.W.codeIn K cd4 "_law_ties" = true)
    (k4 : PySem.W.keepIn K (.ref f4) = true)
    (a5 : PySem.W.nsIn K mainGlobals "_law_near" = some (some (.ref f5)))
    (l5 : K.lookup f5 = some ⟨oc5, od5, .func (PySem.W.fnOf "_law_near" "_law_near" (defArgs s_l_near) (defBody s_l_near) (defScope s_l_near) .none kV5 dc5 pm5 an5 cd5 ct5), sl5⟩)
    (c5 : PySem.W.codeIn K cd5 "_law_near" = true)
    (k5 : PySem.W.keepIn K (.ref f5) = true)
    (a6 : PySem.W.findIn K (.ref CWeb) "ties" = some (some (.ref f6)))
    (i6 : PySem.W.isFn K (.ref f6) = true)
    (l6 : K.lookup f6 = some ⟨oc6, od6, .func (PySem.W.fnOf "ties" "Web.ties" (defArgs s_p_Web_ties) (defBody s_p_Web_ties) (defScope s_p_Web_ties) .none kV6 dc6 pm6 an6 cd6 ct6), sl6⟩)
    (c6 : PySem.W.codeIn K cd6 "Web.ties" = true)
    (k6 : PySem.W.keepIn K (.ref f6) = true)
    (a7 : PySem.W.nsIn K mainGlobals "shown" = some (some (.ref f7)))
    (l7 : K.lookup f7 = some ⟨oc7, od7, .func (PySem.W.fnOf "shown" "shown" (defArgs s_p_shown) (defBody s_p_shown) (defScope s_p_shown) .none kV7 dc7 pm7 an7 cd7 ct7), sl7⟩)
    (c7 : PySem.W.codeIn K cd7 "shown" = true)
    (k7 : PySem.W.keepIn K (.ref f7) = true)
    (a8 : PySem.W.nsIn K mainGlobals "_law_mixed" = some (some (.ref f8)))
    (l8 : K.lookup f8 = some ⟨oc8, od8, .func (PySem.W.fnOf "_law_mixed" "_law_mixed" (defArgs s_l_mixed) (defBody s_l_mixed) (defScope s_l_mixed) .none kV8 dc8 pm8 an8 cd8 ct8), sl8⟩)
    (c8 : PySem.W.codeIn K cd8 "_law_mixed" = true)
    (k8 : PySem.W.keepIn K (.ref f8) = true)
    (a9 : PySem.W.nsIn K mainGlobals "_law_odd_text" = some (some (.ref f9)))
    (l9 : K.lookup f9 = some ⟨oc9, od9, .func (PySem.W.fnOf "_law_odd_text" "_law_odd_text" (defArgs s_l_odd_text) (defBody s_l_odd_text) (defScope s_l_odd_text) .none kV9 dc9 pm9 an9 cd9 ct9), sl9⟩)
    (c9 : PySem.W.codeIn K cd9 "_law_odd_text" = true)
    (k9 : PySem.W.keepIn K (.ref f9) = true)
    (a10 : PySem.W.nsIn K mainGlobals "_law_text_by" = some (some (.ref f10)))
    (l10 : K.lookup f10 = some ⟨oc10, od10, .func (PySem.W.fnOf "_law_text_by" "_law_text_by" (defArgs s_l_text_by) (defBody s_l_text_by) (defScope s_l_text_by) .none kV10 dc10 pm10 an10 cd10 ct10), sl10⟩)
    (c10 : PySem.W.codeIn K cd10 "_law_text_by" = true)
    (k10 : PySem.W.keepIn K (.ref f10) = true)
    (a11 : PySem.W.nsIn K mainGlobals "_law_number" = some (some (.ref f11)))
    (l11 : K.lookup f11 = some ⟨oc11, od11, .func (PySem.W.fnOf "_law_number" "_law_number" (defArgs s_l_number) (defBody s_l_number) (defScope s_l_number) .none kV11 dc11 pm11 an11 cd11 ct11), sl11⟩)
    (c11 : PySem.W.codeIn K cd11 "_law_number" = true)
    (k11 : PySem.W.keepIn K (.ref f11) = true)
    (a12 : PySem.W.nsIn K mainGlobals "_law_shown" = some (some (.ref f12)))
    (l12 : K.lookup f12 = some ⟨oc12, od12, .func (PySem.W.fnOf "_law_shown" "_law_shown" (defArgs s_l_shown) (defBody s_l_shown) (defScope s_l_shown) .none kV12 dc12 pm12 an12 cd12 ct12), sl12⟩)
    (c12 : PySem.W.codeIn K cd12 "_law_shown" = true)
    (k12 : PySem.W.keepIn K (.ref f12) = true)
    (a13 : PySem.W.nsIn K mainGlobals "_law_read" = some (some (.ref f13)))
    (l13 : K.lookup f13 = some ⟨oc13, od13, .func (PySem.W.fnOf "_law_read" "_law_read" (defArgs s_l_read) (defBody s_l_read) (defScope s_l_read) .none kV13 dc13 pm13 an13 cd13 ct13), sl13⟩)
    (c13 : PySem.W.codeIn K cd13 "_law_read" = true)
    (k13 : PySem.W.keepIn K (.ref f13) = true)
    (a14 : PySem.W.nsIn K mainGlobals "number_of" = some (some (.ref f14)))
    (l14 : K.lookup f14 = some ⟨oc14, od14, .func (PySem.W.fnOf "number_of" "number_of" (defArgs s_p_number_of) (defBody s_p_number_of) (defScope s_p_number_of) .none kV14 dc14 pm14 an14 cd14 ct14), sl14⟩)
    (c14 : PySem.W.codeIn K cd14 "number_of" = true)
    (k14 : PySem.W.keepIn K (.ref f14) = true)
    (a15 : PySem.W.nsIn K mainGlobals "tie_of" = some (some (.ref f15)))
    (l15 : K.lookup f15 = some ⟨oc15, od15, .func (PySem.W.fnOf "tie_of" "tie_of" (defArgs s_p_tie_of) (defBody s_p_tie_of) (defScope s_p_tie_of) .none kV15 dc15 pm15 an15 cd15 ct15), sl15⟩)
    (c15 : PySem.W.codeIn K cd15 "tie_of" = true)
    (k15 : PySem.W.keepIn K (.ref f15) = true)
    (a16 : PySem.W.nsIn K mainGlobals "web_of" = some (some (.ref f16)))
    (l16 : K.lookup f16 = some ⟨oc16, od16, .func (PySem.W.fnOf "web_of" "web_of" (defArgs s_p_web_of) (defBody s_p_web_of) (defScope s_p_web_of) .none kV16 dc16 pm16 an16 cd16 ct16), sl16⟩)
    (c16 : PySem.W.codeIn K cd16 "web_of" = true)
    (k16 : PySem.W.keepIn K (.ref f16) = true)
    (a17 : PySem.W.nsIn K mainGlobals "read" = some (some (.ref f17)))
    (l17 : K.lookup f17 = some ⟨oc17, od17, .func (PySem.W.fnOf "read" "read" (defArgs s_p_read) (defBody s_p_read) (defScope s_p_read) .none kV17 dc17 pm17 an17 cd17 ct17), sl17⟩)
    (c17 : PySem.W.codeIn K cd17 "read" = true)
    (k17 : PySem.W.keepIn K (.ref f17) = true)
    (a18 : PySem.W.nsIn K mainGlobals "_law_earlier" = some (some (.ref f18)))
    (l18 : K.lookup f18 = some ⟨oc18, od18, .func (PySem.W.fnOf "_law_earlier" "_law_earlier" (defArgs s_l_earlier) (defBody s_l_earlier) (defScope s_l_earlier) .none kV18 dc18 pm18 an18 cd18 ct18), sl18⟩)
    (c18 : PySem.W.codeIn K cd18 "_law_earlier" = true)
    (k18 : PySem.W.keepIn K (.ref f18) = true)
    (a19 : PySem.W.nsIn K mainGlobals "_law_any_rows" = some (some (.ref f19)))
    (l19 : K.lookup f19 = some ⟨oc19, od19, .func (PySem.W.fnOf "_law_any_rows" "_law_any_rows" (defArgs s_l_any_rows) (defBody s_l_any_rows) (defScope s_l_any_rows) .none kV19 dc19 pm19 an19 cd19 ct19), sl19⟩)
    (c19 : PySem.W.codeIn K cd19 "_law_any_rows" = true)
    (k19 : PySem.W.keepIn K (.ref f19) = true)
    (a20 : PySem.W.nsIn K mainGlobals "_law_banded" = some (some (.ref f20)))
    (l20 : K.lookup f20 = some ⟨oc20, od20, .func (PySem.W.fnOf "_law_banded" "_law_banded" (defArgs s_l_banded) (defBody s_l_banded) (defScope s_l_banded) .none kV20 dc20 pm20 an20 cd20 ct20), sl20⟩)
    (c20 : PySem.W.codeIn K cd20 "_law_banded" = true)
    (k20 : PySem.W.keepIn K (.ref f20) = true)
    (a21 : PySem.W.nsIn K mainGlobals "_law_ringed" = some (some (.ref f21)))
    (l21 : K.lookup f21 = some ⟨oc21, od21, .func (PySem.W.fnOf "_law_ringed" "_law_ringed" (defArgs s_l_ringed) (defBody s_l_ringed) (defScope s_l_ringed) .none kV21 dc21 pm21 an21 cd21 ct21), sl21⟩)
    (c21 : PySem.W.codeIn K cd21 "_law_ringed" = true)
    (k21 : PySem.W.keepIn K (.ref f21) = true)
    (a22 : PySem.W.nsIn K mainGlobals "_law_hubbed" = some (some (.ref f22)))
    (l22 : K.lookup f22 = some ⟨oc22, od22, .func (PySem.W.fnOf "_law_hubbed" "_law_hubbed" (defArgs s_l_hubbed) (defBody s_l_hubbed) (defScope s_l_hubbed) .none kV22 dc22 pm22 an22 cd22 ct22), sl22⟩)
    (c22 : PySem.W.codeIn K cd22 "_law_hubbed" = true)
    (k22 : PySem.W.keepIn K (.ref f22) = true)
    (a23 : PySem.W.nsIn K mainGlobals "_law_rows" = some (some (.ref f23)))
    (l23 : K.lookup f23 = some ⟨oc23, od23, .func (PySem.W.fnOf "_law_rows" "_law_rows" (defArgs s_l_rows) (defBody s_l_rows) (defScope s_l_rows) .none kV23 dc23 pm23 an23 cd23 ct23), sl23⟩)
    (c23 : PySem.W.codeIn K cd23 "_law_rows" = true)
    (k23 : PySem.W.keepIn K (.ref f23) = true)
    (a24 : PySem.W.findIn K (.ref CWeb) "need" = some (some (.ref f24)))
    (i24 : PySem.W.isFn K (.ref f24) = true)
    (l24 : K.lookup f24 = some ⟨oc24, od24, .func (PySem.W.fnOf "need" "Web.need" (defArgs s_p_Web_need) (defBody s_p_Web_need) (defScope s_p_Web_need) .none kV24 dc24 pm24 an24 cd24 ct24), sl24⟩)
    (c24 : PySem.W.codeIn K cd24 "Web.need" = true)
    (k24 : PySem.W.keepIn K (.ref f24) = true)
    (a25 : PySem.W.findIn K (.ref CWeb) "beside" = some (some (.ref f25)))
    (i25 : PySem.W.isFn K (.ref f25) = true)
    (l25 : K.lookup f25 = some ⟨oc25, od25, .func (PySem.W.fnOf "beside" "Web.beside" (defArgs s_p_Web_beside) (defBody s_p_Web_beside) (defScope s_p_Web_beside) .none kV25 dc25 pm25 an25 cd25 ct25), sl25⟩)
    (c25 : PySem.W.codeIn K cd25 "Web.beside" = true)
    (k25 : PySem.W.keepIn K (.ref f25) = true)
    (a26 : PySem.W.nsIn K mainGlobals "_law_whole" = some (some (.ref f26)))
    (l26 : K.lookup f26 = some ⟨oc26, od26, .func (PySem.W.fnOf "_law_whole" "_law_whole" (defArgs s_l_whole) (defBody s_l_whole) (defScope s_l_whole) .none kV26 dc26 pm26 an26 cd26 ct26), sl26⟩)
    (c26 : PySem.W.codeIn K cd26 "_law_whole" = true)
    (k26 : PySem.W.keepIn K (.ref f26) = true)
    (a27 : PySem.W.nsIn K mainGlobals "_law_pairs" = some (some (.ref f27)))
    (l27 : K.lookup f27 = some ⟨oc27, od27, .func (PySem.W.fnOf "_law_pairs" "_law_pairs" (defArgs s_l_pairs) (defBody s_l_pairs) (defScope s_l_pairs) .none kV27 dc27 pm27 an27 cd27 ct27), sl27⟩)
    (c27 : PySem.W.codeIn K cd27 "_law_pairs" = true)
    (k27 : PySem.W.keepIn K (.ref f27) = true)
    (a28 : PySem.W.nsIn K mainGlobals "_law_refused" = some (some (.ref f28)))
    (l28 : K.lookup f28 = some ⟨oc28, od28, .func (PySem.W.fnOf "_law_refused" "_law_refused" (defArgs s_l_refused) (defBody s_l_refused) (defScope s_l_refused) .none kV28 dc28 pm28 an28 cd28 ct28), sl28⟩)
    (c28 : PySem.W.codeIn K cd28 "_law_refused" = true)
    (k28 : PySem.W.keepIn K (.ref f28) = true)
    (a29 : PySem.W.nsIn K mainGlobals "_law_by_base" = some (some (.ref f29)))
    (l29 : K.lookup f29 = some ⟨oc29, od29, .func (PySem.W.fnOf "_law_by_base" "_law_by_base" (defArgs s_l_by_base) (defBody s_l_by_base) (defScope s_l_by_base) .none kV29 dc29 pm29 an29 cd29 ct29), sl29⟩)
    (c29 : PySem.W.codeIn K cd29 "_law_by_base" = true)
    (k29 : PySem.W.keepIn K (.ref f29) = true)
    (a30 : PySem.W.nsIn K mainGlobals "_law_numbers" = some (some (.ref f30)))
    (l30 : K.lookup f30 = some ⟨oc30, od30, .func (PySem.W.fnOf "_law_numbers" "_law_numbers" (defArgs s_l_numbers) (defBody s_l_numbers) (defScope s_l_numbers) .none kV30 dc30 pm30 an30 cd30 ct30), sl30⟩)
    (c30 : PySem.W.codeIn K cd30 "_law_numbers" = true)
    (k30 : PySem.W.keepIn K (.ref f30) = true)
    (a31 : PySem.W.findIn K (.ref CWeb) "tied" = some (some (.ref f31)))
    (i31 : PySem.W.isFn K (.ref f31) = true)
    (l31 : K.lookup f31 = some ⟨oc31, od31, .func (PySem.W.fnOf "tied" "Web.tied" (defArgs s_p_Web_tied) (defBody s_p_Web_tied) (defScope s_p_Web_tied) .none kV31 dc31 pm31 an31 cd31 ct31), sl31⟩)
    (c31 : PySem.W.codeIn K cd31 "Web.tied" = true)
    (k31 : PySem.W.keepIn K (.ref f31) = true)
    (a32 : PySem.W.nsIn K mainGlobals "_law_no_point" = some (some (.ref f32)))
    (l32 : K.lookup f32 = some ⟨oc32, od32, .func (PySem.W.fnOf "_law_no_point" "_law_no_point" (defArgs s_l_no_point) (defBody s_l_no_point) (defScope s_l_no_point) .none kV32 dc32 pm32 an32 cd32 ct32), sl32⟩)
    (c32 : PySem.W.codeIn K cd32 "_law_no_point" = true)
    (k32 : PySem.W.keepIn K (.ref f32) = true)
    (a33 : PySem.W.nsIn K mainGlobals "law" = some (some (.ref f33)))
    (l33 : K.lookup f33 = some ⟨oc33, od33, .func (PySem.W.fnOf "law" "law" (defArgs s_l_law) (defBody s_l_law) (defScope s_l_law) .none kV33 dc33 pm33 an33 cd33 ct33), sl33⟩)
    (c33 : PySem.W.codeIn K cd33 "law" = true)
    (k33 : PySem.W.keepIn K (.ref f33) = true)
    (a34 : PySem.W.findIn K (.ref CWeb) "__init__" = some (some (.ref f34)))
    (i34 : PySem.W.isFn K (.ref f34) = true)
    (l34 : K.lookup f34 = some ⟨oc34, od34, .func (PySem.W.fnOf "__init__" "Web.__init__" (defArgs s_p_Web___init__) (defBody s_p_Web___init__) (defScope s_p_Web___init__) .none kV34 dc34 pm34 an34 cd34 ct34), sl34⟩)
    (c34 : PySem.W.codeIn K cd34 "Web.__init__" = true)
    (k34 : PySem.W.keepIn K (.ref f34) = true)
    (z_len : PySem.W.nsIn K mainGlobals "len" = some none)
    (z_list : PySem.W.nsIn K mainGlobals "list" = some none)
    (z_sorted : PySem.W.nsIn K mainGlobals "sorted" = some none)
    (z_range : PySem.W.nsIn K mainGlobals "range" = some none)
    (z_min : PySem.W.nsIn K mainGlobals "min" = some none)
    (z_max : PySem.W.nsIn K mainGlobals "max" = some none)
    (z_int : PySem.W.nsIn K mainGlobals "int" = some none)
    (z_bool : PySem.W.nsIn K mainGlobals "bool" = some none)
    (z_str : PySem.W.nsIn K mainGlobals "str" = some none)
    (z_tuple : PySem.W.nsIn K mainGlobals "tuple" = some none)
    (z_isinstance : PySem.W.nsIn K mainGlobals "isinstance" = some none)
    (z_enumerate : PySem.W.nsIn K mainGlobals "enumerate" = some none)
    (z_reversed : PySem.W.nsIn K mainGlobals "reversed" = some none)
    (z_set : PySem.W.nsIn K mainGlobals "set" = some none)
    (c_FIGURES : PySem.W.nsIn K mainGlobals "FIGURES" = some (some (.str "0123456789" t_FIGURES)))
    (c_MOST : PySem.W.nsIn K mainGlobals "MOST" = some (some (.int 60 t_MOST))) :
    ∃ fd : FuncData, (∀ (s : Shared) (v : Value), BindsTo s fd ⟨[v], []⟩ [("_law_script", v)]) ∧ ∀ base : Heap, K.In base → base.Ns mainGlobals mg → FnOk P w K mg base (L2N.CX P w) 6 fa fd ["_law_script"] (spLaw K) := by
  have e := hfa.symm.trans (PySem.W.mg_of X G a33)
  cases e
  let C : Cf := ⟨K, fun c => match c with | 0 => CWeb | _ => CWeb, fun c => match c with | 0 => (["many", "rows"] : List Str) | _ => (["order", "ring", "crowd", "colours", "many"] : List Str), fun c => match c with | 0 => .ref EWebError | 1 => .ref EBadWeb | 2 => .ref ENoPoint | 3 => .ref EBadText | 4 => .ref EBadOrder | 5 => .ref EHasGap | _ => .none⟩
  have cW : Ccl C K 0 := ccl_of ⟨pgCWeb, hdCWeb, poCWeb, saCWeb⟩ (by show ∀ f ∈ (["many", "rows"] : List Str), _; simp only [List.mem_cons, List.not_mem_nil, or_false, forall_eq_or_imp, forall_eq]; exact ⟨nCWeb_many, nCWeb_rows⟩) (by show (["many", "rows"] : List Str).Nodup; decide +kernel)
  have T : Txt C K mg := { cW := cW, fW := rfl, c_FIGURES := ⟨_, PySem.W.mg_of X G c_FIGURES⟩, c_MOST := ⟨_, PySem.W.mg_of X G c_MOST⟩, x_BadWeb := ⟨⟨EBadWeb, rfl, PySem.W.mg_of X G aEBadWeb, xEBadWeb, kEBadWeb, sEBadWeb, tEBadWeb⟩⟩, x_NoPoint := ⟨⟨ENoPoint, rfl, PySem.W.mg_of X G aENoPoint, xENoPoint, kENoPoint, sENoPoint, tENoPoint⟩⟩, x_BadText := ⟨⟨EBadText, rfl, PySem.W.mg_of X G aEBadText, xEBadText, kEBadText, sEBadText, tEBadText⟩⟩, g_BadOrder := PySem.W.mg_of X G aEBadOrder, g_BadText := PySem.W.mg_of X G aEBadText, g_BadWeb := PySem.W.mg_of X G aEBadWeb, g_HasGap := PySem.W.mg_of X G aEHasGap, g_NoPoint := PySem.W.mg_of X G aENoPoint, g_WebError := PySem.W.mg_of X G aEWebError, b_ValueError := PySem.W.mg_none_of X G z_ValueError, xc := xc_of (fun c => match c with | 0 => EWebError | 1 => EBadWeb | 2 => ENoPoint | 3 => EBadText | 4 => EBadOrder | 5 => EHasGap | _ => fa) (fun c hc => match c, hc with | 0, _ => rfl | 1, _ => rfl | 2, _ => rfl | 3, _ => rfl | 4, _ => rfl | 5, _ => rfl | _ + 6, h => absurd h (by omega)) (fun c hc => match c, hc with | 0, _ => ⟨hgEWebError, hkEWebError, sEWebError, hdEWebError, haEWebError, hn_x, ht_x, hmEWebError⟩ | 1, _ => ⟨hgEBadWeb, hkEBadWeb, sEBadWeb, hdEBadWeb, haEBadWeb, hn_x, ht_x, hmEBadWeb⟩ | 2, _ => ⟨hgENoPoint, hkENoPoint, sENoPoint, hdENoPoint, haENoPoint, hn_x, ht_x, hmENoPoint⟩ | 3, _ => ⟨hgEBadText, hkEBadText, sEBadText, hdEBadText, haEBadText, hn_x, ht_x, hmEBadText⟩ | 4, _ => ⟨hgEBadOrder, hkEBadOrder, sEBadOrder, hdEBadOrder, haEBadOrder, hn_x, ht_x, hmEBadOrder⟩ | 5, _ => ⟨hgEHasGap, hkEHasGap, sEHasGap, hdEHasGap, haEHasGap, hn_x, ht_x, hmEHasGap⟩ | _ + 6, h => absurd h (by omega)) (fun c hc => match c, hc with | 0, _ => tEWebError | 1, _ => tEBadWeb | 2, _ => tENoPoint | 3, _ => tEBadText | 4, _ => tEBadOrder | 5, _ => tEHasGap | _ + 6, h => absurd h (by omega)) (fun c t hc ht => match c, hc with | 0, _ => (match t, ht with | 0, _ => bEWebError_WebError | 1, _ => bEWebError_BadWeb | 2, _ => bEWebError_NoPoint | 3, _ => bEWebError_BadText | 4, _ => bEWebError_BadOrder | 5, _ => bEWebError_HasGap | _ + 6, h => absurd h (by omega)) | 1, _ => (match t, ht with | 0, _ => bEBadWeb_WebError | 1, _ => bEBadWeb_BadWeb | 2, _ => bEBadWeb_NoPoint | 3, _ => bEBadWeb_BadText | 4, _ => bEBadWeb_BadOrder | 5, _ => bEBadWeb_HasGap | _ + 6, h => absurd h (by omega)) | 2, _ => (match t, ht with | 0, _ => bENoPoint_WebError | 1, _ => bENoPoint_BadWeb | 2, _ => bENoPoint_NoPoint | 3, _ => bENoPoint_BadText | 4, _ => bENoPoint_BadOrder | 5, _ => bENoPoint_HasGap | _ + 6, h => absurd h (by omega)) | 3, _ => (match t, ht with | 0, _ => bEBadText_WebError | 1, _ => bEBadText_BadWeb | 2, _ => bEBadText_NoPoint | 3, _ => bEBadText_BadText | 4, _ => bEBadText_BadOrder | 5, _ => bEBadText_HasGap | _ + 6, h => absurd h (by omega)) | 4, _ => (match t, ht with | 0, _ => bEBadOrder_WebError | 1, _ => bEBadOrder_BadWeb | 2, _ => bEBadOrder_NoPoint | 3, _ => bEBadOrder_BadText | 4, _ => bEBadOrder_BadOrder | 5, _ => bEBadOrder_HasGap | _ + 6, h => absurd h (by omega)) | 5, _ => (match t, ht with | 0, _ => bEHasGap_WebError | 1, _ => bEHasGap_BadWeb | 2, _ => bEHasGap_NoPoint | 3, _ => bEHasGap_BadText | 4, _ => bEHasGap_BadOrder | 5, _ => bEHasGap_HasGap | _ + 6, h => absurd h (by omega)) | _ + 6, h => absurd h (by omega)) (fun c hc => match c, hc with | 0, _ => hvEWebError | 1, _ => hvEBadWeb | 2, _ => hvENoPoint | 3, _ => hvEBadText | 4, _ => hvEBadOrder | 5, _ => hvEHasGap | _ + 6, h => absurd h (by omega)) (by decide +kernel) }
  have bt : Bt mg := { len := PySem.W.mg_none_of X G z_len, list := PySem.W.mg_none_of X G z_list, sorted := PySem.W.mg_none_of X G z_sorted, range := PySem.W.mg_none_of X G z_range, min := PySem.W.mg_none_of X G z_min, max := PySem.W.mg_none_of X G z_max, int := PySem.W.mg_none_of X G z_int, bool := PySem.W.mg_none_of X G z_bool, str := PySem.W.mg_none_of X G z_str, tuple := PySem.W.mg_none_of X G z_tuple, isinstance := PySem.W.mg_none_of X G z_isinstance, enumerate := PySem.W.mg_none_of X G z_enumerate, reversed := PySem.W.mg_none_of X G z_reversed, set := PySem.W.mg_none_of X G z_set }
  have F1 := fun_mk (st := s_l_cell_at) l1 c1 k1
  have B1 := F1.binds (ps := ["_law_script", "_law_k"]) fun _ _ _ _ _ _ us hl => match us, hl with | [_, _], _ => rfl
  have F2 := fun_mk (st := s_l_many) l2 c2 k2
  have B2 := F2.binds (ps := ["_law_script"]) fun _ _ _ _ _ _ us hl => match us, hl with | [_], _ => rfl
  have F3 := fun_mk (st := s_l_name) l3 c3 k3
  have B3 := F3.binds (ps := ["_law_script", "_law_many_here", "_law_k"]) fun _ _ _ _ _ _ us hl => match us, hl with | [_, _, _], _ => rfl
  have F4 := fun_mk (st := s_l_ties) l4 c4 k4
  have B4 := F4.binds (ps := ["_law_script", "_law_many_here", "_law_rows_here"]) fun _ _ _ _ _ _ us hl => match us, hl with | [_, _, _], _ => rfl
  have F5 := fun_mk (st := s_l_near) l5 c5 k5
  have B5 := F5.binds (ps := ["_law_many_here", "_law_ties_here"]) fun _ _ _ _ _ _ us hl => match us, hl with | [_, _], _ => rfl
  have F6 := fun_mk (st := s_p_Web_ties) l6 c6 k6
  have B6 := F6.binds (ps := ["self"]) fun _ _ _ _ _ _ us hl => match us, hl with | [_], _ => rfl
  have F7 := fun_mk (st := s_p_shown) l7 c7 k7
  have B7 := F7.binds (ps := ["web"]) fun _ _ _ _ _ _ us hl => match us, hl with | [_], _ => rfl
  have F8 := fun_mk (st := s_l_mixed) l8 c8 k8
  have B8 := F8.binds (ps := ["_law_cell", "_law_k"]) fun _ _ _ _ _ _ us hl => match us, hl with | [_, _], _ => rfl
  have F9 := fun_mk (st := s_l_odd_text) l9 c9 k9
  have B9 := F9.binds (ps := ["_law_cell"]) fun _ _ _ _ _ _ us hl => match us, hl with | [_], _ => rfl
  have F10 := fun_mk (st := s_l_text_by) l10 c10 k10
  have B10 := F10.binds (ps := ["_law_text", "_law_cell", "_law_kind"]) fun _ _ _ _ _ _ us hl => match us, hl with | [_, _, _], _ => rfl
  have F11 := fun_mk (st := s_l_number) l11 c11 k11
  have B11 := F11.binds (ps := ["_law_word"]) fun _ _ _ _ _ _ us hl => match us, hl with | [_], _ => rfl
  have F12 := fun_mk (st := s_l_shown) l12 c12 k12
  have B12 := F12.binds (ps := ["_law_many_here", "_law_near_here"]) fun _ _ _ _ _ _ us hl => match us, hl with | [_, _], _ => rfl
  have F13 := fun_mk (st := s_l_read) l13 c13 k13
  have B13 := F13.binds (ps := ["_law_text"]) fun _ _ _ _ _ _ us hl => match us, hl with | [_], _ => rfl
  have F14 := fun_mk (st := s_p_number_of) l14 c14 k14
  have B14 := F14.binds (ps := ["word"]) fun _ _ _ _ _ _ us hl => match us, hl with | [_], _ => rfl
  have F15 := fun_mk (st := s_p_tie_of) l15 c15 k15
  have B15 := F15.binds (ps := ["word"]) fun _ _ _ _ _ _ us hl => match us, hl with | [_], _ => rfl
  have F16 := fun_mk (st := s_p_web_of) l16 c16 k16
  have B16 := F16.binds (ps := ["many", "ties"]) fun _ _ _ _ _ _ us hl => match us, hl with | [_, _], _ => rfl
  have F17 := fun_mk (st := s_p_read) l17 c17 k17
  have B17 := F17.binds (ps := ["text"]) fun _ _ _ _ _ _ us hl => match us, hl with | [_], _ => rfl
  have F18 := fun_mk (st := s_l_earlier) l18 c18 k18
  have B18 := F18.binds (ps := ["_law_script", "_law_many_here", "_law_ring"]) fun _ _ _ _ _ _ us hl => match us, hl with | [_, _, _], _ => rfl
  have F19 := fun_mk (st := s_l_any_rows) l19 c19 k19
  have B19 := F19.binds (ps := ["_law_script", "_law_many_here"]) fun _ _ _ _ _ _ us hl => match us, hl with | [_, _], _ => rfl
  have F20 := fun_mk (st := s_l_banded) l20 c20 k20
  have B20 := F20.binds (ps := ["_law_many_here", "_law_cell"]) fun _ _ _ _ _ _ us hl => match us, hl with | [_, _], _ => rfl
  have F21 := fun_mk (st := s_l_ringed) l21 c21 k21
  have B21 := F21.binds (ps := ["_law_many_here", "_law_cell"]) fun _ _ _ _ _ _ us hl => match us, hl with | [_, _], _ => rfl
  have F22 := fun_mk (st := s_l_hubbed) l22 c22 k22
  have B22 := F22.binds (ps := ["_law_many_here", "_law_cell"]) fun _ _ _ _ _ _ us hl => match us, hl with | [_, _], _ => rfl
  have F23 := fun_mk (st := s_l_rows) l23 c23 k23
  have B23 := F23.binds (ps := ["_law_script", "_law_many_here"]) fun _ _ _ _ _ _ us hl => match us, hl with | [_, _], _ => rfl
  have F24 := fun_mk (st := s_p_Web_need) l24 c24 k24
  have B24 := F24.binds (ps := ["self", "point"]) fun _ _ _ _ _ _ us hl => match us, hl with | [_, _], _ => rfl
  have F25 := fun_mk (st := s_p_Web_beside) l25 c25 k25
  have B25 := F25.binds (ps := ["self", "point"]) fun _ _ _ _ _ _ us hl => match us, hl with | [_, _], _ => rfl
  have F26 := fun_mk (st := s_l_whole) l26 c26 k26
  have B26 := F26.binds (ps := ["_law_found"]) fun _ _ _ _ _ _ us hl => match us, hl with | [_], _ => rfl
  have F27 := fun_mk (st := s_l_pairs) l27 c27 k27
  have B27 := F27.binds (ps := ["_law_found", "_law_due"]) fun _ _ _ _ _ _ us hl => match us, hl with | [_, _], _ => rfl
  have F28 := fun_mk (st := s_l_refused) l28 c28 k28
  have B28 := F28.binds (ps := ["_law_text"]) fun _ _ _ _ _ _ us hl => match us, hl with | [_], _ => rfl
  have F29 := fun_mk (st := s_l_by_base) l29 c29 k29
  have B29 := F29.binds (ps := ["_law_text"]) fun _ _ _ _ _ _ us hl => match us, hl with | [_], _ => rfl
  have F30 := fun_mk (st := s_l_numbers) l30 c30 k30
  have B30 := F30.binds (ps := ["_law_found", "_law_due"]) fun _ _ _ _ _ _ us hl => match us, hl with | [_, _], _ => rfl
  have F31 := fun_mk (st := s_p_Web_tied) l31 c31 k31
  have B31 := F31.binds (ps := ["self", "one", "other"]) fun _ _ _ _ _ _ us hl => match us, hl with | [_, _, _], _ => rfl
  have F32 := fun_mk (st := s_l_no_point) l32 c32 k32
  have B32 := F32.binds (ps := ["_law_web", "_law_many_here", "_law_kind"]) fun _ _ _ _ _ _ us hl => match us, hl with | [_, _, _], _ => rfl
  have F33 := fun_mk (st := s_l_law) l33 c33 k33
  have B33 := F33.binds (ps := ["_law_script"]) fun _ _ _ _ _ _ us hl => match us, hl with | [_], _ => rfl
  have F34 := fun_mk (st := s_p_Web___init__) l34 c34 k34
  have B34 := F34.binds (ps := ["self", "many", "rows"]) fun _ _ _ _ _ _ us hl => match us, hl with | [_, _, _], _ => rfl
  refine ⟨PySem.W.fnOf "law" "law" (defArgs s_l_law) (defBody s_l_law) (defScope s_l_law) .none kV33 dc33 pm33 an33 cd33 ct33, fun s v => .of_eq rfl, fun base _ _ => ?_⟩
  have d_mkWeb : Mke C P w K mg base "Web" 0 2 := ⟨f34, _, _, ⟨mkCWeb, a34, i34, kcCWeb⟩, init_Web F34 rfl T, PySem.W.mg_of X G aCWeb, B34, rfl⟩
  have d_l_cell_at : Cld P w K mg base 1 "_law_cell_at" (sp_l_cell_at C) := ⟨f1, _, _, ok_l_cell_at (P := P) (w := w) (base := base) F1 rfl bt T , PySem.W.mg_of X G a1, k1, B1⟩
  have d_l_many : Cld P w K mg base 2 "_law_many" (sp_l_many C) := ⟨f2, _, _, ok_l_many (P := P) (w := w) (base := base) F2 rfl bt T d_l_cell_at, PySem.W.mg_of X G a2, k2, B2⟩
  have d_l_name : Cld P w K mg base 2 "_law_name" (sp_l_name C) := ⟨f3, _, _, ok_l_name (P := P) (w := w) (base := base) F3 rfl bt T d_l_cell_at, PySem.W.mg_of X G a3, k3, B3⟩
  have d_l_ties : Cld P w K mg base 3 "_law_ties" (sp_l_ties C) := ⟨f4, _, _, ok_l_ties (P := P) (w := w) (base := base) F4 rfl bt T d_l_name, PySem.W.mg_of X G a4, k4, B4⟩
  have d_l_near : Cld P w K mg base 1 "_law_near" (sp_l_near C) := ⟨f5, _, _, ok_l_near (P := P) (w := w) (base := base) F5 rfl bt T , PySem.W.mg_of X G a5, k5, B5⟩
  have d_p_Web_ties : Mtd C P w K mg base 1 0 "ties" (sp_p_Web_ties C) := ⟨f6, _, _, ok_p_Web_ties (P := P) (w := w) (base := base) F6 rfl bt T , T.cW.cl, ⟨a6, i6, k6⟩, B6⟩
  have d_p_shown : Cld P w K mg base 2 "shown" (sp_p_shown C) := ⟨f7, _, _, ok_p_shown (P := P) (w := w) (base := base) F7 rfl bt T d_p_Web_ties, PySem.W.mg_of X G a7, k7, B7⟩
  have d_l_mixed : Cld P w K mg base 1 "_law_mixed" (sp_l_mixed C) := ⟨f8, _, _, ok_l_mixed (P := P) (w := w) (base := base) F8 rfl bt T , PySem.W.mg_of X G a8, k8, B8⟩
  have d_l_odd_text : Cld P w K mg base 1 "_law_odd_text" (sp_l_odd_text C) := ⟨f9, _, _, ok_l_odd_text (P := P) (w := w) (base := base) F9 rfl bt T , PySem.W.mg_of X G a9, k9, B9⟩
  have d_l_text_by : Cld P w K mg base 2 "_law_text_by" (sp_l_text_by C) := ⟨f10, _, _, ok_l_text_by (P := P) (w := w) (base := base) F10 rfl bt T d_l_odd_text, PySem.W.mg_of X G a10, k10, B10⟩
  have d_l_number : Cld P w K mg base 1 "_law_number" (sp_l_number C) := ⟨f11, _, _, ok_l_number (P := P) (w := w) (base := base) F11 rfl bt T , PySem.W.mg_of X G a11, k11, B11⟩
  have d_l_shown : Cld P w K mg base 1 "_law_shown" (sp_l_shown C) := ⟨f12, _, _, ok_l_shown (P := P) (w := w) (base := base) F12 rfl bt T , PySem.W.mg_of X G a12, k12, B12⟩
  have d_l_read : Cld P w K mg base 2 "_law_read" (sp_l_read C) := ⟨f13, _, _, ok_l_read (P := P) (w := w) (base := base) F13 rfl bt T d_l_number d_l_near d_l_shown, PySem.W.mg_of X G a13, k13, B13⟩
  have d_p_number_of : Cld P w K mg base 1 "number_of" (sp_p_number_of C) := ⟨f14, _, _, ok_p_number_of (P := P) (w := w) (base := base) F14 rfl bt T , PySem.W.mg_of X G a14, k14, B14⟩
  have d_p_tie_of : Cld P w K mg base 2 "tie_of" (sp_p_tie_of C) := ⟨f15, _, _, ok_p_tie_of (P := P) (w := w) (base := base) F15 rfl bt T d_p_number_of, PySem.W.mg_of X G a15, k15, B15⟩
  have d_p_web_of : Cld P w K mg base 3 "web_of" (sp_p_web_of C) := ⟨f16, _, _, ok_p_web_of (P := P) (w := w) (base := base) F16 rfl bt T d_mkWeb, PySem.W.mg_of X G a16, k16, B16⟩
  have d_p_read : Cldx P w K mg base 4 "read" (sp_p_read C) := ⟨f17, _, _, ok_p_read (P := P) (w := w) (base := base) F17 rfl bt T d_p_number_of d_p_tie_of d_p_web_of d_p_shown, PySem.W.mg_of X G a17, k17, B17⟩
  have d_l_earlier : Cld P w K mg base 2 "_law_earlier" (sp_l_earlier C) := ⟨f18, _, _, ok_l_earlier (P := P) (w := w) (base := base) F18 rfl bt T d_l_cell_at d_l_mixed, PySem.W.mg_of X G a18, k18, B18⟩
  have d_l_any_rows : Cld P w K mg base 2 "_law_any_rows" (sp_l_any_rows C) := ⟨f19, _, _, ok_l_any_rows (P := P) (w := w) (base := base) F19 rfl bt T d_l_cell_at d_l_mixed, PySem.W.mg_of X G a19, k19, B19⟩
  have d_l_banded : Cld P w K mg base 1 "_law_banded" (sp_l_banded C) := ⟨f20, _, _, ok_l_banded (P := P) (w := w) (base := base) F20 rfl bt T , PySem.W.mg_of X G a20, k20, B20⟩
  have d_l_ringed : Cld P w K mg base 1 "_law_ringed" (sp_l_ringed C) := ⟨f21, _, _, ok_l_ringed (P := P) (w := w) (base := base) F21 rfl bt T , PySem.W.mg_of X G a21, k21, B21⟩
  have d_l_hubbed : Cld P w K mg base 1 "_law_hubbed" (sp_l_hubbed C) := ⟨f22, _, _, ok_l_hubbed (P := P) (w := w) (base := base) F22 rfl bt T , PySem.W.mg_of X G a22, k22, B22⟩
  have d_l_rows : Cld P w K mg base 3 "_law_rows" (sp_l_rows C) := ⟨f23, _, _, ok_l_rows (P := P) (w := w) (base := base) F23 rfl bt T d_l_cell_at d_l_earlier d_l_any_rows d_l_banded d_l_ringed d_l_hubbed, PySem.W.mg_of X G a23, k23, B23⟩
  have d_p_Web_need : Mtd C P w K mg base 1 0 "need" (sp_p_Web_need C) := ⟨f24, _, _, ok_p_Web_need (P := P) (w := w) (base := base) F24 rfl bt T , T.cW.cl, ⟨a24, i24, k24⟩, B24⟩
  have d_p_Web_beside : Mtd C P w K mg base 2 0 "beside" (sp_p_Web_beside C) := ⟨f25, _, _, ok_p_Web_beside (P := P) (w := w) (base := base) F25 rfl bt T d_p_Web_need, T.cW.cl, ⟨a25, i25, k25⟩, B25⟩
  have d_l_whole : Cld P w K mg base 1 "_law_whole" (sp_l_whole C) := ⟨f26, _, _, ok_l_whole (P := P) (w := w) (base := base) F26 rfl bt T , PySem.W.mg_of X G a26, k26, B26⟩
  have d_l_pairs : Cld P w K mg base 2 "_law_pairs" (sp_l_pairs C) := ⟨f27, _, _, ok_l_pairs (P := P) (w := w) (base := base) F27 rfl bt T d_l_whole, PySem.W.mg_of X G a27, k27, B27⟩
  have d_l_refused : Cld P w K mg base 5 "_law_refused" (sp_l_refused C) := ⟨f28, _, _, ok_l_refused (P := P) (w := w) (base := base) F28 rfl bt T d_p_read, PySem.W.mg_of X G a28, k28, B28⟩
  have d_l_by_base : Cld P w K mg base 5 "_law_by_base" (sp_l_by_base C) := ⟨f29, _, _, ok_l_by_base (P := P) (w := w) (base := base) F29 rfl bt T d_p_read, PySem.W.mg_of X G a29, k29, B29⟩
  have d_l_numbers : Cld P w K mg base 2 "_law_numbers" (sp_l_numbers C) := ⟨f30, _, _, ok_l_numbers (P := P) (w := w) (base := base) F30 rfl bt T d_l_whole, PySem.W.mg_of X G a30, k30, B30⟩
  have d_p_Web_tied : Mtd C P w K mg base 2 0 "tied" (sp_p_Web_tied C) := ⟨f31, _, _, ok_p_Web_tied (P := P) (w := w) (base := base) F31 rfl bt T d_p_Web_need, T.cW.cl, ⟨a31, i31, k31⟩, B31⟩
  have d_l_no_point : Cld P w K mg base 3 "_law_no_point" (sp_l_no_point C) := ⟨f32, _, _, ok_l_no_point (P := P) (w := w) (base := base) F32 rfl bt T d_p_Web_beside d_p_Web_tied, PySem.W.mg_of X G a32, k32, B32⟩
  exact (ok_l_law (P := P) (w := w) (base := base) F33 rfl bt T d_l_many d_l_rows d_l_ties d_l_near d_p_web_of d_p_shown d_l_shown d_l_cell_at d_l_mixed d_l_text_by d_l_read d_l_refused d_l_by_base d_p_read d_l_whole d_p_Web_beside d_l_numbers d_p_Web_tied d_l_no_point d_p_Web_ties d_l_pairs).imp fun vs H Q E h => spLaw_ok rfl h
theorem walk {l : PySem.W.OpenLaw} {q : Program} {loose : List Str} {XP : (Str → Option Value) → Heap → Prop} {YP : World → Heap → Prop} {d : DefRec} {K : Params → PySem.W.Frag} (hn : l.most = some 63) (hdf : d.params.defaults = [])
    (hY : ∀ (w : World) (h : Heap), YP w h → (K w.params).In h)
    (F : ∀ (w : World) (mg : Str → Option Value) (fa : Addr) (h : Heap), (K w.params).In h → h.Ns mainGlobals mg → mg d.name = some (.ref fa) →
      ∃ fd : FuncData, (∀ (s : Shared) (u : Value), BindsTo s fd ⟨[u], []⟩ [("_law_script", u)]) ∧ ∀ base : Heap, (K w.params).In base → base.Ns mainGlobals mg → FnOk l.prog w (K w.params) mg base (L2N.CX l.prog w) 6 fa fd ["_law_script"] (spLaw (K w.params))) :
    PySem.W.WalkO q loose XP YP l.row.toRowW d [] (fun f vs => PySem.call f vs) :=
  L2.walk_of (n := 63) (k := 6) (x := "_law_script") (CX := fun w => L2N.CX l.prog w) (sp := fun w => spLaw (K w.params)) hn (by decide) hdf ⟨rfl, by decide, by decide⟩ hY F (fun _ _ a ns hl _ hS => ⟨a, ns, rfl, hS, hl, fun _ => rfl⟩) fun _ _ _ _ _ z => z.elim fun _ z => z.elim fun _ z => z.elim fun _ z => z.elim fun _ z => z.elim fun _ z => z.2.2.2.2.2.2.2
end VL
open PySem PySem.W PyProof.Rows in
set_option maxRecDepth 100000 in
set_option maxHeartbeats 0 in
theorem PySem.Challenge.cw_shortring_k02_written_holds : PySem.Challenge.rw_shortring_k02_written.Holds := by
  w_on; o_law; k_head; (case hw => w_witness2)
  k_fill
  refine VL.walk (l := PySem.Challenge.rw_shortring_k02_written) rfl rfl (fun w h Y => PySem.W.kIn_of Y) ?F
  case F =>
    intro w mg fa h KX G hmg
    refine' VL.all_mk KX G hmg ?aCWeb ?pgCWeb ?hdCWeb ?poCWeb ?saCWeb ?nCWeb_many ?nCWeb_rows ?mkCWeb ?kcCWeb ?aEWebError ?xEWebError ?kEWebError ?sEWebError ?tEWebError ?aEBadWeb ?xEBadWeb ?kEBadWeb ?sEBadWeb ?tEBadWeb ?aENoPoint ?xENoPoint ?kENoPoint ?sENoPoint ?tENoPoint ?aEBadText ?xEBadText ?kEBadText ?sEBadText ?tEBadText ?aEBadOrder ?xEBadOrder ?kEBadOrder ?sEBadOrder ?tEBadOrder ?aEHasGap ?xEHasGap ?kEHasGap ?sEHasGap ?tEHasGap ?hn_x ?ht_x ?hgEWebError ?hkEWebError ?hdEWebError ?haEWebError ?hmEWebError ?hvEWebError ?bEWebError_WebError ?bEWebError_BadWeb ?bEWebError_NoPoint ?bEWebError_BadText ?bEWebError_BadOrder ?bEWebError_HasGap ?hgEBadWeb ?hkEBadWeb ?hdEBadWeb ?haEBadWeb ?hmEBadWeb ?hvEBadWeb ?bEBadWeb_WebError ?bEBadWeb_BadWeb ?bEBadWeb_NoPoint ?bEBadWeb_BadText ?bEBadWeb_BadOrder ?bEBadWeb_HasGap ?hgENoPoint ?hkENoPoint ?hdENoPoint ?haENoPoint ?hmENoPoint ?hvENoPoint ?bENoPoint_WebError ?bENoPoint_BadWeb ?bENoPoint_NoPoint ?bENoPoint_BadText ?bENoPoint_BadOrder ?bENoPoint_HasGap ?hgEBadText ?hkEBadText ?hdEBadText ?haEBadText ?hmEBadText ?hvEBadText ?bEBadText_WebError ?bEBadText_BadWeb ?bEBadText_NoPoint ?bEBadText_BadText ?bEBadText_BadOrder ?bEBadText_HasGap ?hgEBadOrder ?hkEBadOrder ?hdEBadOrder ?haEBadOrder ?hmEBadOrder ?hvEBadOrder ?bEBadOrder_WebError ?bEBadOrder_BadWeb ?bEBadOrder_NoPoint ?bEBadOrder_BadText ?bEBadOrder_BadOrder ?bEBadOrder_HasGap ?hgEHasGap ?hkEHasGap ?hdEHasGap ?haEHasGap ?hmEHasGap ?hvEHasGap ?bEHasGap_WebError ?bEHasGap_BadWeb ?bEHasGap_NoPoint ?bEHasGap_BadText ?bEHasGap_BadOrder ?bEHasGap_HasGap ?z_ValueError ?a1 ?l1 ?c1 ?k1 ?a2 ?l2 ?c2 ?k2 ?a3 ?l3 ?c3 ?k3 ?a4 ?l4 ?c4 ?k4 ?a5 ?l5 ?c5 ?k5 ?a6 ?i6 ?l6 ?c6 ?k6 ?a7 ?l7 ?c7 ?k7 ?a8 ?l8 ?c8 ?k8 ?a9 ?l9 ?c9 ?k9 ?a10 ?l10 ?c10 ?k10 ?a11 ?l11 ?c11 ?k11 ?a12 ?l12 ?c12 ?k12 ?a13 ?l13 ?c13 ?k13 ?a14 ?l14 ?c14 ?k14 ?a15 ?l15 ?c15 ?k15 ?a16 ?l16 ?c16 ?k16 ?a17 ?l17 ?c17 ?k17 ?a18 ?l18 ?c18 ?k18 ?a19 ?l19 ?c19 ?k19 ?a20 ?l20 ?c20 ?k20 ?a21 ?l21 ?c21 ?k21 ?a22 ?l22 ?c22 ?k22 ?a23 ?l23 ?c23 ?k23 ?a24 ?i24 ?l24 ?c24 ?k24 ?a25 ?i25 ?l25 ?c25 ?k25 ?a26 ?l26 ?c26 ?k26 ?a27 ?l27 ?c27 ?k27 ?a28 ?l28 ?c28 ?k28 ?a29 ?l29 ?c29 ?k29 ?a30 ?l30 ?c30 ?k30 ?a31 ?i31 ?l31 ?c31 ?k31 ?a32 ?l32 ?c32 ?k32 ?a33 ?l33 ?c33 ?k33 ?a34 ?i34 ?l34 ?c34 ?k34 ?z_len ?z_list ?z_sorted ?z_range ?z_min ?z_max ?z_int ?z_bool ?z_str ?z_tuple ?z_isinstance ?z_enumerate ?z_reversed ?z_set ?c_FIGURES ?c_MOST
    (case aCWeb => k_is)
    (case pgCWeb => k_is)
    (case hdCWeb => k_is)
    (case poCWeb => k_is)
    (case saCWeb => k_is)
    (case nCWeb_many => k_is)
    (case nCWeb_rows => k_is)
    (case mkCWeb => k_is)
    (case kcCWeb => k_is)
    (case aEWebError => k_is)
    (case xEWebError => k_exc)
    (case kEWebError => k_is)
    (case sEWebError => k_is)
    (case tEWebError => k_is)
    (case aEBadWeb => k_is)
    (case xEBadWeb => k_exc)
    (case kEBadWeb => k_is)
    (case sEBadWeb => k_is)
    (case tEBadWeb => k_is)
    (case aENoPoint => k_is)
    (case xENoPoint => k_exc)
    (case kENoPoint => k_is)
    (case sENoPoint => k_is)
    (case tENoPoint => k_is)
    (case aEBadText => k_is)
    (case xEBadText => k_exc)
    (case kEBadText => k_is)
    (case sEBadText => k_is)
    (case tEBadText => k_is)
    (case aEBadOrder => k_is)
    (case xEBadOrder => k_exc)
    (case kEBadOrder => k_is)
    (case sEBadOrder => k_is)
    (case tEBadOrder => k_is)
    (case aEHasGap => k_is)
    (case xEHasGap => k_exc)
    (case kEHasGap => k_is)
    (case sEHasGap => k_is)
    (case tEHasGap => k_is)
    (case hn_x => k_is)
    (case ht_x => k_is)
    (case hgEWebError => k_is)
    (case hkEWebError => k_is)
    (case hdEWebError => k_is)
    (case haEWebError => k_is)
    (case hmEWebError => k_is)
    (case hvEWebError => k_is)
    (case bEWebError_WebError => k_is)
    (case bEWebError_BadWeb => k_is)
    (case bEWebError_NoPoint => k_is)
    (case bEWebError_BadText => k_is)
    (case bEWebError_BadOrder => k_is)
    (case bEWebError_HasGap => k_is)
    (case hgEBadWeb => k_is)
    (case hkEBadWeb => k_is)
    (case hdEBadWeb => k_is)
    (case haEBadWeb => k_is)
    (case hmEBadWeb => k_is)
    (case hvEBadWeb => k_is)
    (case bEBadWeb_WebError => k_is)
    (case bEBadWeb_BadWeb => k_is)
    (case bEBadWeb_NoPoint => k_is)
    (case bEBadWeb_BadText => k_is)
    (case bEBadWeb_BadOrder => k_is)
    (case bEBadWeb_HasGap => k_is)
    (case hgENoPoint => k_is)
    (case hkENoPoint => k_is)
    (case hdENoPoint => k_is)
    (case haENoPoint => k_is)
    (case hmENoPoint => k_is)
    (case hvENoPoint => k_is)
    (case bENoPoint_WebError => k_is)
    (case bENoPoint_BadWeb => k_is)
    (case bENoPoint_NoPoint => k_is)
    (case bENoPoint_BadText => k_is)
    (case bENoPoint_BadOrder => k_is)
    (case bENoPoint_HasGap => k_is)
    (case hgEBadText => k_is)
    (case hkEBadText => k_is)
    (case hdEBadText => k_is)
    (case haEBadText => k_is)
    (case hmEBadText => k_is)
    (case hvEBadText => k_is)
    (case bEBadText_WebError => k_is)
    (case bEBadText_BadWeb => k_is)
    (case bEBadText_NoPoint => k_is)
    (case bEBadText_BadText => k_is)
    (case bEBadText_BadOrder => k_is)
    (case bEBadText_HasGap => k_is)
    (case hgEBadOrder => k_is)
    (case hkEBadOrder => k_is)
    (case hdEBadOrder => k_is)
    (case haEBadOrder => k_is)
    (case hmEBadOrder => k_is)
    (case hvEBadOrder => k_is)
    (case bEBadOrder_WebError => k_is)
    (case bEBadOrder_BadWeb => k_is)
    (case bEBadOrder_NoPoint => k_is)
    (case bEBadOrder_BadText => k_is)
    (case bEBadOrder_BadOrder => k_is)
    (case bEBadOrder_HasGap => k_is)
    (case hgEHasGap => k_is)
    (case hkEHasGap => k_is)
    (case hdEHasGap => k_is)
    (case haEHasGap => k_is)
    (case hmEHasGap => k_is)
    (case hvEHasGap => k_is)
    (case bEHasGap_WebError => k_is)
    (case bEHasGap_BadWeb => k_is)
    (case bEHasGap_NoPoint => k_is)
    (case bEHasGap_BadText => k_is)
    (case bEHasGap_BadOrder => k_is)
    (case bEHasGap_HasGap => k_is)
    (case z_ValueError => k_is)
    (case a1 => k_is)
    (case l1 => k_is)
    (case c1 => k_is)
    (case k1 => k_is)
    (case a2 => k_is)
    (case l2 => k_is)
    (case c2 => k_is)
    (case k2 => k_is)
    (case a3 => k_is)
    (case l3 => k_is)
    (case c3 => k_is)
    (case k3 => k_is)
    (case a4 => k_is)
    (case l4 => k_is)
    (case c4 => k_is)
    (case k4 => k_is)
    (case a5 => k_is)
    (case l5 => k_is)
    (case c5 => k_is)
    (case k5 => k_is)
    (case a6 => k_is)
    (case i6 => k_is)
    (case l6 => k_is)
    (case c6 => k_is)
    (case k6 => k_is)
    (case a7 => k_is)
    (case l7 => k_is)
    (case c7 => k_is)
    (case k7 => k_is)
    (case a8 => k_is)
    (case l8 => k_is)
    (case c8 => k_is)
    (case k8 => k_is)
    (case a9 => k_is)
    (case l9 => k_is)
    (case c9 => k_is)
    (case k9 => k_is)
    (case a10 => k_is)
    (case l10 => k_is)
    (case c10 => k_is)
    (case k10 => k_is)
    (case a11 => k_is)
    (case l11 => k_is)
    (case c11 => k_is)
    (case k11 => k_is)
    (case a12 => k_is)
    (case l12 => k_is)
    (case c12 => k_is)
    (case k12 => k_is)
    (case a13 => k_is)
    (case l13 => k_is)
    (case c13 => k_is)
    (case k13 => k_is)
    (case a14 => k_is)
    (case l14 => k_is)
    (case c14 => k_is)
    (case k14 => k_is)
    (case a15 => k_is)
    (case l15 => k_is)
    (case c15 => k_is)
    (case k15 => k_is)
    (case a16 => k_is)
    (case l16 => k_is)
    (case c16 => k_is)
    (case k16 => k_is)
    (case a17 => k_is)
    (case l17 => k_is)
    (case c17 => k_is)
    (case k17 => k_is)
    (case a18 => k_is)
    (case l18 => k_is)
    (case c18 => k_is)
    (case k18 => k_is)
    (case a19 => k_is)
    (case l19 => k_is)
    (case c19 => k_is)
    (case k19 => k_is)
    (case a20 => k_is)
    (case l20 => k_is)
    (case c20 => k_is)
    (case k20 => k_is)
    (case a21 => k_is)
    (case l21 => k_is)
    (case c21 => k_is)
    (case k21 => k_is)
    (case a22 => k_is)
    (case l22 => k_is)
    (case c22 => k_is)
    (case k22 => k_is)
    (case a23 => k_is)
    (case l23 => k_is)
    (case c23 => k_is)
    (case k23 => k_is)
    (case a24 => k_is)
    (case i24 => k_is)
    (case l24 => k_is)
    (case c24 => k_is)
    (case k24 => k_is)
    (case a25 => k_is)
    (case i25 => k_is)
    (case l25 => k_is)
    (case c25 => k_is)
    (case k25 => k_is)
    (case a26 => k_is)
    (case l26 => k_is)
    (case c26 => k_is)
    (case k26 => k_is)
    (case a27 => k_is)
    (case l27 => k_is)
    (case c27 => k_is)
    (case k27 => k_is)
    (case a28 => k_is)
    (case l28 => k_is)
    (case c28 => k_is)
    (case k28 => k_is)
    (case a29 => k_is)
    (case l29 => k_is)
    (case c29 => k_is)
    (case k29 => k_is)
    (case a30 => k_is)
    (case l30 => k_is)
    (case c30 => k_is)
    (case k30 => k_is)
    (case a31 => k_is)
    (case i31 => k_is)
    (case l31 => k_is)
    (case c31 => k_is)
    (case k31 => k_is)
    (case a32 => k_is)
    (case l32 => k_is)
    (case c32 => k_is)
    (case k32 => k_is)
    (case a33 => k_is)
    (case l33 => k_is)
    (case c33 => k_is)
    (case k33 => k_is)
    (case a34 => k_is)
    (case i34 => k_is)
    (case l34 => k_is)
    (case c34 => k_is)
    (case k34 => k_is)
    (case z_len => k_is)
    (case z_list => k_is)
    (case z_sorted => k_is)
    (case z_range => k_is)
    (case z_min => k_is)
    (case z_max => k_is)
    (case z_int => k_is)
    (case z_bool => k_is)
    (case z_str => k_is)
    (case z_tuple => k_is)
    (case z_isinstance => k_is)
    (case z_enumerate => k_is)
    (case z_reversed => k_is)
    (case z_set => k_is)
    (case c_FIGURES => k_is)
    (case c_MOST => k_is)

