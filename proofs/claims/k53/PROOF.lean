import PyProof.Rows.All
import Wide.All
import OpenK.AllK
import Wide.FinOn
import HandS.ForMost
import HandS.Wide
import HandS.Style
import HandS.TupAny
import HandS.IsInst
import HandS.Defaults
import HandS.MakeKwOnly
import KE.LtSeq
import HandS.Codes
import PySem.Challenge.RW_parsetwins_k53_strings_by_number
set_option Elab.async false
set_option linter.all false
set_option maxRecDepth 100000
/-! The data layer: values as data (no heap), mutable objects in a store, readings over both. -/
namespace DL
open PySem PySem.Spec PyProof.Rows L2

inductive Dat where
  | non | bl (b : Bool) | int (i : Int) | str (x : Str) | lst (ds : List Dat) | tup (ds : List Dat) | rol (ds : List Dat) | adr (a : Addr) | ty (n : String)

mutual
/-- the value v stands for the datum d, by what is frozen in F -/
inductive Rp (K : PySem.W.Frag) (F : Hp) : V → Dat → Prop
  | non : Rp K F .non .non
  | bl (b : Bool) : Rp K F (.bl b) (.bl b)
  | int (i : Int) : Rp K F (.int i) (.int i)
  | str (x : Str) : Rp K F (.str x) (.str x)
  | lst {a : Addr} {xs : List V} {ds : List Dat} : F a = some (.lst xs) → RpA K F xs ds → Rp K F (.ref a) (.lst ds)
  | tup {a : Addr} {xs : List V} {ds : List Dat} : F a = some (.tup xs) → RpA K F xs ds → Rp K F (.ref a) (.tup ds)
  | rol {a : Addr} {xs : List V} {ds : List Dat} : SqL K F a xs → RpA K F xs ds → Rp K F (.ref a) (.rol ds)
  | adr (a : Addr) : Rp K F (.ref a) (.adr a)
  | ty (n : String) : Rp K F (.ty n) (.ty n)
inductive RpA (K : PySem.W.Frag) (F : Hp) : List V → List Dat → Prop
  | nil : RpA K F [] []
  | cons {v : V} {vs : List V} {d : Dat} {ds : List Dat} : Rp K F v d → RpA K F vs ds → RpA K F (v :: vs) (d :: ds)
end

theorem seqT_same {K : PySem.W.Frag} {H H' : Hp} {a : Addr} {xs : List V} (e : Same H H') (h : SqT K H a xs) : SqT K H' a xs := by
  rcases h with (h | ⟨o, h⟩) | h
  · exact .inl (.inl (e _ _ h))
  · exact .inl (.inr ⟨o, e _ _ h⟩)
  · exact .inr h

section
variable {K : PySem.W.Frag} {F F' : Hp}
mutual
theorem Rp.mono (e : Same F F') : ∀ {d : Dat} {v : V}, Rp K F v d → Rp K F' v d
  | .non, _, h => by cases h; exact .non
  | .bl _, _, h => by cases h; exact .bl _
  | .int _, _, h => by cases h; exact .int _
  | .str _, _, h => by cases h; exact .str _
  | .lst ds, _, h => by
    cases h with
    | lst h1 h2 => exact .lst (e _ _ h1) (RpA.mono e h2)
  | .tup ds, _, h => by
    cases h with
    | tup h1 h2 => exact .tup (e _ _ h1) (RpA.mono e h2)
  | .rol ds, _, h => by
    cases h with
    | rol h1 h2 => exact .rol (Same.seq e h1) (RpA.mono e h2)
  | .adr _, _, h => by cases h; exact .adr _
  | .ty _, _, h => by cases h; exact .ty _
theorem RpA.mono (e : Same F F') : ∀ {ds : List Dat} {vs : List V}, RpA K F vs ds → RpA K F' vs ds
  | [], _, h => by cases h; exact .nil
  | d :: ds, _, h => by
    cases h with
    | cons h1 h2 => exact .cons (Rp.mono e h1) (RpA.mono e h2)
end
theorem RpA.length : ∀ {vs : List V} {ds : List Dat}, RpA K F vs ds → vs.length = ds.length
  | [], ds, h => by cases h; rfl
  | v :: vs, ds, h => by
    cases h with
    | cons h1 h2 => simp [RpA.length h2]
theorem RpA.get : ∀ {vs : List V} {ds : List Dat} {i : Nat} {d : Dat}, RpA K F vs ds → ds[i]? = some d → ∃ v, vs[i]? = some v ∧ Rp K F v d
  | [], ds, i, d, h, e => by cases h; simp at e
  | v :: vs, ds, i, d, h, e => by
    cases h with
    | cons h1 h2 =>
      cases i with
      | zero => simp at e; subst e; exact ⟨v, rfl, h1⟩
      | succ i => exact RpA.get (i := i) h2 (by simpa using e)
theorem RpA.getV : ∀ {vs : List V} {ds : List Dat} {i : Nat} {v : V}, RpA K F vs ds → vs[i]? = some v → ∃ d, ds[i]? = some d ∧ Rp K F v d
  | [], ds, i, d, h, e => by simp at e
  | v :: vs, ds, i, d, h, e => by
    cases h with
    | cons h1 h2 =>
      cases i with
      | zero => simp at e; subst e; exact ⟨_, rfl, h1⟩
      | succ i => exact RpA.getV (i := i) h2 (by simpa using e)
theorem RpA.append : ∀ {vs us : List V} {ds es : List Dat}, RpA K F vs ds → RpA K F us es → RpA K F (vs ++ us) (ds ++ es)
  | [], us, ds, es, h, g => by cases h; exact g
  | v :: vs, us, ds, es, h, g => by
    cases h with
    | cons h1 h2 => exact .cons h1 (RpA.append h2 g)
theorem RpA.one {v : V} {d : Dat} (h : Rp K F v d) : RpA K F [v] [d] := .cons h .nil
theorem RpA.take : ∀ {vs : List V} {ds : List Dat} (n : Nat), RpA K F vs ds → RpA K F (vs.take n) (ds.take n)
  | _, _, 0, _ => .nil
  | [], ds, n + 1, h => by cases h; exact .nil
  | v :: vs, ds, n + 1, h => by
    cases h with
    | cons h1 h2 => exact .cons h1 (RpA.take n h2)
theorem RpA.drop : ∀ {vs : List V} {ds : List Dat} (n : Nat), RpA K F vs ds → RpA K F (vs.drop n) (ds.drop n)
  | _, _, 0, h => h
  | [], ds, n + 1, h => by cases h; exact .nil
  | v :: vs, ds, n + 1, h => by
    cases h with
    | cons h1 h2 => exact RpA.drop n h2
theorem RpA.set {v : V} {d : Dat} (hv : Rp K F v d) : ∀ {vs : List V} {ds : List Dat} (n : Nat), RpA K F vs ds → RpA K F (vs.set n v) (ds.set n d)
  | [], ds, n, h => by cases h; exact .nil
  | v :: vs, ds, 0, h => by
    cases h with
    | cons h1 h2 => exact .cons hv h2
  | v :: vs, ds, n + 1, h => by
    cases h with
    | cons h1 h2 => exact .cons h1 (RpA.set hv n h2)
theorem RpA.rev {vs : List V} {ds : List Dat} (h : RpA K F vs ds) : RpA K F vs.reverse ds.reverse := by
  induction vs generalizing ds with
  | nil => cases h; exact .nil
  | cons v vs ih =>
    cases h with
    | cons h1 h2 => rw [List.reverse_cons, List.reverse_cons]; exact (ih h2).append (.one h1)
theorem RpA.rep {v : V} {d : Dat} (h : Rp K F v d) : ∀ n, RpA K F (List.replicate n v) (List.replicate n d)
  | 0 => .nil
  | n + 1 => .cons h (RpA.rep h n)
theorem RpA.flatten_rep {vs : List V} {ds : List Dat} (h : RpA K F vs ds) : ∀ n, RpA K F (List.replicate n vs).flatten (List.replicate n ds).flatten
  | 0 => .nil
  | n + 1 => by
    rw [List.replicate_succ, List.flatten_cons, List.replicate_succ, List.flatten_cons]
    exact h.append (RpA.flatten_rep h n)
theorem RpA.ints : ∀ {vs : List V} {ns : List Int}, RpA K F vs (ns.map Dat.int) → vs = ns.map V.int
  | [], [], _ => rfl
  | [], _ :: _, h => by cases h
  | _ :: _, [], h => by cases h
  | v :: vs, n :: ns, h => by
    cases h with
    | cons h1 h2 =>
      cases h1
      rw [RpA.ints h2]; rfl
theorem RpA.strs : ∀ {vs : List V} {ns : List Str}, RpA K F vs (ns.map Dat.str) → vs = ns.map V.str
  | [], [], _ => rfl
  | [], _ :: _, h => by cases h
  | _ :: _, [], h => by cases h
  | v :: vs, n :: ns, h => by
    cases h with
    | cons h1 h2 =>
      cases h1
      rw [RpA.strs h2]; rfl
theorem RpA.bools : ∀ {vs : List V} {ns : List Bool}, RpA K F vs (ns.map Dat.bl) → vs = ns.map V.bl
  | [], [], _ => rfl
  | [], _ :: _, h => by cases h
  | _ :: _, [], h => by cases h
  | v :: vs, n :: ns, h => by
    cases h with
    | cons h1 h2 =>
      cases h1
      rw [RpA.bools h2]; rfl
theorem RpA.ofInts : ∀ (ns : List Int), RpA K F (ns.map V.int) (ns.map Dat.int)
  | [] => .nil
  | n :: ns => .cons (.int n) (RpA.ofInts ns)
theorem RpA.ofStrs : ∀ (ns : List Str), RpA K F (ns.map V.str) (ns.map Dat.str)
  | [] => .nil
  | n :: ns => .cons (.str n) (RpA.ofStrs ns)
end

/-! ### the store -/
inductive Ob where
  /-- a list that may be changed -/
  | lst (ds : List Dat)
  /-- a dict with int and text keys -/
  | dct (kvs : List (Key × Dat))
  /-- an instance -/
  | ins (C : Addr) (fs : List (Str × Dat))

abbrev Sto := Addr → Option Ob
def ups (s : Sto) (a : Addr) (o : Ob) : Sto := fun b => if b = a then some o else s b
def del (s : Sto) (a : Addr) : Sto := fun b => if b = a then none else s b
theorem ups_same {s : Sto} {a : Addr} {o : Ob} : ups s a o a = some o := by unfold ups; rw [if_pos rfl]
theorem ups_ne {s : Sto} {a b : Addr} {o : Ob} (h : b ≠ a) : ups s a o b = s b := by unfold ups; rw [if_neg h]
theorem del_same {s : Sto} {a : Addr} : del s a a = none := by unfold del; rw [if_pos rfl]
theorem del_ne {s : Sto} {a b : Addr} (h : b ≠ a) : del s a b = s b := by unfold del; rw [if_neg h]
theorem ups_ups {s : Sto} {a : Addr} {o u : Ob} : ups (ups s a o) a u = ups s a u := by
  funext b; unfold ups; split <;> rfl
theorem sne {s : Sto} {a b : Addr} {o : Ob} (h : s a = some o) (h' : s b = none) : a ≠ b := by
  intro e; subst e; rw [h] at h'; cases h'
theorem del_ups {s : Sto} {a : Addr} {o : Ob} (h : s a = none) : del (ups s a o) a = s := by
  funext b; unfold del ups
  by_cases e : b = a
  · subst e; rw [if_pos rfl, h]
  · rw [if_neg e, if_neg e]

def KRp (K : PySem.W.Frag) (F : Hp) : List (Key × V) → List (Key × Dat) → Prop := Paired fun (p : Key × V) (q : Key × Dat) => p.1 = q.1 ∧ Rp K F p.2 q.2
def FRp (K : PySem.W.Frag) (F : Hp) : List (Str × V) → List (Str × Dat) → Prop := Paired fun (p : Str × V) (q : Str × Dat) => p.1 = q.1 ∧ Rp K F p.2 q.2
theorem Paired.mapD {α β : Type} {R G : α → β → Prop} : ∀ {l₁ : List α} {l₂ : List β}, Paired R l₁ l₂ → (∀ a b, R a b → G a b) → Paired G l₁ l₂
  | _, _, .nil, _ => .nil
  | _, _, .cons r t, f => .cons (f _ _ r) (Paired.mapD t f)

def ObRp (K : PySem.W.Frag) (F H : Hp) (a : Addr) : Ob → Prop
  | .lst ds => ∃ xs, H a = some (.lst xs) ∧ RpA K F xs ds
  | .dct kvs => ∃ ks, H a = some (.dK ks) ∧ KRp K F ks kvs
  | .ins C fs => ∃ dx gs, H a = some (.ins C dx gs) ∧ FRp K F gs fs

theorem ObRp.mono {K : PySem.W.Frag} {F F' H H' : Hp} {a : Addr} {o : Ob} (e : Same F F') (k : ∀ u, H a = some u → H' a = some u) (h : ObRp K F H a o) : ObRp K F' H' a o := by
  cases o with
  | lst ds => obtain ⟨xs, h1, h2⟩ := h; exact ⟨xs, k _ h1, h2.mono e⟩
  | dct kvs => obtain ⟨ks, h1, h2⟩ := h; exact ⟨ks, k _ h1, Paired.mapD h2 fun _ _ q => ⟨q.1, q.2.mono e⟩⟩
  | ins C fs => obtain ⟨dx, gs, h1, h2⟩ := h; exact ⟨dx, gs, k _ h1, Paired.mapD h2 fun _ _ q => ⟨q.1, q.2.mono e⟩⟩
theorem ObRp.some {K : PySem.W.Frag} {F H : Hp} {a : Addr} {o : Ob} (h : ObRp K F H a o) : H a ≠ none := by
  cases o with
  | lst ds => obtain ⟨xs, h1, h2⟩ := h; rw [h1]; exact Option.some_ne_none _
  | dct kvs => obtain ⟨ks, h1, h2⟩ := h; rw [h1]; exact Option.some_ne_none _
  | ins C fs => obtain ⟨dx, gs, h1, h2⟩ := h; rw [h1]; exact Option.some_ne_none _

structure Good (K : PySem.W.Frag) (F H : Hp) (s : Sto) : Prop where
  fz : Same F H
  st : ∀ a o, s a = some o → F a = none ∧ ObRp K F H a o
structure Stp (F H : Hp) (s : Sto) (F' H' : Hp) (s' : Sto) : Prop where
  fz : Same F F'
  nf : ∀ a, H a ≠ none → F a = none → s a = none → F' a = none
  kp : ∀ a o, H a = some o → s a = none → H' a = some o
  dm : ∀ a, H a ≠ none → H' a ≠ none
  nw : ∀ a, s' a ≠ none → s a ≠ none ∨ H a = none

theorem Stp.refl (F H : Hp) (s : Sto) : Stp F H s F H s := ⟨Same.refl F, fun _ _ h _ => h, fun _ _ h _ => h, fun _ h => h, fun _ h => .inl h⟩
theorem Stp.trans {F H F1 H1 F2 H2 : Hp} {s s1 s2 : Sto} (a : Stp F H s F1 H1 s1) (b : Stp F1 H1 s1 F2 H2 s2) : Stp F H s F2 H2 s2 where
  fz := a.fz.trans b.fz
  nf := fun c h f q => b.nf c (a.dm c h) (a.nf c h f q) (by
    cases e : s1 c with
    | none => rfl
    | some o => rcases a.nw c (by rw [e]; exact Option.some_ne_none _) with z | z
                · exact absurd q z
                · exact absurd z h)
  kp := fun c o h q => b.kp c o (a.kp c o h q) (by
    cases e : s1 c with
    | none => rfl
    | some u => rcases a.nw c (by rw [e]; exact Option.some_ne_none _) with z | z
                · exact absurd q z
                · rw [h] at z; cases z)
  dm := fun c h => b.dm c (a.dm c h)
  nw := fun c h => by
    rcases b.nw c h with z | z
    · exact a.nw c z
    · refine .inr ?_
      cases e : H c with
      | none => rfl
      | some o => exact absurd z (a.dm c (by rw [e]; exact Option.some_ne_none _))

/-! fresh addresses -/
section
variable {K : PySem.W.Frag} {F H : Hp} {s : Sto} {p : Addr} {o : HO}
theorem Good.freeF (g : Good K F H s) (h : H p = none) : F p = none := g.fz.free h
theorem Good.freeS (g : Good K F H s) (h : H p = none) : s p = none := by
  cases e : s p with
  | none => rfl
  | some o => exact absurd h (g.st p o e).2.some
theorem same_upd {H : Hp} {p : Addr} {o : HO} (h : H p = none) : Same H (upd H p o) := fun b x e => by
  rw [upd_ne (ne_of_none e h)]
  exact e
/-- a new object that nobody tells of yet -/
theorem stp_raw (g : Good K F H s) (h : H p = none) : Stp F H s F (upd H p o) s ∧ Good K F (upd H p o) s := by
  have sm : Same H (upd H p o) := same_upd h
  refine ⟨⟨Same.refl F, fun _ _ q _ => q, fun a u q _ => sm a u q, fun a q => ?_, fun a q => .inl q⟩, ⟨g.fz.trans sm, fun a u q => ⟨(g.st a u q).1, (g.st a u q).2.mono (Same.refl F) fun v z => sm a v z⟩⟩⟩
  cases e : H a with
  | none => exact absurd e q
  | some u => rw [sm a u e]; exact Option.some_ne_none _
/-- what stands at p, of which nobody tells, is frozen -/
theorem stp_frz (g : Good K F H s) (hF : F p = none) (hs : s p = none) (h : H p = some o) {F0 H0 : Hp} {s0 : Sto} (h0 : H0 p = none) (st : Stp F0 H0 s0 F H s) : Stp F0 H0 s0 (upd F p o) H s ∧ Good K (upd F p o) H s := by
  have sm : Same F (upd F p o) := same_upd hF
  refine ⟨⟨st.fz.trans sm, fun a q1 q2 q3 => ?_, st.kp, st.dm, st.nw⟩, ⟨fun b u e => ?_, fun a u q => ?_⟩⟩
  · have ne : a ≠ p := fun z => q1 (by rw [z]; exact h0)
    rw [upd_ne ne]; exact st.nf a q1 q2 q3
  · by_cases hb : b = p
    · subst hb; rw [upd_same] at e; rw [← e]; exact h
    · rw [upd_ne hb] at e; exact g.fz b u e
  · have ne : a ≠ p := fun z => by rw [z, hs] at q; cases q
    exact ⟨by rw [upd_ne ne]; exact (g.st a u q).1, (g.st a u q).2.mono sm fun _ z => z⟩
theorem stp_new (g : Good K F H s) (h : H p = none) : Stp F H s (upd F p o) (upd H p o) s ∧ Good K (upd F p o) (upd H p o) s := by
  obtain ⟨a, b⟩ := stp_raw (o := o) g h
  exact stp_frz b (g.freeF h) (g.freeS h) upd_same h a
/-- what stands at p, of which nobody tells, comes into the store -/
theorem stp_own (g : Good K F H s) (hF : F p = none) {F0 H0 : Hp} {s0 : Sto} (h0 : H0 p = none) (st : Stp F0 H0 s0 F H s) {u : Ob} (hu : ObRp K F H p u) : Stp F0 H0 s0 F H (ups s p u) ∧ Good K F H (ups s p u) := by
  refine ⟨⟨st.fz, st.nf, st.kp, st.dm, fun a q => ?_⟩, ⟨g.fz, fun a v q => ?_⟩⟩
  · by_cases e : a = p
    · subst e; exact .inr h0
    · rw [ups_ne e] at q; exact st.nw a q
  · by_cases e : a = p
    · subst e; rw [ups_same] at q; cases q; exact ⟨hF, hu⟩
    · rw [ups_ne e] at q; exact g.st a v q
/-- a store object is written -/
theorem stp_wr (g : Good K F H s) {u w : Ob} (hs : s p = some u) (hw : ObRp K F (upd H p o) p w) : Stp F H s F (upd H p o) (ups s p w) ∧ Good K F (upd H p o) (ups s p w) := by
  have hH : H p ≠ none := (g.st p u hs).2.some
  refine ⟨⟨Same.refl F, fun _ _ q _ => q, fun a x q z => ?_, fun a q => ?_, fun a q => ?_⟩, ⟨fun b x e => ?_, fun a v q => ?_⟩⟩
  · have ne : a ≠ p := fun e => by rw [e, hs] at z; cases z
    rw [upd_ne ne]; exact q
  · by_cases e : a = p
    · subst e; rw [upd_same]; exact Option.some_ne_none _
    · rw [upd_ne e]; exact q
  · by_cases e : a = p
    · subst e; exact .inl (by rw [hs]; exact Option.some_ne_none _)
    · rw [ups_ne e] at q; exact .inl q
  · have ne : b ≠ p := fun z => by rw [z, (g.st p u hs).1] at e; cases e
    rw [upd_ne ne]; exact g.fz b x e
  · by_cases e : a = p
    · subst e; rw [ups_same] at q; cases q; exact ⟨(g.st a u hs).1, hw⟩
    · rw [ups_ne e] at q
      exact ⟨(g.st a v q).1, (g.st a v q).2.mono (Same.refl F) fun x z => by rw [upd_ne e]; exact z⟩
/-- forgetting -/
theorem stp_less (g : Good K F H s) {s' : Sto} (h : ∀ a o, s' a = some o → s a = some o) {F0 H0 : Hp} {s0 : Sto} (st : Stp F0 H0 s0 F H s) : Stp F0 H0 s0 F H s' ∧ Good K F H s' := by
  refine ⟨⟨st.fz, st.nf, st.kp, st.dm, fun a q => st.nw a ?_⟩, ⟨g.fz, fun a o q => g.st a o (h a o q)⟩⟩
  cases e : s' a with
  | none => exact absurd e q
  | some o => rw [h a o e]; exact Option.some_ne_none _
theorem Stp.fresh {F H F' H' : Hp} {s s' : Sto} {p : Addr} (st : Stp F H s F' H' s') (h : H' p = none) : H p = none := by
  cases z : H p with
  | none => rfl
  | some o => exact absurd h (st.dm p (by rw [z]; exact Option.some_ne_none _))
end
end DL

/-! The data layer, 2: readings over data; expressions, arguments, tests, statements, loops, comprehensions, calls. -/
namespace DL
open PySem PySem.Spec PyProof.Rows L2

/-! ### slots -/
abbrev En := List (Option Dat)
def gt : En → Nat → Option Dat
  | [], _ => none
  | x :: _, 0 => x
  | _ :: r, n + 1 => gt r n
def sT : En → Nat → Dat → En
  | [], _, _ => []
  | _ :: r, 0, d => some d :: r
  | x :: r, n + 1, d => x :: sT r n d
def w1 : En → Nat → En
  | [], _ => []
  | _ :: r, 0 => none :: r
  | x :: r, n + 1 => x :: w1 r n
def wp (ρ : En) : List Nat → En
  | [] => ρ
  | v :: vs => w1 (wp ρ vs) v
theorem sT_length : ∀ (ρ : En) (i : Nat) (d : Dat), (sT ρ i d).length = ρ.length
  | [], _, _ => rfl
  | _ :: r, 0, _ => rfl
  | _ :: r, n + 1, d => by show (sT r n d).length + 1 = r.length + 1; rw [sT_length r n d]
theorem w1_length : ∀ (ρ : En) (i : Nat), (w1 ρ i).length = ρ.length
  | [], _ => rfl
  | _ :: r, 0 => rfl
  | _ :: r, n + 1 => by show (w1 r n).length + 1 = r.length + 1; rw [w1_length r n]
theorem gt_sT : ∀ {ρ : En} {i j : Nat} {d e : Dat}, gt (sT ρ i d) j = some e → (j = i ∧ e = d ∧ i < ρ.length) ∨ (j ≠ i ∧ gt ρ j = some e)
  | [], _, _, _, _, h => by cases h
  | x :: r, 0, 0, d, e, h => .inl ⟨rfl, (Option.some.inj h).symm, Nat.succ_pos _⟩
  | x :: r, 0, j + 1, d, e, h => .inr ⟨by omega, h⟩
  | x :: r, i + 1, 0, d, e, h => .inr ⟨by omega, h⟩
  | x :: r, i + 1, j + 1, d, e, h => by
    rcases gt_sT (ρ := r) (i := i) (j := j) h with ⟨a, b, c⟩ | ⟨a, b⟩
    · exact .inl ⟨by omega, b, Nat.succ_lt_succ c⟩
    · exact .inr ⟨by omega, b⟩
theorem gt_w1 : ∀ {ρ : En} {i j : Nat} {e : Dat}, gt (w1 ρ i) j = some e → j ≠ i ∧ gt ρ j = some e
  | [], _, _, _, h => by cases h
  | x :: r, 0, 0, e, h => by cases h
  | x :: r, 0, j + 1, e, h => ⟨by omega, h⟩
  | x :: r, i + 1, 0, e, h => ⟨by omega, h⟩
  | x :: r, i + 1, j + 1, e, h => by
    obtain ⟨a, b⟩ := gt_w1 (ρ := r) (i := i) (j := j) h
    exact ⟨by omega, b⟩

structure EnvOk (K : PySem.W.Frag) (F : Hp) (σ : L2.St) (ρ : En) : Prop where
  len : σ.length = ρ.length
  at_ : ∀ i d, gt ρ i = some d → ∃ v, σ[i]? = some (some v) ∧ Rp K F v d
section
variable {K : PySem.W.Frag} {F F' : Hp} {σ : L2.St} {ρ : En}
theorem EnvOk.mono (e : Same F F') (h : EnvOk K F σ ρ) : EnvOk K F' σ ρ := ⟨h.len, fun i d q => let ⟨v, a, b⟩ := h.at_ i d q; ⟨v, a, b.mono e⟩⟩
theorem EnvOk.set {i : Nat} {v : V} {d : Dat} (h : EnvOk K F σ ρ) (r : Rp K F v d) : EnvOk K F (σ.set i (some v)) (sT ρ i d) := by
  refine ⟨by rw [List.length_set, sT_length, h.len], fun j e q => ?_⟩
  rcases gt_sT q with ⟨rfl, rfl, hl⟩ | ⟨ne, q⟩
  · exact ⟨v, by rw [List.getElem?_set_self (by rw [h.len]; exact hl)], r⟩
  · obtain ⟨u, a, b⟩ := h.at_ j e q
    exact ⟨u, (List.getElem?_set_ne (Ne.symm ne)).trans a, b⟩
theorem EnvOk.wipe1 {i : Nat} (h : EnvOk K F σ ρ) : EnvOk K F (σ.set i none) (w1 ρ i) := by
  refine ⟨by rw [List.length_set, w1_length, h.len], fun j e q => ?_⟩
  obtain ⟨ne, q⟩ := gt_w1 q
  obtain ⟨u, a, b⟩ := h.at_ j e q
  exact ⟨u, by rw [List.getElem?_set_ne (Ne.symm ne)]; exact a, b⟩
theorem EnvOk.wipes (h : EnvOk K F σ ρ) : ∀ vs : List Nat, EnvOk K F (wipe σ vs) (wp ρ vs)
  | [] => h
  | v :: vs => (EnvOk.wipes h vs).wipe1
end

theorem wipe_same_of {σ σ' : L2.St} {vs : List Nat} (hl : σ'.length = σ.length) (h : ∀ i, i ∉ vs → σ'[i]? = σ[i]?) : wipe σ' vs = wipe σ vs := by
  refine List.ext_getElem? fun i => ?_
  by_cases hi : i ∈ vs
  · have key : ∀ (τ : L2.St) (ws : List Nat), i ∈ ws → i < τ.length → (wipe τ ws)[i]? = some none := fun τ ws hm hlt => by
      cases e : (wipe τ ws)[i]? with
      | none => rw [List.getElem?_eq_none_iff, wipe_length] at e; omega
      | some o =>
        cases o with
        | none => rfl
        | some x => exact absurd hm (wipe_some e).2
    by_cases hlt : i < σ.length
    · rw [key σ' vs hi (by omega), key σ vs hi hlt]
    · rw [List.getElem?_eq_none_iff.mpr (by rw [wipe_length]; omega), List.getElem?_eq_none_iff.mpr (by rw [wipe_length]; omega)]
  · rw [wipe_out hi, wipe_out hi]; exact h i hi

/-! ### what readings are refined by -/
abbrev DE := En → Sto → (Dat → Sto → Prop) → Prop
abbrev DA := En → Sto → (List Dat → Sto → Prop) → Prop
abbrev DT := En → Sto → (Bool → Sto → Prop) → Prop
structure DEnds where
  nx : En → Sto → Prop
  rt : Dat → Sto → Prop
  bk : En → Sto → Prop := fun _ _ => False
  ct : En → Sto → Prop := fun _ _ => False
abbrev DS := DEnds → En → Sto → Prop
abbrev DG := Dat → En → (En → Prop) → Prop
abbrev DGs := List Dat → En → (En → Prop) → Prop

section
variable (K : PySem.W.Frag)
def RdE (t : TE) (T : DE) : Prop := ∀ (F H : Hp) (σ : L2.St) (ρ : En) (s : Sto) (Q : Dat → Sto → Prop) (R : VK), Good K F H s → EnvOk K F σ ρ → T ρ s Q →
  (∀ F' H' s' v d, Stp F H s F' H' s' → Good K F' H' s' → Rp K F' v d → Q d s' → R v H') → t σ H R
/-- a new list that nobody tells of yet -/
def RdN (t : TE) (T : DA) : Prop := ∀ (F H : Hp) (σ : L2.St) (ρ : En) (s : Sto) (Q : List Dat → Sto → Prop) (R : VK), Good K F H s → EnvOk K F σ ρ → T ρ s Q →
  (∀ F' H' s' p xs ds, Stp F H s F' H' s' → Good K F' H' s' → H p = none → F' p = none → s' p = none → H' p = some (.lst xs) → RpA K F' xs ds → Q ds s' → R (.ref p) H') → t σ H R
def RdA (t : TA) (T : DA) : Prop := ∀ (F H : Hp) (σ : L2.St) (ρ : En) (s : Sto) (Q : List Dat → Sto → Prop) (R : List V → Hp → Prop), Good K F H s → EnvOk K F σ ρ → T ρ s Q →
  (∀ F' H' s' vs ds, Stp F H s F' H' s' → Good K F' H' s' → RpA K F' vs ds → Q ds s' → R vs H') → t σ H R
def RdT (t : TT) (T : DT) : Prop := ∀ (F H : Hp) (σ : L2.St) (ρ : En) (s : Sto) (Q : Bool → Sto → Prop) (R : Bool → Hp → Prop), Good K F H s → EnvOk K F σ ρ → T ρ s Q →
  (∀ F' H' s' b, Stp F H s F' H' s' → Good K F' H' s' → Q b s' → R b H') → t σ H R
structure EndsOk (F H : Hp) (s : Sto) (D : DEnds) (E : Ends) : Prop where
  nx : ∀ F' H' s' σ' ρ', Stp F H s F' H' s' → Good K F' H' s' → EnvOk K F' σ' ρ' → D.nx ρ' s' → E.nx σ' H'
  rt : ∀ F' H' s' v d, Stp F H s F' H' s' → Good K F' H' s' → Rp K F' v d → D.rt d s' → E.rt v H'
  bk : ∀ F' H' s' σ' ρ', Stp F H s F' H' s' → Good K F' H' s' → EnvOk K F' σ' ρ' → D.bk ρ' s' → E.bk σ' H'
  ct : ∀ F' H' s' σ' ρ', Stp F H s F' H' s' → Good K F' H' s' → EnvOk K F' σ' ρ' → D.ct ρ' s' → E.ct σ' H'
def RdS (t : TS) (T : DS) : Prop := ∀ (F H : Hp) (σ : L2.St) (ρ : En) (s : Sto) (D : DEnds) (E : Ends), Good K F H s → EnvOk K F σ ρ → T D ρ s → EndsOk K F H s D E → t E σ H
/-- a target: it stores at the slots vs alone -/
def RdG (t : TG) (T : DG) (vs : List Nat) : Prop := ∀ (F H : Hp) (σ : L2.St) (ρ : En) (s : Sto) (v : V) (d : Dat) (P : En → Prop) (R : L2.St → Hp → Prop), Good K F H s → EnvOk K F σ ρ → Rp K F v d → T d ρ P →
  (∀ σ' ρ', EnvOk K F σ' ρ' → (σ'.length = σ.length ∧ ∀ i, i ∉ vs → σ'[i]? = σ[i]?) → P ρ' → R σ' H) → t v σ H R
def RdGs (t : TGs) (T : DGs) (vs : List Nat) : Prop := ∀ (F H : Hp) (σ : L2.St) (ρ : En) (s : Sto) (xs : List V) (ds : List Dat) (P : En → Prop) (R : L2.St → Hp → Prop), Good K F H s → EnvOk K F σ ρ → RpA K F xs ds → T ds ρ P →
  (∀ σ' ρ', EnvOk K F σ' ρ' → (σ'.length = σ.length ∧ ∀ i, i ∉ vs → σ'[i]? = σ[i]?) → P ρ' → R σ' H) → t xs σ H R
/-- an iterator that gives these items, whatever comes between -/
def Jok (F : Hp) (J : It) (ds : List Dat) : Prop := ∀ (F1 H1 : Hp) (s1 : Sto), Same F F1 → Good K F1 H1 s1 → ∀ i : Nat,
  (∀ d, ds[i]? = some d → J.go i H1 ∧ ∀ x H2, J.yld i H1 x H2 → ∃ F2, Stp F1 H1 s1 F2 H2 s1 ∧ Good K F2 H2 s1 ∧ Rp K F2 x d) ∧ (i = ds.length → J.stop i H1)
def RdI (t : TI) (T : DA) : Prop := ∀ (F H : Hp) (σ : L2.St) (ρ : En) (s : Sto) (Q : List Dat → Sto → Prop) (R : It → Hp → Prop), Good K F H s → EnvOk K F σ ρ → T ρ s Q →
  (∀ F' H' s' J ds, Stp F H s F' H' s' → Good K F' H' s' → Jok K F' J ds → Q ds s' → R J H') → t σ H R
end

structure RE (X : Cx) (e : Expr) (t : TE) (T : DE) : Prop where
  pe : PE X e t
  rd : RdE X.K t T
structure RN (X : Cx) (e : Expr) (t : TE) (T : DA) : Prop where
  pe : PE X e t
  rd : RdN X.K t T
structure RA (X : Cx) (es : List Expr) (t : TA) (T : DA) : Prop where
  pa : PA X es t
  rd : RdA X.K t T
structure RT (X : Cx) (e : Expr) (t : TT) (T : DT) : Prop where
  pt : PT X e t
  rd : RdT X.K t T
structure RS (X : Cx) (st : Stmt) (t : TS) (T : DS) : Prop where
  ps : PS X st t
  rd : RdS X.K t T
structure RSs (X : Cx) (st : List Stmt) (t : TS) (T : DS) : Prop where
  ps : PSs X st t
  rd : RdS X.K t T
structure RG (X : Cx) (e : Expr) (t : TG) (T : DG) (vs : List Nat) : Prop where
  pg : PG X e t
  rd : RdG X.K t T vs
structure RGs (X : Cx) (es : List Expr) (t : TGs) (T : DGs) (vs : List Nat) : Prop where
  pg : PGs X es t
  rd : RdGs X.K t T vs
structure RI (X : Cx) (tg it : Expr) (t : TI) (T : DA) : Prop where
  pi : PI X tg it t
  rd : RdI X.K t T

theorem EndsOk.step {K : PySem.W.Frag} {F H F1 H1 : Hp} {s s1 : Sto} {D : DEnds} {E : Ends} (h : EndsOk K F H s D E) (a : Stp F H s F1 H1 s1) : EndsOk K F1 H1 s1 D E :=
  ⟨fun F' H' s' σ' ρ' st => h.nx F' H' s' σ' ρ' (a.trans st), fun F' H' s' v d st => h.rt F' H' s' v d (a.trans st), fun F' H' s' σ' ρ' st => h.bk F' H' s' σ' ρ' (a.trans st), fun F' H' s' σ' ρ' st => h.ct F' H' s' σ' ρ' (a.trans st)⟩

/-! ### expressions -/
section
variable {X : Cx} {e a b c : Expr} {es : List Expr} {t ta tb : TE} {T Ta Tb : DE} {pos : Pos}

def dC (d : Dat) : DE := fun _ s Q => Q d s
def dVar (i : Nat) : DE := fun ρ s Q => match gt ρ i with | some d => Q d s | none => False
/-- the list at a slot, which nobody changes any more -/
def dFrz (i : Nat) : DE := fun ρ s Q => match gt ρ i with | some (.adr p) => ∃ ds, s p = some (.lst ds) ∧ Q (.lst ds) (del s p) | _ => False

theorem re_c {v : V} {d : Dat} (h : PE X e (tC v)) (r : ∀ F, Rp X.K F v d) : RE X e (tC v) (dC d) :=
  ⟨h, fun F H σ ρ s Q R g _ q k => k F H s v d (Stp.refl _ _ _) g (r F) q⟩
theorem re_int {i : Int} {j : Nat} : RE X (.Constant (.int i) j pos) (tC (.int i)) (dC (.int i)) := re_c pe_int fun _ => .int i
theorem re_bl {i : Bool} {j : Nat} : RE X (.Constant (.bool i) j pos) (tC (.bl i)) (dC (.bl i)) := re_c pe_bl fun _ => .bl i
theorem re_non {j : Nat} : RE X (.Constant .none j pos) (tC .non) (dC .non) := re_c pe_non fun _ => .non
theorem re_str {x : Str} {j : Nat} : RE X (.Constant (.str x) j pos) (tC (.str x)) (dC (.str x)) := re_c pe_str fun _ => .str x
theorem re_v (i : Nat) {x : Str} (h : PE X (.Name x pos) (tVar i)) : RE X (.Name x pos) (tVar i) (dVar i) :=
  ⟨h, fun F H σ ρ s Q R g en q k => by
    have q : match gt ρ i with | some d => Q d s | none => False := q
    cases e1 : gt ρ i with
    | none => rw [e1] at q; exact q.elim
    | some d =>
      rw [e1] at q
      obtain ⟨v, e2, r⟩ := en.at_ i d e1
      exact ⟨v, e2, k F H s v d (Stp.refl _ _ _) g r q⟩⟩
theorem re_name (i : Nat) {x : Str} {pos : Pos} (hN : X.N[i]? = some x := by rfl) (hv : Vis X.env.scope x := by first | exact Or.inl rfl | exact Or.inr (Or.inl rfl) | exact Or.inr (Or.inr rfl)) (hd : (x == ("__debug__" : Str)) = false := by decide)
    (hcd : (x == ("__classdict__" : Str)) = false := by decide) : RE X (.Name x pos) (tVar i) (dVar i) := re_v i (pe_var hN hv hd hcd)
theorem re_fz {i : Nat} {x : Str} (h : RE X (.Name x pos) (tVar i) (dVar i)) : RE X (.Name x pos) (tVar i) (dFrz i) :=
  ⟨h.pe, fun F H σ ρ s Q R g en q k => by
    have q : match gt ρ i with | some (.adr p) => ∃ ds, s p = some (.lst ds) ∧ Q (.lst ds) (del s p) | _ => False := q
    obtain ⟨p, ds, e1, e2, q⟩ : ∃ p ds, gt ρ i = some (.adr p) ∧ s p = some (.lst ds) ∧ Q (.lst ds) (del s p) := by
      cases e1 : gt ρ i with
      | none => rw [e1] at q; exact q.elim
      | some d =>
        rw [e1] at q
        cases d <;> first | exact q.elim | skip
        obtain ⟨ds, a, b⟩ := q
        exact ⟨_, ds, rfl, a, b⟩
    obtain ⟨v, e3, r⟩ := en.at_ i _ e1
    cases r
    refine ⟨_, e3, ?_⟩
    obtain ⟨hF, xs, hH, ra⟩ := g.st p _ e2
    -- forget, then freeze
    have less : ∀ a o, del s p a = some o → s a = some o := fun a o z => by
      by_cases e : a = p
      · subst e; rw [del_same] at z; cases z
      · rw [del_ne e] at z; exact z
    obtain ⟨st1, g1⟩ := stp_less g less (Stp.refl F H s)
    have sm : Same F (upd F p (.lst xs)) := same_upd hF
    refine k (upd F p (.lst xs)) H (del s p) (.ref p) (.lst ds) ⟨sm, fun c h1 h2 h3 => ?_, st1.kp, st1.dm, st1.nw⟩ ⟨fun b u z => ?_, fun c u z => ?_⟩ (.lst upd_same (ra.mono sm)) q
    · have ne : c ≠ p := fun z => by rw [z, e2] at h3; cases h3
      rw [upd_ne ne]; exact h2
    · by_cases hb : b = p
      · subst hb; rw [upd_same] at z; rw [← z]; exact hH
      · rw [upd_ne hb] at z; exact g.fz b u z
    · have ne : c ≠ p := fun w => by rw [w, del_same] at z; cases z
      have := g1.st c u z
      exact ⟨by rw [upd_ne ne]; exact this.1, this.2.mono sm fun _ w => w⟩⟩

/-- a new list, frozen at once -/
def dFz (T : DA) : DE := fun ρ s Q => T ρ s fun ds s' => Q (.lst ds) s'
/-- a new list that will be changed -/
def dMk (T : DA) : DE := fun ρ s Q => T ρ s fun ds s' => ∀ p, s' p = none → Q (.adr p) (ups s' p (.lst ds))
theorem re_frz {T : DA} (h : RN X e t T) : RE X e t (dFz T) := ⟨h.pe, fun F H σ ρ s Q R g en q k => h.rd F H σ ρ s _ R g en q fun F' H' s' p xs ds st g' h0 hF hs hH ra q' => by
    have sm : Same F' (upd F' p (.lst xs)) := same_upd hF
    obtain ⟨st2, g2⟩ := stp_frz (o := .lst xs) g' hF hs hH h0 st
    exact k _ H' s' (.ref p) (.lst ds) st2 g2 (.lst upd_same (ra.mono sm)) q'⟩
theorem re_mk {T : DA} (h : RN X e t T) : RE X e t (dMk T) := ⟨h.pe, fun F H σ ρ s Q R g en q k => h.rd F H σ ρ s _ R g en q fun F' H' s' p xs ds st g' h0 hF hs hH ra q' => by
    obtain ⟨st2, g2⟩ := stp_own (u := .lst ds) g' hF h0 st ⟨xs, hH, ra⟩
    exact k F' H' (ups s' p (.lst ds)) (.ref p) (.adr p) st2 g2 (.adr p) (q' p hs)⟩

/-! arguments -/
def dNil : DA := fun _ s Q => Q [] s
def dCons (T : DE) (U : DA) : DA := fun ρ s Q => T ρ s fun d s1 => U ρ s1 fun ds s2 => Q (d :: ds) s2
theorem ra_nil : RA X [] tNil dNil := ⟨pa_nil, fun F H σ ρ s Q R g _ q k => k F H s [] [] (Stp.refl _ _ _) g .nil q⟩
theorem ra_cons {u : TA} {U : DA} (h : RE X e t T) (hr : RA X es u U) (hs : starEach (e :: es) X.env = (false, eval e X.env) :: starEach es X.env := by rfl) : RA X (e :: es) (tCons t u) (dCons T U) :=
  ⟨pa_cons h.pe hr.pa hs, fun F H σ ρ s Q R g en q k => h.rd F H σ ρ s _ _ g en q fun F1 H1 s1 v d st1 g1 r1 q1 =>
    hr.rd F1 H1 σ ρ s1 _ _ g1 (en.mono st1.fz) q1 fun F2 H2 s2 vs ds st2 g2 r2 q2 => k F2 H2 s2 (v :: vs) (d :: ds) (st1.trans st2) g2 (.cons (r1.mono st2.fz) r2) q2⟩

/-! displays -/
def dTup (T : DA) : DE := fun ρ s Q => T ρ s fun ds s' => ds.length ≤ sizeLine ∧ Q (.tup ds) s'
def dLst (T : DA) : DA := fun ρ s Q => T ρ s fun ds s' => ds.length ≤ sizeLine ∧ Q ds s'
theorem re_tup {u : TA} {U : DA} {x1 : Nat} (h : RA X es u U) : RE X (.Tuple es x1 pos) (tTup u) (dTup U) := ⟨pe_tup h.pa, fun F H σ ρ s Q R g en q k => h.rd F H σ ρ s _ _ g en q fun F1 H1 s1 vs ds st1 g1 r1 ⟨hl, q1⟩ => by
    refine ⟨by rw [r1.length]; exact hl, fun p hp => ?_⟩
    obtain ⟨st2, g2⟩ := stp_new (o := .tup vs) g1 hp
    exact k _ _ s1 (.ref p) (.tup ds) (st1.trans st2) g2 (.tup upd_same (r1.mono st2.fz)) q1⟩
theorem rn_lst {u : TA} {U : DA} (h : RA X es u U) : RN X (.List es pos) (tLst u) (dLst U) := ⟨pe_lst h.pa, fun F H σ ρ s Q R g en q k => h.rd F H σ ρ s _ _ g en q fun F1 H1 s1 vs ds st1 g1 r1 ⟨hl, q1⟩ => by
    refine ⟨by rw [r1.length]; exact hl, fun p hp => ?_⟩
    obtain ⟨st2, g2⟩ := stp_raw (o := .lst vs) g1 hp
    refine k _ _ s1 p vs ds (st1.trans st2) g2 ?_ (g1.freeF hp) (g1.freeS hp) upd_same r1 q1
    cases z : H p with
    | none => rfl
    | some o => exact absurd hp (st1.dm p (by rw [z]; exact Option.some_ne_none _))⟩

/-! operators on values -/
/-- a two-place operation by data -/
def OpD (K : PySem.W.Frag) (r : R2) (w : Sto → Dat → Dat → (Dat → Prop) → Prop) : Prop := ∀ (F H : Hp) (s : Sto) (x y : V) (d e : Dat) (Q : Dat → Prop) (R : VK), Good K F H s → Rp K F x d → Rp K F y e → w s d e Q →
  (∀ F' H' v z, Stp F H s F' H' s → Good K F' H' s → Rp K F' v z → Q z → R v H') → r x y H R
def OpN (K : PySem.W.Frag) (r : R2) (w : Sto → Dat → Dat → (List Dat → Prop) → Prop) : Prop := ∀ (F H : Hp) (s : Sto) (x y : V) (d e : Dat) (Q : List Dat → Prop) (R : VK), Good K F H s → Rp K F x d → Rp K F y e → w s d e Q →
  (∀ H' p xs ds, Stp F H s F H' s → Good K F H' s → H p = none → H' p = some (.lst xs) → RpA K F xs ds → Q ds → R (.ref p) H') → r x y H R
def dOp (w : Sto → Dat → Dat → (Dat → Prop) → Prop) (Ta Tb : DE) : DE := fun ρ s Q => Ta ρ s fun d s1 => Tb ρ s1 fun e s2 => w s2 d e fun z => Q z s2
def dOpN (w : Sto → Dat → Dat → (List Dat → Prop) → Prop) (Ta Tb : DE) : DA := fun ρ s Q => Ta ρ s fun d s1 => Tb ρ s1 fun e s2 => w s2 d e fun z => Q z s2
theorem rd_op {K : PySem.W.Frag} {r : R2} {w : Sto → Dat → Dat → (Dat → Prop) → Prop} (ho : OpD K r w) (ha : RdE K ta Ta) (hb : RdE K tb Tb) : RdE K (tOp r ta tb) (dOp w Ta Tb) := fun F H σ ρ s Q R g en q k =>
  ha F H σ ρ s _ _ g en q fun F1 H1 s1 x d st1 g1 r1 q1 => hb F1 H1 σ ρ s1 _ _ g1 (en.mono st1.fz) q1 fun F2 H2 s2 y e st2 g2 r2 q2 =>
    ho F2 H2 s2 x y d e _ _ g2 (r1.mono st2.fz) r2 q2 fun F3 H3 v z st3 g3 r3 q3 => k F3 H3 s2 v z ((st1.trans st2).trans st3) g3 r3 q3
theorem rd_opN {K : PySem.W.Frag} {r : R2} {w : Sto → Dat → Dat → (List Dat → Prop) → Prop} (ho : OpN K r w) (ha : RdE K ta Ta) (hb : RdE K tb Tb) : RdN K (tOp r ta tb) (dOpN w Ta Tb) := fun F H σ ρ s Q R g en q k =>
  ha F H σ ρ s _ _ g en q fun F1 H1 s1 x d st1 g1 r1 q1 => hb F1 H1 σ ρ s1 _ _ g1 (en.mono st1.fz) q1 fun F2 H2 s2 y e st2 g2 r2 q2 =>
    ho F2 H2 s2 x y d e _ _ g2 (r1.mono st2.fz) r2 q2 fun H3 p xs ds st3 g3 hp hH ra q3 => by
      have st := (st1.trans st2).trans st3
      refine k F2 H3 s2 p xs ds st g3 ?_ (g2.freeF hp) (g2.freeS hp) hH ra q3
      cases z : H p with
      | none => rfl
      | some o => exact absurd hp ((st1.trans st2).dm p (by rw [z]; exact Option.some_ne_none _))
theorem re_op {op : Operator} {r : R2} {w : Sto → Dat → Dat → (Dat → Prop) → Prop} (h : OpR X (binaryOp op) r) (ho : OpD X.K r w) (ha : RE X a ta Ta) (hb : RE X b tb Tb) : RE X (.BinOp a op b pos) (tOp r ta tb) (dOp w Ta Tb) := ⟨pe_op h ha.pe hb.pe, rd_op ho ha.rd hb.rd⟩
theorem rn_op {op : Operator} {r : R2} {w : Sto → Dat → Dat → (List Dat → Prop) → Prop} (h : OpR X (binaryOp op) r) (ho : OpN X.K r w) (ha : RE X a ta Ta) (hb : RE X b tb Tb) : RN X (.BinOp a op b pos) (tOp r ta tb) (dOpN w Ta Tb) := ⟨pe_op h ha.pe hb.pe, rd_opN ho ha.rd hb.rd⟩
theorem re_cmpU {op : CmpOp} {r : R2} {w : Sto → Dat → Dat → (Dat → Prop) → Prop} (h : OpR X (compareOp op) r) (ho : OpD X.K r w) (ha : RE X a ta Ta) (hb : RE X b tb Tb) (hm : behindInMarks op b = false := by rfl) : RE X (.Compare a [op] [b] pos) (tOp r ta tb) (dOp w Ta Tb) :=
  ⟨pe_cmpR h ha.pe hb.pe hm, rd_op ho ha.rd hb.rd⟩
theorem re_cmp {op : CmpOp} {r : R2} {w : Sto → Dat → Dat → (Dat → Prop) → Prop} (h : OpR X (compareOp op) r) (ho : OpD X.K r w) (hm : behindInMarks op b = false) (ha : RE X a ta Ta) (hb : RE X b tb Tb) : RE X (.Compare a [op] [b] pos) (tOp r ta tb) (dOp w Ta Tb) :=
  ⟨pe_cmpR h ha.pe hb.pe hm, rd_op ho ha.rd hb.rd⟩
/-- a subscript that is no slice -/
theorem re_ix {r : R2} {w : Sto → Dat → Dat → (Dat → Prop) → Prop} (h : IxR X r) (ho : OpD X.K r w) (ha : RE X a ta Ta) (hb : RE X b tb Tb) (hs : PlainIx b := by exact fun _ _ => rfl) : RE X (.Subscript a b pos) (tOp r ta tb) (dOp w Ta Tb) :=
  ⟨pe_ix h ha.pe hb.pe hs, rd_op ho ha.rd hb.rd⟩

/-! truth -/
def dNotV (T : DE) : DE := fun ρ s Q => T ρ s fun d s1 => match d with | .bl b => Q (.bl (!b)) s1 | _ => False
def dAndV (Ta Tb : DE) : DE := fun ρ s Q => Ta ρ s fun d s1 => match d with | .bl b => if b = true then Tb ρ s1 Q else Q (.bl false) s1 | _ => False
def dOrV (Ta Tb : DE) : DE := fun ρ s Q => Ta ρ s fun d s1 => match d with | .bl b => if b = true then Q (.bl true) s1 else Tb ρ s1 Q | _ => False
theorem re_not (h : RE X a ta Ta) : RE X (.UnaryOp .Not a pos) (tNotV ta) (dNotV Ta) := ⟨pe_not h.pe, fun F H σ ρ s Q R g en q k => h.rd F H σ ρ s _ _ g en q fun F1 H1 s1 v d st1 g1 r1 q1 => by
    cases r1 <;> first | exact q1.elim | skip
    exact ⟨_, rfl, k F1 H1 s1 _ _ st1 g1 (.bl _) q1⟩⟩
theorem re_one {op : BoolOp} (h : RE X a ta Ta) : RE X (.BoolOp op [a] pos) ta Ta := ⟨pe_one h.pe, h.rd⟩
theorem re_and {rest : List Expr} (h : RE X a ta Ta) (hb : RE X (.BoolOp .And (b :: rest) pos) tb Tb) : RE X (.BoolOp .And (a :: b :: rest) pos) (tAndV ta tb) (dAndV Ta Tb) := ⟨pe_and h.pe hb.pe, fun F H σ ρ s Q R g en q k =>
  h.rd F H σ ρ s _ _ g en q fun F1 H1 s1 v d st1 g1 r1 q1 => by
    cases r1 <;> first | exact q1.elim | skip
    rename_i c
    refine ⟨c, rfl, ?_⟩
    have q1 : if c = true then _ else _ := q1
    cases c with
    | true =>
      rw [if_pos rfl] at q1 ⊢
      exact hb.rd F1 H1 σ ρ s1 _ _ g1 (en.mono st1.fz) q1 fun F2 H2 s2 v d st2 => k F2 H2 s2 v d (st1.trans st2)
    | false =>
      rw [if_neg Bool.false_ne_true] at q1 ⊢
      exact k F1 H1 s1 _ _ st1 g1 (.bl _) q1⟩
theorem re_or {rest : List Expr} (h : RE X a ta Ta) (hb : RE X (.BoolOp .Or (b :: rest) pos) tb Tb) : RE X (.BoolOp .Or (a :: b :: rest) pos) (tOrV ta tb) (dOrV Ta Tb) := ⟨pe_or h.pe hb.pe, fun F H σ ρ s Q R g en q k =>
  h.rd F H σ ρ s _ _ g en q fun F1 H1 s1 v d st1 g1 r1 q1 => by
    cases r1 <;> first | exact q1.elim | skip
    rename_i c
    refine ⟨c, rfl, ?_⟩
    have q1 : if c = true then _ else _ := q1
    cases c with
    | true =>
      rw [if_pos rfl] at q1 ⊢
      exact k F1 H1 s1 _ _ st1 g1 (.bl _) q1
    | false =>
      rw [if_neg Bool.false_ne_true] at q1 ⊢
      exact hb.rd F1 H1 σ ρ s1 _ _ g1 (en.mono st1.fz) q1 fun F2 H2 s2 v d st2 => k F2 H2 s2 v d (st1.trans st2)⟩
/-- tests -/
def dB (T : DE) : DT := fun ρ s Q => T ρ s fun d s1 => match d with | .bl b => Q b s1 | _ => False
theorem rt_val (h : RE X e t T) (f : PE X e t → PT X e (tB t) := by exact fun a => pt_val a) : RT X e (tB t) (dB T) := ⟨f h.pe, fun F H σ ρ s Q R g en q k => h.rd F H σ ρ s _ _ g en q fun F1 H1 s1 v d st1 g1 r1 q1 => by
    cases r1 <;> first | exact q1.elim | skip
    exact ⟨_, rfl, k F1 H1 s1 _ st1 g1 q1⟩⟩
/-- a comparison as a test -/
theorem rt_cmp {op : CmpOp} {r : R2} {w : Sto → Dat → Dat → (Dat → Prop) → Prop} (h : OpR X (compareOp op) r) (ho : OpD X.K r w) (hm : behindInMarks op b = false) (ha : RE X a ta Ta) (hb : RE X b tb Tb) : RT X (.Compare a [op] [b] pos) (tTest (tOp r ta tb)) (dB (dOp w Ta Tb)) :=
  ⟨pt_cmpR h ha.pe hb.pe hm, fun F H σ ρ s Q R g en q k => rd_op ho ha.rd hb.rd F H σ ρ s _ _ g en q fun F1 H1 s1 v d st1 g1 r1 q1 => by
    cases r1 <;> first | exact q1.elim | skip
    exact ⟨_, rfl, k F1 H1 s1 _ st1 g1 q1⟩⟩
def dIf (C : DT) (Ta Tb : DE) : DE := fun ρ s Q => C ρ s fun b s1 => if b = true then Ta ρ s1 Q else Tb ρ s1 Q
theorem re_ifExp {tc : TT} {C : DT} (hc : RT X c tc C) (ha : RE X a ta Ta) (hb : RE X b tb Tb) : RE X (.IfExp c a b pos) (tIf tc ta tb) (dIf C Ta Tb) := ⟨pe_ifExp hc.pt ha.pe hb.pe, fun F H σ ρ s Q R g en q k =>
  hc.rd F H σ ρ s _ _ g en q fun F1 H1 s1 c st1 g1 q1 => by
    cases c with
    | true =>
      rw [if_pos rfl] at q1 ⊢
      exact ha.rd F1 H1 σ ρ s1 _ _ g1 (en.mono st1.fz) q1 fun F2 H2 s2 v d st2 => k F2 H2 s2 v d (st1.trans st2)
    | false =>
      rw [if_neg Bool.false_ne_true] at q1 ⊢
      exact hb.rd F1 H1 σ ρ s1 _ _ g1 (en.mono st1.fz) q1 fun F2 H2 s2 v d st2 => k F2 H2 s2 v d (st1.trans st2)⟩
end

/-! ### statements -/
section
variable {X : Cx} {e : Expr} {st : Stmt} {rest p q : List Stmt} {te : TE} {Te : DE} {t u : TS} {T U : DS} {pos : Pos}
def dNext : DS := fun D ρ s => D.nx ρ s
def dSeq (T U : DS) : DS := fun D ρ s => T { D with nx := U D } ρ s
def dBrk : DS := fun D ρ s => D.bk ρ s
def dCnt : DS := fun D ρ s => D.ct ρ s
def dDrop (T : DE) : DS := fun D ρ s => T ρ s fun _ s1 => D.nx ρ s1
def dRet (T : DE) : DS := fun D ρ s => T ρ s D.rt
def dRetN : DS := fun D _ s => D.rt .non s
def dIfS (C : DT) (T U : DS) : DS := fun D ρ s => C ρ s fun b s1 => if b = true then T D ρ s1 else U D ρ s1
theorem rd_next {K : PySem.W.Frag} : RdS K tNext dNext := fun F H σ ρ s D E g en q k => k.nx F H s σ ρ (Stp.refl _ _ _) g en q
theorem rss_nil : RSs X [] tNext dNext := ⟨pss_nil, rd_next⟩
theorem rss_one (h : RS X st t T) : RSs X [st] t T := ⟨pss_one h.ps, h.rd⟩
theorem rss_cons (h : RS X st t T) (hr : RSs X rest u U) : RSs X (st :: rest) (tSeq t u) (dSeq T U) := ⟨pss_cons h.ps hr.ps, fun F H σ ρ s D E g en q k =>
  h.rd F H σ ρ s { D with nx := U D } { E with nx := u E } g en q ⟨fun F' H' s' σ' ρ' a g' en' q' => hr.rd F' H' σ' ρ' s' D E g' en' q' (k.step a), k.rt, k.bk, k.ct⟩⟩
theorem rs_pass : RS X (.Pass pos) tNext dNext := ⟨ps_pass, rd_next⟩
theorem rs_break : RS X (.Break pos) tBreak dBrk := ⟨ps_break, fun F H σ ρ s D E g en q k => k.bk F H s σ ρ (Stp.refl _ _ _) g en q⟩
theorem rs_continue : RS X (.Continue pos) tCont dCnt := ⟨ps_continue, fun F H σ ρ s D E g en q k => k.ct F H s σ ρ (Stp.refl _ _ _) g en q⟩
theorem rs_expr (h : RE X e te Te) (f : PE X e te → PS X (.Expr e pos) (tDrop te) := by exact fun a => ps_expr a) : RS X (.Expr e pos) (tDrop te) (dDrop Te) := ⟨f h.pe, fun F H σ ρ s D E g en q k => h.rd F H σ ρ s _ _ g en q fun F1 H1 s1 v d st1 g1 r1 q1 => k.nx F1 H1 s1 σ ρ st1 g1 (en.mono st1.fz) q1⟩
theorem rs_ret (h : RE X e te Te) : RS X (.Return (some e) pos) (tRet te) (dRet Te) := ⟨ps_ret h.pe, fun F H σ ρ s D E g en q k => h.rd F H σ ρ s _ _ g en q fun F1 H1 s1 v d st1 g1 r1 q1 => k.rt F1 H1 s1 v d st1 g1 r1 q1⟩
theorem rs_retN : RS X (.Return none pos) tRetN dRetN := ⟨ps_retN, fun F H σ ρ s D E g en q k => k.rt F H s .non .non (Stp.refl _ _ _) g .non q⟩
theorem rs_if {c : Expr} {tc : TT} {C : DT} (hc : RT X c tc C) (hp : RSs X p t T) (hq : RSs X q u U) : RS X (.If c p q pos) (tIfS tc t u) (dIfS C T U) := ⟨ps_if hc.pt hp.ps hq.ps, fun F H σ ρ s D E g en q k =>
  hc.rd F H σ ρ s _ _ g en q fun F1 H1 s1 b st1 g1 q1 => by
    cases b with
    | true =>
      rw [if_pos rfl] at q1 ⊢
      exact hp.rd F1 H1 σ ρ s1 D E g1 (en.mono st1.fz) q1 (k.step st1)
    | false =>
      rw [if_neg Bool.false_ne_true] at q1 ⊢
      exact hq.rd F1 H1 σ ρ s1 D E g1 (en.mono st1.fz) q1 (k.step st1)⟩

/-! targets -/
def dName (i : Nat) : DG := fun d ρ P => P (sT ρ i d)
theorem rg_name {i : Nat} {x : Str} (hN : X.N.Nodup) (hi : X.N[i]? = some x) (hx : Loc X.env.scope x) (hf : X.fn x = true ∨ X.env.scope.names.lookup x = some .local := by first | exact .inl rfl | exact .inr rfl | assumption) : RG X (.Name x pos) (gName i) (dName i) [i] := ⟨pg_name hN hi hx, fun F H σ ρ s v d P R g en r q k => by
    refine k _ _ (en.set r) ⟨List.length_set, fun j hj => ?_⟩ q
    rw [List.getElem?_set_ne]
    exact fun z => hj (by rw [z]; exact List.mem_singleton.mpr rfl)⟩
def dGNil : DGs := fun ds ρ P => match ds with | [] => P ρ | _ => False
def dGCons (T : DG) (U : DGs) : DGs := fun ds ρ P => match ds with | d :: r => T d ρ fun ρ' => U r ρ' P | [] => False
theorem rgs_nil : RGs X [] gNil dGNil [] := ⟨pgs_nil, fun F H σ ρ s xs ds P R g en r q k => by
    cases r <;> first | exact q.elim | skip
    exact ⟨rfl, k σ ρ en ⟨rfl, fun _ _ => rfl⟩ q⟩⟩
theorem rgs_cons {es : List Expr} {g1 : TG} {G1 : DG} {v1 : List Nat} {g2 : TGs} {G2 : DGs} {v2 : List Nat} (h : RG X e g1 G1 v1) (hr : RGs X es g2 G2 v2) (f : PG X e g1 → PGs X es g2 → PGs X (e :: es) (gCons g1 g2) := by exact fun a b => pgs_cons a b) : RGs X (e :: es) (gCons g1 g2) (dGCons G1 G2) (v1 ++ v2) := ⟨f h.pg hr.pg, fun F H σ ρ s xs ds P R g en r q k => by
    cases r with
    | nil => exact q.elim
    | cons r1 r2 =>
      refine ⟨_, _, rfl, h.rd F H σ ρ s _ _ _ _ g en r1 q fun σ1 ρ1 en1 w1 q1 => hr.rd F H σ1 ρ1 s _ _ _ _ g en1 r2 q1 fun σ2 ρ2 en2 w2 q2 => k σ2 ρ2 en2 ⟨w2.1.trans w1.1, fun i hi => ?_⟩ q2⟩
      rw [w2.2 i fun z => hi (List.mem_append_right _ z), w1.2 i fun z => hi (List.mem_append_left _ z)]⟩
def dGTup (n : Nat) (T : DGs) : DG := fun d ρ P => match d with | .tup ds => ds.length = n ∧ T ds ρ P | _ => False
theorem rg_tup {es : List Expr} {k : Nat} {n : Nat} {g2 : TGs} {G2 : DGs} {vs : List Nat} {K : PySem.W.Frag} (hK : X.K = K) (hc : X.calm = true) (hr : RGs X es g2 G2 vs) (hn : (assignEach es X.env).length = n := by rfl) (hst : (assignEach es X.env).findIdx? (·.1) = none := by rfl) : RG X (.Tuple es k pos) (gTup K n g2) (dGTup n G2) vs := by
  subst hK
  exact ⟨pg_tup hc hr.pg hn hst, fun F H σ ρ s v d P R g en r q k => by
    cases r <;> first | exact q.elim | skip
    rename_i h1 h2
    exact ⟨_, _, rfl, SqT.of (g.fz _ _ h1), by rw [h2.length]; exact q.1, hr.rd F H σ ρ s _ _ _ _ g en h2 q.2 k⟩⟩

def dAsg (T : DE) (G : DG) : DS := fun D ρ s => T ρ s fun d s1 => G d ρ fun ρ' => D.nx ρ' s1
theorem rs_asg {tg : Expr} {g1 : TG} {G1 : DG} {vs : List Nat} (h : RE X e te Te) (hg : RG X tg g1 G1 vs) (f : PE X e te → PG X tg g1 → PS X (.Assign [tg] e pos) (tAsg te g1) := by exact fun a b => ps_asg a b) : RS X (.Assign [tg] e pos) (tAsg te g1) (dAsg Te G1) := ⟨f h.pe hg.pg, fun F H σ ρ s D E g en q k => h.rd F H σ ρ s _ _ g en q fun F1 H1 s1 v d st1 g1 r1 q1 =>
  hg.rd F1 H1 σ ρ s1 v d _ _ g1 (en.mono st1.fz) r1 q1 fun σ' ρ' en' _ q2 => k.nx F1 H1 s1 σ' ρ' st1 g1 en' q2⟩
theorem rs_set {i : Nat} {x : Str} {pos' : Pos} (hN : X.N.Nodup) (hi : X.N[i]? = some x) (hx : Loc X.env.scope x) (h : RE X e te Te) (hs : swapsWith e (some (.Name x pos')) pos.line X.env = pure false := by rfl) (hf : X.fn x = true ∨ X.env.scope.names.lookup x = some .local := by first | exact .inl rfl | exact .inr rfl | assumption) : RS X (.Assign [.Name x pos'] e pos) (tAsg te (gName i)) (dAsg Te (dName i)) :=
  rs_asg h (rg_name hN hi hx hf) fun a _ => ps_set hN hi hx a hs hf
end
end DL

/-! The data layer, 3: loops, comprehensions, calls, a def's promise. -/
namespace DL
open PySem PySem.Spec PyProof.Rows L2

/-! ### what is walked -/
section
variable {K : PySem.W.Frag} {F : Hp}
theorem jok_pure {J : It} {ds : List Dat} (h : ∀ (F1 H1 : Hp), Same F F1 → Same F1 H1 → ∀ i : Nat, (∀ d, ds[i]? = some d → J.go i H1 ∧ ∀ x H2, J.yld i H1 x H2 → H2 = H1 ∧ Rp K F1 x d) ∧ (i = ds.length → J.stop i H1)) : Jok K F J ds := fun F1 H1 s1 sf g i => by
  obtain ⟨a, b⟩ := h F1 H1 sf g.fz i
  refine ⟨fun d e => ⟨(a d e).1, fun x H2 y => ?_⟩, b⟩
  obtain ⟨e2, r⟩ := (a d e).2 x H2 y
  subst e2
  exact ⟨F1, Stp.refl _ _ _, g, r⟩
theorem jok_list {a : Addr} {xs : List V} {ds : List Dat} (h : SqL K F a xs) (r : RpA K F xs ds) : Jok K F (Itl K a) ds := jok_pure fun F1 H1 s1 s2 i => by
  have hq : SqL K H1 a xs := (s1.trans s2).seq h
  refine ⟨fun d e => ?_, fun e => ⟨xs, hq, by rw [r.length, e]; exact Nat.le_refl _⟩⟩
  obtain ⟨v, ev, rv⟩ := r.get e
  exact ⟨⟨xs, v, hq, ev⟩, fun x H2 ⟨e2, y⟩ => ⟨e2, by have := y xs hq; rw [ev] at this; cases this; exact rv.mono s1⟩⟩
theorem jok_tup {a : Addr} {xs : List V} {ds : List Dat} (h : SqT K F a xs) (r : RpA K F xs ds) : Jok K F (Itt K a) ds := jok_pure fun F1 H1 s1 s2 i => by
  have hq : SqT K H1 a xs := seqT_same (s1.trans s2) h
  refine ⟨fun d e => ?_, fun e => ⟨xs, hq, by rw [r.length, e]; exact Nat.le_refl _⟩⟩
  obtain ⟨v, ev, rv⟩ := r.get e
  exact ⟨⟨xs, v, hq, ev⟩, fun x H2 ⟨e2, y⟩ => ⟨e2, by have := y xs hq; rw [ev] at this; cases this; exact rv.mono s1⟩⟩
def rngD (lo : Int) (n : Nat) : List Dat := (List.range n).map fun i => .int (lo + (i : Nat))
theorem rngD_get {lo : Int} {n i : Nat} {d : Dat} (h : (rngD lo n)[i]? = some d) : i < n ∧ d = .int (lo + (i : Nat)) := by
  unfold rngD at h
  rw [List.getElem?_map] at h
  by_cases hi : i < n
  · rw [List.getElem?_range hi] at h
    exact ⟨hi, (Option.some.inj h).symm⟩
  · rw [List.getElem?_eq_none (by simpa using hi)] at h; cases h
theorem rngD_length (lo : Int) (n : Nat) : (rngD lo n).length = n := by unfold rngD; rw [List.length_map, List.length_range]
theorem jok_rng {lo : Int} {n : Nat} : Jok K F (Itr lo n) (rngD lo n) := jok_pure fun F1 H1 s1 s2 i => by
  refine ⟨fun d e => ?_, fun e => by rw [rngD_length] at e; exact Nat.le_of_eq e.symm⟩
  obtain ⟨hi, e⟩ := rngD_get e
  subst e
  exact ⟨hi, fun x H2 ⟨e2, y⟩ => ⟨e2, by subst y; exact .int _⟩⟩
end

/-- the signs of a text, one text each -/
def signsD (x : Str) : List Dat := x.cps.toList.map fun c => .str ⟨#[c]⟩

section
variable {X : Cx} {tg e : Expr} {te : TE} {Te : DE} {ta : TA} {Ta : DA} {p pos : Pos}
def dIterL (T : DE) : DA := fun ρ s Q => T ρ s fun d s1 => match d with | .lst ds => Q ds s1 | .rol ds => Q ds s1 | _ => False
def dIterT (T : DE) : DA := fun ρ s Q => T ρ s fun d s1 => match d with | .tup ds => Q ds s1 | _ => False
def dIterS (T : DE) : DA := fun ρ s Q => T ρ s fun d s1 => match d with | .str x => Q (signsD x) s1 | _ => False
def dRng1 (T : DA) : DA := fun ρ s Q => T ρ s fun ds s1 => match ds with | [.int j] => (-(2 ^ 62) ≤ j ∧ j < 2 ^ 62) ∧ Q (rngD 0 j.toNat) s1 | _ => False
def dRng2 (T : DA) : DA := fun ρ s Q => T ρ s fun ds s1 => match ds with | [.int i, .int j] => (-(2 ^ 62) ≤ i ∧ i < 2 ^ 62 ∧ -(2 ^ 62) ≤ j ∧ j < 2 ^ 62) ∧ Q (rngD i (j - i).toNat) s1 | _ => False
theorem ri_list {K : PySem.W.Frag} (hK : X.K = K) (h : RE X e te Te) (f : PE X e te → PI X tg e (iList X.K te) := by exact fun a => pi_list a) : RI X tg e (iList K te) (dIterL Te) := by
  subst hK
  exact ⟨f h.pe, fun F H σ ρ s Q R g en q k => h.rd F H σ ρ s _ _ g en q fun F1 H1 s1 v d st1 g1 r1 q1 => by
    cases r1 <;> first | exact q1.elim | skip
    · rename_i h1 h2
      exact ⟨_, rfl, ⟨_, SqL.of (g1.fz _ _ h1)⟩, k F1 H1 s1 _ _ st1 g1 (jok_list (SqL.of h1) h2) q1⟩
    · rename_i h1 h2
      exact ⟨_, rfl, ⟨_, Same.seq g1.fz h1⟩, k F1 H1 s1 _ _ st1 g1 (jok_list h1 h2) q1⟩⟩
theorem ri_tup {K : PySem.W.Frag} (hK : X.K = K) (h : RE X e te Te) (f : PE X e te → PI X tg e (iTup X.K te) := by exact fun a => pi_tup a) : RI X tg e (iTup K te) (dIterT Te) := by
  subst hK
  exact ⟨f h.pe, fun F H σ ρ s Q R g en q k => h.rd F H σ ρ s _ _ g en q fun F1 H1 s1 v d st1 g1 r1 q1 => by
    cases r1 <;> first | exact q1.elim | skip
    rename_i h1 h2
    exact ⟨_, rfl, ⟨_, SqT.of (g1.fz _ _ h1)⟩, k F1 H1 s1 _ _ st1 g1 (jok_tup (SqT.of h1) h2) q1⟩⟩
theorem ri_str (h : RE X e te Te) : RI X tg e (iStr te) (dIterS Te) := ⟨pi_str h.pe, fun F H σ ρ s Q R g en q k => h.rd F H σ ρ s _ _ g en q fun F1 H1 s1 v d st1 g1 r1 q1 => by
    cases r1 <;> first | exact q1.elim | skip
    rename_i x
    refine ⟨x, rfl, k F1 H1 s1 _ _ st1 g1 (jok_pure fun F2 H2 a b i => ⟨fun d e => ?_, fun e => ?_⟩) q1⟩
    · unfold signsD at e
      rw [List.getElem?_map, Array.getElem?_toList] at e
      cases ec : x.cps[i]? with
      | none => rw [ec] at e; cases e
      | some c =>
        rw [ec] at e
        have ed : Dat.str ⟨#[c]⟩ = d := Option.some.inj e
        subst ed
        have hi : i < x.cps.size := by
          rcases Array.getElem?_eq_some_iff.mp ec with ⟨hi, _⟩
          exact hi
        refine ⟨hi, fun v H3 ⟨e2, c', e3, e4⟩ => ⟨e2, ?_⟩⟩
        rw [ec] at e3
        cases e3
        rw [e4]
        exact .str _
    · show x.cps.size ≤ i
      rw [e]; unfold signsD; rw [List.length_map, Array.length_toList]; exact Nat.le_refl _⟩
theorem ri_range1 (hg : Gl X "range") (hm : X.mg "range" = none) {a : Expr} (h : RA X [a] ta Ta) (f : PA X [a] ta → PI X tg (.Call (.Name "range" p) [a] [] pos) (iRng1 ta) := by exact fun a => pi_range1 (by assumption) (by assumption) a) : RI X tg (.Call (.Name "range" p) [a] [] pos) (iRng1 ta) (dRng1 Ta) :=
  ⟨f h.pa, fun F H σ ρ s Q R g en q k => h.rd F H σ ρ s _ _ g en q fun F1 H1 s1 vs ds st1 g1 r1 q1 => by
    cases r1 <;> first | exact q1.elim | skip
    rename_i h1 h2
    cases h1 <;> first | exact q1.elim | skip
    cases h2 <;> first | exact q1.elim | skip
    exact ⟨_, rfl, q1.1.1, q1.1.2, k F1 H1 s1 _ _ st1 g1 jok_rng q1.2⟩⟩
theorem ri_range2 (hg : Gl X "range") (hm : X.mg "range" = none) {a b : Expr} (h : RA X [a, b] ta Ta) (f : PA X [a, b] ta → PI X tg (.Call (.Name "range" p) [a, b] [] pos) (iRng2 ta) := by exact fun a => pi_range2 (by assumption) (by assumption) a) : RI X tg (.Call (.Name "range" p) [a, b] [] pos) (iRng2 ta) (dRng2 Ta) :=
  ⟨f h.pa, fun F H σ ρ s Q R g en q k => h.rd F H σ ρ s _ _ g en q fun F1 H1 s1 vs ds st1 g1 r1 q1 => by
    cases r1 <;> first | exact q1.elim | skip
    rename_i h1 h2
    cases h1 <;> first | exact q1.elim | skip
    cases h2 <;> first | exact q1.elim | skip
    rename_i h3 h4
    cases h3 <;> first | exact q1.elim | skip
    cases h4 <;> first | exact q1.elim | skip
    exact ⟨_, _, rfl, q1.1, k F1 H1 s1 _ _ st1 g1 jok_rng q1.2⟩⟩
end

/-! ### loops -/
section
variable {X : Cx} {tg it c : Expr} {body : List Stmt} {wi : TI} {Ti : DA} {g1 : TG} {G : DG} {vs : List Nat} {tb : TS} {Tb : DS} {tc : TT} {Tc : DT} {pos : Pos}
def forW (G : DG) (Tb : DS) (D : DEnds) : List Dat → En → Sto → Prop
  | [], ρ, s => D.nx ρ s
  | d :: ds, ρ, s => G d ρ fun ρ' => Tb { nx := forW G Tb D ds, rt := D.rt, bk := D.nx, ct := forW G Tb D ds } ρ' s
def dFor (Ti : DA) (G : DG) (Tb : DS) : DS := fun D ρ s => Ti ρ s fun ds s1 => forW G Tb D ds ρ s1
theorem rd_for {K : PySem.W.Frag} (hi : RdI K wi Ti) (hg : RdG K g1 G vs) (hb : RdS K tb Tb) : RdS K (tFor wi g1 tb) (dFor Ti G Tb) := fun F H σ ρ s D E g en q k => by
  refine hi F H σ ρ s _ _ g en q fun F1 H1 s1 J ds st1 g1 jok q1 => ?_
  refine ⟨fun i m σ' H' => m = ds.length - i ∧ i ≤ ds.length ∧ ∃ F2 s2 ρ2, Stp F1 H1 s1 F2 H' s2 ∧ Good K F2 H' s2 ∧ EnvOk K F2 σ' ρ2 ∧ forW G Tb D (ds.drop i) ρ2 s2, ⟨ds.length, rfl, Nat.zero_le _, F1, s1, ρ, Stp.refl _ _ _, g1, en.mono st1.fz, q1⟩, ?_⟩
  rintro i m σ' H' ⟨rfl, hle, F2, s2, ρ2, st2, g2, en2, w2⟩
  by_cases hlt : i < ds.length
  · right
    rw [List.drop_eq_getElem_cons hlt] at w2
    obtain ⟨go, yld⟩ := (jok F2 H' s2 st2.fz g2 i).1 ds[i] (List.getElem?_eq_getElem hlt)
    refine ⟨go, fun σ3 H3 => ∃ F3 s3 ρ3, Stp F1 H1 s1 F3 H3 s3 ∧ Good K F3 H3 s3 ∧ EnvOk K F3 σ3 ρ3 ∧ forW G Tb D (ds.drop (i + 1)) ρ3 s3, fun σ3 H3 h => ⟨ds.length - (i + 1), by omega, rfl, hlt, h⟩, fun x H3 hy => ?_⟩
    obtain ⟨F3, st3, g3, r3⟩ := yld x H3 hy
    refine hg F3 H3 σ' ρ2 s2 x ds[i] _ _ g3 (en2.mono st3.fz) r3 w2 fun σ4 ρ4 en4 _ w4 => ?_
    have s23 := st2.trans st3
    exact hb F3 H3 σ4 ρ4 s2 _ _ g3 en4 w4 ⟨fun F5 H5 s5 σ5 ρ5 st5 g5 en5 q5 => ⟨F5, s5, ρ5, s23.trans st5, g5, en5, q5⟩,
      fun F5 H5 s5 v d st5 g5 r5 q5 => k.rt F5 H5 s5 v d (st1.trans (s23.trans st5)) g5 r5 q5,
      fun F5 H5 s5 σ5 ρ5 st5 g5 en5 q5 => k.nx F5 H5 s5 σ5 ρ5 (st1.trans (s23.trans st5)) g5 en5 q5,
      fun F5 H5 s5 σ5 ρ5 st5 g5 en5 q5 => ⟨F5, s5, ρ5, s23.trans st5, g5, en5, q5⟩⟩
  · left
    have e : i = ds.length := by omega
    subst e
    rw [List.drop_length] at w2
    exact ⟨(jok F2 H' s2 st2.fz g2 ds.length).2 rfl, k.nx F2 H' s2 σ' ρ2 (st1.trans st2) g2 en2 w2⟩
theorem rs_for (hp : PassesOwn (model X.prog X.w) X.A X.env X.xe) (hc : X.calm = true) (hi : RI X tg it wi Ti) (hg : RG X tg g1 G vs) (hb : RSs X body tb Tb) (hs : ∀ x, foldedSetIterable it X.env x = pure x := by intro _; rfl) :
    RS X (.For tg it body [] pos) (tFor wi g1 tb) (dFor Ti G Tb) := ⟨ps_for hp hc hi.pi hg.pg hb.ps hs, rd_for hi.rd hg.rd hb.rd⟩

def dWhile (Tc : DT) (Tb : DS) : DS := fun D ρ s => ∃ I : Nat → En → Sto → Prop, (∃ n, I n ρ s) ∧ ∀ n ρ s, I n ρ s → Tc ρ s fun b s1 => if b = true then
  Tb { nx := fun ρ' s' => ∃ m, m < n ∧ I m ρ' s', rt := D.rt, bk := D.nx, ct := fun ρ' s' => ∃ m, m < n ∧ I m ρ' s' } ρ s1 else D.nx ρ s1
theorem rs_while (hp : PassesOwn (model X.prog X.w) X.A X.env X.xe) (hc : RT X c tc Tc) (hb : RSs X body tb Tb) : RS X (.While c body [] pos) (tWhile tc tb) (dWhile Tc Tb) := ⟨ps_while hp hc.pt hb.ps, fun F H σ ρ s D E g en ⟨I, ⟨n0, i0⟩, turn⟩ k => by
    refine ⟨fun n σ' H' => ∃ F2 s2 ρ2, Stp F H s F2 H' s2 ∧ Good X.K F2 H' s2 ∧ EnvOk X.K F2 σ' ρ2 ∧ I n ρ2 s2, ⟨n0, F, s, ρ, Stp.refl _ _ _, g, en, i0⟩, ?_⟩
    rintro n σ' H' ⟨F2, s2, ρ2, st2, g2, en2, i2⟩
    refine hc.rd F2 H' σ' ρ2 s2 _ _ g2 en2 (turn n ρ2 s2 i2) fun F3 H3 s3 b st3 g3 q3 => ?_
    have s23 := st2.trans st3
    cases b with
    | true =>
      rw [if_pos rfl] at q3 ⊢
      refine ⟨fun σ4 H4 => ∃ m, m < n ∧ ∃ F4 s4 ρ4, Stp F H s F4 H4 s4 ∧ Good X.K F4 H4 s4 ∧ EnvOk X.K F4 σ4 ρ4 ∧ I m ρ4 s4, fun σ4 H4 h => h, ?_⟩
      exact hb.rd F3 H3 σ' ρ2 s3 _ _ g3 (en2.mono st3.fz) q3 ⟨fun F5 H5 s5 σ5 ρ5 st5 g5 en5 ⟨m, hm, q5⟩ => ⟨m, hm, F5, s5, ρ5, s23.trans st5, g5, en5, q5⟩,
        fun F5 H5 s5 v d st5 g5 r5 q5 => k.rt F5 H5 s5 v d (s23.trans st5) g5 r5 q5,
        fun F5 H5 s5 σ5 ρ5 st5 g5 en5 q5 => k.nx F5 H5 s5 σ5 ρ5 (s23.trans st5) g5 en5 q5,
        fun F5 H5 s5 σ5 ρ5 st5 g5 en5 ⟨m, hm, q5⟩ => ⟨m, hm, F5, s5, ρ5, s23.trans st5, g5, en5, q5⟩⟩
    | false =>
      rw [if_neg Bool.false_ne_true] at q3 ⊢
      exact k.nx F3 H3 s3 σ' ρ2 s23 g3 (en2.mono st3.fz) q3⟩
end

/-! ### comprehensions -/
section
variable {X : Cx} {tg iter elt : Expr} {ifs : List Expr} {scope : Scope} {own : List (Str × Nat)} {wi : TI} {Ti : DA} {g1 : TG} {G : DG} {vs : List Nat} {tt : TT} {Tt : DT} {te : TE} {Te : DE} {pos spos : Pos}
def dYes : DT := fun _ s Q => Q true s
def lcW (G : DG) (Tt : DT) (Te : DE) (ρ : En) : List Dat → Sto → (List Dat → Sto → Prop) → Prop
  | [], s, Q => Q [] s
  | d :: ds, s, Q => G d ρ fun ρ' => Tt ρ' s fun b s1 => if b = true then Te ρ' s1 fun y s2 => lcW G Tt Te ρ ds s2 fun ys s3 => Q (y :: ys) s3 else lcW G Tt Te ρ ds s1 Q
def dLc (Ti : DA) (G : DG) (Tt : DT) (Te : DE) (ws : List Nat) : DA := fun ρ s Q => Ti ρ s fun ds s1 => ds.length ≤ sizeLine ∧ lcW G Tt Te (wp ρ ws) ds s1 Q
structure RTs (X : Cx) (ifs : List Expr) (t : TT) (T : DT) : Prop where
  pt : PTs X ifs t
  rd : RdT X.K t T
theorem rts_nil : RTs X [] tYes dYes := ⟨pts_nil, fun F H σ ρ s Q R g en q k => k F H s true (Stp.refl _ _ _) g q⟩
theorem rts_one {c : Expr} {t : TT} {T : DT} (h : RT X c t T) : RTs X [c] t T := ⟨pts_one h.pt, h.rd⟩
theorem wipe_idem (σ : L2.St) (ws : List Nat) : wipe (wipe σ ws) ws = wipe σ ws := wipe_same_of (wipe_length σ ws) fun i hi => wipe_out hi
theorem rd_lc {K : PySem.W.Frag} {ws : List Nat} (hi : RdI K wi Ti) (hg : RdG K g1 G vs) (ht : RdT K tt Tt) (he : RdE K te Te) (hv : ∀ i ∈ vs, i ∈ ws) : RdN K (tLc wi g1 tt te ws) (dLc Ti G Tt Te ws) := fun F H σ ρ s Q R g en q k => by
  refine hi F H σ ρ s _ _ g en q fun F1 H1 s1 J ds st1 g1 jok q1 => ?_
  obtain ⟨hlen, q1⟩ := q1
  intro L hL
  have hL0 : H L = none := st1.fresh hL
  obtain ⟨stL, gL⟩ := stp_raw (o := .lst []) g1 hL
  refine ⟨fun i m H' => m = ds.length - i ∧ i ≤ ds.length ∧ ∃ F2 s2 xs acc, Stp F1 H1 s1 F2 H' s2 ∧ Good K F2 H' s2 ∧ F2 L = none ∧ s2 L = none ∧ H' L = some (.lst xs) ∧ RpA K F2 xs acc ∧ acc.length ≤ i ∧ lcW G Tt Te (wp ρ ws) (ds.drop i) s2 (fun ys s3 => Q (acc ++ ys) s3), ⟨ds.length, rfl, Nat.zero_le _, F1, s1, [], [], stL, gL, g1.freeF hL, g1.freeS hL, upd_same, .nil, Nat.le_refl _, q1⟩, ?_⟩
  rintro i m H' ⟨rfl, hle, F2, s2, xs, acc, st2, g2, hF2, hs2, hH2, ra2, hacc, w2⟩
  by_cases hlt : i < ds.length
  · right
    rw [List.drop_eq_getElem_cons hlt] at w2
    obtain ⟨go, yld⟩ := (jok F2 H' s2 st2.fz g2 i).1 ds[i] (List.getElem?_eq_getElem hlt)
    refine ⟨go, fun H3 => ∃ F3 s3 xs3 acc3, Stp F1 H1 s1 F3 H3 s3 ∧ Good K F3 H3 s3 ∧ F3 L = none ∧ s3 L = none ∧ H3 L = some (.lst xs3) ∧ RpA K F3 xs3 acc3 ∧ acc3.length ≤ i + 1 ∧ lcW G Tt Te (wp ρ ws) (ds.drop (i + 1)) s3 (fun ys s4 => Q (acc3 ++ ys) s4), fun H3 h => ⟨ds.length - (i + 1), by omega, rfl, hlt, h⟩, fun x H3 hy => ?_⟩
    obtain ⟨F3, st3, g3, r3⟩ := yld x H3 hy
    -- what stays of L through a step
    have thr : ∀ {Fa Ha : Hp} {sa : Sto} {Fb Hb : Hp} {sb : Sto} {zs : List V}, Stp Fa Ha sa Fb Hb sb → Fa L = none → sa L = none → Ha L = some (.lst zs) → Fb L = none ∧ sb L = none ∧ Hb L = some (.lst zs) := fun {Fa Ha sa Fb Hb sb zs} st a b c => by
      have c' : Ha L ≠ none := by rw [c]; exact Option.some_ne_none _
      refine ⟨st.nf L c' a b, ?_, st.kp L _ c b⟩
      cases z : sb L with
      | none => rfl
      | some o =>
        rcases st.nw L (by rw [z]; exact Option.some_ne_none _) with w | w
        · exact absurd b w
        · exact absurd w c'
    obtain ⟨hF3, hs3, hH3⟩ := thr st3 hF2 hs2 hH2
    have enw : EnvOk K F3 (wipe σ ws) (wp ρ ws) := (en.mono (st1.fz.trans (st2.fz.trans st3.fz))).wipes ws
    refine hg F3 H3 (wipe σ ws) (wp ρ ws) s2 x ds[i] _ _ g3 enw r3 w2 fun σ4 ρ4 en4 wr w4 => ⟨?_, ?_⟩
    · rw [← wipe_idem σ ws]
      exact wipe_same_of wr.1 fun j hj => wr.2 j fun z => hj (hv j z)
    refine ht F3 H3 σ4 ρ4 s2 _ _ g3 en4 w4 fun F5 H5 s5 b st5 g5 q5 => ?_
    obtain ⟨hF5, hs5, hH5⟩ := thr st5 hF3 hs3 hH3
    have s25 := (st2.trans st3).trans st5
    cases b with
    | false =>
      rw [if_neg Bool.false_ne_true] at q5 ⊢
      exact ⟨F5, s5, xs, acc, s25, g5, hF5, hs5, hH5, ra2.mono (st3.fz.trans st5.fz), by omega, q5⟩
    | true =>
      rw [if_pos rfl] at q5 ⊢
      refine he F5 H5 σ4 ρ4 s5 _ _ g5 (en4.mono st5.fz) q5 fun F6 H6 s6 y d st6 g6 r6 q6 => ?_
      obtain ⟨hF6, hs6, hH6⟩ := thr st6 hF5 hs5 hH5
      have ra6 := ra2.mono ((st3.fz.trans st5.fz).trans st6.fz)
      refine ⟨xs, hH6, by rw [ra6.length]; omega, ?_⟩
      have s26 := s25.trans st6
      -- L is written, which nobody tells of
      have gw : Good K F6 (upd H6 L (.lst (xs ++ [y]))) s6 := ⟨fun b u z => by
          have ne : b ≠ L := fun w => by rw [w, hF6] at z; cases z
          rw [upd_ne ne]; exact g6.fz b u z, fun a o z => by
          have ne : a ≠ L := fun w => by rw [w, hs6] at z; cases z
          exact ⟨(g6.st a o z).1, (g6.st a o z).2.mono (Same.refl _) fun u w => by rw [upd_ne ne]; exact w⟩⟩
      have sw : Stp F1 H1 s1 F6 (upd H6 L (.lst (xs ++ [y]))) s6 := ⟨s26.fz, s26.nf, fun a o z w => by
          have ne : a ≠ L := fun w' => by rw [w', hL] at z; cases z
          rw [upd_ne ne]; exact s26.kp a o z w, fun a z => by
          by_cases w : a = L
          · rw [w, upd_same]; exact Option.some_ne_none _
          · rw [upd_ne w]; exact s26.dm a z, s26.nw⟩
      refine ⟨F6, s6, xs ++ [y], acc ++ [d], sw, gw, hF6, hs6, upd_same, ra6.append (.one r6), ?_, ?_⟩
      · rw [List.length_append, List.length_singleton]; omega
      · have e : (fun (ys : List Dat) s3 => Q (acc ++ d :: ys) s3) = fun ys s4 => Q (acc ++ [d] ++ ys) s4 := by
          funext ys s4
          rw [List.append_assoc]; rfl
        rw [← e]; exact q6
  · left
    have e : i = ds.length := by omega
    subst e
    rw [List.drop_length] at w2
    have w2 : Q (acc ++ []) s2 := w2
    rw [List.append_nil] at w2
    exact ⟨(jok F2 H' s2 st2.fz g2 ds.length).2 rfl, k F2 H' s2 L xs acc (st1.trans st2) g2 hL0 hF2 hs2 hH2 ra2 w2⟩
theorem rn_lc (hc : X.calm = true) (hN : X.N.Nodup) (hi : RI X tg iter wi Ti) (ok : BlkOk X.N X.env.scope scope own)
    (hg : ∀ (s : Shared) (H : Hp) (C : Addr) (cl : List (Str × Addr)) (fp : List Addr), RG (X.blk s H scope (compEnvC scope cl C X.env) fp) tg g1 G vs) (ht : ∀ (s : Shared) (H : Hp) (C : Addr) (cl : List (Str × Addr)) (fp : List Addr), RTs (X.blk s H scope (compEnvC scope cl C X.env) fp) ifs tt Tt)
    (he : ∀ (s : Shared) (H : Hp) (C : Addr) (cl : List (Str × Addr)) (fp : List Addr), RE (X.blk s H scope (compEnvC scope cl C X.env) fp) elt te Te) (hv : ∀ i ∈ vs, i ∈ own.map (·.2) := by decide) (hs : ∀ x, foldedSetIterable iter X.env x = pure x := by intro _; rfl) :
    RN X (.ListComp elt [⟨tg, iter, ifs, 0⟩] scope pos) (tLc wi g1 tt te (own.map (·.2))) (dLc Ti G Tt Te (own.map (·.2))) :=
  ⟨pe_lc hc hN hi.pi ok (fun a b c d e => (hg a b c d e).pg) (fun a b c d e => (ht a b c d e).pt) (fun a b c d e => (he a b c d e).pe) hs,
    rd_lc hi.rd (hg X.s_0 X.H_0 0 [] []).rd (ht X.s_0 X.H_0 0 [] []).rd (he X.s_0 X.H_0 0 [] []).rd hv⟩
/-- name = [..]: W says how the new list is taken (dFz or dMk) -/
theorem rs_setLc {i : Nat} {y : Str} {py : Pos} {W : DA → DE} (hW : ∀ (K : PySem.W.Frag) (t : TE) (T : DA), RdN K t T → RdE K t (W T)) (hc : X.calm = true) (hN : X.N.Nodup) (hy : X.N[i]? = some y) (hyl : X.env.scope.names.lookup y = some .local)
    (hsw : swapsWith (.ListComp elt [⟨tg, iter, ifs, 0⟩] scope pos) (some (.Name y py)) spos.line X.env = pure true) (hi : RI X tg iter wi Ti) (ok : BlkOk X.N X.env.scope scope own)
    (hg : ∀ (s : Shared) (H : Hp) (C : Addr) (cl : List (Str × Addr)) (fp : List Addr), RG (X.blk s H scope (compEnvC scope cl C X.env) fp) tg g1 G vs) (ht : ∀ (s : Shared) (H : Hp) (C : Addr) (cl : List (Str × Addr)) (fp : List Addr), RTs (X.blk s H scope (compEnvC scope cl C X.env) fp) ifs tt Tt)
    (he : ∀ (s : Shared) (H : Hp) (C : Addr) (cl : List (Str × Addr)) (fp : List Addr), RE (X.blk s H scope (compEnvC scope cl C X.env) fp) elt te Te) (hv : ∀ i ∈ vs, i ∈ own.map (·.2) := by decide) (hs : ∀ x, foldedSetIterable iter X.env x = pure x := by intro _; rfl) :
    RS X (.Assign [.Name y py] (.ListComp elt [⟨tg, iter, ifs, 0⟩] scope pos) spos) (tAsg (tLc wi g1 tt te (own.map (·.2))) (gName i)) (dAsg (W (dLc Ti G Tt Te (own.map (·.2)))) (dName i)) := by
  have rd := hW X.K _ _ (rd_lc hi.rd (hg X.s_0 X.H_0 0 [] []).rd (ht X.s_0 X.H_0 0 [] []).rd (he X.s_0 X.H_0 0 [] []).rd hv)
  refine ⟨ps_setLc hc hN hy hyl hsw hi.pi ok (fun a b c d e => (hg a b c d e).pg) (fun a b c d e => (ht a b c d e).pt) (fun a b c d e => (he a b c d e).pe) hs, fun F H σ ρ s D E g en q k => ?_⟩
  exact rd F H σ ρ s _ _ g en q fun F1 H1 s1 v d st1 g1 r1 q1 => k.nx F1 H1 s1 _ _ st1 g1 ((en.mono st1.fz).set r1) q1
theorem w_fz (K : PySem.W.Frag) (t : TE) (T : DA) (h : RdN K t T) : RdE K t (dFz T) := fun F H σ ρ s Q R g en q k => h F H σ ρ s _ R g en q fun F' H' s' p xs ds st g' h0 hF hs hH ra q' => by
  have sm : Same F' (upd F' p (.lst xs)) := same_upd hF
  obtain ⟨st2, g2⟩ := stp_frz (o := .lst xs) g' hF hs hH h0 st
  exact k _ H' s' (.ref p) (.lst ds) st2 g2 (.lst upd_same (ra.mono sm)) q'
theorem w_mk (K : PySem.W.Frag) (t : TE) (T : DA) (h : RdN K t T) : RdE K t (dMk T) := fun F H σ ρ s Q R g en q k => h F H σ ρ s _ R g en q fun F' H' s' p xs ds st g' h0 hF hs hH ra q' => by
  obtain ⟨st2, g2⟩ := stp_own (u := .lst ds) g' hF h0 st ⟨xs, hH, ra⟩
  exact k F' H' (ups s' p (.lst ds)) (.ref p) (.adr p) st2 g2 (.adr p) (q' p hs)
end

/-! ### calls -/
abbrev Gd := List Dat → Sto → (Dat → Sto → Prop) → Prop
/-- a def's promise by data -/
def spD (K : PySem.W.Frag) (g : Gd) : Sp := fun vs H Q _ => ∃ F s ds Q', Good K F H s ∧ RpA K F vs ds ∧ g ds s Q' ∧ ∀ F' H' s' v d, Stp F H s F' H' s' → Good K F' H' s' → Rp K F' v d → Q' d s' → Q v H'
section
variable {X : Cx} {CX : CXT} {k : Nat} {f C : Addr} {fd : FuncData} {ps ks : List Str} {g : Gd} {dvs : List V} {dds : List Dat} {ds : List Value} {E : XK} {x m : Str} {p pos apos : Pos} {e o : Expr} {es : List Expr} {kws : List Keyword} {ta : TE} {t tk : TA} {T U : DA}
def dCall (g : Gd) (dds : List Dat) (T : DA) : DE := fun ρ s Q => T ρ s fun ds s1 => g (ds ++ dds) s1 Q
theorem rd_call {K : PySem.W.Frag} (h : RdA K t T) (hd : ∀ F, RpA K F dvs dds) : RdE K (tCall (spD K g) dvs E t) (dCall g dds T) := fun F H σ ρ s Q R gd en q k =>
  h F H σ ρ s _ _ gd en q fun F1 H1 s1 vs ds st1 g1 r1 q1 => ⟨F1, s1, ds ++ dds, Q, g1, r1.append (hd F1), q1, fun F' H' s' v d st' g' r' q' => k F' H' s' v d (st1.trans st') g' r' q'⟩
theorem re_call {K : PySem.W.Frag} (hK : X.K = K) (F : FnOk X.prog X.w X.K X.mg X.base CX k f fd ps (spD X.K g)) (hr : Room k X.A) (hg : Gl X x) (hm : X.mg x = some (.ref f)) (hk : PySem.W.keepIn X.K (.ref f) = true) (hb : Binds X.K fd ps ds) (hd : Vals dvs ds) (hD : ∀ F, RpA X.K F dvs dds) (hx : Passes CX X E)
    (ha : RA X (e :: es) t T) (hdb : (x == ("__debug__" : Str)) = false := by decide) (he : starEach (e :: es) X.env = (false, eval e X.env) :: starEach es X.env := by rfl) (hpl : (backTo pos (starEach es X.env)).any (·.1) = false := by rfl) :
    RE X (.Call (.Name x p) (e :: es) [] pos) (tCall (spD K g) dvs E t) (dCall g dds T) := by
  subst hK
  exact ⟨pe_call F hr hg hm hk hb hd hx ha.pa hdb he hpl, rd_call ha.rd hD⟩
theorem rpa_nil {K : PySem.W.Frag} (F : Hp) : RpA K F [] [] := .nil

/-- f(e, .., k = v, ..) -/
structure GB (K : PySem.W.Frag) (gV : List V → List V → List V) (gD : List Dat → List Dat → List Dat) : Prop where
  to : ∀ F vs zs ds es, RpA K F vs ds → RpA K F zs es → RpA K F (gV vs zs) (gD ds es)
def dCallK (g : Gd) (gD : List Dat → List Dat → List Dat) (T U : DA) : DE := fun ρ s Q => T ρ s fun ds s1 => U ρ s1 fun es s2 => g (gD ds es) s2 Q
structure RK (X : Cx) (kws : List Keyword) (t : TA) (T : DA) : Prop where
  pk : PK X kws t
  rd : RdA X.K t T
theorem rk_nil : RK X [] tNil dNil := ⟨pk_nil, ra_nil.rd⟩
theorem rk_cons {te : TE} {Te : DE} {nm : Option Str} {kpos : Pos} (h : RE X e te Te) (hr : RK X kws t T) : RK X (⟨nm, e, kpos⟩ :: kws) (tCons te t) (dCons Te T) := ⟨pk_cons h.pe hr.pk, fun F H σ ρ s Q R g en q k => h.rd F H σ ρ s _ _ g en q fun F1 H1 s1 v d st1 g1 r1 q1 =>
    hr.rd F1 H1 σ ρ s1 _ _ g1 (en.mono st1.fz) q1 fun F2 H2 s2 vs ds st2 g2 r2 q2 => k F2 H2 s2 (v :: vs) (d :: ds) (st1.trans st2) g2 (.cons (r1.mono st2.fz) r2) q2⟩
theorem rd_callK {K : PySem.W.Frag} {gV : List V → List V → List V} {gD : List Dat → List Dat → List Dat} (h : RdA K t T) (hu : RdA K tk U) (gb : GB K gV gD) : RdE K (tCallK (spD K g) gV E t tk) (dCallK g gD T U) := fun F H σ ρ s Q R gd en q k =>
  h F H σ ρ s _ _ gd en q fun F1 H1 s1 vs ds st1 g1 r1 q1 => hu F1 H1 σ ρ s1 _ _ g1 (en.mono st1.fz) q1 fun F2 H2 s2 zs es st2 g2 r2 q2 =>
    ⟨F2, s2, gD ds es, Q, g2, gb.to F2 vs zs ds es (r1.mono st2.fz) r2, q2, fun F' H' s' v d st' g' r' q' => k F' H' s' v d ((st1.trans st2).trans st') g' r' q'⟩
end

/-! ### a def -/
def startD (N : List Str) (ds : List Dat) : En := ds.map some ++ List.replicate (N.length - ds.length) none
theorem gt_eq : ∀ (ρ : En) (i : Nat), gt ρ i = (ρ[i]?).join
  | [], i => by simp [gt]
  | x :: r, 0 => by simp [gt]
  | x :: r, n + 1 => by simp [gt]; exact gt_eq r n
theorem env_start {K : PySem.W.Frag} {F : Hp} {N : List Str} {vs : List V} {ds : List Dat} (r : RpA K F vs ds) : EnvOk K F (L2.start N vs) (startD N ds) := by
  have hl := r.length
  refine ⟨by unfold L2.start startD; simp [hl], fun i d e => ?_⟩
  rw [gt_eq] at e
  unfold startD at e
  by_cases hi : i < ds.length
  · rw [List.getElem?_append_left (by simpa using hi), List.getElem?_map] at e
    cases ed : ds[i]? with
    | none => rw [ed] at e; cases e
    | some d' =>
      rw [ed] at e
      have e' : d' = d := Option.some.inj e
      subst e'
      obtain ⟨v, ev, rv⟩ := r.get ed
      refine ⟨v, ?_, rv⟩
      unfold L2.start
      rw [List.getElem?_append_left (by simpa [hl] using hi), List.getElem?_map, ev]
      rfl
  · rw [List.getElem?_append_right (by simpa using hi), List.getElem?_replicate] at e
    split at e <;> cases e
/-- what is wanted at a def's end: objects may be forgotten -/
def endD (Q : Dat → Sto → Prop) : DEnds := ⟨fun _ s => ∃ s', (∀ a o, s' a = some o → s a = some o) ∧ Q .non s', fun d s => ∃ s', (∀ a o, s' a = some o → s a = some o) ∧ Q d s', fun _ _ => False, fun _ _ => False⟩
section
variable {P : Program} {w : World} {K : PySem.W.Frag} {mg : Str → Option Value} {base : Heap}
/-- THE RULE for a def that lets no exception out -/
theorem fun_ok {x qual : Str} {st : Stmt} {f : Addr} {fd : FuncData} {N ps : List Str} {k : Nat} {g : Gd} (F : Fun K x qual st f fd) (S : FnScope N ps (defScope st)) (len : ∀ ds s Q, g ds s Q → ds.length = ps.length)
    (hbody : ∀ (cdv : Value) (A : Around) (outer : List Env) (s : Shared) (H : Hp) (E : XK), Room k (A.deeper (envOfC qual (defScope st) s.heap.objs.size f cdv)) →
      ∃ t T, RSs (cxOf CX0 P w K mg base N qual (defScope st) f cdv A outer s H E).nox (defBody st) t T ∧ ∀ ds s Q, g ds s Q → T (endD Q) (startD N ds) s) : FnOk P w K mg base CX0 (k + 1) f fd ps (spD K g) := by
  refine F.ok S (fun vs H Q E h => ?_) (fun cdv A outer s H vs Q E hr h => ?_)
  · obtain ⟨F1, s1, ds, Q', g1, r1, q1, _⟩ := h
    rw [r1.length]; exact len _ _ _ q1
  · obtain ⟨t, T, ht, hq⟩ := hbody cdv A outer s H E hr
    obtain ⟨F1, s1, ds, Q', g1, r1, q1, k1⟩ := h
    refine ⟨t, ht.ps, ?_⟩
    refine ht.rd F1 H (L2.start N vs) (startD N ds) s1 (endD Q') _ g1 (env_start r1) (hq ds s1 Q' q1) ⟨fun F' H' s' σ' ρ' st g' en' ⟨s2, hs, q'⟩ => ?_, fun F' H' s' v d st g' r' ⟨s2, hs, q'⟩ => ?_, fun _ _ _ _ _ _ _ _ z => z.elim, fun _ _ _ _ _ _ _ _ z => z.elim⟩
    · obtain ⟨st2, g2⟩ := stp_less g' hs st
      exact k1 F' H' s2 .non .non st2 g2 .non q'
    · obtain ⟨st2, g2⟩ := stp_less g' hs st
      exact k1 F' H' s2 v d st2 g2 r' q'
end
end DL

/-! The data layer, 4: what the built-in operations do to data. -/
namespace DL
open PySem PySem.Spec PyProof.Rows L2

/-! ### lists as they are read -/
def onL (s : Sto) (d : Dat) (k : List Dat → Prop) : Prop := match d with
  | .lst ds => k ds
  | .rol ds => k ds
  | .adr p => ∃ ds, s p = some (.lst ds) ∧ k ds
  | _ => False
/-- lists that may stand beside + -/
def onM (s : Sto) (d : Dat) (k : List Dat → Prop) : Prop := match d with
  | .lst ds => k ds
  | .adr p => ∃ ds, s p = some (.lst ds) ∧ k ds
  | _ => False
def onT (d : Dat) (k : List Dat → Prop) : Prop := match d with
  | .tup ds => k ds
  | _ => False
def onI (d : Dat) (k : Int → Prop) : Prop := match d with
  | .int i => k i
  | _ => False
def onS (d : Dat) (k : Str → Prop) : Prop := match d with
  | .str i => k i
  | _ => False
section
variable {K : PySem.W.Frag} {F H : Hp} {s : Sto} {x : V} {d : Dat} {k : List Dat → Prop}
theorem onL_ok (g : Good K F H s) (r : Rp K F x d) (h : onL s d k) : ∃ a xs ds, x = .ref a ∧ SqL K H a xs ∧ RpA K F xs ds ∧ k ds := by
  cases r <;> first | exact (h : False).elim | skip
  · rename_i a xs ds h1 h2
    exact ⟨_, _, _, rfl, SqL.of (g.fz _ _ h1), h2, h⟩
  · rename_i a xs ds h1 h2
    exact ⟨_, _, _, rfl, Same.seq g.fz h1, h2, h⟩
  · obtain ⟨ds, e, h⟩ := h
    obtain ⟨_, xs, h1, h2⟩ := g.st _ _ e
    exact ⟨_, _, _, rfl, SqL.of h1, h2, h⟩
theorem onM_ok (g : Good K F H s) (r : Rp K F x d) (h : onM s d k) : ∃ a xs ds, x = .ref a ∧ H a = some (.lst xs) ∧ RpA K F xs ds ∧ k ds := by
  cases r <;> first | exact (h : False).elim | skip
  · rename_i a xs ds h1 h2
    exact ⟨_, _, _, rfl, (g.fz _ _ h1), h2, h⟩
  · obtain ⟨ds, e, h⟩ := h
    obtain ⟨_, xs, h1, h2⟩ := g.st _ _ e
    exact ⟨_, _, _, rfl, h1, h2, h⟩
theorem onT_ok (g : Good K F H s) (r : Rp K F x d) (h : onT d k) : ∃ a xs ds, x = .ref a ∧ F a = some (.tup xs) ∧ SqT K H a xs ∧ RpA K F xs ds ∧ k ds := by
  cases r <;> first | exact (h : False).elim | skip
  rename_i a xs ds h1 h2
  exact ⟨_, _, _, rfl, h1, SqT.of (g.fz _ _ h1), h2, h⟩
theorem onI_ok {k : Int → Prop} (r : Rp K F x d) (h : onI d k) : ∃ i, d = .int i ∧ x = .int i ∧ k i := by
  cases r <;> first | exact (h : False).elim | skip
  exact ⟨_, rfl, rfl, h⟩
theorem onS_ok {k : Str → Prop} (r : Rp K F x d) (h : onS d k) : ∃ i, d = .str i ∧ x = .str i ∧ k i := by
  cases r <;> first | exact (h : False).elim | skip
  exact ⟨_, rfl, rfl, h⟩
theorem rpa1 {xs : List V} {d : Dat} (r : RpA K F xs [d]) : ∃ x, xs = [x] ∧ Rp K F x d := by
  cases r with
  | cons h1 h2 => cases h2; exact ⟨_, rfl, h1⟩
theorem rpa2 {xs : List V} {d e : Dat} (r : RpA K F xs [d, e]) : ∃ x y, xs = [x, y] ∧ Rp K F x d ∧ Rp K F y e := by
  cases r with
  | cons h1 h2 =>
    cases h2 with
    | cons h3 h4 => cases h4; exact ⟨_, _, rfl, h1, h3⟩
end

/-! ### two ints, two texts -/
def wI (C : Int → Int → Prop) (f : Int → Int → Dat) : Sto → Dat → Dat → (Dat → Prop) → Prop := fun _ d e Q => onI d fun i => onI e fun j => C i j ∧ Q (f i j)
def wI0 (f : Int → Int → Dat) : Sto → Dat → Dat → (Dat → Prop) → Prop := fun _ d e Q => onI d fun i => onI e fun j => Q (f i j)
section
variable {K : PySem.W.Frag}
theorem od_i {C : Int → Int → Prop} {f : Int → Int → V} {fd : Int → Int → Dat} (hf : ∀ F i j, Rp K F (f i j) (fd i j)) : OpD K (rI C f) (wI C fd) := fun F H s x y d e Q R g r1 r2 h k => by
  obtain ⟨i, _, rfl, h⟩ := onI_ok r1 h
  obtain ⟨j, _, rfl, h⟩ := onI_ok r2 h
  exact ⟨i, j, rfl, rfl, h.1, k F H _ _ (Stp.refl _ _ _) g (hf F i j) h.2⟩
theorem od_i0 {f : Int → Int → V} {fd : Int → Int → Dat} (hf : ∀ F i j, Rp K F (f i j) (fd i j)) : OpD K (rI0 f) (wI0 fd) := fun F H s x y d e Q R g r1 r2 h k => by
  obtain ⟨i, _, rfl, h⟩ := onI_ok r1 h
  obtain ⟨j, _, rfl, h⟩ := onI_ok r2 h
  exact ⟨i, j, rfl, rfl, k F H _ _ (Stp.refl _ _ _) g (hf F i j) h⟩
/-- + of ints, of texts, of tuples -/
def wAdd : Sto → Dat → Dat → (Dat → Prop) → Prop := fun _ d e Q => match d with
  | .int i => onI e fun j => Q (.int (i + j))
  | .str a => onS e fun b => a.length + b.length ≤ sizeLine ∧ Q (.str (a ++ b))
  | .tup xs => onT e fun ys => xs.length + ys.length ≤ sizeLine ∧ Q (.tup (xs ++ ys))
  | _ => False
end
section
variable {X : Cx}
def rAdd3 (K : PySem.W.Frag) : R2 := fun x y H Q => rI0 (fun i j => .int (i + j)) x y H Q ∨ (∃ i j, x = .str i ∧ y = .str j ∧ i.length + j.length ≤ sizeLine ∧ Q (.str (i ++ j)) H) ∨ rCatA K x y H Q
theorem or_add : OpR X (binaryOp .Add) (rAdd3 X.K) := OpR.or op_add (OpR.or op_add_str op_catA)
end
section
variable {K : PySem.W.Frag}
theorem od_add : OpD K (rAdd3 K) wAdd := fun F H s x y d e Q R g r1 r2 h k => by
  cases r1 <;> first | exact (h : False).elim | skip
  · obtain ⟨j, _, rfl, h⟩ := onI_ok r2 h
    exact .inl ⟨_, j, rfl, rfl, k F H _ _ (Stp.refl _ _ _) g (.int _) h⟩
  · obtain ⟨j, _, rfl, h⟩ := onS_ok r2 h
    exact .inr (.inl ⟨_, j, rfl, rfl, h.1, k F H _ _ (Stp.refl _ _ _) g (.str _) h.2⟩)
  · rename_i a xs ds h1 h2
    obtain ⟨b, ys, es, rfl, sF, sH, r3, hl, q⟩ := onT_ok g r2 h
    refine .inr (.inr ⟨a, b, xs, ys, rfl, rfl, SqT.of (g.fz _ _ h1), sH, by rw [h2.length, r3.length]; exact hl, fun e => ?_, fun _ e => ?_, fun _ _ p hp => ?_⟩)
    · subst e
      cases h2
      exact k F H _ _ (Stp.refl _ _ _) g (.tup sF r3) q
    · subst e
      cases r3
      rw [List.append_nil] at q
      exact k F H _ _ (Stp.refl _ _ _) g (.tup h1 h2) q
    · obtain ⟨st2, g2⟩ := stp_new (o := .tup (xs ++ ys)) g hp
      exact k _ _ _ _ st2 g2 (.tup upd_same ((h2.append r3).mono st2.fz)) q
def wCat : Sto → Dat → Dat → (List Dat → Prop) → Prop := fun s d e Q => onM s d fun xs => onM s e fun ys => xs.length + ys.length ≤ sizeLine ∧ Q (xs ++ ys)
theorem on_cat : OpN K rCat wCat := fun F H s x y d e Q R g r1 r2 h k => by
  obtain ⟨a, xs, ds, rfl, h1, r3, h⟩ := onM_ok g r1 h
  obtain ⟨b, ys, es, rfl, h2, r4, hl, q⟩ := onM_ok g r2 h
  refine ⟨a, b, xs, ys, rfl, rfl, h1, h2, by rw [r3.length, r4.length]; exact hl, fun p hp => ?_⟩
  obtain ⟨st2, g2⟩ := stp_raw (o := .lst (xs ++ ys)) g hp
  exact k _ p _ _ st2 g2 hp upd_same (r3.append r4) q
def wRep : Sto → Dat → Dat → (List Dat → Prop) → Prop := fun s d e Q => onM s d fun xs => onI e fun n => (-(2 ^ 63) ≤ n ∧ n < 2 ^ 63 ∧ xs.length * n.toNat ≤ sizeLine) ∧ Q (List.replicate n.toNat xs).flatten
theorem on_rep : OpN K rRep wRep := fun F H s x y d e Q R g r1 r2 h k => by
  obtain ⟨a, xs, ds, rfl, h1, r3, h⟩ := onM_ok g r1 h
  obtain ⟨n, _, rfl, hb, q⟩ := onI_ok r2 h
  refine ⟨a, n, xs, rfl, rfl, h1, hb.1, hb.2.1, by rw [r3.length]; exact hb.2.2, fun p hp => ?_⟩
  obtain ⟨st2, g2⟩ := stp_raw (o := .lst (List.replicate n.toNat xs).flatten) g hp
  exact k _ p _ _ st2 g2 hp upd_same (r3.flatten_rep _) q

/-! ### items and slices -/
theorem atI_rp {F : Hp} {xs : List V} {ds : List Dat} {i : Int} {y : Dat} (r : RpA K F xs ds) (h : atI ds i = some y) : ∃ v, atI xs i = some v ∧ Rp K F v y := by
  unfold atI at h ⊢
  rw [r.length]
  cases e : ixN ds.length i with
  | none => rw [e] at h; cases h
  | some j =>
    rw [e] at h
    exact r.get h
def wIx : Sto → Dat → Dat → (Dat → Prop) → Prop := fun s d e Q => match d with
  | .str z => onI e fun i => z.length ≤ sizeLine ∧ ∃ c, atI z.cps.toList i = some c ∧ Q (.str ⟨#[c]⟩)
  | .tup ds => onI e fun i => ∃ y, atI ds i = some y ∧ Q y
  | d => onL s d fun ds => onI e fun i => ∃ y, atI ds i = some y ∧ Q y
theorem od_ix : OpD K (rIx K) wIx := fun F H s x y d e Q R g r1 r2 h k => by
  have lst : onL s d (fun ds => onI e fun i => ∃ y, atI ds i = some y ∧ Q y) → rIx K x y H R := fun h => by
    obtain ⟨a, xs, ds, rfl, h1, r3, h⟩ := onL_ok g r1 h
    obtain ⟨i, _, rfl, z, hz, q⟩ := onI_ok r2 h
    obtain ⟨v, hv, rv⟩ := atI_rp r3 hz
    exact .inl ⟨a, xs, i, v, rfl, rfl, h1, hv, k F H _ _ (Stp.refl _ _ _) g rv q⟩
  cases d <;> first | exact lst h | skip
  · rename_i z
    cases r1
    obtain ⟨i, _, rfl, hl, c, hc, q⟩ := onI_ok r2 h
    exact .inr (.inr ⟨z, i, c, rfl, rfl, hl, hc, k F H _ _ (Stp.refl _ _ _) g (.str _) q⟩)
  · rename_i ds
    obtain ⟨a, xs, ds, rfl, _, h1, r3, h⟩ := onT_ok (k := fun ds => onI e fun i => ∃ y, atI ds i = some y ∧ Q y) g r1 h
    obtain ⟨i, _, rfl, z, hz, q⟩ := onI_ok r2 h
    obtain ⟨v, hv, rv⟩ := atI_rp r3 hz
    exact .inr (.inl ⟨a, xs, i, v, rfl, rfl, h1, hv, k F H _ _ (Stp.refl _ _ _) g rv q⟩)
end
def cutG {α : Type} (xs : List α) (lo hi : Option Int) : List α := (xs.drop (HT.sIx xs.length 0 lo)).take (HT.sIx xs.length xs.length hi - HT.sIx xs.length 0 lo)
theorem cutG_rp {K : PySem.W.Frag} {F : Hp} {xs : List V} {ds : List Dat} {lo hi : Option Int} (r : RpA K F xs ds) : RpA K F (cutV xs lo hi) (cutG ds lo hi) := by
  unfold cutV cutG
  rw [r.length]
  exact (r.drop _).take _
abbrev DO := En → Sto → (Option Int → Sto → Prop) → Prop
def RdO (K : PySem.W.Frag) (t : L2.St → Hp → (Option Int → Hp → Prop) → Prop) (T : DO) : Prop := ∀ (F H : Hp) (σ : L2.St) (ρ : En) (s : Sto) (Q : Option Int → Sto → Prop) (R : Option Int → Hp → Prop), Good K F H s → EnvOk K F σ ρ → T ρ s Q →
  (∀ F' H' s' o, Stp F H s F' H' s' → Good K F' H' s' → Q o s' → R o H') → t σ H R
structure RO (X : Cx) (e : Option Expr) (t : L2.St → Hp → (Option Int → Hp → Prop) → Prop) (T : DO) : Prop where
  po : PO X e t
  rd : RdO X.K t T
section
variable {X : Cx} {e a b c : Expr} {es : List Expr} {t te ta tb : TE} {T Te Ta Tb : DE} {pos : Pos}
def dNoP : DO := fun _ s Q => Q none s
def dPart (T : DE) : DO := fun ρ s Q => T ρ s fun d s1 => onI d fun i => Q (some i) s1
theorem ro_none : RO X none tNoPart dNoP := ⟨po_none, fun F H σ ρ s Q R g en q k => k F H s none (Stp.refl _ _ _) g q⟩
theorem ro_some (h : RE X e t T) : RO X (some e) (tPart t) (dPart T) := ⟨po_some h.pe, fun F H σ ρ s Q R g en q k => h.rd F H σ ρ s _ _ g en q fun F1 H1 s1 v d st1 g1 r1 q1 => by
    obtain ⟨i, _, rfl, q⟩ := onI_ok r1 q1
    exact ⟨i, rfl, k F1 H1 s1 _ st1 g1 q⟩⟩
/-- a slice of a text or a tuple -/
def wSl : Dat → Option Int → Option Int → (Dat → Prop) → Prop := fun d lo hi Q => match d with
  | .str z => z.length ≤ sizeLine ∧ Q (.str (cutS z lo hi))
  | .tup ds => Q (.tup (cutG ds lo hi))
  | _ => False
def dSl (T : DE) (L U : DO) : DE := fun ρ s Q => T ρ s fun d s1 => L ρ s1 fun lo s2 => U ρ s2 fun hi s3 => wSl d lo hi fun z => Q z s3
def dSlN (T : DE) (L U : DO) : DA := fun ρ s Q => T ρ s fun d s1 => L ρ s1 fun lo s2 => U ρ s2 fun hi s3 => onL s3 d fun ds => Q (cutG ds lo hi) s3
def rSlST (K : PySem.W.Frag) : V → Option Int → Option Int → Hp → VK → Prop := fun x lo hi H Q => rSlS x lo hi H Q ∨ rSlA K x lo hi H Q
theorem sl_st : SlR X (rSlST X.K) := SlR.or sl_str sl_tupA
theorem re_slice {K : PySem.W.Frag} (hK : X.K = K) {tl th : L2.St → Hp → (Option Int → Hp → Prop) → Prop} {L U : DO} {lo hi : Option Expr} {p2 : Pos} (h : RE X e te Te) (hl : RO X lo tl L) (hu : RO X hi th U) (f : PE X e te → PO X lo tl → PO X hi th → PE X (.Subscript e (.Slice lo hi none p2) pos) (tSl (rSlST X.K) te tl th) := by exact fun a b c => pe_slice sl_st a b c) :
    RE X (.Subscript e (.Slice lo hi none p2) pos) (tSl (rSlST K) te tl th) (dSl Te L U) := by
  subst hK
  exact ⟨f h.pe hl.po hu.po, fun F H σ ρ s Q R g en q k => h.rd F H σ ρ s _ _ g en q fun F1 H1 s1 v d st1 g1 r1 q1 =>
    hl.rd F1 H1 σ ρ s1 _ _ g1 (en.mono st1.fz) q1 fun F2 H2 s2 lo st2 g2 q2 => hu.rd F2 H2 σ ρ s2 _ _ g2 (en.mono (st1.fz.trans st2.fz)) q2 fun F3 H3 s3 hi st3 g3 q3 => by
      have st := (st1.trans st2).trans st3
      have r3 := r1.mono (st2.fz.trans st3.fz)
      cases r3 <;> first | exact (q3 : False).elim | skip
      · exact .inl ⟨_, rfl, q3.1, k F3 H3 s3 _ _ st g3 (.str _) q3.2⟩
      · rename_i a xs ds h1 h2
        refine .inr ⟨a, xs, rfl, SqT.of (g3.fz _ _ h1), fun w => ?_, fun w p hp => ?_⟩
        · have e : cutG ds lo hi = ds := by
            unfold cutG
            rw [← h2.length, w.1, w.2, h2.length]
            simp
          have q3 : Q (.tup (cutG ds lo hi)) s3 := q3
          rw [e] at q3
          exact k F3 H3 s3 _ _ st g3 (.tup h1 h2) q3
        · obtain ⟨st4, g4⟩ := stp_new (o := .tup (cutV xs lo hi)) g3 hp
          exact k _ _ s3 _ _ (st.trans st4) g4 (.tup upd_same ((cutG_rp h2).mono st4.fz)) q3⟩
theorem rn_slice {K : PySem.W.Frag} (hK : X.K = K) {tl th : L2.St → Hp → (Option Int → Hp → Prop) → Prop} {L U : DO} {lo hi : Option Expr} {p2 : Pos} (h : RE X e te Te) (hl : RO X lo tl L) (hu : RO X hi th U) (f : PE X e te → PO X lo tl → PO X hi th → PE X (.Subscript e (.Slice lo hi none p2) pos) (tSl (rSlL X.K) te tl th) := by exact fun a b c => pe_slice sl_list a b c) :
    RN X (.Subscript e (.Slice lo hi none p2) pos) (tSl (rSlL K) te tl th) (dSlN Te L U) := by
  subst hK
  exact ⟨f h.pe hl.po hu.po, fun F H σ ρ s Q R g en q k => h.rd F H σ ρ s _ _ g en q fun F1 H1 s1 v d st1 g1 r1 q1 =>
    hl.rd F1 H1 σ ρ s1 _ _ g1 (en.mono st1.fz) q1 fun F2 H2 s2 lo st2 g2 q2 => hu.rd F2 H2 σ ρ s2 _ _ g2 (en.mono (st1.fz.trans st2.fz)) q2 fun F3 H3 s3 hi st3 g3 q3 => by
      have st := (st1.trans st2).trans st3
      obtain ⟨a, xs, ds, rfl, h1, r4, q⟩ := onL_ok g3 (r1.mono (st2.fz.trans st3.fz)) q3
      refine ⟨a, xs, rfl, h1, fun p hp => ?_⟩
      obtain ⟨st4, g4⟩ := stp_raw (o := .lst (cutV xs lo hi)) g3 hp
      exact k F3 _ s3 p _ _ (st.trans st4) g4 (st.fresh hp) (g3.freeF hp) (g3.freeS hp) upd_same (cutG_rp r4) q⟩
/-- xs[::-1] -/
def dRevL (T : DE) : DA := fun ρ s Q => T ρ s fun d s1 => onL s1 d fun ds => Q ds.reverse s1
theorem rn_rev {K : PySem.W.Frag} (hK : X.K = K) {k1 : Nat} {p1 p2 p3 : Pos} (h : RE X e te Te) (f : PE X e te → PE X (.Subscript e (.Slice none none (some (.UnaryOp .USub (.Constant (.int 1) k1 p1) p2)) p3) pos) (tRevL X.K te) := by exact fun a => pe_revL a) :
    RN X (.Subscript e (.Slice none none (some (.UnaryOp .USub (.Constant (.int 1) k1 p1) p2)) p3) pos) (tRevL K te) (dRevL Te) := by
  subst hK
  exact ⟨f h.pe, fun F H σ ρ s Q R g en q k => h.rd F H σ ρ s _ _ g en q fun F1 H1 s1 v d st1 g1 r1 q1 => by
      obtain ⟨a, xs, ds, rfl, h1, r4, q⟩ := onL_ok g1 r1 q1
      refine ⟨a, xs, rfl, h1, fun p hp => ?_⟩
      obtain ⟨st4, g4⟩ := stp_raw (o := .lst xs.reverse) g1 hp
      exact k F1 _ s1 p _ _ (st1.trans st4) g4 (st1.fresh hp) (g1.freeF hp) (g1.freeS hp) upd_same r4.rev q⟩
end

/-! ### comparisons -/
def vw (s : Sto) (d : Dat) : Dat := match d with
  | .adr p => match s p with
    | some (.lst ds) => .lst ds
    | _ => .adr p
  | d => d
mutual
def toPy : Dat → PyData
  | .non => .none
  | .bl b => .bool b
  | .int i => .int i
  | .str x => .str x
  | .lst ds => .list (toPys ds)
  | .rol ds => .list (toPys ds)
  | .tup ds => .tuple (toPys ds)
  | .adr _ => .none
  | .ty _ => .none
def toPys : List Dat → List PyData
  | [] => []
  | d :: ds => toPy d :: toPys ds
end
mutual
/-- data of so few levels that == is asked of it -/
def eqOk : Nat → Dat → Bool
  | _, .non => true
  | _, .bl _ => true
  | _, .int _ => true
  | _, .str x => PyData.strOk x
  | n + 1, .lst ds => eqOks n ds
  | n + 1, .rol ds => eqOks n ds
  | n + 1, .tup ds => eqOks n ds
  | _, _ => false
def eqOks : Nat → List Dat → Bool
  | _, [] => true
  | n, d :: ds => eqOk n d && eqOks n ds
end
def eqD (d e : Dat) : Bool := PyData.eqv (toPy d) (toPy e)
section
variable {K : PySem.W.Frag} {F H : Hp} {s : Sto}
mutual
theorem dp_of (sm : Same F H) : ∀ {n : Nat} {d : Dat} {x : V}, eqOk n d = true → Rp K F x d → Dp K H x (toPy d)
  | n, .non, _, _, r => by cases r; exact .non
  | n, .bl _, _, _, r => by cases r; exact .bl _
  | n, .int _, _, _, r => by cases r; exact .int _
  | n, .str _, _, _, r => by cases r; exact .str _
  | n + 1, .lst ds, _, h, r => by
    cases r with
    | lst h1 h2 => exact .lst (SqL.of (sm _ _ h1)) (dps_of (n := n) sm (by simpa only [eqOk] using h) h2)
  | n + 1, .rol ds, _, h, r => by
    cases r with
    | rol h1 h2 => exact .lst (Same.seq sm h1) (dps_of (n := n) sm (by simpa only [eqOk] using h) h2)
  | n + 1, .tup ds, _, h, r => by
    cases r with
    | tup h1 h2 => exact .tup (SqT.of (sm _ _ h1)) (dps_of (n := n) sm (by simpa only [eqOk] using h) h2)
  | 0, .lst ds, _, h, _ => by simp [eqOk] at h
  | 0, .rol ds, _, h, _ => by simp [eqOk] at h
  | 0, .tup ds, _, h, _ => by simp [eqOk] at h
  | n, .adr _, _, h, _ => by simp [eqOk] at h
  | n, .ty _, _, h, _ => by simp [eqOk] at h
theorem dps_of (sm : Same F H) : ∀ {n : Nat} {ds : List Dat} {xs : List V}, eqOks n ds = true → RpA K F xs ds → DpAll K H xs (toPys ds)
  | _, [], _, _, r => by cases r; exact .nil
  | n, d :: ds, _, h, r => by
    cases r with
    | cons h1 h2 =>
      simp only [eqOks, Bool.and_eq_true] at h
      exact .cons (dp_of sm h.1 h1) (dps_of sm h.2 h2)
end
mutual
theorem shape_of : ∀ {n : Nat} {d : Dat}, eqOk n d = true → PyData.canLay0 (toPy d) = true ∧ PyData.depth (toPy d) ≤ n
  | n, .non, _ => by simp [toPy, PyData.canLay0, PyData.depth]
  | n, .bl _, _ => by simp [toPy, PyData.canLay0, PyData.depth]
  | n, .int _, _ => by simp [toPy, PyData.canLay0, PyData.depth]
  | n, .str x, h => by simp only [eqOk] at h; simp [toPy, PyData.canLay0, PyData.depth, h]
  | n + 1, .lst ds, h => by
    have q := shapes_of (n := n) (ds := ds) (by simpa only [eqOk] using h)
    exact ⟨by simpa only [toPy, PyData.canLay0] using q.1, by simp only [toPy, PyData.depth]; omega⟩
  | n + 1, .rol ds, h => by
    have q := shapes_of (n := n) (ds := ds) (by simpa only [eqOk] using h)
    exact ⟨by simpa only [toPy, PyData.canLay0] using q.1, by simp only [toPy, PyData.depth]; omega⟩
  | n + 1, .tup ds, h => by
    have q := shapes_of (n := n) (ds := ds) (by simpa only [eqOk] using h)
    exact ⟨by simpa only [toPy, PyData.canLay0] using q.1, by simp only [toPy, PyData.depth]; omega⟩
  | 0, .lst ds, h => by simp [eqOk] at h
  | 0, .rol ds, h => by simp [eqOk] at h
  | 0, .tup ds, h => by simp [eqOk] at h
  | n, .adr _, h => by simp [eqOk] at h
  | n, .ty _, h => by simp [eqOk] at h
theorem shapes_of : ∀ {n : Nat} {ds : List Dat}, eqOks n ds = true → PyData.canLayAll0 (toPys ds) = true ∧ PyData.depthAll (toPys ds) ≤ n
  | n, [], _ => by simp [toPys, PyData.canLayAll0, PyData.depthAll]
  | n, d :: ds, h => by
    simp only [eqOks, Bool.and_eq_true] at h
    have a := shape_of h.1
    have b := shapes_of h.2
    refine ⟨by simp only [toPys, PyData.canLayAll0, Bool.and_eq_true]; exact ⟨a.1, b.1⟩, ?_⟩
    simp only [toPys, PyData.depthAll]
    omega
end
theorem shaped_ok {n : Nat} {d : Dat} (h : eqOk n d = true) (hn : n ≤ 64) : SeqAt.shaped (toPy d) = true := by
  have q := shape_of h
  unfold SeqAt.shaped
  rw [q.1, decide_eq_true (Nat.le_trans q.2 hn)]
  rfl
theorem dp_vw {d : Dat} {x : V} {n : Nat} (g : Good K F H s) (h : eqOk n (vw s d) = true) (r : Rp K F x d) : Dp K H x (toPy (vw s d)) := by
  cases d <;> first | exact dp_of g.fz h r | skip
  rename_i p
  have h' := h
  unfold vw at h' ⊢
  simp only at h' ⊢
  cases e : s p with
  | none => rw [e] at h'; simp [eqOk] at h'
  | some o =>
    rw [e] at h'
    cases o <;> first | (simp [eqOk] at h'; done) | skip
    rename_i ds
    obtain ⟨_, xs, h1, h2⟩ := g.st p _ e
    cases r
    cases n with
    | zero => simp [eqOk] at h'
    | succ n => exact .lst (SqL.of h1) (dps_of (n := n) g.fz (by simpa only [eqOk] using h') h2)
/-- == of plain values, or of lists and tuples -/
def wEqB (s : Sto) (d e : Dat) (Q : Bool → Prop) : Prop := match d, e with
  | .str a, .str b => Q (decide (a = b))
  | .int a, .int b => Q (decide (a = b))
  | .bl a, .bl b => Q (decide (a = b))
  | .non, .non => Q true
  | .non, .int _ => Q false
  | .non, .str _ => Q false
  | .int _, .non => Q false
  | .str _, .non => Q false
  | d, e => (eqOk 64 (vw s d) = true ∧ eqOk 64 (vw s e) = true) ∧ Q (eqD (vw s d) (vw s e))
def wEq : Sto → Dat → Dat → (Dat → Prop) → Prop := fun s d e Q => wEqB s d e fun b => Q (.bl b)
def wNe : Sto → Dat → Dat → (Dat → Prop) → Prop := fun s d e Q => wEqB s d e fun b => Q (.bl (!b))
def rEqA (K : PySem.W.Frag) : R2 := fun x y H Q => rEq x y H Q ∨ rEqD K x y H Q
def rNeA (K : PySem.W.Frag) : R2 := fun x y H Q => rNe x y H Q ∨ rNeD K x y H Q
theorem eqB_ok {x y : V} {d e : Dat} {Q : Bool → Prop} (g : Good K F H s) (r1 : Rp K F x d) (r2 : Rp K F y e) (h : wEqB s d e Q) :
    (scal x y = true ∧ Q (decide (x = y))) ∨ ∃ p q, Dp K H x p ∧ Dp K H y q ∧ SeqAt.shaped p = true ∧ SeqAt.shaped q = true ∧ Q (PyData.eqv p q) := by
  have gen : (eqOk 64 (vw s d) = true ∧ eqOk 64 (vw s e) = true) ∧ Q (eqD (vw s d) (vw s e)) → (scal x y = true ∧ Q (decide (x = y))) ∨ ∃ p q, Dp K H x p ∧ Dp K H y q ∧ SeqAt.shaped p = true ∧ SeqAt.shaped q = true ∧ Q (PyData.eqv p q) := fun ⟨⟨a, b⟩, q⟩ =>
    .inr ⟨_, _, dp_vw g a r1, dp_vw g b r2, shaped_ok a (Nat.le_refl _), shaped_ok b (Nat.le_refl _), q⟩
  cases d <;> cases e <;> first
    | exact gen h
    | (cases r1; cases r2; exact .inl ⟨rfl, by first | (have q : Q (decide _) := h; simpa using q) | (have q : Q true := h; simpa using q) | (have q : Q false := h; simpa using q)⟩)
theorem od_eq : OpD K (rEqA K) wEq := fun F H s x y d e Q R g r1 r2 h k => by
  rcases eqB_ok g r1 r2 h with ⟨a, q⟩ | ⟨p, q, d1, d2, s1, s2, z⟩
  · exact .inl ⟨a, k F H _ _ (Stp.refl _ _ _) g (.bl _) q⟩
  · exact .inr ⟨p, q, d1, d2, s1, s2, k F H _ _ (Stp.refl _ _ _) g (.bl _) z⟩
theorem od_ne : OpD K (rNeA K) wNe := fun F H s x y d e Q R g r1 r2 h k => by
  rcases eqB_ok g r1 r2 h with ⟨a, q⟩ | ⟨p, q, d1, d2, s1, s2, z⟩
  · exact .inl ⟨a, k F H _ _ (Stp.refl _ _ _) g (.bl _) q⟩
  · exact .inr ⟨p, q, d1, d2, s1, s2, k F H _ _ (Stp.refl _ _ _) g (.bl _) z⟩
end
section
variable {X : Cx}
theorem or_eq (hu : X.A.units + 64 < cLine) : OpR X (compareOp .Eq) (rEqA X.K) := OpR.or op_eq (op_eqD hu)
theorem or_ne (hu : X.A.units + 64 < cLine) : OpR X (compareOp .NotEq) (rNeA X.K) := OpR.or op_ne (op_neD hu)
end
/-- x is None -/
def wIsN : Sto → Dat → Dat → (Dat → Prop) → Prop := fun _ d e Q => match e with
  | .non => match d with
    | .non => Q (.bl true)
    | _ => Q (.bl false)
  | _ => False
def wNotN : Sto → Dat → Dat → (Dat → Prop) → Prop := fun _ d e Q => match e with
  | .non => match d with
    | .non => Q (.bl false)
    | _ => Q (.bl true)
  | _ => False
theorem od_isN {K : PySem.W.Frag} : OpD K (fun x y H Q => y = .non ∧ Q (.bl (decide (x = .non))) H) wIsN := fun F H s x y d e Q R g r1 r2 h k => by
  cases r2 <;> first | exact (h : False).elim | skip
  refine ⟨rfl, k F H _ (.bl _) (Stp.refl _ _ _) g (.bl _) ?_⟩
  cases r1 <;> (have h : Q (.bl _) := h; simpa using h)
theorem od_notN {K : PySem.W.Frag} : OpD K (fun x y H Q => y = .non ∧ Q (.bl (!decide (x = .non))) H) wNotN := fun F H s x y d e Q R g r1 r2 h k => by
  cases r2 <;> first | exact (h : False).elim | skip
  refine ⟨rfl, k F H _ (.bl _) (Stp.refl _ _ _) g (.bl _) ?_⟩
  cases r1 <;> (have h : Q (.bl _) := h; simpa using h)
end DL

/-! The data layer, 5: built-in calls, methods, stores, calls by keywords. -/
namespace DL
open PySem PySem.Spec PyProof.Rows L2

def CallD (K : PySem.W.Frag) (r : List V → Hp → VK → Prop) (w : Sto → List Dat → (Dat → Prop) → Prop) : Prop := ∀ (F H : Hp) (s : Sto) (vs : List V) (ds : List Dat) (Q : Dat → Prop) (R : VK), Good K F H s → RpA K F vs ds → w s ds Q →
  (∀ F' H' v z, Stp F H s F' H' s → Good K F' H' s → Rp K F' v z → Q z → R v H') → r vs H R
def CallN (K : PySem.W.Frag) (r : List V → Hp → VK → Prop) (w : Sto → List Dat → (List Dat → Prop) → Prop) : Prop := ∀ (F H : Hp) (s : Sto) (vs : List V) (ds : List Dat) (Q : List Dat → Prop) (R : VK), Good K F H s → RpA K F vs ds → w s ds Q →
  (∀ H' p xs ds, Stp F H s F H' s → Good K F H' s → H p = none → H' p = some (.lst xs) → RpA K F xs ds → Q ds → R (.ref p) H') → r vs H R
def dB1 (w : Sto → List Dat → (Dat → Prop) → Prop) (T : DA) : DE := fun ρ s Q => T ρ s fun ds s1 => w s1 ds fun z => Q z s1
def dBN (w : Sto → List Dat → (List Dat → Prop) → Prop) (T : DA) : DA := fun ρ s Q => T ρ s fun ds s1 => w s1 ds fun z => Q z s1
section
variable {X : Cx} {x : Str} {p pos : Pos} {e o : Expr} {es : List Expr} {t : TA} {T : DA} {id Ty : String} {r : List V → Hp → VK → Prop} {w : Sto → List Dat → (Dat → Prop) → Prop} {wn : Sto → List Dat → (List Dat → Prop) → Prop}
theorem rd_cb {K : PySem.W.Frag} (ho : CallD K r w) (h : RdA K t T) : RdE K (tCB r t) (dB1 w T) := fun F H σ ρ s Q R g en q k => h F H σ ρ s _ _ g en q fun F1 H1 s1 vs ds st1 g1 r1 q1 =>
  ho F1 H1 s1 vs ds _ _ g1 r1 q1 fun F2 H2 v z st2 g2 r2 q2 => k F2 H2 s1 v z (st1.trans st2) g2 r2 q2
theorem rd_cbN {K : PySem.W.Frag} (ho : CallN K r wn) (h : RdA K t T) : RdN K (tCB r t) (dBN wn T) := fun F H σ ρ s Q R g en q k => h F H σ ρ s _ _ g en q fun F1 H1 s1 vs ds st1 g1 r1 q1 =>
  ho F1 H1 s1 vs ds _ _ g1 r1 q1 fun H2 p xs ds st2 g2 hp hH ra q2 => k F1 H2 s1 p xs ds (st1.trans st2) g2 (st1.fresh hp) (g1.freeF hp) (g1.freeS hp) hH ra q2
theorem re_callB (hc : CallR X (.builtin id) r) (ho : CallD X.K r w) (hg : Gl X x) (hm : X.mg x = none) (hv : bootBuiltins x = some (.builtin id)) (ha : RA X (e :: es) t T) (hn : x ≠ "__name__" := by decide) (hdb : (x == ("__debug__" : Str)) = false := by decide)
    (he : starEach (e :: es) X.env = (false, eval e X.env) :: starEach es X.env := by rfl) (hpl : (backTo pos (starEach es X.env)).any (·.1) = false := by rfl) : RE X (.Call (.Name x p) (e :: es) [] pos) (tCB r t) (dB1 w T) :=
  ⟨pe_callB hc hg hm hv ha.pa hn hdb he hpl, rd_cb ho ha.rd⟩
theorem re_callTy (hc : CallR X (.type Ty) r) (ho : CallD X.K r w) (hg : Gl X x) (hm : X.mg x = none) (hv : bootBuiltins x = some (.type Ty)) (ha : RA X (e :: es) t T) (hn : x ≠ "__name__" := by decide) (hdb : (x == ("__debug__" : Str)) = false := by decide)
    (he : starEach (e :: es) X.env = (false, eval e X.env) :: starEach es X.env := by rfl) (hpl : (backTo pos (starEach es X.env)).any (·.1) = false := by rfl) : RE X (.Call (.Name x p) (e :: es) [] pos) (tCB r t) (dB1 w T) :=
  ⟨pe_callTy hc hg hm hv ha.pa hn hdb he hpl, rd_cb ho ha.rd⟩
theorem rn_callB (hc : CallR X (.builtin id) r) (ho : CallN X.K r wn) (hg : Gl X x) (hm : X.mg x = none) (hv : bootBuiltins x = some (.builtin id)) (ha : RA X (e :: es) t T) (hn : x ≠ "__name__" := by decide) (hdb : (x == ("__debug__" : Str)) = false := by decide)
    (he : starEach (e :: es) X.env = (false, eval e X.env) :: starEach es X.env := by rfl) (hpl : (backTo pos (starEach es X.env)).any (·.1) = false := by rfl) : RN X (.Call (.Name x p) (e :: es) [] pos) (tCB r t) (dBN wn T) :=
  ⟨pe_callB hc hg hm hv ha.pa hn hdb he hpl, rd_cbN ho ha.rd⟩
theorem rn_callTy (hc : CallR X (.type Ty) r) (ho : CallN X.K r wn) (hg : Gl X x) (hm : X.mg x = none) (hv : bootBuiltins x = some (.type Ty)) (ha : RA X (e :: es) t T) (hn : x ≠ "__name__" := by decide) (hdb : (x == ("__debug__" : Str)) = false := by decide)
    (he : starEach (e :: es) X.env = (false, eval e X.env) :: starEach es X.env := by rfl) (hpl : (backTo pos (starEach es X.env)).any (·.1) = false := by rfl) : RN X (.Call (.Name x p) (e :: es) [] pos) (tCB r t) (dBN wn T) :=
  ⟨pe_callTy hc hg hm hv ha.pa hn hdb he hpl, rd_cbN ho ha.rd⟩
end

/-! the built-ins -/
def rLen2 (K : PySem.W.Frag) : List V → Hp → VK → Prop := fun xs H Q => (∃ x n, xs = [x] ∧ LenV K x H n ∧ Q (.int n) H) ∨ ∃ a kvs, xs = [V.ref a] ∧ H a = some (.dK kvs) ∧ Q (.int kvs.length) H
theorem cr_len {X : Cx} : CallR X (.builtin "len") (rLen2 X.K) := CallR.or call_len call_lenD
def wLen : Sto → List Dat → (Dat → Prop) → Prop := fun s ds Q => match ds with
  | [.str x] => x.length ≤ sizeLine ∧ Q (.int x.length)
  | [.tup ys] => Q (.int ys.length)
  | [.lst ys] => Q (.int ys.length)
  | [.rol ys] => Q (.int ys.length)
  | [.adr a] => (∃ ys, s a = some (.lst ys) ∧ Q (.int ys.length)) ∨ (∃ kvs, s a = some (.dct kvs) ∧ Q (.int kvs.length))
  | _ => False
section
variable {K : PySem.W.Frag}
theorem KRp.length {F : Hp} : ∀ {ks : List (Key × V)} {kvs : List (Key × Dat)}, KRp K F ks kvs → ks.length = kvs.length
  | _, _, .nil => rfl
  | _, _, .cons _ t => by
    have := KRp.length t
    simp [this]
theorem cd_len : CallD K (rLen2 K) wLen := fun F H s vs ds Q R g r h k => by
  match ds, r, h with
  | [.str x], r, h =>
    obtain ⟨v, rfl, r1⟩ := rpa1 r
    cases r1
    exact .inl ⟨_, x.length, rfl, ⟨h.1, rfl⟩, k F H _ _ (Stp.refl _ _ _) g (.int _) h.2⟩
  | [.tup ys], r, h =>
    obtain ⟨v, rfl, r1⟩ := rpa1 r
    cases r1 with
    | tup h1 h2 => exact .inl ⟨_, ys.length, rfl, .inr ⟨_, SqT.of (g.fz _ _ h1), h2.length.symm⟩, k F H _ _ (Stp.refl _ _ _) g (.int _) h⟩
  | [.lst ys], r, h =>
    obtain ⟨v, rfl, r1⟩ := rpa1 r
    cases r1 with
    | lst h1 h2 => exact .inl ⟨_, ys.length, rfl, .inl ⟨_, SqL.of (g.fz _ _ h1), h2.length.symm⟩, k F H _ _ (Stp.refl _ _ _) g (.int _) h⟩
  | [.rol ys], r, h =>
    obtain ⟨v, rfl, r1⟩ := rpa1 r
    cases r1 with
    | rol h1 h2 => exact .inl ⟨_, ys.length, rfl, .inl ⟨_, Same.seq g.fz h1, h2.length.symm⟩, k F H _ _ (Stp.refl _ _ _) g (.int _) h⟩
  | [.adr a], r, h =>
    obtain ⟨v, rfl, r1⟩ := rpa1 r
    cases r1
    rcases h with ⟨ys, e, h⟩ | ⟨kvs, e, h⟩
    · obtain ⟨_, xs, h1, h2⟩ := g.st a _ e
      exact .inl ⟨_, ys.length, rfl, .inl ⟨_, SqL.of h1, h2.length.symm⟩, k F H _ _ (Stp.refl _ _ _) g (.int _) h⟩
    · obtain ⟨_, ks, h1, h2⟩ := g.st a _ e
      refine .inr ⟨a, ks, rfl, h1, ?_⟩
      rw [KRp.length h2]
      exact k F H _ _ (Stp.refl _ _ _) g (.int _) h
/-- int(n) -/
def wInt : Sto → List Dat → (Dat → Prop) → Prop := fun _ ds Q => match ds with
  | [.int i] => Q (.int i)
  | [.bl b] => Q (.int (if b then 1 else 0))
  | _ => False
theorem cd_int : CallD K (fun xs H Q => (∃ i, xs = [.int i] ∧ Q (.int i) H) ∨ ∃ k, xs = [.bl k] ∧ Q (.int (if k then 1 else 0)) H) wInt := fun F H s vs ds Q R g r h k => by
  match ds, r, h with
  | [.int x], r, h =>
    obtain ⟨v, rfl, r1⟩ := rpa1 r
    cases r1
    exact .inl ⟨_, rfl, k F H _ _ (Stp.refl _ _ _) g (.int _) h⟩
  | [.bl x], r, h =>
    obtain ⟨v, rfl, r1⟩ := rpa1 r
    cases r1
    exact .inr ⟨_, rfl, k F H _ _ (Stp.refl _ _ _) g (.int _) h⟩
def wOrd : Sto → List Dat → (Dat → Prop) → Prop := fun _ ds Q => match ds with
  | [.str x] => x.length = 1 ∧ Q (.int (x.cps.getD 0 0 : Nat))
  | _ => False
theorem cd_ord : CallD K (fun xs H Q => ∃ x, xs = [.str x] ∧ x.length = 1 ∧ Q (.int (x.cps.getD 0 0 : Nat)) H) wOrd := fun F H s vs ds Q R g r h k => by
  match ds, r, h with
  | [.str x], r, h =>
    obtain ⟨v, rfl, r1⟩ := rpa1 r
    cases r1
    exact ⟨_, rfl, h.1, k F H _ _ (Stp.refl _ _ _) g (.int _) h.2⟩
def wDivmod : Sto → List Dat → (Dat → Prop) → Prop := fun _ ds Q => match ds with
  | [.int i, .int j] => CDiv i j ∧ Q (.tup [.int (i / j), .int (i % j)])
  | _ => False
theorem cd_divmod : CallD K (fun xs H Q => ∃ i j, xs = [.int i, .int j] ∧ CDiv i j ∧ ∀ p, H p = none → Q (.ref p) (upd H p (.tup [.int (i / j), .int (i % j)]))) wDivmod := fun F H s vs ds Q R g r h k => by
  match ds, r, h with
  | [.int x, .int y], r, h =>
    obtain ⟨v, u, rfl, r1, r2⟩ := rpa2 r
    cases r1
    cases r2
    refine ⟨_, _, rfl, h.1, fun p hp => ?_⟩
    obtain ⟨st2, g2⟩ := stp_new (o := .tup [.int (x / y), .int (x % y)]) g hp
    exact k _ _ _ _ st2 g2 (.tup upd_same (.cons (.int _) (.cons (.int _) .nil))) h.2
def wMin2 : Sto → List Dat → (Dat → Prop) → Prop := fun _ ds Q => match ds with
  | [.int i, .int j] => Q (.int (if j < i then j else i))
  | _ => False
theorem cd_min2 : CallD K (fun xs H Q => ∃ i j, xs = [.int i, .int j] ∧ Q (.int (if j < i then j else i)) H) wMin2 := fun F H s vs ds Q R g r h k => by
  match ds, r, h with
  | [.int x, .int y], r, h =>
    obtain ⟨v, u, rfl, r1, r2⟩ := rpa2 r
    cases r1
    cases r2
    exact ⟨_, _, rfl, k F H _ _ (Stp.refl _ _ _) g (.int _) h⟩
def wMax2 : Sto → List Dat → (Dat → Prop) → Prop := fun _ ds Q => match ds with
  | [.int i, .int j] => Q (.int (if j > i then j else i))
  | _ => False
theorem cd_max2 : CallD K (fun xs H Q => ∃ i j, xs = [.int i, .int j] ∧ Q (.int (if j > i then j else i)) H) wMax2 := fun F H s vs ds Q R g r h k => by
  match ds, r, h with
  | [.int x, .int y], r, h =>
    obtain ⟨v, u, rfl, r1, r2⟩ := rpa2 r
    cases r1
    cases r2
    exact ⟨_, _, rfl, k F H _ _ (Stp.refl _ _ _) g (.int _) h⟩
/-- a sequence: list or tuple -/
def onQ (s : Sto) (d : Dat) (k : List Dat → Prop) : Prop := match d with
  | .tup ds => k ds
  | d => onL s d k
theorem onQ_ok {F H : Hp} {s : Sto} {x : V} {d : Dat} {k : List Dat → Prop} (g : Good K F H s) (r : Rp K F x d) (h : onQ s d k) : ∃ a xs ds, x = .ref a ∧ (SqL K H a xs ∨ SqT K H a xs) ∧ RpA K F xs ds ∧ k ds := by
  have lst : onL s d k → ∃ a xs ds, x = .ref a ∧ (SqL K H a xs ∨ SqT K H a xs) ∧ RpA K F xs ds ∧ k ds := fun h => by
    obtain ⟨a, xs, ds, e, h1, h2, q⟩ := onL_ok g r h
    exact ⟨a, xs, ds, e, .inl h1, h2, q⟩
  cases d <;> first | exact lst h | skip
  rename_i ds
  obtain ⟨a, xs, ds, e, _, h1, h2, q⟩ := onT_ok (k := k) g r h
  exact ⟨a, xs, ds, e, .inr h1, h2, q⟩
def wList : Sto → List Dat → (List Dat → Prop) → Prop := fun s ds Q => match ds with
  | [d] => onQ s d Q
  | _ => False
def rListOf (K : PySem.W.Frag) : List V → Hp → VK → Prop := fun xs H Q => ∃ p ys, xs = [.ref p] ∧ (SqL K H p ys ∨ SqT K H p ys) ∧ ∀ l, H l = none → Q (.ref l) (upd H l (.lst ys))
theorem cn_list : CallN K (rListOf K) wList := fun F H s vs ds Q R g r h k => by
  match ds, r, h with
  | [d], r, h =>
    obtain ⟨v, rfl, r1⟩ := rpa1 r
    obtain ⟨a, xs, ds, rfl, h1, h2, q⟩ := onQ_ok g r1 h
    refine ⟨a, xs, rfl, h1, fun l hl => ?_⟩
    obtain ⟨st2, g2⟩ := stp_raw (o := .lst xs) g hl
    exact k _ l _ _ st2 g2 hl upd_same h2 q
def wTuple : Sto → List Dat → (Dat → Prop) → Prop := fun s ds Q => match ds with
  | [d] => onQ s d fun ys => Q (.tup ys)
  | _ => False
def rTupOf (K : PySem.W.Frag) : List V → Hp → VK → Prop := fun xs H Q => ∃ p ys, xs = [.ref p] ∧ ((SqL K H p ys ∧ ∀ l, H l = none → Q (.ref l) (upd H l (.tup ys))) ∨ (SqT K H p ys ∧ Q (.ref p) H))
theorem cd_tuple : CallD K (rTupOf K) wTuple := fun F H s vs ds Q R g r h k => by
  match ds, r, h with
  | [d], r, h =>
    obtain ⟨v, rfl, r1⟩ := rpa1 r
    have lst : onL s d (fun ys => Q (.tup ys)) → (∃ p ys, [v] = [.ref p] ∧ ((SqL K H p ys ∧ ∀ l, H l = none → R (.ref l) (upd H l (.tup ys))) ∨ (SqT K H p ys ∧ R (.ref p) H))) := fun h => by
      obtain ⟨a, xs, ds, rfl, h1, h2, q⟩ := onL_ok g r1 h
      refine ⟨a, xs, rfl, .inl ⟨h1, fun l hl => ?_⟩⟩
      obtain ⟨st2, g2⟩ := stp_new (o := .tup xs) g hl
      exact k _ _ _ _ st2 g2 (.tup upd_same (h2.mono st2.fz)) q
    cases d <;> first | exact lst h | skip
    rename_i ds
    obtain ⟨a, xs, ds, rfl, hF, h1, h2, q⟩ := onT_ok (k := fun ys => Q (.tup ys)) g r1 h
    exact ⟨a, xs, rfl, .inr ⟨h1, k F H _ _ (Stp.refl _ _ _) g (.tup hF h2) q⟩⟩
def wSum : Sto → List Dat → (Dat → Prop) → Prop := fun s ds Q => match ds with
  | [d] => onL s d fun ys => ∃ ns : List Int, ys = ns.map .int ∧ Q (.int ns.sum)
  | _ => False
theorem cd_sum : CallD K (rSum K) wSum := fun F H s vs ds Q R g r h k => by
  match ds, r, h with
  | [d], r, h =>
    obtain ⟨v, rfl, r1⟩ := rpa1 r
    obtain ⟨a, xs, ds, rfl, h1, h2, ns, e, q⟩ := onL_ok g r1 h
    subst e
    rw [h2.ints] at h1
    exact ⟨a, ns, rfl, h1, k F H _ _ (Stp.refl _ _ _) g (.int _) q⟩
def wAll : Sto → List Dat → (Dat → Prop) → Prop := fun s ds Q => match ds with
  | [d] => onL s d fun ys => ∃ bs : List Bool, ys = bs.map .bl ∧ Q (.bl (bs.all id))
  | _ => False
theorem cd_all : CallD K (rAll K) wAll := fun F H s vs ds Q R g r h k => by
  match ds, r, h with
  | [d], r, h =>
    obtain ⟨v, rfl, r1⟩ := rpa1 r
    obtain ⟨a, xs, ds, rfl, h1, h2, ns, e, q⟩ := onL_ok g r1 h
    subst e
    rw [h2.bools] at h1
    exact ⟨a, ns, rfl, h1, k F H _ _ (Stp.refl _ _ _) g (.bl _) q⟩
def wAny : Sto → List Dat → (Dat → Prop) → Prop := fun s ds Q => match ds with
  | [d] => onL s d fun ys => ∃ bs : List Bool, ys = bs.map .bl ∧ Q (.bl (bs.any id))
  | _ => False
theorem cd_any : CallD K (rAny K) wAny := fun F H s vs ds Q R g r h k => by
  match ds, r, h with
  | [d], r, h =>
    obtain ⟨v, rfl, r1⟩ := rpa1 r
    obtain ⟨a, xs, ds, rfl, h1, h2, ns, e, q⟩ := onL_ok g r1 h
    subst e
    rw [h2.bools] at h1
    exact ⟨a, ns, rfl, h1, k F H _ _ (Stp.refl _ _ _) g (.bl _) q⟩
/-- isinstance against built-in types -/
def tyD (s : Sto) (d : Dat) : Option String := match d with
  | .non => some "NoneType"
  | .bl _ => some "bool"
  | .int _ => some "int"
  | .str _ => some "str"
  | .lst _ => some "list"
  | .rol _ => some "list"
  | .tup _ => some "tuple"
  | .adr a => match s a with
    | some (.lst _) => some "list"
    | some (.dct _) => some "dict"
    | _ => none
  | .ty _ => none
theorem tyD_ok {F H : Hp} {s : Sto} {x : V} {d : Dat} {n : String} (g : Good K F H s) (r : Rp K F x d) (h : tyD s d = some n) : TyX K H x (.type n) := by
  cases r with
  | non => cases h; exact .base .non
  | bl b => cases h; exact .base (.bl b)
  | int b => cases h; exact .base (.int b)
  | str b => cases h; exact .base (.str b)
  | lst h1 h2 => cases h; exact .base (.lst (g.fz _ _ h1))
  | rol h1 h2 =>
    cases h
    rcases Same.seq g.fz h1 with (e | ⟨o, e⟩) | ⟨o, its, n, e, c, _⟩
    · exact .base (.lst e)
    · exact .base (.frz e)
    · exact .kList e c
  | tup h1 h2 =>
    cases h
    exact .base (.tup (g.fz _ _ h1))
  | adr a =>
    have h : (match s a with | some (.lst _) => some "list" | some (.dct _) => some "dict" | _ => none) = some n := h
    cases e : s a with
    | none => rw [e] at h; cases h
    | some o =>
      rw [e] at h
      cases o <;> first | (cases h; done) | skip
      · obtain ⟨_, xs, h1, h2⟩ := g.st a _ e
        have h : some "list" = some n := h
        cases h
        exact .base (.lst h1)
      · obtain ⟨_, xs, h1, h2⟩ := g.st a _ e
        have h : some "dict" = some n := h
        cases h
        exact .base (.dK h1)
  | ty n => cases h
def kitDs (t : String) : List Dat → Option Bool
  | [] => some false
  | .ty n :: r => match kitB t n, kitDs t r with
    | some a, some b => some (a || b)
    | _, _ => none
  | _ :: _ => none
theorem kitDs_ok {F : Hp} {t : String} : ∀ {ds : List Dat} {cs : List V} {b : Bool}, RpA K F cs ds → kitDs t ds = some b → ∃ us, Paired ClsV cs us ∧ PySem.W.kitAny K (.type t) us = some b
  | [], _, b, r, h => by cases r; exact ⟨[], .nil, h⟩
  | .ty n :: ds, _, b, r, h => by
    cases r with
    | cons r1 r2 =>
      cases r1
      have h : (match kitB t n, kitDs t ds with | some a, some b => some (a || b) | _, _ => none) = some b := h
      cases e : kitB t n with
      | none => rw [e] at h; cases h
      | some c =>
        cases e2 : kitDs t ds with
        | none => rw [e, e2] at h; cases h
        | some c2 =>
          rw [e, e2] at h
          cases h
          obtain ⟨us, p, q⟩ := kitDs_ok r2 e2
          refine ⟨.type n :: us, .cons (.ty n) p, kitAny_cons (kit_ty e) (fun z => by subst z; exact q) (fun z => by subst z; rfl)⟩
  | .non :: _, _, _, _, h => by cases h
  | .bl _ :: _, _, _, _, h => by cases h
  | .int _ :: _, _, _, _, h => by cases h
  | .str _ :: _, _, _, _, h => by cases h
  | .lst _ :: _, _, _, _, h => by cases h
  | .rol _ :: _, _, _, _, h => by cases h
  | .tup _ :: _, _, _, _, h => by cases h
  | .adr _ :: _, _, _, _, h => by cases h
def wIsi : Sto → List Dat → (Dat → Prop) → Prop := fun s ds Q => match ds with
  | [d, .ty n] => ∃ t b, tyD s d = some t ∧ kitB t n = some b ∧ Q (.bl b)
  | [d, .tup cs] => ∃ t b, tyD s d = some t ∧ kitDs t cs = some b ∧ Q (.bl b)
  | _ => False
def rIsi2 (K : PySem.W.Frag) : List V → Hp → VK → Prop := fun xs H Q => rIsi K xs H Q ∨ rIsiT K xs H Q
theorem cr_isi {X : Cx} : CallR X (.builtin "isinstance") (rIsi2 X.K) := CallR.or call_isi call_isiT
theorem cd_isi : CallD K (rIsi2 K) wIsi := fun F H s vs ds Q R g r h k => by
  match ds, r, h with
  | [d, .ty n], r, h =>
    obtain ⟨v, u, rfl, r1, r2⟩ := rpa2 r
    obtain ⟨t, b, e1, e2, q⟩ := h
    cases r2
    exact .inl ⟨_, _, _, _, b, rfl, .ty n, tyD_ok g r1 e1, kit_ty e2, k F H _ _ (Stp.refl _ _ _) g (.bl _) q⟩
  | [d, .tup cs], r, h =>
    obtain ⟨v, u, rfl, r1, r2⟩ := rpa2 r
    obtain ⟨t, b, e1, e2, q⟩ := h
    cases r2 with
    | @tup a xs _ h1 h2 =>
      obtain ⟨us, p, e3⟩ := kitDs_ok h2 e2
      exact .inr ⟨_, a, xs, _, us, b, rfl, g.fz _ _ h1, p, tyD_ok g r1 e1, e3, k F H _ _ (Stp.refl _ _ _) g (.bl _) q⟩
end

/-! ### methods -/
def MethD (K : PySem.W.Frag) (r : V → List V → Hp → VK → Prop) (w : Sto → Dat → List Dat → (Dat → Sto → Prop) → Prop) : Prop := ∀ (F H : Hp) (s : Sto) (x : V) (d : Dat) (vs : List V) (ds : List Dat) (Q : Dat → Sto → Prop) (R : VK), Good K F H s → Rp K F x d → RpA K F vs ds → w s d ds Q →
  (∀ F' H' s' v z, Stp F H s F' H' s' → Good K F' H' s' → Rp K F' v z → Q z s' → R v H') → r x vs H R
def isL (s : Sto) (d : Dat) : Prop := onL s d fun _ => True
def dMeth (ty : Sto → Dat → Prop) (w : Sto → Dat → List Dat → (Dat → Sto → Prop) → Prop) (To : DE) (Ta : DA) : DE := fun ρ s Q => To ρ s fun d s1 => ty s1 d ∧ Ta ρ s1 fun ds s2 => w s2 d ds Q
section
variable {X : Cx} {o e : Expr} {es : List Expr} {to te : TE} {To Te : DE} {t : TA} {T : DA} {name : Str} {id : String} {r : V → List V → Hp → VK → Prop} {w : Sto → Dat → List Dat → (Dat → Sto → Prop) → Prop} {apos cpos pos : Pos}
theorem rd_meth {K : PySem.W.Frag} (hm : MethD K r w) (ho : RdE K to To) (ha : RdA K t T) : RdE K (tBM K "list" r to t) (dMeth isL w To T) := fun F H σ ρ s Q R g en q k =>
  ho F H σ ρ s _ _ g en q fun F1 H1 s1 x d st1 g1 r1 q1 => by
    obtain ⟨a, xs, ds, rfl, h1, _, _⟩ := onL_ok g1 r1 q1.1
    exact ⟨.inl ⟨rfl, xs, h1⟩, ha F1 H1 σ ρ s1 _ _ g1 (en.mono st1.fz) q1.2 fun F2 H2 s2 vs ds st2 g2 r2 q2 =>
      hm F2 H2 s2 _ d vs ds _ _ g2 (r1.mono st2.fz) r2 q2 fun F3 H3 s3 v z st3 g3 r3 q3 => k F3 H3 s3 v z ((st1.trans st2).trans st3) g3 r3 q3⟩
/-- xs.name(e, ..), a list's method -/
theorem re_lm {K : PySem.W.Frag} (hK : X.K = K) (slot : Slot "list" name id) (hty : typeOf (.builtin id) = pure (.type "method_descriptor")) (h : MtR X id r) (hm : MethD X.K r w) (ho : RE X o to To) (ha : RA X (e :: es) t T)
    (hbase : attributeBase o name X.env (eval o X.env) = eval o X.env := by rfl)
    (hfew : ((backTo cpos (starEach (e :: es) X.env)).all (fun x => !x.1) && (backToKw cpos (keywordEach [] X.env)).all (fun x => x.1.isSome)
      && decide ((e :: es).length + ([] : List Keyword).length + (if ([] : List Keyword).isEmpty then 0 else 1) < 30)) = true := by rfl)
    (hline : (apos.endLine == cpos.line) = true := by rfl) (hs : starEach (e :: es) X.env = (false, eval e X.env) :: starEach es X.env := by rfl) (hplain : (backTo cpos (starEach es X.env)).any (·.1) = false := by rfl) :
    RE X (.Call (.Attribute o name apos) (e :: es) [] cpos) (tBM K "list" r to t) (dMeth isL w To T) := by
  subst hK
  exact ⟨pe_bm PySem.F.plainAttrs_list slot hty h ho.pe ha.pa hbase hfew hline hs hplain, rd_meth hm ho.rd ha.rd⟩
def wApp : Sto → Dat → List Dat → (Dat → Sto → Prop) → Prop := fun s d ds Q => match d, ds with
  | .adr p, [y] => ∃ xs, s p = some (.lst xs) ∧ xs.length < sizeLine ∧ Q .non (ups s p (.lst (xs ++ [y])))
  | _, _ => False
theorem md_append {K : PySem.W.Frag} : MethD K rAppend wApp := fun F H s x d vs ds Q R g r1 r2 h k => by
  match d, ds, r1, r2, h with
  | .adr p, [y], r1, r2, h =>
    cases r1
    obtain ⟨v, rfl, rv⟩ := rpa1 r2
    obtain ⟨xs, e, hl, q⟩ := h
    obtain ⟨hF, us, h1, h2⟩ := g.st p _ e
    refine ⟨p, us, v, rfl, rfl, h1, by rw [h2.length]; exact hl, ?_⟩
    obtain ⟨st2, g2⟩ := stp_wr (o := .lst (us ++ [v])) (w := .lst (xs ++ [y])) g e ⟨_, upd_same, h2.append (.one rv)⟩
    exact k _ _ _ _ _ st2 g2 .non q
/-- sep.join(xs) -/
def dJoin (To Te : DE) : DE := fun ρ s Q => To ρ s fun d s1 => onS d fun a => Te ρ s1 fun e s2 => onQ s2 e fun ds => ∃ ys : List Str, ds = ys.map .str ∧ (ys.map (·.length)).sum + ys.length * a.length ≤ 16777216 ∧ Q (.str (Txt.join a ys)) s2
def rJoin (K : PySem.W.Frag) : V → List V → Hp → VK → Prop := fun x xs H Q => ∃ a p, ∃ ys : List Str, x = .str a ∧ xs = [.ref p] ∧ (SqL K H p (ys.map V.str) ∨ SqT K H p (ys.map V.str)) ∧
      (ys.map (·.length)).sum + ys.length * a.length ≤ 16777216 ∧ Q (.str (Txt.join a ys)) H
theorem re_join {K : PySem.W.Frag} (hK : X.K = K) (ho : RE X o to To) (he : RE X e te Te) (f : PE X o to → PE X e te → PE X (.Call (.Attribute o "join" apos) [e] [] pos) (tM1 (rJoin X.K) to te) := by exact fun a b => pe_join a b) :
    RE X (.Call (.Attribute o "join" apos) [e] [] pos) (tM1 (rJoin K) to te) (dJoin To Te) := by
  subst hK
  exact ⟨f ho.pe he.pe, fun F H σ ρ s Q R g en q k => ho.rd F H σ ρ s _ _ g en q fun F1 H1 s1 x d st1 g1 r1 q1 => by
    obtain ⟨a, rfl, rfl, q1⟩ := onS_ok r1 q1
    refine ⟨⟨a, rfl⟩, he.rd F1 H1 σ ρ s1 _ _ g1 (en.mono st1.fz) q1 fun F2 H2 s2 y d st2 g2 r2 q2 => ?_⟩
    obtain ⟨p, xs, ds, rfl, h1, h2, ys, e, hz, q⟩ := onQ_ok g2 r2 q2
    subst e
    rw [h2.strs] at h1
    exact ⟨a, p, ys, rfl, rfl, h1, hz, k F2 H2 s2 _ _ (st1.trans st2) g2 (.str _) q⟩⟩
end

/-! ### stores -/
section
variable {X : Cx} {e o i a b : Expr} {te to ti : TE} {Te To Ti : DE} {ta : TA} {Ta : DA} {pos pos' : Pos}
def dSetI (Te To Ti : DE) : DS := fun D ρ s => Te ρ s fun d s1 => To ρ s1 fun o s2 => Ti ρ s2 fun i s3 => match o with
  | .adr p => onI i fun k => ∃ xs j, s3 p = some (.lst xs) ∧ ixN xs.length k = some j ∧ D.nx ρ (ups s3 p (.lst (xs.set j d)))
  | _ => False
/-- xs[i] = e -/
theorem rs_setI (he : RE X e te Te) (ho : RE X o to To) (hi : RE X i ti Ti) (f : PE X e te → PG X (.Subscript o i pos') (gSub to ti rSetL) → PS X (.Assign [.Subscript o i pos'] e pos) (tAsg te (gSub to ti rSetL)) := by exact fun a b => ps_asg a b)
    (f2 : PE X o to → PE X i ti → PG X (.Subscript o i pos') (gSub to ti rSetL) := by exact fun a b => pg_sub a b set_list) :
    RS X (.Assign [.Subscript o i pos'] e pos) (tAsg te (gSub to ti rSetL)) (dSetI Te To Ti) := ⟨f he.pe (f2 ho.pe hi.pe), fun F H σ ρ s D E g en q k => he.rd F H σ ρ s _ _ g en q fun F1 H1 s1 v d st1 g1 r1 q1 =>
    ho.rd F1 H1 σ ρ s1 _ _ g1 (en.mono st1.fz) q1 fun F2 H2 s2 ov od st2 g2 r2 q2 => hi.rd F2 H2 σ ρ s2 _ _ g2 (en.mono (st1.fz.trans st2.fz)) q2 fun F3 H3 s3 iv id st3 g3 r3 q3 => by
      have st := (st1.trans st2).trans st3
      cases r2 <;> first | exact (q3 : False).elim | skip
      rename_i p
      obtain ⟨n, _, rfl, xs, j, e1, e2, q⟩ := onI_ok r3 q3
      obtain ⟨hF, us, h1, h2⟩ := g3.st p _ e1
      refine ⟨p, us, n, j, rfl, rfl, h1, by rw [h2.length]; exact e2, ?_⟩
      obtain ⟨st4, g4⟩ := stp_wr (o := .lst (us.set j v)) (w := .lst (xs.set j d)) g3 e1 ⟨_, upd_same, h2.set (r1.mono (st2.fz.trans st3.fz)) j⟩
      exact k.nx _ _ _ σ ρ (st.trans st4) g4 (en.mono (st.trans st4).fz) q⟩
def dPar (i j : Nat) (T : DA) : DS := fun D ρ s => T ρ s fun ds s1 => match ds with
  | [d, e] => D.nx (sT (sT ρ i d) j e) s1
  | _ => False
/-- a, b = x, y -/
theorem rs_par {i j : Nat} {st : Stmt} (ha : RA X [a, b] ta Ta) (f : PA X [a, b] ta → PS X st (tPar i j ta)) : RS X st (tPar i j ta) (dPar i j Ta) := ⟨f ha.pa, fun F H σ ρ s D E g en q k => ha.rd F H σ ρ s _ _ g en q fun F1 H1 s1 vs ds st1 g1 r1 q1 => by
    match ds, r1, q1 with
    | [d, e], r1, q1 =>
      obtain ⟨v, w, rfl, r2, r3⟩ := rpa2 r1
      exact ⟨v, w, rfl, k.nx F1 H1 s1 _ _ st1 g1 (((en.mono st1.fz).set r2).set r3) q1⟩⟩
end

/-! ### calls by keywords -/
section
variable {X : Cx} {CX : CXT} {k n : Nat} {f : Addr} {fd : FuncData} {ps ks : List Str} {sp : Sp} {g : Gd} {E : XK} {x : Str} {p pos : Pos} {e : Expr} {es : List Expr} {kws : List Keyword} {t tk : TA} {T U : DA} {gv : List Value → List Value → List Value} {gV : List V → List V → List V} {gD : List Dat → List Dat → List Dat}
/-- f(k = v, ..) -/
theorem pe_callN0 (F : FnOk X.prog X.w X.K X.mg X.base CX k f fd ps sp) (hr : Room k X.A) (hg : Gl X x) (hm : X.mg x = some (.ref f)) (hk : PySem.W.keepIn X.K (.ref f) = true) (hb : KBn X.K fd ps 0 ks gv gV) (hx : Passes CX X E) (hkw : PK X kws tk)
    (hall : (backToKw pos (keywordEach kws X.env)).all (·.1.isSome) = true := by rfl) (hks : (backToKw pos (keywordEach kws X.env)).filterMap (·.1) = ks := by rfl) (hdb : (x == ("__debug__" : Str)) = false := by decide)
    (hpl : ((backTo pos (starEach [] X.env)).any (·.1) || (backToKw pos (keywordEach kws X.env)).any (·.1.isNone)) = false := by rfl) :
    PE X (.Call (.Name x p) [] kws pos) (tCallN 0 ks.length sp gV E tNil tk) := by
  refine ⟨fun pins s σ H Q I h => ?_⟩
  refine wpAny_Call_Name_kw (ld_glob I hg hm ?_ hdb)
  refine PySem.W.callWith_KW0 (h₀ := X.base) I.ok.mod.kin hk hall ?_ hpl
  refine thn (hkw.run pos pins s σ H _ I h) fun ws s2 ⟨zs, H2, I2, rz, l1, l2, q2⟩ => ⟨I2.kIn, ?_⟩
  rw [hks]
  exact run_fnN (us := []) (vs := []) F hr hb hx I2 .nil rz rfl l2 q2
/-- how a plain def binds n positional values and the keywords ks -/
theorem kb_mk {K : PySem.W.Frag} {x qual : Str} {st : Stmt} (F : Fun K x qual st f fd) (ps : List Str) (n : Nat) (ks : List Str) (gg : {α : Type} → List α → List α → List α)
    (hrel : ∀ {vs zs : List V} {us ws : List Value}, Vals vs us → Vals zs ws → Vals (gg vs zs) (gg us ws))
    (h : ∀ (kV doc pm : Value) (an : Option Addr) (cdv ct : Value) (us ws : List Value), us.length = n → ws.length = ks.length → bindArgs (PySem.W.fnOf x qual (defArgs st) (defBody st) (defScope st) .none kV doc pm an cdv ct) ⟨us, ks.zip ws⟩ = pure (ps.zip (gg us ws))) :
    KBn K fd ps n ks (fun us ws => gg us ws) (fun vs zs => gg vs zs) := by
  obtain ⟨oc, od, kV, doc, pm, an, cdv, ct, osl, rfl, lk, hcd⟩ := F.ex
  exact ⟨fun s us ws _ l1 l2 => .of_eq (h kV doc pm an cdv ct us ws l1 l2), fun r1 r2 => hrel r1 r2⟩
def dCallN (n m : Nat) (g : Gd) (gD : List Dat → List Dat → List Dat) (T U : DA) : DE := fun ρ s Q => T ρ s fun ds s1 => U ρ s1 fun es s2 => ds.length = n ∧ es.length = m ∧ g (gD ds es) s2 Q
theorem rd_callN {K : PySem.W.Frag} {m : Nat} (h : RdA K t T) (hu : RdA K tk U) (gb : GB K gV gD) : RdE K (tCallN n m (spD K g) gV E t tk) (dCallN n m g gD T U) := fun F H σ ρ s Q R gd en q k =>
  h F H σ ρ s _ _ gd en q fun F1 H1 s1 vs ds st1 g1 r1 q1 => hu F1 H1 σ ρ s1 _ _ g1 (en.mono st1.fz) q1 fun F2 H2 s2 zs es st2 g2 r2 q2 =>
    ⟨by rw [r1.length]; exact q2.1, by rw [r2.length]; exact q2.2.1, F2, s2, gD ds es, Q, g2, gb.to F2 vs zs ds es (r1.mono st2.fz) r2, q2.2.2, fun F' H' s' v d st' g' r' q' => k F' H' s' v d ((st1.trans st2).trans st') g' r' q'⟩
theorem re_callN0 {K : PySem.W.Frag} (hK : X.K = K) (F : FnOk X.prog X.w X.K X.mg X.base CX k f fd ps (spD X.K g)) (hr : Room k X.A) (hg : Gl X x) (hm : X.mg x = some (.ref f)) (hk : PySem.W.keepIn X.K (.ref f) = true) (hb : KBn X.K fd ps 0 ks gv gV) (gb : GB X.K gV gD) (hx : Passes CX X E) (hkw : RK X kws tk U)
    (hall : (backToKw pos (keywordEach kws X.env)).all (·.1.isSome) = true := by rfl) (hks : (backToKw pos (keywordEach kws X.env)).filterMap (·.1) = ks := by rfl) (hdb : (x == ("__debug__" : Str)) = false := by decide)
    (hpl : ((backTo pos (starEach [] X.env)).any (·.1) || (backToKw pos (keywordEach kws X.env)).any (·.1.isNone)) = false := by rfl) :
    RE X (.Call (.Name x p) [] kws pos) (tCallN 0 ks.length (spD K g) gV E tNil tk) (dCallN 0 ks.length g gD dNil U) := by
  subst hK
  exact ⟨pe_callN0 F hr hg hm hk hb hx hkw.pk hall hks hdb hpl, rd_callN ra_nil.rd hkw.rd gb⟩
theorem re_callN {K : PySem.W.Frag} (hK : X.K = K) (F : FnOk X.prog X.w X.K X.mg X.base CX k f fd ps (spD X.K g)) (hr : Room k X.A) (hg : Gl X x) (hm : X.mg x = some (.ref f)) (hk : PySem.W.keepIn X.K (.ref f) = true) (hb : KBn X.K fd ps n ks gv gV) (gb : GB X.K gV gD) (hx : Passes CX X E) (ha : RA X (e :: es) t T) (hkw : RK X kws tk U)
    (hall : (backToKw pos (keywordEach kws X.env)).all (·.1.isSome) = true := by rfl) (hks : (backToKw pos (keywordEach kws X.env)).filterMap (·.1) = ks := by rfl) (hdb : (x == ("__debug__" : Str)) = false := by decide)
    (he : starEach (e :: es) X.env = (false, eval e X.env) :: starEach es X.env := by rfl) (hpl : ((backTo pos (starEach (e :: es) X.env)).any (·.1) || (backToKw pos (keywordEach kws X.env)).any (·.1.isNone)) = false := by rfl) :
    RE X (.Call (.Name x p) (e :: es) kws pos) (tCallN n ks.length (spD K g) gV E t tk) (dCallN n ks.length g gD T U) := by
  subst hK
  exact ⟨pe_callN F hr hg hm hk hb hx ha.pa hkw.pk hall hks hdb he hpl, rd_callN ha.rd hkw.rd gb⟩
end

/-! ### order of lists of ints -/
section
variable {X : Cx}
def rLtLI (K : PySem.W.Frag) : R2 := fun x y H Q => ∃ a b ns ms, x = .ref a ∧ y = .ref b ∧ H a = some (.lst (ns.map V.int)) ∧ H b = some (.lst (ms.map V.int)) ∧ Q (.bl (HT.lexLt ns ms)) H
theorem firstLt_lex (ns ms : List Int) (e r : Nat → Bool) (he : ∀ j a b, ns[j]? = some a → ms[j]? = some b → e j = (a == b)) (hr : ∀ j a b, ns[j]? = some a → ms[j]? = some b → r j = decide (a < b)) :
    ∀ (k i : Nat), min ns.length ms.length - i = k → PySem.SeqAt.firstLt e r (decide (ns.length < ms.length)) ((List.range (min ns.length ms.length)).drop i) = (if i ≤ min ns.length ms.length then HT.lexLt (ns.drop i) (ms.drop i) else decide (ns.length < ms.length)) := by
  intro k
  induction k with
  | zero =>
    intro i hk
    have hge : min ns.length ms.length ≤ i := by omega
    rw [List.drop_eq_nil_of_le (by simpa using hge)]
    show decide (ns.length < ms.length) = _
    by_cases hi : i ≤ min ns.length ms.length
    · rw [if_pos hi]
      have e : i = min ns.length ms.length := by omega
      subst e
      by_cases h1 : ns.length < ms.length
      · have e1 : min ns.length ms.length = ns.length := by omega
        rw [e1, List.drop_length, List.drop_eq_getElem_cons h1, decide_eq_true h1]
        rfl
      · have e1 : min ns.length ms.length = ms.length := by omega
        rw [e1, List.drop_length, decide_eq_false h1]
        by_cases h2 : ms.length < ns.length
        · rw [List.drop_eq_getElem_cons h2]; rfl
        · rw [List.drop_eq_nil_of_le (by omega)]; rfl
    · rw [if_neg hi]
  | succ k ih =>
    intro i hk
    have hm : i < min ns.length ms.length := by omega
    have h1 : i < ns.length := by omega
    have h2 : i < ms.length := by omega
    have hd : (List.range (min ns.length ms.length)).drop i = i :: (List.range (min ns.length ms.length)).drop (i + 1) := by simp [List.drop_eq_getElem_cons, hm]
    rw [hd, if_pos (by omega), List.drop_eq_getElem_cons h1, List.drop_eq_getElem_cons h2]
    have q1 := he i ns[i] ms[i] (List.getElem?_eq_getElem h1) (List.getElem?_eq_getElem h2)
    have q2 := hr i ns[i] ms[i] (List.getElem?_eq_getElem h1) (List.getElem?_eq_getElem h2)
    show _ = if ns[i] = ms[i] then HT.lexLt (ns.drop (i + 1)) (ms.drop (i + 1)) else decide (ns[i] < ms[i])
    by_cases hz : ns[i] = ms[i]
    · rw [if_pos hz, PySem.SeqAt.firstLt_yes (by rw [q1, hz]; simp), ih (i + 1) (by omega), if_pos (by omega)]
    · rw [if_neg hz, PySem.SeqAt.firstLt_no (by rw [q1]; simpa using hz), q2]
theorem op_ltLI (hu : X.A.units < cLine) : OpR X (compareOp .Lt) (rLtLI X.K) := by
  intro pins s σ H x y v u Q I rx ry h
  obtain ⟨a, b, ns, ms, rfl, rfl, ha, hb, q⟩ := h
  cases rx
  cases ry
  obtain ⟨_, its, n, r1, e1⟩ := I.hok a _ ha
  obtain ⟨_, its2, n2, r2, e2⟩ := I.hok b _ hb
  have p1 : s.heap.IsList a its.toArray := ⟨_, e1, rfl, n, rfl⟩
  have p2 : s.heap.IsList b its2.toArray := ⟨_, e2, rfl, n2, rfl⟩
  have l1 : its.length = ns.length := by rw [← r1.length, List.length_map]
  have l2 : its2.length = ms.length := by rw [← r2.length, List.length_map]
  have g1 : ∀ j (h1 : j < its.toArray.size), ∃ t, its.toArray[j] = .int (ns.getD j 0) t ∧ ns[j]? = some (ns.getD j 0) := fun j h1 => by
    have h1' : j < its.length := by simpa using h1
    have hn : j < ns.length := by omega
    obtain ⟨w, ew, t, er⟩ := r1.get (i := j) (x := .int ns[j]) (by rw [List.getElem?_map, List.getElem?_eq_getElem hn]; rfl)
    rw [List.getElem?_eq_getElem h1'] at ew
    refine ⟨t, ?_, ?_⟩
    · have ed : ns.getD j 0 = ns[j] := by rw [List.getD_eq_getElem?_getD, List.getElem?_eq_getElem hn]; rfl
      rw [ed, ← er, ← Option.some.inj ew]; simp
    · rw [List.getD_eq_getElem?_getD, List.getElem?_eq_getElem hn]; rfl
  have g2 : ∀ j (h1 : j < its2.toArray.size), ∃ t, its2.toArray[j] = .int (ms.getD j 0) t ∧ ms[j]? = some (ms.getD j 0) := fun j h1 => by
    have h1' : j < its2.length := by simpa using h1
    have hn : j < ms.length := by omega
    obtain ⟨w, ew, t, er⟩ := r2.get (i := j) (x := .int ms[j]) (by rw [List.getElem?_map, List.getElem?_eq_getElem hn]; rfl)
    rw [List.getElem?_eq_getElem h1'] at ew
    refine ⟨t, ?_, ?_⟩
    · have ed : ms.getD j 0 = ms[j] := by rw [List.getD_eq_getElem?_getD, List.getElem?_eq_getElem hn]; rfl
      rw [ed, ← er, ← Option.some.inj ew]; simp
    · rw [List.getD_eq_getElem?_getD, List.getElem?_eq_getElem hn]; rfl
  refine PySem.SeqAt.RcLt.lists (e := fun j => ns.getD j 0 == ms.getD j 0) (r := fun j => decide (ns.getD j 0 < ms.getD j 0)) p1 p2 hu (fun j h1 h2 => ?_) (fun j h1 h2 _ => ?_) X.prog X.w X.xe _ ?_
  · obtain ⟨t, e3, _⟩ := g1 j h1
    obtain ⟨t', e4, _⟩ := g2 j h2
    rw [e3, e4]
    exact PySem.SeqAt.EqAt.int_int _ _ _ _
  · obtain ⟨t, e3, _⟩ := g1 j h1
    obtain ⟨t', e4, _⟩ := g2 j h2
    rw [e3, e4]
    exact fun _ _ _ _ q => PyProof.Rows.lt_int q
  · have e := firstLt_lex ns ms (fun j => ns.getD j 0 == ms.getD j 0) (fun j => decide (ns.getD j 0 < ms.getD j 0)) (fun j a b h1 h2 => by simp only [List.getD_eq_getElem?_getD, h1, h2]; rfl) (fun j a b h1 h2 => by simp only [List.getD_eq_getElem?_getD, h1, h2]; rfl) _ 0 rfl
    rw [if_pos (Nat.zero_le _)] at e
    have e : PySem.SeqAt.firstLt (fun j => ns.getD j 0 == ms.getD j 0) (fun j => decide (ns.getD j 0 < ms.getD j 0)) (decide (its.toArray.size < its2.toArray.size)) (List.range (min its.toArray.size its2.toArray.size)) = HT.lexLt ns ms := by
      rw [List.size_toArray, List.size_toArray, l1, l2]; exact e
    rw [e]
    exact ⟨.bl _, H, I, rfl, q⟩
def wLtLI : Sto → Dat → Dat → (Dat → Prop) → Prop := fun s d e Q => onM s d fun xs => onM s e fun ys => ∃ ns ms : List Int, xs = ns.map .int ∧ ys = ms.map .int ∧ Q (.bl (HT.lexLt ns ms))
theorem od_ltLI {K : PySem.W.Frag} : OpD K (rLtLI K) wLtLI := fun F H s x y d e Q R g r1 r2 h k => by
  obtain ⟨a, xs, ds, rfl, h1, r3, h⟩ := onM_ok g r1 h
  obtain ⟨b, ys, es, rfl, h2, r4, ns, ms, e1, e2, q⟩ := onM_ok g r2 h
  subst e1; subst e2
  rw [r3.ints] at h1
  rw [r4.ints] at h2
  exact ⟨a, b, ns, ms, rfl, rfl, h1, h2, k F H _ _ (Stp.refl _ _ _) g (.bl _) q⟩
def rLt3 (K : PySem.W.Frag) : R2 := fun x y H Q => rI0 (fun i j => .bl (decide (i < j))) x y H Q ∨ (∃ i j, x = .str i ∧ y = .str j ∧ Q (.bl (decide (i.cps.toList < j.cps.toList))) H) ∨ rLtLI K x y H Q
theorem or_lt (hu : X.A.units + 64 < cLine) : OpR X (compareOp .Lt) (rLt3 X.K) := OpR.or op_lt (OpR.or op_lt_str (op_ltLI (Nat.lt_of_le_of_lt (Nat.le_add_right _ _) hu)))
def wLt : Sto → Dat → Dat → (Dat → Prop) → Prop := fun s d e Q => match d with
  | .int i => onI e fun j => Q (.bl (decide (i < j)))
  | .str a => onS e fun b => Q (.bl (decide (a.cps.toList < b.cps.toList)))
  | d => wLtLI s d e Q
theorem od_lt {K : PySem.W.Frag} : OpD K (rLt3 K) wLt := fun F H s x y d e Q R g r1 r2 h k => by
  cases d <;> first
    | (cases r1; obtain ⟨j, _, rfl, h⟩ := onI_ok r2 h; exact .inl ⟨_, j, rfl, rfl, k F H _ _ (Stp.refl _ _ _) g (.bl _) h⟩)
    | (cases r1; obtain ⟨j, _, rfl, h⟩ := onS_ok r2 h; exact .inr (.inl ⟨_, j, rfl, rfl, k F H _ _ (Stp.refl _ _ _) g (.bl _) h⟩))
    | exact .inr (.inr (od_ltLI F H s x y _ e Q R g r1 r2 h k))
end
/-! ### tests -/
section
variable {X : Cx} {a b c : Expr} {pos : Pos} {ta tb : TT} {Ta Tb : DT}
structure RW (X : Cx) (e : Expr) (t : TT) (T : DT) : Prop where
  pw : PW X e t
  rd : RdT X.K t T
theorem RW.rt (h : RW X a ta Ta) : RT X a ta Ta := ⟨h.pw.pt, h.rd⟩
def dAnd (Ta Tb : DT) : DT := fun ρ s Q => Ta ρ s fun b s1 => if b = true then Tb ρ s1 Q else Q false s1
def dOr (Ta Tb : DT) : DT := fun ρ s Q => Ta ρ s fun b s1 => if b = true then Q true s1 else Tb ρ s1 Q
def dNot (Ta : DT) : DT := fun ρ s Q => Ta ρ s fun b s1 => Q (!b) s1
theorem rw_and {rest : List Expr} (h : RT X a ta Ta) (hb : RW X (.BoolOp .And (b :: rest) pos) tb Tb) (f : PT X a ta → PW X (.BoolOp .And (b :: rest) pos) tb → PW X (.BoolOp .And (a :: b :: rest) pos) (tAnd ta tb) := by exact fun a b => pw_and a b) : RW X (.BoolOp .And (a :: b :: rest) pos) (tAnd ta tb) (dAnd Ta Tb) := ⟨f h.pt hb.pw, fun F H σ ρ s Q R g en q k => h.rd F H σ ρ s _ _ g en q fun F1 H1 s1 c st1 g1 q1 => by
    cases c with
    | true =>
      rw [if_pos rfl] at q1 ⊢
      exact hb.rd F1 H1 σ ρ s1 _ _ g1 (en.mono st1.fz) q1 fun F2 H2 s2 v st2 => k F2 H2 s2 v (st1.trans st2)
    | false =>
      rw [if_neg Bool.false_ne_true] at q1 ⊢
      exact k F1 H1 s1 _ st1 g1 q1⟩
theorem rw_or {rest : List Expr} (h : RT X a ta Ta) (hb : RW X (.BoolOp .Or (b :: rest) pos) tb Tb) (f : PT X a ta → PW X (.BoolOp .Or (b :: rest) pos) tb → PW X (.BoolOp .Or (a :: b :: rest) pos) (tOr ta tb) := by exact fun a b => pw_or a b) : RW X (.BoolOp .Or (a :: b :: rest) pos) (tOr ta tb) (dOr Ta Tb) := ⟨f h.pt hb.pw, fun F H σ ρ s Q R g en q k => h.rd F H σ ρ s _ _ g en q fun F1 H1 s1 c st1 g1 q1 => by
    cases c with
    | true =>
      rw [if_pos rfl] at q1 ⊢
      exact k F1 H1 s1 _ st1 g1 q1
    | false =>
      rw [if_neg Bool.false_ne_true] at q1 ⊢
      exact hb.rd F1 H1 σ ρ s1 _ _ g1 (en.mono st1.fz) q1 fun F2 H2 s2 v st2 => k F2 H2 s2 v (st1.trans st2)⟩
theorem rw_and1 (h : RT X a ta Ta) (f : PT X a ta → PW X (.BoolOp .And [a] pos) ta := by exact fun a => pw_and1 a) : RW X (.BoolOp .And [a] pos) ta Ta := ⟨f h.pt, h.rd⟩
theorem rw_or1 (h : RT X a ta Ta) (f : PT X a ta → PW X (.BoolOp .Or [a] pos) ta := by exact fun a => pw_or1 a) : RW X (.BoolOp .Or [a] pos) ta Ta := ⟨f h.pt, h.rd⟩
theorem rt_not (h : RT X a ta Ta) (f : PT X a ta → PT X (.UnaryOp .Not a pos) (tNot ta) := by exact fun a => pt_not a) : RT X (.UnaryOp .Not a pos) (tNot ta) (dNot Ta) := ⟨f h.pt, fun F H σ ρ s Q R g en q k => h.rd F H σ ρ s _ _ g en q fun F1 H1 s1 c st1 g1 q1 => k F1 H1 s1 _ st1 g1 q1⟩
end
/-! ### a callee as its callers see it -/
structure Cal (P : Program) (w : World) (K : PySem.W.Frag) (mg : Str → Option Value) (base : Heap) (CX : CXT) (k : Nat) (x : Str) (st : Stmt) (ps : List Str) (g : Gd) : Prop where
  ex : ∃ f fd, FnOk P w K mg base CX k f fd ps (spD K g) ∧ mg x = some (.ref f) ∧ PySem.W.keepIn K (.ref f) = true ∧ Binds K fd ps [] ∧ ∃ qual, Fun K x qual st f fd
/-- the law's entry -/
theorem law_enter {K : PySem.W.Frag} {H : Hp} {a : Addr} {ns : List Int} {g : Gd} {E : XK} (hS : SqL K H a (ns.map V.int)) (h : g [.rol (ns.map Dat.int)] (fun _ => none) fun d _ => d = .bl true) : spD K g [.ref a] H (fun v _ => v = .bl true) E :=
  ⟨H, fun _ => none, _, fun d _ => d = .bl true, ⟨Same.refl H, fun _ _ z => nomatch z⟩, .cons (.rol hS (RpA.ofInts ns)) .nil, h, fun F' H' s' v d st g' r q => by subst q; cases r; rfl⟩
theorem gb_app {K : PySem.W.Frag} : GB K (fun vs zs => vs ++ zs) (fun ds es => ds ++ es) := ⟨fun F vs zs ds es a b => a.append b⟩
end DL

/-! The data layer, 6: loops by invariants, comprehensions by functions. -/
namespace DL
open PySem PySem.Spec PyProof.Rows L2
/-- a block cut in two by what holds between -/
theorem cut {T U : DS} {D : DEnds} {ρ : En} {s : Sto} (M : En → Sto → Prop) (h2 : ∀ ρ s, M ρ s → U D ρ s) (h1 : ∀ N : En → Sto → Prop, (∀ ρ s, M ρ s → N ρ s) → T { D with nx := N } ρ s) : dSeq T U D ρ s := h1 (U D) h2
section
variable {G : DG} {Tb : DS} {Tt : DT} {Te : DE} {D : DEnds} {ρ : En} {s : Sto} {ds : List Dat} {Q : List Dat → Sto → Prop}
/-- a for by what holds ahead of each turn -/
theorem forW_inv (I : Nat → En → Sto → Prop) (h0 : I 0 ρ s) (hs : ∀ i d ρ s (N : En → Sto → Prop), ds[i]? = some d → I i ρ s → (∀ ρ' s', I (i + 1) ρ' s' → N ρ' s') → G d ρ fun ρ' => Tb { nx := N, rt := D.rt, bk := D.nx, ct := N } ρ' s)
    (hd : ∀ ρ s, I ds.length ρ s → D.nx ρ s) : forW G Tb D ds ρ s := by
  have key : ∀ (n i : Nat) (ρ : En) (s : Sto), i + n = ds.length → I i ρ s → forW G Tb D (ds.drop i) ρ s := by
    intro n
    induction n with
    | zero =>
      intro i ρ s e h
      have e : i = ds.length := by omega
      subst e
      rw [List.drop_length]
      exact hd ρ s h
    | succ n ih =>
      intro i ρ s e h
      have hi : i < ds.length := by omega
      rw [List.drop_eq_getElem_cons hi]
      exact hs i ds[i] ρ s _ (List.getElem?_eq_getElem hi) h fun ρ' s' q => ih (i + 1) ρ' s' (by omega) q
  exact key ds.length 0 ρ s (by omega) h0
/-- a comprehension whose items are told by a function; the store stays -/
theorem lcW_map (f : Dat → Dat) (h : ∀ d ∈ ds, ∀ (R : Dat → Sto → Prop) (R' : Sto → Prop), R (f d) s → G d ρ fun ρ' => Tt ρ' s fun b s1 => if b = true then Te ρ' s1 R else R' s1) (hq : Q (ds.map f) s) : lcW G Tt Te ρ ds s Q := by
  induction ds generalizing Q with
  | nil => exact hq
  | cons d ds ih => exact h d List.mem_cons_self _ _ (ih (fun e he => h e (List.mem_cons_of_mem _ he)) hq)
/-- .. of some of the items -/
theorem lcW_filter (p : Dat → Bool) (f : Dat → Dat) (h : ∀ d ∈ ds, ∀ (R : Dat → Sto → Prop) (R' : Sto → Prop), (p d = true → R (f d) s) → (p d = false → R' s) → G d ρ fun ρ' => Tt ρ' s fun b s1 => if b = true then Te ρ' s1 R else R' s1) (hq : Q ((ds.filter p).map f) s) : lcW G Tt Te ρ ds s Q := by
  induction ds generalizing Q with
  | nil => exact hq
  | cons d ds ih =>
    refine h d List.mem_cons_self _ _ (fun e => ?_) (fun e => ?_)
    · rw [List.filter_cons_of_pos e] at hq
      exact ih (fun e he => h e (List.mem_cons_of_mem _ he)) hq
    · rw [List.filter_cons_of_neg (by simp [e])] at hq
      exact ih (fun e he => h e (List.mem_cons_of_mem _ he)) hq
/-- a comprehension without a test whose turns change the store -/
theorem lcW_inv (P : List Dat → Sto → Prop) (h0 : P [] s) (h : ∀ d ∈ ds, ∀ ys s, ys.length < ds.length → P ys s → ∀ (R : Dat → Sto → Prop) (R' : Sto → Prop), (∀ y s2, P (ys ++ [y]) s2 → R y s2) → G d ρ fun ρ' => Tt ρ' s fun b s1 => if b = true then Te ρ' s1 R else R' s1)
    (hq : ∀ ys s, ys.length = ds.length → P ys s → Q ys s) : lcW G Tt Te ρ ds s Q := by
  have key : ∀ (rest ys : List Dat) (s : Sto) (Q : List Dat → Sto → Prop), (∀ d ∈ rest, d ∈ ds) → ys.length + rest.length = ds.length → P ys s → (∀ zs s, ys.length + zs.length = ds.length → P (ys ++ zs) s → Q zs s) → lcW G Tt Te ρ rest s Q := by
    intro rest
    induction rest with
    | nil =>
      intro ys s Q _ hl hp hq
      exact hq [] s hl (by rw [List.append_nil]; exact hp)
    | cons d rest ih =>
      intro ys s Q hm hl hp hq
      have hl' : ys.length + (rest.length + 1) = ds.length := hl
      refine h d (hm d List.mem_cons_self) ys s (by omega) hp _ _ fun y s2 hp2 => ?_
      refine ih (ys ++ [y]) s2 _ (fun e he => hm e (List.mem_cons_of_mem _ he)) (by rw [List.length_append, List.length_singleton]; omega) hp2 fun zs s3 hz hp3 => ?_
      refine hq (y :: zs) s3 (by rw [List.length_append, List.length_singleton] at hz; rw [List.length_cons]; omega) ?_
      rw [List.append_assoc] at hp3
      exact hp3
  exact key ds [] s Q (fun _ h => h) (by simp) h0 fun zs s hz hp => hq zs s (by simpa using hz) hp
end
end DL

/-! The data layer, 7: texts by their codes. -/
namespace DL
open PySem PySem.Spec PyProof.Rows L2
theorem joinL_nil : ∀ l : List (List Nat), TL.joinL [] l = l.flatten
  | [] => rfl
  | [p] => by simp [TL.joinL]
  | p :: q :: r => by
    show p ++ ([] ++ TL.joinL [] (q :: r)) = p ++ (q :: r).flatten
    rw [joinL_nil (q :: r)]
    rfl
/-- "".join of texts -/
theorem join0 (l : List (List Nat)) : Txt.join (SX.S []) (l.map SX.S) = SX.S l.flatten := by rw [SX.join_S, joinL_nil]
theorem flatten_one : ∀ l : List Nat, (l.map fun c => [c]).flatten = l
  | [] => rfl
  | c :: l => by
    show c :: (l.map fun c => [c]).flatten = c :: l
    rw [flatten_one l]
/-- "".join of signs -/
theorem join1 (l : List Nat) : Txt.join (SX.S []) (l.map fun c => SX.S [c]) = SX.S l := by
  have e := join0 (l.map fun c => [c])
  rw [List.map_map, flatten_one] at e
  exact e
theorem sum_one : ∀ l : List Nat, ((l.map fun c => SX.S [c]).map (·.length)).sum = l.length
  | [] => rfl
  | c :: l => by
    show 1 + ((l.map fun c => SX.S [c]).map (·.length)).sum = l.length + 1
    rw [sum_one l]
    omega
theorem signsD_S (l : List Nat) : signsD (SX.S l) = l.map fun c => .str (SX.S [c]) := rfl
/-! slices -/
theorem cutG_take {α : Type} (xs : List α) (k : Nat) : cutG xs none (some (k : Int)) = xs.take k := by
  unfold cutG
  rw [HT.sIx_none, HT.sIx_nat, List.drop_zero, Nat.sub_zero]
  rcases Nat.le_total k xs.length with h | h
  · rw [Nat.min_eq_left h]
  · rw [Nat.min_eq_right h, List.take_length, List.take_of_length_le h]
theorem cutG_drop {α : Type} (xs : List α) (k : Nat) : cutG xs (some (k : Int)) none = xs.drop k := by
  unfold cutG
  rw [HT.sIx_none, HT.sIx_nat]
  rcases Nat.le_total k xs.length with h | h
  · rw [Nat.min_eq_left h, List.take_of_length_le (by rw [List.length_drop]; exact Nat.le_refl _)]
  · rw [Nat.min_eq_right h, List.drop_length, List.drop_of_length_le h, List.take_nil]
theorem cutG_all {α : Type} {xs : List α} {k : Nat} (h : xs.length ≤ k) : cutG xs none (some (k : Int)) = xs := by rw [cutG_take, List.take_of_length_le h]
theorem cutG_full {α : Type} (xs : List α) : cutG xs none none = xs := by
  unfold cutG
  rw [HT.sIx_none, HT.sIx_none, List.drop_zero, Nat.sub_zero, List.take_length]
theorem atI_map {α : Type} {xs : List α} {f : α → Dat} {i : Int} {y : α} (h0 : 0 ≤ i) (h : xs[i.toNat]? = some y) : atI (xs.map f) i = some (f y) := by
  have e := atI_nat (xs := xs.map f) (j := i.toNat) (v := f y) (by rw [List.getElem?_map, h]; rfl)
  rw [Int.toNat_of_nonneg h0] at e
  exact e
theorem ixN_nat {n : Nat} {i : Int} (h0 : 0 ≤ i) (h : i < n) : ixN n i = some i.toNat := by
  unfold ixN
  rw [if_pos h0, if_pos h]
/-! == of lists -/
theorem eqOks_map {α : Type} {f : α → Dat} {n : Nat} (h : ∀ a, eqOk n (f a) = true) : ∀ l : List α, eqOks n (l.map f) = true
  | [] => by simp [eqOks]
  | a :: l => by simp [eqOks, h a, eqOks_map h l]
theorem eqD_lst {α : Type} [DecidableEq α] {f : α → Dat} (h : ∀ a b, eqD (f a) (f b) = decide (a = b)) : ∀ l m : List α, PyData.eqvAll (toPys (l.map f)) (toPys (m.map f)) = decide (l = m)
  | [], [] => by simp [toPys, PyData.eqvAll]
  | [], _ :: _ => by simp [toPys, PyData.eqvAll]
  | _ :: _, [] => by simp [toPys, PyData.eqvAll]
  | a :: l, b :: m => by
    have e := h a b
    unfold eqD at e
    simp only [List.map_cons, toPys, PyData.eqvAll, e, eqD_lst h l m]
    by_cases h1 : a = b <;> by_cases h2 : l = m <;> simp [h1, h2]
theorem eqD_int (i j : Int) : eqD (.int i) (.int j) = decide (i = j) := by
  unfold eqD
  simp only [toPy, PyData.eqv]
  by_cases h : i = j <;> simp [h]
theorem eqD_ints (l m : List Int) : eqD (.lst (l.map .int)) (.lst (m.map .int)) = decide (l = m) := by
  show PyData.eqv (.list (toPys _)) (.list (toPys _)) = _
  simp only [PyData.eqv]
  exact eqD_lst eqD_int l m
theorem eqOk_ints (l : List Int) : eqOk 64 (.lst (l.map .int)) = true := by
  simp only [eqOk]
  exact eqOks_map (fun a => by simp [eqOk]) l
theorem szl {n : Nat} (h : n ≤ 1000000) : n ≤ sizeLine := Nat.le_trans h (by decide)
theorem szlt {n : Nat} (h : n ≤ 1000000) : n < sizeLine := Nat.lt_of_le_of_lt h (by decide)
theorem mem_int {ns : List Int} {d : Dat} {i : Nat} (h : (ns.map Dat.int)[i]? = some d) : ∃ c, ns[i]? = some c ∧ d = .int c := by
  rw [List.getElem?_map] at h
  cases e : ns[i]? with
  | none => rw [e] at h; cases h
  | some c => rw [e] at h; exact ⟨c, rfl, (Option.some.inj h).symm⟩
end DL

/-! k53: the promises of the defs, by data. -/
namespace K53
open PySem PySem.Spec PyProof.Rows L2 DL

/-! ### the box of draws -/
structure Box where
  cells : List Int
  here : Int
  mixed : Int
  cnt : Int
/-- what holds of each box -/
structure BoxOk (b : Box) : Prop where
  len : b.cells.length ≤ 63
  h0 : 0 ≤ b.here
/-- the box as it lies in the store -/
def BoxAt (s : Sto) (β : Addr) (b : Box) : Prop := ∃ γ, γ ≠ β ∧ s β = some (.lst [.adr γ, .int b.here, .int b.mixed, .int b.cnt]) ∧ s γ = some (.lst (b.cells.map Dat.int)) ∧ BoxOk b

/-! ### the numbers of strings -/
/-- the string with a number, last sign first: its signs' places -/
def revDigits : Nat → Nat → List Nat
  | 0, _ => []
  | _, 0 => []
  | f + 1, n + 1 => n % 96 :: revDigits f (n / 96)
def digitsOf (n : Nat) : List Nat := (revDigits n n).reverse
def signOf (d : Nat) : Nat := if d = 0 then 10 else d + 31
def nthStr (n : Nat) : Str := ⟨((digitsOf n).map signOf).toArray⟩

def g_nth_string : Gd := fun ds s Q => ∃ n : Nat, ds = [.int n] ∧ n < 96 ^ 400 ∧ Q (.str (nthStr n)) s
def g__law_box : Gd := fun ds s Q => ∃ ns : List Int, ds = [.rol (ns.map Dat.int)] ∧ ns.length ≤ 63 ∧ ∀ β b s', BoxAt s' β b → Q (.adr β) s'
def g__law_take : Gd := fun ds s Q => ∃ (β : Addr) (b : Box) (m : Int), ds = [.adr β, .int m] ∧ BoxAt s β b ∧ 0 < m ∧ m < 1073741824 ∧ ∀ b' s' r, BoxAt s' β b' → 0 ≤ r → r < m → Q (.int r) s'
def g__law_codes : Gd := fun ds s Q => (∃ x : Str, ds = [.str x] ∧ x.length ≤ 1000 ∧ Q (.lst (x.cps.toList.map fun c => .int (c : Nat))) s)
def g__law_next : Gd := fun ds s Q => ∃ ns : List Nat, ds = [.lst (ns.map fun d => .int (d : Nat))] ∧ ns.length ≤ 300 ∧ (∀ d ∈ ns, d < 96) ∧ ∀ ms : List Nat, ms.foldl (fun a d => a * 96 + d + 1) 0 = ns.foldl (fun a d => a * 96 + d + 1) 0 + 1 → (∀ d ∈ ms, d < 96) → ms.length ≤ 301 → Q (.lst (ms.map fun d => .int (d : Nat))) s
def g__law_digits : Gd := fun ds s Q => ∃ (β : Addr) (b : Box), ds = [.adr β] ∧ BoxAt s β b ∧ ∀ b' s' (ns : List Nat), BoxAt s' β b' → ns.length ≤ 300 → (∀ d ∈ ns, d < 96) → Q (.lst (ns.map fun d => .int (d : Nat))) s'
def g_law : Gd := fun ds s Q => ∃ ns : List Int, ds = [.rol (ns.map Dat.int)] ∧ ns.length ≤ 63 ∧ ∀ s', Q (.bl true) s'
end K53

namespace K53
open PySem PySem.Spec PyProof.Rows L2 DL
def K_SIGNS : Str := "\n !\"#$%&'()*+,-./0123456789:;<=>?@ABCDEFGHIJKLMNOPQRSTUVWXYZ[\\]^_`abcdefghijklmnopqrstuvwxyz{|}~"
abbrev N_nth_string : List Str := ["number", "signs", "place"]
--#T nth_string
@[irreducible] def T_nth_string_b1_1 : DS := (dDrop (dMeth isL wApp (dVar 1) (dCons (dOp wIx (dC (.str K_SIGNS)) (dVar 2)) dNil)))
@[irreducible] def T_nth_string_b1 : DS := (dSeq (dAsg (dB1 wDivmod (dCons (dOp (wI0 fun i j => .int (i - j)) (dVar 0) (dC (.int 1))) (dCons (dB1 wLen (dCons (dC (.str K_SIGNS)) dNil)) dNil))) (dGTup 2 (dGCons (dName 0) (dGCons (dName 2) dGNil)))) T_nth_string_b1_1)
@[irreducible] def T_nth_string_2 : DS := (dRet (dJoin (dC (.str "")) (dFz (dRevL (dVar 1)))))
@[irreducible] def T_nth_string_1 : DS := (dSeq (dWhile (dB (dOp (wI0 fun i j => .bl (decide (j < i))) (dVar 0) (dC (.int 0)))) T_nth_string_b1) T_nth_string_2)
@[irreducible] def T_nth_string : DS := (dSeq (dAsg (dMk (dLst dNil)) (dName 1)) T_nth_string_1)
abbrev N__law_box : List Str := ["script", "mixed", "cell"]
--#T _law_box
@[irreducible] def T__law_box_b1 : DS := (dAsg (dOp (wI (fun _ j => 0 < j) fun i j => .int (i % j)) (dB1 wInt (dCons (dOp wAdd (dOp wAdd (dOp (wI CMul fun i j => .int (i * j)) (dVar 1) (dC (.int 48271))) (dOp (wI CMul fun i j => .int (i * j)) (dOp (wI (fun _ j => 0 < j) fun i j => .int (i % j)) (dB1 wInt (dCons (dVar 2) dNil)) (dC (.int 1000003))) (dC (.int 877)))) (dC (.int 41))) dNil)) (dC (.int 2147483629))) (dName 1))
@[irreducible] def T__law_box_2 : DS := (dRet (dMk (dLst (dCons (dMk (dLc (dIterL (dFz (dSlN (dVar 0) dNoP (dPart (dC (.int 63)))))) (dName 2) dYes (dB1 wInt (dCons (dVar 2) dNil)) [2])) (dCons (dC (.int 0)) (dCons (dVar 1) (dCons (dC (.int 0)) dNil)))))))
@[irreducible] def T__law_box_1 : DS := (dSeq (dFor (dIterL (dFz (dSlN (dVar 0) dNoP (dPart (dC (.int 63)))))) (dName 2) T__law_box_b1) T__law_box_2)
@[irreducible] def T__law_box : DS := (dSeq (dAsg (dC (.int 13975)) (dName 1)) T__law_box_1)
abbrev N__law_take : List Str := ["box", "many", "cells", "here", "got", "small"]
--#T _law_take
@[irreducible] def T__law_take_7 : DS := (dRet (dOp (wI (fun _ j => 0 < j) fun i j => .int (i % j)) (dB1 wInt (dCons (dOp (wI CDiv fun i j => .int (i / j)) (dOp (wI (fun _ j => 0 < j) fun i j => .int (i % j)) (dB1 wInt (dCons (dOp (wI CMul fun i j => .int (i * j)) (dOp wIx (dVar 0) (dC (.int 2))) (dC (.int 16807))) dNil)) (dC (.int 2147483629))) (dC (.int 8))) dNil)) (dVar 1)))
@[irreducible] def T__law_take_6 : DS := (dSeq (dIfS (dB (dOp wEq (dOp (wI (fun _ j => 0 < j) fun i j => .int (i % j)) (dB1 wInt (dCons (dOp wIx (dVar 0) (dC (.int 3))) dNil)) (dC (.int 3))) (dC (.int 0)))) (dSetI (dOp wAdd (dVar 3) (dC (.int 1))) (dVar 0) (dC (.int 1))) dNext) T__law_take_7)
@[irreducible] def T__law_take_5 : DS := (dSeq (dSetI (dOp (wI (fun _ j => 0 < j) fun i j => .int (i % j)) (dB1 wInt (dCons (dOp wAdd (dOp wAdd (dOp wAdd (dOp (wI CMul fun i j => .int (i * j)) (dOp wIx (dVar 0) (dC (.int 2))) (dC (.int 48271))) (dOp (wI CMul fun i j => .int (i * j)) (dVar 5) (dC (.int 69621)))) (dOp (wI CMul fun i j => .int (i * j)) (dOp wIx (dVar 0) (dC (.int 3))) (dC (.int 7919)))) (dC (.int 1))) dNil)) (dC (.int 2147483647))) (dVar 0) (dC (.int 2))) T__law_take_6)
@[irreducible] def T__law_take_4 : DS := (dSeq (dSetI (dOp wAdd (dOp wIx (dVar 0) (dC (.int 3))) (dC (.int 1))) (dVar 0) (dC (.int 3))) T__law_take_5)
@[irreducible] def T__law_take_3 : DS := (dSeq (dIfS (dB (dOp wLt (dVar 3) (dB1 wLen (dCons (dVar 2) dNil)))) (dAsg (dOp (wI (fun _ j => 0 < j) fun i j => .int (i % j)) (dB1 wInt (dCons (dOp wIx (dVar 2) (dVar 3)) dNil)) (dC (.int 1000003))) (dName 5)) dNext) T__law_take_4)
@[irreducible] def T__law_take_2 : DS := (dSeq (dAsg (dC (.int 0)) (dName 5)) T__law_take_3)
@[irreducible] def T__law_take_1 : DS := (dSeq (dIfS (dAnd (dB (dOp wLt (dVar 3) (dB1 wLen (dCons (dVar 2) dNil)))) (dB (dOp (wI0 fun i j => .bl (decide (j ≤ i))) (dOp wIx (dVar 2) (dVar 3)) (dOp (wI CPow fun i j => .int (i ^ j.toNat)) (dC (.int 10)) (dC (.int 18)))))) (dSeq (dAsg (dOp (wI (fun _ j => 0 < j) fun i j => .int (i % j)) (dB1 wInt (dCons (dOp wIx (dVar 2) (dVar 3)) dNil)) (dVar 1)) (dName 4)) (dSeq (dSetI (dOp (wI CDiv fun i j => .int (i / j)) (dOp wIx (dVar 2) (dVar 3)) (dVar 1)) (dVar 2) (dVar 3)) (dRet (dVar 4)))) dNext) T__law_take_2)
@[irreducible] def T__law_take : DS := (dSeq (dPar 2 3 (dCons (dOp wIx (dVar 0) (dC (.int 0))) (dCons (dOp wIx (dVar 0) (dC (.int 1))) dNil))) T__law_take_1)
abbrev N__law_codes : List Str := ["found", "x"]
--#T _law_codes
@[irreducible] def T__law_codes_1 : DS := (dRet (dFz (dLc (dIterS (dVar 0)) (dName 1) dYes (dB1 wOrd (dCons (dVar 1) dNil)) [1])))
@[irreducible] def T__law_codes : DS := (dSeq (dIfS (dNot (dB (dB1 wIsi (dCons (dVar 0) (dCons (dC (.ty "str")) dNil))))) (dRet (dC .non)) dNext) T__law_codes_1)
abbrev N__law_next : List Str := ["digits", "found", "k", "at"]
--#T _law_next
@[irreducible] def T__law_next_b1_2 : DS := (dSetI (dC (.int 0)) (dVar 1) (dVar 3))
@[irreducible] def T__law_next_b1_1 : DS := (dSeq (dIfS (dB (dOp wLt (dOp wIx (dVar 1) (dVar 3)) (dC (.int 95)))) (dSeq (dSetI (dOp wAdd (dOp wIx (dVar 1) (dVar 3)) (dC (.int 1))) (dVar 1) (dVar 3)) (dRet (dFrz 1))) dNext) T__law_next_b1_2)
@[irreducible] def T__law_next_b1 : DS := (dSeq (dAsg (dOp (wI0 fun i j => .int (i - j)) (dOp (wI0 fun i j => .int (i - j)) (dB1 wLen (dCons (dVar 1) dNil)) (dC (.int 1))) (dVar 2)) (dName 3)) T__law_next_b1_1)
@[irreducible] def T__law_next_2 : DS := (dRet (dFz (dOpN wCat (dFz (dLst (dCons (dC (.int 0)) dNil))) (dVar 1))))
@[irreducible] def T__law_next_1 : DS := (dSeq (dFor (dRng1 (dCons (dB1 wLen (dCons (dVar 1) dNil)) dNil)) (dName 2) T__law_next_b1) T__law_next_2)
@[irreducible] def T__law_next : DS := (dSeq (dAsg (dMk (dBN wList (dCons (dVar 0) dNil))) (dName 1)) T__law_next_1)
abbrev N__law_digits : List Str := ["box", "size", "way", "found", "k"]
--#T _law_digits
@[irreducible] def T__law_digits_7 : DS := (dRet (dVar 3))
@[irreducible] def T__law_digits_6 : DS := (dSeq (dIfS (dAnd (dB (dOp wEq (dVar 2) (dC (.int 6)))) (dB (dOp (wI0 fun i j => .bl (decide (j < i))) (dVar 1) (dC (.int 1))))) (dAsg (dFz (dOpN wCat (dFz (dSlN (dVar 3) dNoP (dPart (dC (.int 1))))) (dFz (dOpN wRep (dFz (dLst (dCons (dC (.int 95)) dNil))) (dOp (wI0 fun i j => .int (i - j)) (dVar 1) (dC (.int 1))))))) (dName 3)) dNext) T__law_digits_7)
@[irreducible] def T__law_digits_5 : DS := (dSeq (dAsg (dFz (dLc (dRng1 (dCons (dVar 1) dNil)) (dName 4) dYes (dCall g__law_take [] (dCons (dVar 0) (dCons (dC (.int 96)) dNil))) [4])) (dName 3)) T__law_digits_6)
@[irreducible] def T__law_digits_4 : DS := (dSeq (dIfS (dB (dOp wEq (dVar 2) (dC (.int 5)))) (dRet (dFz (dOpN wRep (dFz (dLst (dCons (dC (.int 95)) dNil))) (dVar 1)))) dNext) T__law_digits_5)
@[irreducible] def T__law_digits_3 : DS := (dSeq (dIfS (dB (dOp wEq (dVar 2) (dC (.int 4)))) (dRet (dFz (dOpN wRep (dFz (dLst (dCons (dC (.int 0)) dNil))) (dVar 1)))) dNext) T__law_digits_4)
@[irreducible] def T__law_digits_2 : DS := (dSeq (dIfS (dAnd (dB (dOp wEq (dVar 2) (dC (.int 3)))) (dB (dOp wEq (dCall g__law_take [] (dCons (dVar 0) (dCons (dC (.int 8)) dNil))) (dC (.int 0))))) (dAsg (dC (.int 300)) (dName 1)) dNext) T__law_digits_3)
@[irreducible] def T__law_digits_1 : DS := (dSeq (dIfS (dB (dOp wLt (dVar 2) (dC (.int 3)))) (dAsg (dCall g__law_take [] (dCons (dVar 0) (dCons (dC (.int 61)) dNil))) (dName 1)) dNext) T__law_digits_2)
@[irreducible] def T__law_digits : DS := (dSeq (dPar 1 2 (dCons (dCall g__law_take [] (dCons (dVar 0) (dCons (dC (.int 6)) dNil))) (dCons (dCall g__law_take [] (dCons (dVar 0) (dCons (dC (.int 12)) dNil))) dNil))) T__law_digits_1)
abbrev N_law : List Str := ["script", "box", "codes", "turn", "digits", "at", "digit", "small", "low", "more", "first", "second", "k"]
--#T law
@[irreducible] def T_law_b2 : DS := (dAsg (dOp wAdd (dOp wAdd (dOp (wI CMul fun i j => .int (i * j)) (dVar 5) (dC (.int 96))) (dVar 6)) (dC (.int 1))) (dName 5))
@[irreducible] def T_law_b1_4 : DS := (dIfS (dB (dOp wNe (dCall g__law_codes [] (dCons (dCallN 0 1 g_nth_string (fun a b => a ++ b) dNil (dCons (dOp wAdd (dVar 5) (dC (.int 1))) dNil)) dNil)) (dFz (dLc (dIterL (dCall g__law_next [] (dCons (dVar 4) dNil))) (dName 6) dYes (dOp wIx (dVar 2) (dVar 6)) [6])))) (dRet (dC (.bl false))) dNext)
@[irreducible] def T_law_b1_3 : DS := (dSeq (dIfS (dB (dOp wNe (dCall g__law_codes [] (dCons (dCall g_nth_string [] (dCons (dVar 5) dNil)) dNil)) (dFz (dLc (dIterL (dVar 4)) (dName 6) dYes (dOp wIx (dVar 2) (dVar 6)) [6])))) (dRet (dC (.bl false))) dNext) T_law_b1_4)
@[irreducible] def T_law_b1_2 : DS := (dSeq (dFor (dIterL (dVar 4)) (dName 6) T_law_b2) T_law_b1_3)
@[irreducible] def T_law_b1_1 : DS := (dSeq (dAsg (dC (.int 0)) (dName 5)) T_law_b1_2)
@[irreducible] def T_law_b1 : DS := (dSeq (dAsg (dCall g__law_digits [] (dCons (dVar 1) dNil)) (dName 4)) T_law_b1_1)
@[irreducible] def T_law_8 : DS := (dRet (dOrV (dOp wLt (dB1 wLen (dCons (dVar 10) dNil)) (dB1 wLen (dCons (dVar 11) dNil))) (dOp wLt (dVar 10) (dVar 11))))
@[irreducible] def T_law_7 : DS := (dSeq (dIfS (dOr (dB (dOp wIsN (dVar 10) (dC .non))) (dOr (dB (dOp wIsN (dVar 11) (dC .non))) (dB (dOp (wI0 fun i j => .bl (decide (j < i))) (dB1 wLen (dCons (dVar 10) dNil)) (dB1 wLen (dCons (dVar 11) dNil)))))) (dRet (dC (.bl false))) dNext) T_law_8)
@[irreducible] def T_law_6 : DS := (dSeq (dPar 10 11 (dCons (dCall g__law_codes [] (dCons (dCall g_nth_string [] (dCons (dVar 8) dNil)) dNil)) (dCons (dCall g__law_codes [] (dCons (dCall g_nth_string [] (dCons (dVar 9) dNil)) dNil)) dNil))) T_law_7)
@[irreducible] def T_law_5 : DS := (dSeq (dAsg (dOp wAdd (dOp wAdd (dVar 8) (dC (.int 1))) (dCall g__law_take [] (dCons (dVar 1) (dCons (dC (.int 300)) dNil)))) (dName 9)) T_law_6)
@[irreducible] def T_law_4 : DS := (dSeq (dIfS (dOr (dB (dOp wNe (dCall g_nth_string [] (dCons (dC (.int 0)) dNil)) (dC (.str "")))) (dB (dOp wNe (dCall g__law_codes [] (dCons (dCall g_nth_string [] (dCons (dVar 7) dNil)) dNil)) (dFz (dLst (dCons (dOp wIx (dVar 2) (dOp (wI0 fun i j => .int (i - j)) (dVar 7) (dC (.int 1)))) dNil)))))) (dRet (dC (.bl false))) dNext) T_law_5)
@[irreducible] def T_law_3 : DS := (dSeq (dPar 7 8 (dCons (dOp wAdd (dC (.int 1)) (dCall g__law_take [] (dCons (dVar 1) (dCons (dC (.int 96)) dNil)))) (dCons (dCall g__law_take [] (dCons (dVar 1) (dCons (dC (.int 10000)) dNil))) dNil))) T_law_4)
@[irreducible] def T_law_2 : DS := (dSeq (dFor (dRng1 (dCons (dOp wAdd (dC (.int 3)) (dCall g__law_take [] (dCons (dVar 1) (dCons (dC (.int 3)) dNil)))) dNil)) (dName 3) T_law_b1) T_law_3)
@[irreducible] def T_law_1 : DS := (dSeq (dAsg (dFz (dOpN wCat (dFz (dLst (dCons (dC (.int 10)) dNil))) (dFz (dLc (dRng1 (dCons (dC (.int 95)) dNil)) (dName 12) dYes (dOp wAdd (dVar 12) (dC (.int 32))) [12])))) (dName 2)) T_law_2)
@[irreducible] def T_law : DS := (dSeq (dAsg (dCall g__law_box [] (dCons (dVar 0) dNil)) (dName 1)) T_law_1)
end K53

namespace K53
open PySem PySem.Spec PyProof.Rows L2 DL

theorem len_nth_string : ∀ ds s Q, g_nth_string ds s Q → ds.length = 1 := by rintro ds s Q ⟨n, rfl, _⟩; rfl
theorem len__law_box : ∀ ds s Q, g__law_box ds s Q → ds.length = 1 := by rintro ds s Q ⟨n, rfl, _⟩; rfl
theorem len__law_take : ∀ ds s Q, g__law_take ds s Q → ds.length = 2 := by rintro ds s Q ⟨n, _, _, rfl, _⟩; rfl
theorem len__law_codes : ∀ ds s Q, g__law_codes ds s Q → ds.length = 1 := by rintro ds s Q ⟨n, rfl, _⟩; rfl
theorem len__law_next : ∀ ds s Q, g__law_next ds s Q → ds.length = 1 := by rintro ds s Q ⟨n, rfl, _⟩; rfl
theorem len__law_digits : ∀ ds s Q, g__law_digits ds s Q → ds.length = 1 := by rintro ds s Q ⟨n, _, rfl, _⟩; rfl
theorem len_law : ∀ ds s Q, g_law ds s Q → ds.length = 1 := by rintro ds s Q ⟨n, rfl, _⟩; rfl

/-! ### nth_string -/
theorem K_len : K_SIGNS.length = 96 := by decide +kernel
theorem K_all : (List.range 96).all (fun i => K_SIGNS.cps.toList[i]? == some (signOf i)) = true := by decide +kernel
theorem K_atI {i : Nat} (h : i < 96) : atI K_SIGNS.cps.toList (i : Int) = some (signOf i) := by
  refine atI_nat ?_
  have q := List.all_eq_true.mp K_all i (List.mem_range.mpr h)
  exact beq_iff_eq.mp q
theorem rev_fuel : ∀ (f n : Nat), n ≤ f → revDigits f n = revDigits n n
  | f, 0, _ => by cases f <;> rfl
  | 0, n + 1, h => by omega
  | f + 1, n + 1, h => by
    show n % 96 :: revDigits f (n / 96) = n % 96 :: revDigits n (n / 96)
    have h1 : n / 96 ≤ n := Nat.div_le_self _ _
    rw [rev_fuel f (n / 96) (by omega), rev_fuel n (n / 96) h1]
theorem rev_succ (n : Nat) : revDigits (n + 1) (n + 1) = n % 96 :: revDigits (n / 96) (n / 96) := by
  show n % 96 :: revDigits n (n / 96) = _
  rw [rev_fuel n (n / 96) (Nat.div_le_self _ _)]
theorem rev_zero : revDigits 0 0 = [] := rfl
theorem rd_nth_string : ∀ ds s Q, g_nth_string ds s Q → T_nth_string (endD Q) (startD N_nth_string ds) s := by
  rintro ds s Q ⟨n, rfl, hn, q⟩
  unfold T_nth_string
  refine ⟨Nat.zero_le _, fun p hp => ?_⟩
  unfold T_nth_string_1
  refine ⟨fun k ρ s' => ∃ (m : Nat) (xs : List Nat) (z : Option Dat), k = m ∧ ρ = [some (.int m), some (.adr p), z] ∧ s' = ups s p (.lst (xs.map fun d => .str ⟨#[signOf d]⟩)) ∧ xs ++ revDigits m m = revDigits n n ∧ xs.length ≤ 400 ∧ m < 96 ^ (400 - xs.length), ⟨n, n, [], none, rfl, rfl, rfl, rfl, by decide, hn⟩, ?_⟩
  rintro k ρ s' ⟨m, xs, z, rfl, rfl, rfl, hx, hl, hm⟩
  refine ite2 (fun h => ?_) (fun h => ?_)
  · obtain ⟨m, rfl⟩ : ∃ m, k = m + 1 := ⟨k - 1, by have := of_decide_eq_true h; omega⟩
    unfold T_nth_string_b1
    refine ⟨by rw [K_len]; decide, ?_⟩
    conv => whnf
    rw [show (K_SIGNS.length : Int) = 96 by rw [K_len]; rfl, show (((m + 1 : Nat) : Int) - 1) = (m : Int) by omega]
    refine ⟨⟨by decide, by decide⟩, rfl, ?_⟩
    have hlt : xs.length < 400 := by
      rcases Nat.lt_or_ge xs.length 400 with h | h
      · exact h
      · have e : 400 - xs.length = 0 := by omega
        rw [e] at hm
        omega
    unfold T_nth_string_b1_1
    refine ⟨⟨_, ups_same, trivial⟩, by rw [K_len]; decide, signOf (m % 96), ?_, _, ups_same, ?_, ?_⟩
    · exact K_atI (i := m % 96) (Nat.mod_lt _ (by decide))
    · rw [List.length_map]; exact small1000 (by omega)
    · refine ⟨m / 96, by omega, m / 96, xs ++ [m % 96], some (.int (m % 96 : Nat)), rfl, rfl, ?_, ?_, ?_, ?_⟩
      · rw [ups_ups, List.map_append]; rfl
      · rw [List.append_assoc, ← hx, rev_succ]; rfl
      · rw [List.length_append, List.length_singleton]; omega
      · rw [List.length_append, List.length_singleton]
        have e : 400 - xs.length = (400 - (xs.length + 1)) + 1 := by omega
        rw [e, Nat.pow_succ] at hm
        exact Nat.div_lt_of_lt_mul (by rw [Nat.mul_comm]; omega)
  · have hk : k = 0 := by
      rcases Nat.eq_zero_or_pos k with h' | h'
      · exact h'
      · exact absurd (decide_eq_true (by omega)) h
    subst hk
    rw [rev_zero, List.append_nil] at hx
    unfold T_nth_string_2
    refine ⟨_, ups_same, xs.reverse.map fun d => SX.S [signOf d], ?_, ?_, s, fun a o e => ?_, ?_⟩
    · rw [← List.map_reverse, List.map_map]; rfl
    · have e : (xs.reverse.map fun d => SX.S [signOf d]) = (xs.reverse.map signOf).map fun c => SX.S [c] := by rw [List.map_map]; rfl
      rw [e, sum_one, List.length_map, List.length_map, List.length_map, List.length_reverse]
      show xs.length + xs.length * 0 ≤ 16777216
      omega
    · rw [ups_ne (sne e hp)]; exact e
    · have e : Txt.join (SX.S []) (xs.reverse.map fun d => SX.S [signOf d]) = nthStr n := by
        have e2 : (xs.reverse.map fun d => SX.S [signOf d]) = (xs.reverse.map signOf).map fun c => SX.S [c] := by rw [List.map_map]; rfl
        rw [e2, join1, nthStr, digitsOf, ← hx]
      have q2 : Q (.str (Txt.join (SX.S []) (xs.reverse.map fun d => SX.S [signOf d]))) s := by rw [e]; exact q
      exact q2

/-! ### the box -/
theorem rd__law_box : ∀ ds s Q, g__law_box ds s Q → T__law_box (endD Q) (startD N__law_box ds) s := by
  rintro ds s Q ⟨ns, rfl, hn, q⟩
  have e63 : cutG (ns.map Dat.int) none (some 63) = ns.map Dat.int := cutG_all (k := 63) (by rw [List.length_map]; exact hn)
  unfold T__law_box T__law_box_1
  refine forW_inv (fun i ρ s' => s' = s ∧ ∃ (m : Int) (z : Option Dat), ρ = [some (.rol (ns.map Dat.int)), some (.int m), z]) ⟨rfl, 13975, none, rfl⟩ ?_ ?_
  · rintro i d ρ s' N hi ⟨rfl, m, z, rfl⟩ hN
    rw [e63] at hi
    obtain ⟨c, _, rfl⟩ := mem_int hi
    unfold T__law_box_b1
    refine ⟨.inr (by decide), by show (0 : Int) < 1000003; decide, .inr (by decide), by show (0 : Int) < 2147483629; decide, ?_⟩
    exact hN _ _ ⟨rfl, _, _, rfl⟩
  · rintro ρ s' ⟨rfl, m, z, rfl⟩
    unfold T__law_box_2
    show _ ≤ _ ∧ lcW _ _ _ _ (cutG (ns.map Dat.int) none (some 63)) _ _
    rw [e63]
    refine ⟨by rw [List.length_map]; exact Nat.le_of_lt (small1000 (by omega)), lcW_map id (fun d hd R R' h => ?_) fun γ hγ => ⟨by show 4 ≤ sizeLine; decide, fun β hβ => ?_⟩⟩
    · obtain ⟨c, _, rfl⟩ := List.mem_map.mp hd
      exact h
    · refine ⟨_, fun a o e => e, q β ⟨ns, 0, m, 0⟩ _ ⟨γ, (sne ups_same hβ), ?_, ?_, ⟨hn, Int.le_refl _⟩⟩⟩
      · rw [ups_same]
      · rw [ups_ne (sne ups_same hβ), ups_same, List.map_id]

section
variable {s : Sto} {Q : Dat → Sto → Prop} {β γ : Addr} {b : Box} {m : Int}
theorem rd__law_take_4 (sm : Int) (ne : γ ≠ β) (hβ : s β = some (.lst [.adr γ, .int b.here, .int b.mixed, .int b.cnt])) (hγ : s γ = some (.lst (b.cells.map Dat.int))) (ok : BoxOk b) (hm : 0 < m) (q : ∀ b' s' r, BoxAt s' β b' → 0 ≤ r → r < m → Q (.int r) s') :
    T__law_take_4 (endD Q) [some (.adr β), some (.int m), some (.adr γ), some (.int b.here), none, some (.int sm)] s := by
  unfold T__law_take_4
  refine ⟨_, hβ, .int b.cnt, rfl, _, 3, hβ, rfl, ?_⟩
  unfold T__law_take_5
  refine ⟨_, ups_same, .int b.mixed, rfl, .inr (by decide), .inr (by decide), _, ups_same, .int (b.cnt + 1), rfl, .inr (by decide), by show (0 : Int) < 2147483647; decide, _, 2, ups_same, rfl, ?_⟩
  unfold T__law_take_6
  refine ⟨_, ups_same, .int (b.cnt + 1), rfl, by show (0 : Int) < 3; decide, ite2 (fun h1 => ?_) (fun h1 => ?_)⟩
  · refine ⟨_, 1, ups_same, rfl, ?_⟩
    unfold T__law_take_7
    refine ⟨_, ups_same, _, rfl, .inr (by decide), by show (0 : Int) < 2147483629; decide, ⟨by decide, by decide⟩, hm, _, fun _ _ e => e, ?_⟩
    refine q ⟨b.cells, b.here + 1, _, b.cnt + 1⟩ _ _ ⟨γ, ne, ups_same, ?_, ⟨ok.len, by have := ok.h0; show 0 ≤ b.here + 1; omega⟩⟩ (Int.emod_nonneg _ (by omega)) (Int.emod_lt_of_pos _ hm)
    rw [ups_ne ne, ups_ne ne, ups_ne ne]; exact hγ
  · unfold T__law_take_7
    refine ⟨_, ups_same, _, rfl, .inr (by decide), by show (0 : Int) < 2147483629; decide, ⟨by decide, by decide⟩, hm, _, fun _ _ e => e, ?_⟩
    refine q ⟨b.cells, b.here, _, b.cnt + 1⟩ _ _ ⟨γ, ne, ups_same, ?_, ⟨ok.len, ok.h0⟩⟩ (Int.emod_nonneg _ (by omega)) (Int.emod_lt_of_pos _ hm)
    rw [ups_ne ne, ups_ne ne]; exact hγ
theorem rd__law_take_2 (ne : γ ≠ β) (hβ : s β = some (.lst [.adr γ, .int b.here, .int b.mixed, .int b.cnt])) (hγ : s γ = some (.lst (b.cells.map Dat.int))) (ok : BoxOk b) (hm : 0 < m) (q : ∀ b' s' r, BoxAt s' β b' → 0 ≤ r → r < m → Q (.int r) s') :
    T__law_take_2 (endD Q) [some (.adr β), some (.int m), some (.adr γ), some (.int b.here), none, none] s := by
  unfold T__law_take_2
  show T__law_take_3 _ _ _
  unfold T__law_take_3
  refine .inl ⟨_, hγ, ite2 (fun h1 => ?_) (fun h1 => rd__law_take_4 0 ne hβ hγ ok hm q)⟩
  have h1 : b.here < b.cells.length := by have := of_decide_eq_true h1; rw [List.length_map] at this; omega
  have h0 := ok.h0
  have hc : b.cells[b.here.toNat]? = some b.cells[b.here.toNat] := List.getElem?_eq_getElem (by omega)
  exact ⟨_, hγ, _, atI_map h0 hc, by show (0 : Int) < 1000003; decide, rd__law_take_4 _ ne hβ hγ ok hm q⟩
end
theorem rd__law_take : ∀ ds s Q, g__law_take ds s Q → T__law_take (endD Q) (startD N__law_take ds) s := by
  rintro ds s Q ⟨β, b, m, rfl, ⟨γ, ne, hβ, hγ, ok⟩, hm, hm2, q⟩
  unfold T__law_take
  refine ⟨_, hβ, .adr γ, rfl, _, hβ, .int b.here, rfl, ?_⟩
  unfold T__law_take_1
  refine .inl ⟨_, hγ, ite2 (fun h1 => ?_) (fun h1 => rd__law_take_2 ne hβ hγ ok hm q)⟩
  have h1 : b.here < b.cells.length := by have := of_decide_eq_true h1; rw [List.length_map] at this; omega
  have h0 := ok.h0
  have hc : b.cells[b.here.toNat]? = some b.cells[b.here.toNat] := List.getElem?_eq_getElem (by omega)
  refine ⟨_, hγ, _, atI_map h0 hc, ⟨by decide, by decide, by decide⟩, ite2 (fun h2 => ?_) (fun h2 => rd__law_take_2 ne hβ hγ ok hm q)⟩
  refine ⟨_, hγ, _, atI_map h0 hc, hm, _, hγ, _, atI_map h0 hc, ⟨hm, hm2⟩, _, b.here.toNat, hγ, ixN_nat h0 (by rw [List.length_map]; omega), ?_⟩
  refine ⟨_, fun _ _ e => e, ?_⟩
  refine q ⟨b.cells.set b.here.toNat (b.cells[b.here.toNat] / m), b.here, b.mixed, b.cnt⟩ _ _ ⟨γ, ne, ?_, ?_, ⟨by rw [List.length_set]; exact ok.len, h0⟩⟩ (Int.emod_nonneg _ (by omega)) (Int.emod_lt_of_pos _ hm)
  · rw [ups_ne ne.symm]; exact hβ
  · rw [ups_same, List.map_set]
theorem rd__law_codes : ∀ ds s Q, g__law_codes ds s Q → T__law_codes (endD Q) (startD N__law_codes ds) s := by
  rintro ds s Q ⟨x, rfl, hx, q⟩
  unfold T__law_codes
  refine ⟨"str", true, rfl, by decide +kernel, ?_⟩
  refine ite2 (fun h => nomatch h) (fun _ => ?_)
  unfold T__law_codes_1
  have hl : x.cps.toList.length ≤ 1000 := by rw [Array.length_toList]; exact hx
  refine ⟨szl (by unfold signsD; rw [List.length_map]; omega), lcW_map (fun d => match d with | .str y => .int (y.cps.getD 0 0 : Nat) | d => d) (fun d hd R R' h => ?_) ?_⟩
  · obtain ⟨c, _, rfl⟩ := List.mem_map.mp hd
    exact ⟨rfl, h⟩
  · refine ⟨s, fun _ _ e => e, ?_⟩
    unfold signsD
    rw [List.map_map]
    exact q

/-! ### the next string by places -/
def stepV (a d : Nat) : Nat := a * 96 + d + 1
def V (ds : List Nat) : Nat := ds.foldl stepV 0
theorem V_snoc (ds : List Nat) (d : Nat) : V (ds ++ [d]) = V ds * 96 + d + 1 := by unfold V; rw [List.foldl_append]; rfl
theorem fold_95 (a : Nat) : ∀ k, (List.replicate k 0).foldl stepV (a + 1) = (List.replicate k 95).foldl stepV a + 1
  | 0 => rfl
  | k + 1 => by
    rw [List.replicate_succ', List.replicate_succ', List.foldl_append, List.foldl_append, fold_95 a k]
    show stepV _ 0 = stepV _ 95 + 1
    unfold stepV
    omega
theorem rd__law_next : ∀ ds s Q, g__law_next ds s Q → T__law_next (endD Q) (startD N__law_next ds) s := by
  rintro ds s Q ⟨ns, rfl, hl, hlt, q⟩
  unfold T__law_next
  refine fun p hp => ?_
  unfold T__law_next_1
  refine .inl ⟨_, ups_same, ⟨by have := hl; omega, by rw [List.length_map]; omega⟩, ?_⟩
  rw [List.length_map]
  have hlenr : (rngD 0 ((ns.length : Int)).toNat).length = ns.length := by rw [rngD_length]; omega
  refine forW_inv (fun i ρ s' => ∃ (pre : List Nat) (z1 z2 : Option Dat), ns = pre ++ List.replicate i 95 ∧ ρ = [some (.lst (ns.map fun d => .int (d : Nat))), some (.adr p), z1, z2] ∧ s' = ups s p (.lst ((pre ++ List.replicate i 0).map fun d => .int (d : Nat))))
    ⟨ns, none, none, by simp, rfl, by simp⟩ ?_ ?_
  · rintro i d ρ s' N hi ⟨pre, z1, z2, hns, rfl, rfl⟩ hN
    obtain ⟨hi, rfl⟩ := rngD_get hi
    have hi : i < ns.length := by omega
    have hpl : ns.length = pre.length + i := by rw [hns, List.length_append, List.length_replicate]
    obtain ⟨pre, d, rfl⟩ : ∃ pr d, pre = pr ++ [d] := by
      cases h : pre.reverse with
      | nil =>
        have : pre = [] := by simpa using h
        subst this
        simp at hpl
        omega
      | cons d r =>
        refine ⟨r.reverse, d, ?_⟩
        have := congrArg List.reverse h
        simpa using this
    rw [List.length_append, List.length_singleton] at hpl
    have hd : d < 96 := hlt d (by rw [hns]; simp)
    -- at
    unfold T__law_next_b1
    refine .inl ⟨_, ups_same, ?_⟩
    have e : (((pre ++ [d] ++ List.replicate i 0).map fun d => Dat.int (d : Nat)).length : Int) - 1 - (0 + (i : Int)) = (pre.length : Int) := by simp; omega
    show T__law_next_b1_1 _ (sT (sT _ 2 _) 3 (.int (_ - 1 - (0 + (i : Int))))) _
    rw [e]
    unfold T__law_next_b1_1
    have hat : atI ((pre ++ [d] ++ List.replicate i 0).map fun d => Dat.int (d : Nat)) (pre.length : Int) = some (.int (d : Nat)) := atI_nat (by rw [List.getElem?_map]; simp)
    have hix : ixN ((pre ++ [d] ++ List.replicate i 0).map fun d => Dat.int (d : Nat)).length (pre.length : Int) = some pre.length := ixN_nat (by omega) (by simp; omega)
    have hset : ∀ e : Nat, ((pre ++ [d] ++ List.replicate i 0).map fun d => Dat.int (d : Nat)).set pre.length (.int (e : Nat)) = (pre ++ [e] ++ List.replicate i 0).map fun d => Dat.int (d : Nat) := fun e => by
      rw [List.append_assoc, List.append_assoc, List.map_append, List.map_append, List.set_append_right (h := by simp)]
      simp
    refine ⟨_, ups_same, _, hat, ite2 (fun h => ?_) (fun h => ?_)⟩
    · -- a place that goes up by one
      have h : d < 95 := by have := of_decide_eq_true h; omega
      refine ⟨_, ups_same, _, hat, _, _, ups_same, hix, ?_⟩
      refine ⟨_, ups_same, s, fun a o z => ?_, ?_⟩
      · rw [ups_ups, del_ups hp]; exact z
      · have q' := q (pre ++ [d + 1] ++ List.replicate i 0) ?_ ?_ ?_
        · rw [← hset (d + 1)] at q'
          exact q'
        · show V _ = V ns + 1
          rw [hns]
          unfold V
          rw [List.foldl_append, List.foldl_append, List.foldl_append, List.foldl_append]
          show (List.replicate i 0).foldl stepV (stepV _ (d + 1)) = (List.replicate i 95).foldl stepV (stepV _ d) + 1
          rw [← fold_95]
          rfl
        · intro x hx
          rcases List.mem_append.mp hx with hx | hx
          · rcases List.mem_append.mp hx with hx | hx
            · exact hlt x (by rw [hns]; simp [hx])
            · have : x = d + 1 := by simpa using hx
              omega
          · have := List.eq_of_mem_replicate hx
            omega
        · simp; omega
    · have h : d = 95 := by
        have : ¬ ((d : Int) < 95) := fun z => h (decide_eq_true z)
        omega
      subst h
      unfold T__law_next_b1_2
      refine ⟨_, _, ups_same, hix, hN _ _ ⟨pre, _, _, ?_, rfl, ?_⟩⟩
      · rw [hns, List.append_assoc]; rfl
      · rw [ups_ups]
        have := hset 0
        show ups s p (.lst (List.set _ _ (.int ((0 : Nat) : Int)))) = _
        rw [this, List.append_assoc]; rfl
  · rintro ρ s' ⟨pre, z1, z2, hns, rfl, rfl⟩
    rw [hlenr] at hns ⊢
    have hpl : ns.length = pre.length + ns.length := by
      have := congrArg List.length hns
      rw [List.length_append, List.length_replicate] at this
      exact this
    have hp0 : pre = [] := List.eq_nil_of_length_eq_zero (by omega)
    subst hp0
    show T__law_next_2 _ _ _
    unfold T__law_next_2
    refine ⟨by show 1 ≤ sizeLine; decide, _, ups_same, ?_, s, fun a o e => ?_, ?_⟩
    · show 1 + _ ≤ sizeLine
      exact szl (by simp; omega)
    · rw [ups_ne (sne e hp)]; exact e
    · have q' := q ([0] ++ List.replicate ns.length 0) ?_ ?_ ?_
      · exact q'
      · show V _ = V ns + 1
        rw [hns]
        unfold V
        rw [List.nil_append, List.length_replicate, ← fold_95]
        rfl
      · intro x hx
        have hx : x = 0 ∨ x ∈ List.replicate ns.length 0 := by simpa using hx
        rcases hx with hx | hx
        · omega
        · have := List.eq_of_mem_replicate hx
          omega
      · simp; omega

/-! ### drawn strings -/
theorem rd__law_digits : ∀ ds s Q, g__law_digits ds s Q → T__law_digits (endD Q) (startD N__law_digits ds) s := by
  rintro ds s Q ⟨β, b, rfl, hB, q⟩
  unfold T__law_digits
  refine ⟨β, _, 6, rfl, hB, by decide, by decide, fun b1 s1 sz hB1 l1 l2 => ?_⟩
  refine ⟨β, _, 12, rfl, hB1, by decide, by decide, fun b2 s2 w hB2 w1 w2 => ?_⟩
  -- behind the two draws: size 0 .. 300
  have t2 : ∀ (s : Sto) (b : Box) (sz : Int), BoxAt s β b → 0 ≤ sz → sz ≤ 300 → T__law_digits_3 (endD Q) [some (.adr β), some (.int sz), some (.int w), none, none] s := by
    intro s b sz hB h0 h1
    have rep : ∀ d : Nat, d < 96 → Q (.lst (List.replicate sz.toNat [Dat.int (d : Nat)]).flatten) s := fun d hd => by
      have e : (List.replicate sz.toNat [Dat.int (d : Nat)]).flatten = (List.replicate sz.toNat d).map fun d => Dat.int (d : Nat) := by
        generalize sz.toNat = n
        induction n with
        | zero => rfl
        | succ n ih => rw [List.replicate_succ, List.flatten_cons, ih, List.replicate_succ]; rfl
      rw [e]
      exact q b s _ hB (by rw [List.length_replicate]; omega) (fun x hx => by have := List.eq_of_mem_replicate hx; omega)
    unfold T__law_digits_3
    refine ite2 (fun _ => ?_) (fun _ => ?_)
    · refine ⟨by show 1 ≤ sizeLine; decide, ⟨by omega, by omega, szl (by show 1 * sz.toNat ≤ 1000000; omega)⟩, s, fun _ _ e => e, rep 0 (by decide)⟩
    show T__law_digits_4 _ _ _
    unfold T__law_digits_4
    refine ite2 (fun _ => ?_) (fun _ => ?_)
    · refine ⟨by show 1 ≤ sizeLine; decide, ⟨by omega, by omega, szl (by show 1 * sz.toNat ≤ 1000000; omega)⟩, s, fun _ _ e => e, rep 95 (by decide)⟩
    show T__law_digits_5 _ _ _
    unfold T__law_digits_5
    refine ⟨⟨by omega, by omega⟩, szl (by rw [rngD_length]; omega), ?_⟩
    refine lcW_inv (fun ys s' => ∃ (b : Box) (ns : List Nat), BoxAt s' β b ∧ ys = (ns.map fun d => .int (d : Nat)) ∧ ∀ d ∈ ns, d < 96) ⟨b, [], hB, rfl, fun _ h => nomatch h⟩ ?_ ?_
    · rintro d hd ys s' hl ⟨b, ns, hB, rfl, hns⟩ R R' hR
      refine ⟨β, _, 96, rfl, hB, by decide, by decide, fun b1 s1 x hB1 l1 l2 => ?_⟩
      refine hR _ _ ⟨b1, ns ++ [x.toNat], hB1, ?_, ?_⟩
      · rw [List.map_append, List.map_singleton, Int.toNat_of_nonneg l1]
      · intro d hd
        rcases List.mem_append.mp hd with h | h
        · exact hns d h
        · have : d = x.toNat := by simpa using h
          omega
    · rintro ys s' hl ⟨b, ns, hB, rfl, hns⟩
      rw [rngD_length, List.length_map] at hl
      show T__law_digits_6 _ _ _
      unfold T__law_digits_6
      refine ite2 (fun _ => ite2 (fun h => ?_) (fun h => ?_)) (fun _ => ?_)
      · have h : 1 < sz := of_decide_eq_true h
        have e1 : cutG (ns.map fun d => Dat.int (d : Nat)) none (some 1) = (ns.take 1).map fun d => Dat.int (d : Nat) := by
          rw [List.map_take]; exact cutG_take _ 1
        have e2 : (List.replicate (sz - 1).toNat [Dat.int 95]).flatten = (List.replicate (sz - 1).toNat 95).map fun d : Nat => Dat.int (d : Nat) := by
          generalize (sz - 1).toNat = n
          induction n with
          | zero => rfl
          | succ n ih => rw [List.replicate_succ, List.flatten_cons, ih, List.replicate_succ]; rfl
        refine ⟨by show 1 ≤ sizeLine; decide, ⟨by omega, by omega, szl (by show 1 * (sz - 1).toNat ≤ 1000000; omega)⟩, ?_⟩
        conv => whnf
        rw [e1, e2, ← List.map_append]
        refine ⟨szl (by simp; omega), ?_⟩
        show T__law_digits_7 _ _ _
        unfold T__law_digits_7
        refine ⟨s', fun _ _ e => e, q b s' _ hB (by simp; omega) fun d hd => ?_⟩
        rcases List.mem_append.mp hd with h | h
        · exact hns d (List.mem_of_mem_take h)
        · have := List.eq_of_mem_replicate h
          omega
      · show T__law_digits_7 _ _ _
        unfold T__law_digits_7
        exact ⟨s', fun _ _ e => e, q b s' ns hB (by omega) hns⟩
      · show T__law_digits_7 _ _ _
        unfold T__law_digits_7
        exact ⟨s', fun _ _ e => e, q b s' ns hB (by omega) hns⟩
  have t1 : ∀ (s : Sto) (b : Box) (sz : Int), BoxAt s β b → 0 ≤ sz → sz ≤ 300 → T__law_digits_2 (endD Q) [some (.adr β), some (.int sz), some (.int w), none, none] s := by
    intro s b sz hB h0 h1
    unfold T__law_digits_2
    refine ite2 (fun _ => ?_) (fun _ => t2 s b sz hB h0 h1)
    refine ⟨β, _, 8, rfl, hB, by decide, by decide, fun b1 s1 x hB1 _ _ => ?_⟩
    refine ite2 (fun _ => t2 s1 b1 300 hB1 (by decide) (by decide)) (fun _ => t2 s1 b1 sz hB1 h0 h1)
  unfold T__law_digits_1
  refine ite2 (fun _ => ?_) (fun _ => t1 s2 b2 sz hB2 l1 (by omega))
  refine ⟨β, _, 61, rfl, hB2, by decide, by decide, fun b3 s3 x hB3 h0 h1 => ?_⟩
  exact t1 s3 b3 x hB3 h0 (by omega)
end K53

/-! k53: the plain law of the strings' numbers. -/
namespace K53
open PySem PySem.Spec PyProof.Rows L2 DL
theorem dig_zero : digitsOf 0 = [] := rfl
theorem dig_succ (n : Nat) : digitsOf (n + 1) = digitsOf (n / 96) ++ [n % 96] := by
  unfold digitsOf
  rw [rev_succ, List.reverse_cons]
theorem dig_lt : ∀ n, ∀ d ∈ digitsOf n, d < 96 := by
  intro n
  induction n using Nat.strongRecOn with
  | _ n ih =>
    cases n with
    | zero => intro d h; cases h
    | succ n =>
      intro d h
      rw [dig_succ] at h
      rcases List.mem_append.mp h with h | h
      · exact ih (n / 96) (by omega) d h
      · have : d = n % 96 := by simpa using h
        omega
theorem V_dig : ∀ n, V (digitsOf n) = n := by
  intro n
  induction n using Nat.strongRecOn with
  | _ n ih =>
    cases n with
    | zero => rfl
    | succ n =>
      rw [dig_succ, V_snoc, ih (n / 96) (by omega)]
      omega
theorem dig_V : ∀ (ds : List Nat), (∀ d ∈ ds, d < 96) → digitsOf (V ds) = ds := by
  intro ds
  have key : ∀ (r : List Nat), (∀ d ∈ r, d < 96) → digitsOf (V r.reverse) = r.reverse := by
    intro r
    induction r with
    | nil => intro _; rfl
    | cons d r ih =>
      intro h
      have hd := h d List.mem_cons_self
      rw [List.reverse_cons, V_snoc, dig_succ]
      have e1 : (V r.reverse * 96 + d) / 96 = V r.reverse := by omega
      have e2 : (V r.reverse * 96 + d) % 96 = d := by omega
      rw [e1, e2, ih fun x hx => h x (List.mem_cons_of_mem _ hx)]
  intro h
  have := key ds.reverse (fun d hd => h d (by simpa using hd))
  rwa [List.reverse_reverse] at this
theorem V_lt : ∀ (ds : List Nat), (∀ d ∈ ds, d < 96) → V ds < 96 ^ (ds.length + 1) := by
  intro ds
  have key : ∀ (r : List Nat), (∀ d ∈ r, d < 96) → V r.reverse + 1 < 96 ^ (r.length + 1) := by
    intro r
    induction r with
    | nil => intro _; decide
    | cons d r ih =>
      intro h
      have hd := h d List.mem_cons_self
      have := ih fun x hx => h x (List.mem_cons_of_mem _ hx)
      rw [List.reverse_cons, V_snoc, List.length_cons, Nat.pow_succ]
      omega
  intro h
  have := key ds.reverse (fun d hd => h d (by simpa using hd))
  rw [List.reverse_reverse, List.length_reverse] at this
  omega
theorem pow_le (n : Nat) (h : n ≤ 302) : 96 ^ n < 96 ^ 400 := Nat.pow_lt_pow_right (by decide) (by omega)
theorem dig_len : ∀ (k n : Nat), n < 96 ^ k → (digitsOf n).length ≤ k := by
  intro k
  induction k with
  | zero => intro n h; have : n = 0 := by simpa using h
            subst this; simp [dig_zero]
  | succ k ih =>
    intro n h
    cases n with
    | zero => rw [dig_zero]; exact Nat.zero_le _
    | succ n =>
      rw [dig_succ, List.length_append, List.length_singleton]
      have : n / 96 < 96 ^ k := by
        rw [Nat.pow_succ] at h
        exact Nat.div_lt_of_lt_mul (by rw [Nat.mul_comm]; omega)
      have := ih _ this
      omega
theorem nth_len (n : Nat) : (nthStr n).length = (digitsOf n).length := by
  show ((digitsOf n).map signOf).toArray.size = _
  rw [List.size_toArray, List.length_map]
theorem nth_codes (n : Nat) : (nthStr n).cps.toList = (digitsOf n).map signOf := rfl
theorem sign_mono {a b : Nat} (h : a < b) : (signOf a : Int) < signOf b := by
  unfold signOf
  split <;> split <;> omega
abbrev codesI (l : List Nat) : List Int := l.map fun d => (signOf d : Int)
theorem lex_app : ∀ (xs ys : List Int) (a b : List Int), xs.length = ys.length → HT.lexLt xs ys = true → HT.lexLt (xs ++ a) (ys ++ b) = true
  | [], [], _, _, _, h => by cases h
  | x :: xs, y :: ys, a, b, hl, h => by
    have h : (if x = y then HT.lexLt xs ys else decide (x < y)) = true := h
    show (if x = y then HT.lexLt (xs ++ a) (ys ++ b) else decide (x < y)) = true
    by_cases e : x = y
    · rw [if_pos e] at h ⊢
      exact lex_app xs ys a b (by simpa using hl) h
    · rw [if_neg e] at h ⊢
      exact h
  | [], _ :: _, _, _, hl, _ => by simp at hl
  | _ :: _, [], _, _, hl, _ => by simp at hl
theorem lex_same : ∀ (xs : List Int) (a b : Int), a < b → HT.lexLt (xs ++ [a]) (xs ++ [b]) = true
  | [], a, b, h => by
    show (if a = b then HT.lexLt [] [] else decide (a < b)) = true
    rw [if_neg (by omega), decide_eq_true h]
  | x :: xs, a, b, h => by
    show (if x = x then HT.lexLt (xs ++ [a]) (xs ++ [b]) else decide (x < x)) = true
    rw [if_pos rfl]
    exact lex_same xs a b h
theorem dig_order : ∀ n m : Nat, m < n → (digitsOf m).length < (digitsOf n).length ∨ ((digitsOf m).length = (digitsOf n).length ∧ HT.lexLt (codesI (digitsOf m)) (codesI (digitsOf n)) = true) := by
  intro n
  induction n using Nat.strongRecOn with
  | _ n ih =>
    intro m hm
    cases n with
    | zero => omega
    | succ n =>
      cases m with
      | zero => left; rw [dig_zero, dig_succ, List.length_append]; simp
      | succ m =>
        rw [dig_succ, dig_succ]
        rcases Nat.lt_or_ge (m / 96) (n / 96) with h | h
        · rcases ih (n / 96) (by omega) (m / 96) h with q | ⟨q1, q2⟩
          · left; simp; exact q
          · right
            refine ⟨by simp [q1], ?_⟩
            unfold codesI
            rw [List.map_append, List.map_append]
            exact lex_app _ _ _ _ (by simp [q1]) q2
        · have e : m / 96 = n / 96 := by omega
          have hl : m % 96 < n % 96 := by omega
          right
          rw [e]
          refine ⟨by simp, ?_⟩
          unfold codesI
          rw [List.map_append, List.map_append]
          exact lex_same _ _ _ (sign_mono hl)
/-! ### the law's reading -/
def codesD : List Dat := (List.range 96).map fun d => .int (signOf d : Nat)
theorem codes_eq : [Dat.int 10] ++ (rngD 0 95).map (fun d => match d with | .int i => .int (i + 32) | d => d) = codesD := by rfl
theorem codes_at {d : Nat} (h : d < 96) : atI codesD (d : Int) = some (.int (signOf d : Nat)) := atI_nat (by
  unfold codesD
  rw [List.getElem?_map, List.getElem?_range h]
  rfl)
abbrev natD : Nat → Dat := fun d => .int (d : Nat)
theorem eqOk_nats (l : List Nat) : eqOk 64 (.lst (l.map natD)) = true := by
  simp only [eqOk]
  exact eqOks_map (fun a => by simp [eqOk]) l
theorem eqD_nats (l m : List Nat) : eqD (.lst (l.map natD)) (.lst (m.map natD)) = decide (l = m) := by
  show PyData.eqv (.list (toPys _)) (.list (toPys _)) = _
  simp only [PyData.eqv]
  exact eqD_lst (fun a b => by rw [eqD_int]; by_cases h : a = b <;> simp [h]; omega) l m

theorem nth_ok (n : Nat) (hn : n < 96 ^ 400) : (nthStr n).length ≤ 1000 := by
  rw [nth_len]
  have := dig_len 400 n hn
  omega
theorem nth_cod (n : Nat) : ((nthStr n).cps.toList.map fun c => Dat.int (c : Nat)) = ((digitsOf n).map signOf).map natD := by rw [nth_codes]
/-- [codes[d] for d in ds] -/
def pick : Dat → Dat := fun d => match d with | .int i => .int (signOf i.toNat : Nat) | d => d
theorem pick_nats (ds : List Nat) : (ds.map natD).map pick = ds.map fun d => natD (signOf d) := by rw [List.map_map]; rfl
theorem eq_same (l : List Nat) : (!eqD (.lst (l.map natD)) (.lst (l.map natD))) = false := by rw [eqD_nats]; simp
section
variable {ns : List Int} {β : Addr} {Q : Dat → Sto → Prop}
theorem rd_law_b1 {D : DEnds} {b : Box} {s : Sto} {z3 z4 z5 z6 : Option Dat} {N : En → Sto → Prop} (hB : BoxAt s β b)
    (hN : ∀ (b : Box) (s : Sto) (z4 z5 z6 : Option Dat), BoxAt s β b → N [some (.rol (ns.map Dat.int)), some (.adr β), some (.lst codesD), z3, z4, z5, z6, none, none, none, none, none, none] s) :
    T_law_b1 { nx := N, rt := D.rt, bk := D.nx, ct := N } [some (.rol (ns.map Dat.int)), some (.adr β), some (.lst codesD), z3, z4, z5, z6, none, none, none, none, none, none] s := by
  unfold T_law_b1
  refine ⟨β, b, rfl, hB, fun b1 s1 ds hB1 hl hlt => ?_⟩
  show T_law_b1_1 _ _ _
  unfold T_law_b1_1
  show T_law_b1_2 _ _ _
  unfold T_law_b1_2
  refine forW_inv (fun i ρ s => s = s1 ∧ ∃ z6, ρ = [some (.rol (ns.map Dat.int)), some (.adr β), some (.lst codesD), z3, some (.lst (ds.map natD)), some (.int (V (ds.take i) : Nat)), z6, none, none, none, none, none, none]) ⟨rfl, z6, rfl⟩ ?_ ?_
  · rintro i d ρ s' N' hi ⟨rfl, z6, rfl⟩ hN'
    rw [List.getElem?_map] at hi
    cases e : ds[i]? with
    | none => rw [e] at hi; cases hi
    | some c =>
      rw [e] at hi
      cases hi
      unfold T_law_b2
      refine ⟨.inr (by decide), hN' _ _ ⟨rfl, some (natD c), ?_⟩⟩
      have e2 : V (ds.take (i + 1)) = V (ds.take i) * 96 + c + 1 := by rw [List.take_add_one, e]; exact V_snoc _ _
      rw [e2]
      simp [sT]
  · rintro ρ s' ⟨rfl, z6, rfl⟩
    rw [List.length_map, List.take_length]
    show T_law_b1_3 _ _ _
    unfold T_law_b1_3
    have hV : V ds < 96 ^ 301 := Nat.lt_of_lt_of_le (V_lt ds hlt) (Nat.pow_le_pow_right (by decide) (by omega))
    have hV4 : V ds < 96 ^ 400 := Nat.lt_of_lt_of_le hV (Nat.pow_le_pow_right (by decide) (by decide))
    refine ⟨V ds, rfl, hV4, nthStr (V ds), rfl, nth_ok _ hV4, ?_⟩
    refine ⟨szl (by rw [List.length_map]; omega), lcW_map pick (fun d hd R R' h => ?_) ?_⟩
    · obtain ⟨c, hc, rfl⟩ := List.mem_map.mp hd
      exact ⟨_, codes_at (hlt c hc), h⟩
    · have ec : ((nthStr (V ds)).cps.toList.map fun c => Dat.int (c : Nat)) = (ds.map signOf).map natD := by rw [nth_cod, dig_V ds hlt]
      have ep : (ds.map natD).map pick = (ds.map signOf).map natD := by rw [List.map_map, List.map_map]; rfl
      refine ⟨⟨?_, ?_⟩, ?_⟩
      · show eqOk 64 (.lst ((nthStr (V ds)).cps.toList.map fun c => Dat.int (c : Nat))) = true
        rw [ec]; exact eqOk_nats _
      · show eqOk 64 (.lst ((ds.map natD).map pick)) = true
        rw [ep]; exact eqOk_nats _
      · show if (!eqD (.lst ((nthStr (V ds)).cps.toList.map fun c => Dat.int (c : Nat))) (.lst ((ds.map natD).map pick))) = true then _ else _
        rw [ec, ep, eq_same]
        refine iteF ?_
        show T_law_b1_4 _ _ _
        unfold T_law_b1_4
        have hV5 : V ds + 1 < 96 ^ 400 := Nat.lt_of_le_of_lt hV (Nat.pow_lt_pow_right (by decide) (by decide))
        refine ⟨rfl, rfl, V ds + 1, rfl, hV5, nthStr (V ds + 1), rfl, nth_ok _ hV5, ds, rfl, hl, hlt, fun ms hv hms hlm => ?_⟩
        have hv : V ms = V ds + 1 := hv
        refine ⟨szl (by rw [List.length_map]; omega), lcW_map pick (fun d hd R R' h => ?_) ?_⟩
        · obtain ⟨c, hc, rfl⟩ := List.mem_map.mp hd
          exact ⟨_, codes_at (hms c hc), h⟩
        · have ec : ((nthStr (V ds + 1)).cps.toList.map fun c => Dat.int (c : Nat)) = (ms.map signOf).map natD := by rw [nth_cod, ← hv, dig_V ms hms]
          have ep : (ms.map natD).map pick = (ms.map signOf).map natD := by rw [List.map_map, List.map_map]; rfl
          refine ⟨⟨?_, ?_⟩, ?_⟩
          · show eqOk 64 (.lst ((nthStr (V ds + 1)).cps.toList.map fun c => Dat.int (c : Nat))) = true
            rw [ec]; exact eqOk_nats _
          · show eqOk 64 (.lst ((ms.map natD).map pick)) = true
            rw [ep]; exact eqOk_nats _
          · show if (!eqD (.lst ((nthStr (V ds + 1)).cps.toList.map fun c => Dat.int (c : Nat))) (.lst ((ms.map natD).map pick))) = true then _ else _
            rw [ec, ep, eq_same]
            exact iteF (hN b1 _ _ _ _ hB1)
end
theorem dig_one {n : Nat} (h : n < 96) : digitsOf (n + 1) = [n] := by
  rw [dig_succ]
  have e1 : n / 96 = 0 := by omega
  have e2 : n % 96 = n := by omega
  rw [e1, e2, dig_zero]
  rfl
theorem nth0 : nthStr 0 = "" := by decide +kernel
theorem small_lt {n : Nat} (h : n < 1000000) : n < 96 ^ 400 := Nat.lt_of_lt_of_le (show n < 96 ^ 4 by omega) (Nat.pow_le_pow_right (by decide) (by decide))
theorem rd_law : ∀ ds s Q, g_law ds s Q → T_law (endD Q) (startD N_law ds) s := by
  rintro ds s Q ⟨ns, rfl, hn, q⟩
  unfold T_law
  refine ⟨ns, rfl, hn, fun β b s1 hB => ?_⟩
  show T_law_1 _ _ _
  unfold T_law_1
  refine ⟨by show 1 ≤ sizeLine; decide, ⟨by decide, by decide⟩, szl (by rw [rngD_length]; decide), lcW_map (fun d => match d with | .int i => .int (i + 32) | d => d) (fun d hd R R' h => ?_) ?_⟩
  · obtain ⟨c, hc, rfl⟩ := List.mem_map.mp hd
    exact h
  refine ⟨szl (by rw [List.length_map, rngD_length]; decide), ?_⟩
  show T_law_2 _ (sT _ 2 (.lst ([Dat.int 10] ++ (rngD 0 95).map (fun d => match d with | .int i => .int (i + 32) | d => d)))) _
  rw [codes_eq]
  unfold T_law_2
  refine ⟨β, b, 3, rfl, hB, by decide, by decide, fun b1 s2 r hB1 h0 h1 => ?_⟩
  refine ⟨⟨by omega, by omega⟩, ?_⟩
  refine forW_inv (fun i ρ s => ∃ (b : Box) (z3 z4 z5 z6 : Option Dat), BoxAt s β b ∧ ρ = [some (.rol (ns.map Dat.int)), some (.adr β), some (.lst codesD), z3, z4, z5, z6, none, none, none, none, none, none]) ⟨b1, none, none, none, none, hB1, rfl⟩ ?_ ?_
  · rintro i d ρ s' N hi ⟨b, z3, z4, z5, z6, hB, rfl⟩ hN
    exact rd_law_b1 hB fun b s z4 z5 z6 hB => hN _ _ ⟨b, _, z4, z5, z6, hB, rfl⟩
  · rintro ρ s' ⟨b, z3, z4, z5, z6, hB, rfl⟩
    show T_law_3 _ _ _
    unfold T_law_3
    refine ⟨β, b, 96, rfl, hB, by decide, by decide, fun b1 s2 r hB1 h0 h1 => ?_⟩
    refine ⟨β, b1, 10000, rfl, hB1, by decide, by decide, fun b2 s3 w hB2 w0 w1 => ?_⟩
    obtain ⟨r, rfl⟩ := Int.eq_ofNat_of_zero_le h0
    obtain ⟨w, rfl⟩ := Int.eq_ofNat_of_zero_le w0
    have hr : r < 96 := by omega
    have hw : w < 10000 := by omega
    show T_law_4 _ (sT (sT _ 7 (.int (1 + (r : Int)))) 8 (.int (w : Int))) _
    rw [show (1 + (r : Int)) = ((r + 1 : Nat) : Int) by omega]
    unfold T_law_4
    refine ⟨0, rfl, by decide, ?_⟩
    refine ⟨r + 1, rfl, small_lt (by omega), nthStr (r + 1), rfl, nth_ok _ (small_lt (by omega)), ?_⟩
    refine ⟨.int (signOf r : Nat), by rw [show (((r + 1 : Nat) : Int) - 1) = (r : Int) by omega]; exact codes_at hr, by show 1 ≤ sizeLine; decide, ?_⟩
    have ec : ((nthStr (r + 1)).cps.toList.map fun c => Dat.int (c : Nat)) = [signOf r].map natD := by rw [nth_cod, dig_one hr]; rfl
    refine ⟨⟨?_, eqOk_nats [signOf r]⟩, ?_⟩
    · show eqOk 64 (.lst ((nthStr (r + 1)).cps.toList.map fun c => Dat.int (c : Nat))) = true
      rw [ec]; exact eqOk_nats _
    show if (!eqD (.lst ((nthStr (r + 1)).cps.toList.map fun c => Dat.int (c : Nat))) (.lst ([signOf r].map natD))) = true then _ else _
    rw [ec, eq_same]
    refine iteF ?_
    show T_law_5 _ _ _
    unfold T_law_5
    refine ⟨β, b2, 300, rfl, hB2, by decide, by decide, fun b3 s4 u hB3 u0 u1 => ?_⟩
    obtain ⟨u, rfl⟩ := Int.eq_ofNat_of_zero_le u0
    have hu : u < 300 := by omega
    show T_law_6 _ _ _
    unfold T_law_6
    refine ⟨w, rfl, small_lt (by omega), nthStr w, rfl, nth_ok _ (small_lt (by omega)), w + 1 + u, rfl, small_lt (by omega), nthStr (w + 1 + u), rfl, nth_ok _ (small_lt (by omega)), ?_⟩
    show T_law_7 _ (sT (sT _ 10 (.lst ((nthStr w).cps.toList.map fun c => Dat.int (c : Nat)))) 11 (.lst ((nthStr (w + 1 + u)).cps.toList.map fun c => Dat.int (c : Nat)))) _
    rw [nth_cod, nth_cod]
    have ord := dig_order (w + 1 + u) w (by omega)
    have e1 : ((((digitsOf w).map signOf).map natD).length : Int) = (digitsOf w).length := by simp
    have e2 : ((((digitsOf (w + 1 + u)).map signOf).map natD).length : Int) = (digitsOf (w + 1 + u)).length := by simp
    unfold T_law_7
    refine ite2 (fun h => ?_) (fun h => ?_)
    · have h := of_decide_eq_true h
      rw [e1, e2] at h
      omega
    show T_law_8 _ _ _
    unfold T_law_8
    refine ite2 (fun h => ⟨s4, fun _ _ e => e, q _⟩) (fun h => ?_)
    refine ⟨codesI (digitsOf w), codesI (digitsOf (w + 1 + u)), ?_, ?_, s4, fun _ _ e => e, ?_⟩
    · unfold codesI; rw [List.map_map, List.map_map]; rfl
    · unfold codesI; rw [List.map_map, List.map_map]; rfl
    · have hn : ¬ (digitsOf w).length < (digitsOf (w + 1 + u)).length := fun z => h (decide_eq_true (by rw [e1, e2]; omega))
      rcases ord with o | ⟨_, o⟩
      · exact absurd o hn
      · rw [o]; exact q _
end K53

namespace K53
open PySem PySem.Spec PyProof.Rows L2 DL
def topS (i : Nat) : Stmt := PySem.Challenge.pw_parsetwins_k53_strings_by_number.main.body.getD i (.Pass ⟨0, 0, 0, 0⟩)
abbrev s_nth_string : Stmt := topS 2
theorem sc_nth_string : FnScope N_nth_string ["number"] (defScope s_nth_string) := ⟨rfl, rfl, rfl, by decide +kernel, rfl, by decide +kernel, by decide +kernel⟩
abbrev s__law_box : Stmt := topS 4
theorem sc__law_box : FnScope N__law_box ["script"] (defScope s__law_box) := ⟨rfl, rfl, rfl, by decide +kernel, rfl, by decide +kernel, by decide +kernel⟩
abbrev s__law_take : Stmt := topS 5
theorem sc__law_take : FnScope N__law_take ["box", "many"] (defScope s__law_take) := ⟨rfl, rfl, rfl, by decide +kernel, rfl, by decide +kernel, by decide +kernel⟩
abbrev s__law_codes : Stmt := topS 7
theorem sc__law_codes : FnScope N__law_codes ["found"] (defScope s__law_codes) := ⟨rfl, rfl, rfl, by decide +kernel, rfl, by decide +kernel, by decide +kernel⟩
abbrev s__law_next : Stmt := topS 8
theorem sc__law_next : FnScope N__law_next ["digits"] (defScope s__law_next) := ⟨rfl, rfl, rfl, by decide +kernel, rfl, by decide +kernel, by decide +kernel⟩
abbrev s__law_digits : Stmt := topS 9
theorem sc__law_digits : FnScope N__law_digits ["box"] (defScope s__law_digits) := ⟨rfl, rfl, rfl, by decide +kernel, rfl, by decide +kernel, by decide +kernel⟩
abbrev s_law : Stmt := topS 10
theorem sc_law : FnScope N_law ["script"] (defScope s_law) := ⟨rfl, rfl, rfl, by decide +kernel, rfl, by decide +kernel, by decide +kernel⟩
structure Zt (mg : Str → Option Value) : Prop where
  m_divmod : mg "divmod" = none
  m_len : mg "len" = none
  c_SIGNS : ∃ t, mg "SIGNS" = some (.str K_SIGNS t)
  m_int : mg "int" = none
  m_isinstance : mg "isinstance" = none
  m_str : mg "str" = none
  m_ord : mg "ord" = none
  m_list : mg "list" = none
  m_range : mg "range" = none
section
variable {P : Program} {w : World} {K : PySem.W.Frag} {mg : Str → Option Value} {base : Heap}
theorem kb_nth_string_0 {qual : Str} {f : Addr} {fd : FuncData} (F : Fun K "nth_string" qual s_nth_string f fd) : KBn K fd ["number"] 0 ["number"] (fun us ws => us ++ ws) (fun vs zs => vs ++ zs) :=
  kb_mk F _ _ _ (fun a b => a ++ b) (fun a b => a.append b) fun _ _ _ _ _ _ us ws h1 h2 => match us, ws, h1, h2 with | [], [_], _, _ => rfl
theorem ok_nth_string {f : Addr} {fd : FuncData} (F : Fun K "nth_string" "nth_string" s_nth_string f fd) (Z : Zt mg) : FnOk P w K mg base CX0 1 f fd ["number"] (spD K g_nth_string) := by
  obtain ⟨t_SIGNS, h_SIGNS⟩ := Z.c_SIGNS
  refine fun_ok F sc_nth_string len_nth_string fun cdv A outer s H E hr => ?_
  refine ⟨_, _, (rss_cons (rs_set (i := 1) sc_nth_string.nd rfl (.inl rfl) (re_mk (rn_lst ra_nil)))
    (rss_cons (rs_while PassesOwn.never (rt_cmp op_gt (od_i0 fun _ _ _ => .bl _) (nomark _) (re_name 0) re_int) (rss_cons (rs_asg (re_callB call_divmod cd_divmod (by rfl) Z.m_divmod (by decide +kernel) (ra_cons (re_op op_sub (od_i0 (fun _ _ _ => .int _)) (re_name 0) re_int) (ra_cons (re_callB (r := rLen2 K) cr_len cd_len (by rfl) Z.m_len (by decide +kernel) (ra_cons (re_c (v := .str K_SIGNS) (d := .str K_SIGNS) (pe_glob (by rfl) h_SIGNS ⟨_, rfl⟩) fun _ => .str _) ra_nil)) ra_nil))) (rg_tup (rfl : _ = K) rfl (rgs_cons (rg_name (i := 0) sc_nth_string.nd rfl (.inl rfl)) (rgs_cons (rg_name (i := 2) sc_nth_string.nd rfl (.inl rfl)) rgs_nil))))
    (rss_one (rs_expr (re_lm (rfl : _ = K) PySem.F.slot_list_append PySem.F.type_list_append mt_append md_append (re_name 1) (ra_cons (re_ix (r := rIx K) ix_seq od_ix (re_c (v := .str K_SIGNS) (d := .str K_SIGNS) (pe_glob (by rfl) h_SIGNS ⟨_, rfl⟩) fun _ => .str _) (re_name 2)) ra_nil))))))
    (rss_one (rs_ret (re_join (rfl : _ = K) re_str (re_frz (rn_rev (rfl : _ = K) (re_name 1)))))))), fun ds s Q h => ?_⟩
  have z := rd_nth_string ds s Q h
  unfold T_nth_string T_nth_string_1 T_nth_string_2 T_nth_string_b1 T_nth_string_b1_1 at z
  exact z
theorem ok__law_box {f : Addr} {fd : FuncData} (F : Fun K "_law_box" "_law_box" s__law_box f fd) (Z : Zt mg) : FnOk P w K mg base CX0 1 f fd ["script"] (spD K g__law_box) := by
  refine fun_ok F sc__law_box len__law_box fun cdv A outer s H E hr => ?_
  refine ⟨_, _, (rss_cons (rs_set (i := 1) sc__law_box.nd rfl (.inl rfl) re_int)
    (rss_cons (rs_for PassesOwn.never rfl (ri_list (rfl : _ = K) (re_frz (rn_slice (rfl : _ = K) (re_name 0) ro_none (ro_some re_int)))) (rg_name (i := 2) sc__law_box.nd rfl (.inl rfl)) (rss_one (rs_set (i := 1) sc__law_box.nd rfl (.inl rfl) (re_op op_mod (od_i (fun _ _ _ => .int _)) (re_callTy call_int1 cd_int (by rfl) Z.m_int (by decide +kernel) (ra_cons (re_op (r := rAdd3 K) or_add od_add (re_op (r := rAdd3 K) or_add od_add (re_op op_mul (od_i (fun _ _ _ => .int _)) (re_name 1) re_int) (re_op op_mul (od_i (fun _ _ _ => .int _)) (re_op op_mod (od_i (fun _ _ _ => .int _)) (re_callTy call_int1 cd_int (by rfl) Z.m_int (by decide +kernel) (ra_cons (re_name 2) ra_nil)) re_int) re_int)) re_int) ra_nil)) re_int))))
    (rss_one (rs_ret (re_mk (rn_lst (ra_cons (re_mk (rn_lc (own := [("cell", 2)]) rfl sc__law_box.nd (ri_list (rfl : _ = K) (re_frz (rn_slice (rfl : _ = K) (re_name 0) ro_none (ro_some re_int)))) (blkOk_by (own := [("cell", 2)]) (N := N__law_box) (sc := defScope s__law_box) (by decide +kernel)) (fun _ _ _ _ _ => (rg_name (i := 2) sc__law_box.nd rfl (.inl rfl))) (fun _ _ _ _ _ => rts_nil) (fun _ _ _ _ _ => (re_callTy call_int1 cd_int (by rfl) Z.m_int (by decide +kernel) (ra_cons (re_name 2) ra_nil))))) (ra_cons re_int (ra_cons (re_name 1) (ra_cons re_int ra_nil)))))))))), fun ds s Q h => ?_⟩
  have z := rd__law_box ds s Q h
  unfold T__law_box T__law_box_1 T__law_box_2 T__law_box_b1 at z
  exact z
theorem ok__law_take {f : Addr} {fd : FuncData} (F : Fun K "_law_take" "_law_take" s__law_take f fd) (Z : Zt mg) : FnOk P w K mg base CX0 1 f fd ["box", "many"] (spD K g__law_take) := by
  refine fun_ok F sc__law_take len__law_take fun cdv A outer s H E hr => ?_
  refine ⟨_, _, (rss_cons (rs_par (i := 2) (j := 3) (ra_cons (re_ix (r := rIx K) ix_seq od_ix (re_name 0) re_int) (ra_cons (re_ix (r := rIx K) ix_seq od_ix (re_name 0) re_int) ra_nil)) (fun z => ps_par (by rfl) sc__law_take.nd rfl rfl (by decide) rfl rfl z (by rfl)))
    (rss_cons (rs_if (RW.rt (rw_and (rt_cmp (r := rLt3 K) (or_lt hr.units) od_lt (nomark _) (re_name 3) (re_callB (r := rLen2 K) cr_len cd_len (by rfl) Z.m_len (by decide +kernel) (ra_cons (re_name 2) ra_nil))) (rw_and1 (rt_cmp op_ge (od_i0 fun _ _ _ => .bl _) (nomark _) (re_ix (r := rIx K) ix_seq od_ix (re_name 2) (re_name 3)) (re_op op_pow (od_i (fun _ _ _ => .int _)) re_int re_int))))) (rss_cons (rs_set (i := 4) sc__law_take.nd rfl (.inl rfl) (re_op op_mod (od_i (fun _ _ _ => .int _)) (re_callTy call_int1 cd_int (by rfl) Z.m_int (by decide +kernel) (ra_cons (re_ix (r := rIx K) ix_seq od_ix (re_name 2) (re_name 3)) ra_nil)) (re_name 1)))
    (rss_cons (rs_setI (re_op op_fdiv (od_i (fun _ _ _ => .int _)) (re_ix (r := rIx K) ix_seq od_ix (re_name 2) (re_name 3)) (re_name 1)) (re_name 2) (re_name 3))
    (rss_one (rs_ret (re_name 4))))) rss_nil)
    (rss_cons (rs_set (i := 5) sc__law_take.nd rfl (.inl rfl) re_int)
    (rss_cons (rs_if (rt_cmp (r := rLt3 K) (or_lt hr.units) od_lt (nomark _) (re_name 3) (re_callB (r := rLen2 K) cr_len cd_len (by rfl) Z.m_len (by decide +kernel) (ra_cons (re_name 2) ra_nil))) (rss_one (rs_set (i := 5) sc__law_take.nd rfl (.inl rfl) (re_op op_mod (od_i (fun _ _ _ => .int _)) (re_callTy call_int1 cd_int (by rfl) Z.m_int (by decide +kernel) (ra_cons (re_ix (r := rIx K) ix_seq od_ix (re_name 2) (re_name 3)) ra_nil)) re_int))) rss_nil)
    (rss_cons (rs_setI (re_op (r := rAdd3 K) or_add od_add (re_ix (r := rIx K) ix_seq od_ix (re_name 0) re_int) re_int) (re_name 0) re_int)
    (rss_cons (rs_setI (re_op op_mod (od_i (fun _ _ _ => .int _)) (re_callTy call_int1 cd_int (by rfl) Z.m_int (by decide +kernel) (ra_cons (re_op (r := rAdd3 K) or_add od_add (re_op (r := rAdd3 K) or_add od_add (re_op (r := rAdd3 K) or_add od_add (re_op op_mul (od_i (fun _ _ _ => .int _)) (re_ix (r := rIx K) ix_seq od_ix (re_name 0) re_int) re_int) (re_op op_mul (od_i (fun _ _ _ => .int _)) (re_name 5) re_int)) (re_op op_mul (od_i (fun _ _ _ => .int _)) (re_ix (r := rIx K) ix_seq od_ix (re_name 0) re_int) re_int)) re_int) ra_nil)) re_int) (re_name 0) re_int)
    (rss_cons (rs_if (rt_cmp (r := rEqA K) (or_eq hr.units) od_eq (nomark _) (re_op op_mod (od_i (fun _ _ _ => .int _)) (re_callTy call_int1 cd_int (by rfl) Z.m_int (by decide +kernel) (ra_cons (re_ix (r := rIx K) ix_seq od_ix (re_name 0) re_int) ra_nil)) re_int) re_int) (rss_one (rs_setI (re_op (r := rAdd3 K) or_add od_add (re_name 3) re_int) (re_name 0) re_int)) rss_nil)
    (rss_one (rs_ret (re_op op_mod (od_i (fun _ _ _ => .int _)) (re_callTy call_int1 cd_int (by rfl) Z.m_int (by decide +kernel) (ra_cons (re_op op_fdiv (od_i (fun _ _ _ => .int _)) (re_op op_mod (od_i (fun _ _ _ => .int _)) (re_callTy call_int1 cd_int (by rfl) Z.m_int (by decide +kernel) (ra_cons (re_op op_mul (od_i (fun _ _ _ => .int _)) (re_ix (r := rIx K) ix_seq od_ix (re_name 0) re_int) re_int) ra_nil)) re_int) re_int) ra_nil)) (re_name 1))))))))))), fun ds s Q h => ?_⟩
  have z := rd__law_take ds s Q h
  unfold T__law_take T__law_take_1 T__law_take_2 T__law_take_3 T__law_take_4 T__law_take_5 T__law_take_6 T__law_take_7 at z
  exact z
theorem ok__law_codes {f : Addr} {fd : FuncData} (F : Fun K "_law_codes" "_law_codes" s__law_codes f fd) (Z : Zt mg) : FnOk P w K mg base CX0 1 f fd ["found"] (spD K g__law_codes) := by
  refine fun_ok F sc__law_codes len__law_codes fun cdv A outer s H E hr => ?_
  refine ⟨_, _, (rss_cons (rs_if (rt_not (rt_val (re_callB (r := rIsi2 K) cr_isi cd_isi (by rfl) Z.m_isinstance (by decide +kernel) (ra_cons (re_name 0) (ra_cons (re_c (v := .ty "str") (d := .ty "str") (pe_bltn (u := .type "str") (by rfl) Z.m_str (by decide +kernel) rfl) fun _ => .ty _) ra_nil))))) (rss_one (rs_ret re_non)) rss_nil)
    (rss_one (rs_ret (re_frz (rn_lc (own := [("x", 1)]) rfl sc__law_codes.nd (ri_str (re_name 0)) (blkOk_by (own := [("x", 1)]) (N := N__law_codes) (sc := defScope s__law_codes) (by decide +kernel)) (fun _ _ _ _ _ => (rg_name (i := 1) sc__law_codes.nd rfl (.inl rfl))) (fun _ _ _ _ _ => rts_nil) (fun _ _ _ _ _ => (re_callB call_ord cd_ord (by rfl) Z.m_ord (by decide +kernel) (ra_cons (re_name 1) ra_nil)))))))), fun ds s Q h => ?_⟩
  have z := rd__law_codes ds s Q h
  unfold T__law_codes T__law_codes_1 at z
  exact z
theorem ok__law_next {f : Addr} {fd : FuncData} (F : Fun K "_law_next" "_law_next" s__law_next f fd) (Z : Zt mg) : FnOk P w K mg base CX0 1 f fd ["digits"] (spD K g__law_next) := by
  refine fun_ok F sc__law_next len__law_next fun cdv A outer s H E hr => ?_
  refine ⟨_, _, (rss_cons (rs_set (i := 1) sc__law_next.nd rfl (.inl rfl) (re_mk (rn_callTy (r := rListOf K) call_list_of cn_list (by rfl) Z.m_list (by decide +kernel) (ra_cons (re_name 0) ra_nil))))
    (rss_cons (rs_for PassesOwn.never rfl (ri_range1 (by rfl) Z.m_range (ra_cons (re_callB (r := rLen2 K) cr_len cd_len (by rfl) Z.m_len (by decide +kernel) (ra_cons (re_name 1) ra_nil)) ra_nil) (fun a => pi_range1 (by rfl) Z.m_range a)) (rg_name (i := 2) sc__law_next.nd rfl (.inl rfl)) (rss_cons (rs_set (i := 3) sc__law_next.nd rfl (.inl rfl) (re_op op_sub (od_i0 (fun _ _ _ => .int _)) (re_op op_sub (od_i0 (fun _ _ _ => .int _)) (re_callB (r := rLen2 K) cr_len cd_len (by rfl) Z.m_len (by decide +kernel) (ra_cons (re_name 1) ra_nil)) re_int) (re_name 2)))
    (rss_cons (rs_if (rt_cmp (r := rLt3 K) (or_lt hr.units) od_lt (nomark _) (re_ix (r := rIx K) ix_seq od_ix (re_name 1) (re_name 3)) re_int) (rss_cons (rs_setI (re_op (r := rAdd3 K) or_add od_add (re_ix (r := rIx K) ix_seq od_ix (re_name 1) (re_name 3)) re_int) (re_name 1) (re_name 3))
    (rss_one (rs_ret (re_fz (re_name 1))))) rss_nil)
    (rss_one (rs_setI re_int (re_name 1) (re_name 3))))))
    (rss_one (rs_ret (re_frz (rn_op op_cat on_cat (re_frz (rn_lst (ra_cons re_int ra_nil))) (re_name 1))))))), fun ds s Q h => ?_⟩
  have z := rd__law_next ds s Q h
  unfold T__law_next T__law_next_1 T__law_next_2 T__law_next_b1 T__law_next_b1_1 T__law_next_b1_2 at z
  exact z
theorem ok__law_digits {f : Addr} {fd : FuncData} (F : Fun K "_law_digits" "_law_digits" s__law_digits f fd) (Z : Zt mg) (C__law_take : Cal P w K mg base CX0 1 "_law_take" s__law_take ["box", "many"] g__law_take) : FnOk P w K mg base CX0 2 f fd ["box"] (spD K g__law_digits) := by
  obtain ⟨f__law_take, fd__law_take, G__law_take, hm__law_take, kp__law_take, b__law_take, qu__law_take, FF__law_take⟩ := C__law_take.ex
  refine fun_ok F sc__law_digits len__law_digits fun cdv A outer s H E hr => ?_
  refine ⟨_, _, (rss_cons (rs_par (i := 1) (j := 2) (ra_cons (re_call (rfl : _ = K) G__law_take (hr.mono (by decide)) (by rfl) hm__law_take kp__law_take b__law_take .nil rpa_nil pass0 (ra_cons (re_name 0) (ra_cons re_int ra_nil))) (ra_cons (re_call (rfl : _ = K) G__law_take (hr.mono (by decide)) (by rfl) hm__law_take kp__law_take b__law_take .nil rpa_nil pass0 (ra_cons (re_name 0) (ra_cons re_int ra_nil))) ra_nil)) (fun z => ps_par (by rfl) sc__law_digits.nd rfl rfl (by decide) rfl rfl z (by rfl)))
    (rss_cons (rs_if (rt_cmp (r := rLt3 K) (or_lt hr.units) od_lt (nomark _) (re_name 2) re_int) (rss_one (rs_set (i := 1) sc__law_digits.nd rfl (.inl rfl) (re_call (rfl : _ = K) G__law_take (hr.mono (by decide)) (by rfl) hm__law_take kp__law_take b__law_take .nil rpa_nil pass0 (ra_cons (re_name 0) (ra_cons re_int ra_nil))))) rss_nil)
    (rss_cons (rs_if (RW.rt (rw_and (rt_cmp (r := rEqA K) (or_eq hr.units) od_eq (nomark _) (re_name 2) re_int) (rw_and1 (rt_cmp (r := rEqA K) (or_eq hr.units) od_eq (nomark _) (re_call (rfl : _ = K) G__law_take (hr.mono (by decide)) (by rfl) hm__law_take kp__law_take b__law_take .nil rpa_nil pass0 (ra_cons (re_name 0) (ra_cons re_int ra_nil))) re_int)))) (rss_one (rs_set (i := 1) sc__law_digits.nd rfl (.inl rfl) re_int)) rss_nil)
    (rss_cons (rs_if (rt_cmp (r := rEqA K) (or_eq hr.units) od_eq (nomark _) (re_name 2) re_int) (rss_one (rs_ret (re_frz (rn_op op_rep on_rep (re_frz (rn_lst (ra_cons re_int ra_nil))) (re_name 1))))) rss_nil)
    (rss_cons (rs_if (rt_cmp (r := rEqA K) (or_eq hr.units) od_eq (nomark _) (re_name 2) re_int) (rss_one (rs_ret (re_frz (rn_op op_rep on_rep (re_frz (rn_lst (ra_cons re_int ra_nil))) (re_name 1))))) rss_nil)
    (rss_cons (rs_setLc (W := dFz) (i := 3) (own := [("k", 4)]) w_fz rfl sc__law_digits.nd rfl rfl (sw_true rfl rfl rfl (by decide +kernel)) (ri_range1 (by rfl) Z.m_range (ra_cons (re_name 1) ra_nil) (fun a => pi_range1 (by rfl) Z.m_range a)) (blkOk_by (own := [("k", 4)]) (N := N__law_digits) (sc := defScope s__law_digits) (by decide +kernel)) (fun _ _ _ _ _ => (rg_name (i := 4) sc__law_digits.nd rfl (.inl rfl))) (fun _ _ _ _ _ => rts_nil) (fun _ _ _ _ _ => (re_call (rfl : _ = K) G__law_take (hr.mono (by decide)) (by rfl) hm__law_take kp__law_take b__law_take .nil rpa_nil pass0 (ra_cons (re_name 0) (ra_cons re_int ra_nil)))))
    (rss_cons (rs_if (RW.rt (rw_and (rt_cmp (r := rEqA K) (or_eq hr.units) od_eq (nomark _) (re_name 2) re_int) (rw_and1 (rt_cmp op_gt (od_i0 fun _ _ _ => .bl _) (nomark _) (re_name 1) re_int)))) (rss_one (rs_set (i := 3) sc__law_digits.nd rfl (.inl rfl) (re_frz (rn_op op_cat on_cat (re_frz (rn_slice (rfl : _ = K) (re_name 3) ro_none (ro_some re_int))) (re_frz (rn_op op_rep on_rep (re_frz (rn_lst (ra_cons re_int ra_nil))) (re_op op_sub (od_i0 (fun _ _ _ => .int _)) (re_name 1) re_int))))))) rss_nil)
    (rss_one (rs_ret (re_name 3)))))))))), fun ds s Q h => ?_⟩
  have z := rd__law_digits ds s Q h
  unfold T__law_digits T__law_digits_1 T__law_digits_2 T__law_digits_3 T__law_digits_4 T__law_digits_5 T__law_digits_6 T__law_digits_7 at z
  exact z
theorem ok_law {f : Addr} {fd : FuncData} (F : Fun K "law" "law" s_law f fd) (Z : Zt mg) (C__law_box : Cal P w K mg base CX0 1 "_law_box" s__law_box ["script"] g__law_box) (C__law_take : Cal P w K mg base CX0 1 "_law_take" s__law_take ["box", "many"] g__law_take) (C__law_digits : Cal P w K mg base CX0 2 "_law_digits" s__law_digits ["box"] g__law_digits) (C__law_codes : Cal P w K mg base CX0 1 "_law_codes" s__law_codes ["found"] g__law_codes) (C_nth_string : Cal P w K mg base CX0 1 "nth_string" s_nth_string ["number"] g_nth_string) (C__law_next : Cal P w K mg base CX0 1 "_law_next" s__law_next ["digits"] g__law_next) : FnOk P w K mg base CX0 3 f fd ["script"] (spD K g_law) := by
  obtain ⟨f__law_box, fd__law_box, G__law_box, hm__law_box, kp__law_box, b__law_box, qu__law_box, FF__law_box⟩ := C__law_box.ex
  obtain ⟨f__law_take, fd__law_take, G__law_take, hm__law_take, kp__law_take, b__law_take, qu__law_take, FF__law_take⟩ := C__law_take.ex
  obtain ⟨f__law_digits, fd__law_digits, G__law_digits, hm__law_digits, kp__law_digits, b__law_digits, qu__law_digits, FF__law_digits⟩ := C__law_digits.ex
  obtain ⟨f__law_codes, fd__law_codes, G__law_codes, hm__law_codes, kp__law_codes, b__law_codes, qu__law_codes, FF__law_codes⟩ := C__law_codes.ex
  obtain ⟨f_nth_string, fd_nth_string, G_nth_string, hm_nth_string, kp_nth_string, b_nth_string, qu_nth_string, FF_nth_string⟩ := C_nth_string.ex
  obtain ⟨f__law_next, fd__law_next, G__law_next, hm__law_next, kp__law_next, b__law_next, qu__law_next, FF__law_next⟩ := C__law_next.ex
  refine fun_ok F sc_law len_law fun cdv A outer s H E hr => ?_
  refine ⟨_, _, (rss_cons (rs_set (i := 1) sc_law.nd rfl (.inl rfl) (re_call (rfl : _ = K) G__law_box (hr.mono (by decide)) (by rfl) hm__law_box kp__law_box b__law_box .nil rpa_nil pass0 (ra_cons (re_name 0) ra_nil)))
    (rss_cons (rs_set (i := 2) sc_law.nd rfl (.inr rfl) (re_frz (rn_op op_cat on_cat (re_frz (rn_lst (ra_cons re_int ra_nil))) (re_frz (rn_lc (own := [("k", 12)]) rfl sc_law.nd (ri_range1 (by rfl) Z.m_range (ra_cons re_int ra_nil) (fun a => pi_range1 (by rfl) Z.m_range a)) (blkOk_by (own := [("k", 12)]) (N := N_law) (sc := defScope s_law) (by decide +kernel)) (fun _ _ _ _ _ => (rg_name (i := 12) sc_law.nd rfl (.inl rfl))) (fun _ _ _ _ _ => rts_nil) (fun _ _ _ _ _ => (re_op (r := rAdd3 K) or_add od_add (re_name 12) re_int)))))))
    (rss_cons (rs_for PassesOwn.never rfl (ri_range1 (by rfl) Z.m_range (ra_cons (re_op (r := rAdd3 K) or_add od_add re_int (re_call (rfl : _ = K) G__law_take (hr.mono (by decide)) (by rfl) hm__law_take kp__law_take b__law_take .nil rpa_nil pass0 (ra_cons (re_name 1) (ra_cons re_int ra_nil)))) ra_nil) (fun a => pi_range1 (by rfl) Z.m_range a)) (rg_name (i := 3) sc_law.nd rfl (.inl rfl)) (rss_cons (rs_set (i := 4) sc_law.nd rfl (.inl rfl) (re_call (rfl : _ = K) G__law_digits (hr.mono (by decide)) (by rfl) hm__law_digits kp__law_digits b__law_digits .nil rpa_nil pass0 (ra_cons (re_name 1) ra_nil)))
    (rss_cons (rs_set (i := 5) sc_law.nd rfl (.inl rfl) re_int)
    (rss_cons (rs_for PassesOwn.never rfl (ri_list (rfl : _ = K) (re_name 4)) (rg_name (i := 6) sc_law.nd rfl (.inl rfl)) (rss_one (rs_set (i := 5) sc_law.nd rfl (.inl rfl) (re_op (r := rAdd3 K) or_add od_add (re_op (r := rAdd3 K) or_add od_add (re_op op_mul (od_i (fun _ _ _ => .int _)) (re_name 5) re_int) (re_name 6)) re_int))))
    (rss_cons (rs_if (rt_cmp (r := rNeA K) (or_ne hr.units) od_ne (nomark _) (re_call (rfl : _ = K) G__law_codes (hr.mono (by decide)) (by rfl) hm__law_codes kp__law_codes b__law_codes .nil rpa_nil pass0 (ra_cons (re_call (rfl : _ = K) G_nth_string (hr.mono (by decide)) (by rfl) hm_nth_string kp_nth_string b_nth_string .nil rpa_nil pass0 (ra_cons (re_name 5) ra_nil)) ra_nil)) (re_frz (rn_lc (own := [("digit", 6)]) rfl sc_law.nd (ri_list (rfl : _ = K) (re_name 4)) (blkOk_by (own := [("digit", 6)]) (N := N_law) (sc := defScope s_law) (by decide +kernel)) (fun _ _ _ _ _ => (rg_name (i := 6) sc_law.nd rfl (.inl rfl))) (fun _ _ _ _ _ => rts_nil) (fun _ _ _ _ _ => (re_ix (r := rIx K) ix_seq od_ix (re_name 2) (re_name 6)))))) (rss_one (rs_ret re_bl)) rss_nil)
    (rss_one (rs_if (rt_cmp (r := rNeA K) (or_ne hr.units) od_ne (nomark _) (re_call (rfl : _ = K) G__law_codes (hr.mono (by decide)) (by rfl) hm__law_codes kp__law_codes b__law_codes .nil rpa_nil pass0 (ra_cons (re_callN0 (rfl : _ = K) G_nth_string (hr.mono (by decide)) (by rfl) hm_nth_string kp_nth_string (kb_nth_string_0 (FF_nth_string)) gb_app pass0 (rk_cons (re_op (r := rAdd3 K) or_add od_add (re_name 5) re_int) rk_nil)) ra_nil)) (re_frz (rn_lc (own := [("digit", 6)]) rfl sc_law.nd (ri_list (rfl : _ = K) (re_call (rfl : _ = K) G__law_next (hr.mono (by decide)) (by rfl) hm__law_next kp__law_next b__law_next .nil rpa_nil pass0 (ra_cons (re_name 4) ra_nil))) (blkOk_by (own := [("digit", 6)]) (N := N_law) (sc := defScope s_law) (by decide +kernel)) (fun _ _ _ _ _ => (rg_name (i := 6) sc_law.nd rfl (.inl rfl))) (fun _ _ _ _ _ => rts_nil) (fun _ _ _ _ _ => (re_ix (r := rIx K) ix_seq od_ix (re_name 2) (re_name 6)))))) (rss_one (rs_ret re_bl)) rss_nil)))))))
    (rss_cons (rs_par (i := 7) (j := 8) (ra_cons (re_op (r := rAdd3 K) or_add od_add re_int (re_call (rfl : _ = K) G__law_take (hr.mono (by decide)) (by rfl) hm__law_take kp__law_take b__law_take .nil rpa_nil pass0 (ra_cons (re_name 1) (ra_cons re_int ra_nil)))) (ra_cons (re_call (rfl : _ = K) G__law_take (hr.mono (by decide)) (by rfl) hm__law_take kp__law_take b__law_take .nil rpa_nil pass0 (ra_cons (re_name 1) (ra_cons re_int ra_nil))) ra_nil)) (fun z => ps_par (by rfl) sc_law.nd rfl rfl (by decide) rfl rfl z (by rfl)))
    (rss_cons (rs_if (RW.rt (rw_or (rt_cmp (r := rNeA K) (or_ne hr.units) od_ne (nomark _) (re_call (rfl : _ = K) G_nth_string (hr.mono (by decide)) (by rfl) hm_nth_string kp_nth_string b_nth_string .nil rpa_nil pass0 (ra_cons re_int ra_nil)) re_str) (rw_or1 (rt_cmp (r := rNeA K) (or_ne hr.units) od_ne (nomark _) (re_call (rfl : _ = K) G__law_codes (hr.mono (by decide)) (by rfl) hm__law_codes kp__law_codes b__law_codes .nil rpa_nil pass0 (ra_cons (re_call (rfl : _ = K) G_nth_string (hr.mono (by decide)) (by rfl) hm_nth_string kp_nth_string b_nth_string .nil rpa_nil pass0 (ra_cons (re_name 7) ra_nil)) ra_nil)) (re_frz (rn_lst (ra_cons (re_ix (r := rIx K) ix_seq od_ix (re_name 2) (re_op op_sub (od_i0 (fun _ _ _ => .int _)) (re_name 7) re_int)) ra_nil))))))) (rss_one (rs_ret re_bl)) rss_nil)
    (rss_cons (rs_set (i := 9) sc_law.nd rfl (.inl rfl) (re_op (r := rAdd3 K) or_add od_add (re_op (r := rAdd3 K) or_add od_add (re_name 8) re_int) (re_call (rfl : _ = K) G__law_take (hr.mono (by decide)) (by rfl) hm__law_take kp__law_take b__law_take .nil rpa_nil pass0 (ra_cons (re_name 1) (ra_cons re_int ra_nil)))))
    (rss_cons (rs_par (i := 10) (j := 11) (ra_cons (re_call (rfl : _ = K) G__law_codes (hr.mono (by decide)) (by rfl) hm__law_codes kp__law_codes b__law_codes .nil rpa_nil pass0 (ra_cons (re_call (rfl : _ = K) G_nth_string (hr.mono (by decide)) (by rfl) hm_nth_string kp_nth_string b_nth_string .nil rpa_nil pass0 (ra_cons (re_name 8) ra_nil)) ra_nil)) (ra_cons (re_call (rfl : _ = K) G__law_codes (hr.mono (by decide)) (by rfl) hm__law_codes kp__law_codes b__law_codes .nil rpa_nil pass0 (ra_cons (re_call (rfl : _ = K) G_nth_string (hr.mono (by decide)) (by rfl) hm_nth_string kp_nth_string b_nth_string .nil rpa_nil pass0 (ra_cons (re_name 9) ra_nil)) ra_nil)) ra_nil)) (fun z => ps_par (by rfl) sc_law.nd rfl rfl (by decide) rfl rfl z (by rfl)))
    (rss_cons (rs_if (RW.rt (rw_or (rt_cmp op_isN od_isN (nomark _) (re_name 10) re_non) (rw_or (rt_cmp op_isN od_isN (nomark _) (re_name 11) re_non) (rw_or1 (rt_cmp op_gt (od_i0 fun _ _ _ => .bl _) (nomark _) (re_callB (r := rLen2 K) cr_len cd_len (by rfl) Z.m_len (by decide +kernel) (ra_cons (re_name 10) ra_nil)) (re_callB (r := rLen2 K) cr_len cd_len (by rfl) Z.m_len (by decide +kernel) (ra_cons (re_name 11) ra_nil))))))) (rss_one (rs_ret re_bl)) rss_nil)
    (rss_one (rs_ret (re_or (re_cmp (r := rLt3 K) (or_lt hr.units) od_lt (nomark _) (re_callB (r := rLen2 K) cr_len cd_len (by rfl) Z.m_len (by decide +kernel) (ra_cons (re_name 10) ra_nil)) (re_callB (r := rLen2 K) cr_len cd_len (by rfl) Z.m_len (by decide +kernel) (ra_cons (re_name 11) ra_nil))) (re_one (re_cmp (r := rLt3 K) (or_lt hr.units) od_lt (nomark _) (re_name 10) (re_name 11)))))))))))))), fun ds s Q h => ?_⟩
  have z := rd_law ds s Q h
  unfold T_law T_law_1 T_law_2 T_law_3 T_law_4 T_law_5 T_law_6 T_law_7 T_law_8 T_law_b1 T_law_b1_1 T_law_b1_2 T_law_b1_3 T_law_b1_4 T_law_b2 at z
  exact z
end
theorem all_mk {l : PySem.W.OpenLaw} {w : World} {K : PySem.W.Frag} {h : Heap} {mg : Str → Option Value} {fa f1 f2 f3 f4 f5 f6 f7 : Addr} (X : K.In h) (G : h.Ns mainGlobals mg) (hfa : mg "law" = some (.ref fa))
    {od1 an1 od2 an2 od3 an3 od4 an4 od5 an5 od6 an6 od7 an7 : Option Addr} {sl1 sl2 sl3 sl4 sl5 sl6 sl7 : Array (Option Value)} {oc1 kV1 dc1 pm1 cd1 ct1 oc2 kV2 dc2 pm2 cd2 ct2 oc3 kV3 dc3 pm3 cd3 ct3 oc4 kV4 dc4 pm4 cd4 ct4 oc5 kV5 dc5 pm5 cd5 ct5 oc6 kV6 dc6 pm6 cd6 ct6 oc7 kV7 dc7 pm7 cd7 ct7 : Value}
    (a1 : PySem.W.nsIn K mainGlobals "nth_string" = some (some (.ref f1))) (l1 : K.lookup f1 = some ⟨oc1, od1, .func (PySem.W.fnOf "nth_string" "nth_string" (defArgs s_nth_string) (defBody s_nth_string) (defScope s_nth_string) .none kV1 dc1 pm1 an1 cd1 ct1), sl1⟩) (c1 : PySem.W.codeIn K cd1 "nth_string" = true) (k1 : PySem.W.keepIn K (.ref f1) = true)
    (a2 : PySem.W.nsIn K mainGlobals "_law_box" = some (some (.ref f2))) (l2 : K.lookup f2 = some ⟨oc2, od2, .func (PySem.W.fnOf "_law_box" "_law_box" (defArgs s__law_box) (defBody s__law_box) (defScope s__law_box) .none kV2 dc2 pm2 an2 cd2 ct2), sl2⟩) (c2 : PySem.W.codeIn K cd2 "_law_box" = true) (k2 : PySem.W.keepIn K (.ref f2) = true)
    (a3 : PySem.W.nsIn K mainGlobals "_law_take" = some (some (.ref f3))) (l3 : K.lookup f3 = some ⟨oc3, od3, .func (PySem.W.fnOf "_law_take" "_law_take" (defArgs s__law_take) (defBody s__law_take) (defScope s__law_take) .none kV3 dc3 pm3 an3 cd3 ct3), sl3⟩) (c3 : PySem.W.codeIn K cd3 "_law_take" = true) (k3 : PySem.W.keepIn K (.ref f3) = true)
    (a4 : PySem.W.nsIn K mainGlobals "_law_codes" = some (some (.ref f4))) (l4 : K.lookup f4 = some ⟨oc4, od4, .func (PySem.W.fnOf "_law_codes" "_law_codes" (defArgs s__law_codes) (defBody s__law_codes) (defScope s__law_codes) .none kV4 dc4 pm4 an4 cd4 ct4), sl4⟩) (c4 : PySem.W.codeIn K cd4 "_law_codes" = true) (k4 : PySem.W.keepIn K (.ref f4) = true)
    (a5 : PySem.W.nsIn K mainGlobals "_law_next" = some (some (.ref f5))) (l5 : K.lookup f5 = some ⟨oc5, od5, .func (PySem.W.fnOf "_law_next" "_law_next" (defArgs s__law_next) (defBody s__law_next) (defScope s__law_next) .none kV5 dc5 pm5 an5 cd5 ct5), sl5⟩) (c5 : PySem.W.codeIn K cd5 "_law_next" = true) (k5 : PySem.W.keepIn K (.ref f5) = true)
    (a6 : PySem.W.nsIn K mainGlobals "_law_digits" = some (some (.ref f6))) (l6 : K.lookup f6 = some ⟨oc6, od6, .func (PySem.W.fnOf "_law_digits" "_law_digits" (defArgs s__law_digits) (defBody s__law_digits) (defScope s__law_digits) .none kV6 dc6 pm6 an6 cd6 ct6), sl6⟩) (c6 : PySem.W.codeIn K cd6 "_law_digits" = true) (k6 : PySem.W.keepIn K (.ref f6) = true)
    (a7 : PySem.W.nsIn K mainGlobals "law" = some (some (.ref f7))) (l7 : K.lookup f7 = some ⟨oc7, od7, .func (PySem.W.fnOf "law" "law" (defArgs s_law) (defBody s_law) (defScope s_law) .none kV7 dc7 pm7 an7 cd7 ct7), sl7⟩) (c7 : PySem.W.codeIn K cd7 "law" = true) (k7 : PySem.W.keepIn K (.ref f7) = true)
    (z_divmod : PySem.W.nsIn K mainGlobals "divmod" = some none)
    (z_len : PySem.W.nsIn K mainGlobals "len" = some none)
    {tk_SIGNS : Tok} (z_SIGNS : PySem.W.nsIn K mainGlobals "SIGNS" = some (some (.str K_SIGNS tk_SIGNS)))
    (z_int : PySem.W.nsIn K mainGlobals "int" = some none)
    (z_isinstance : PySem.W.nsIn K mainGlobals "isinstance" = some none)
    (z_str : PySem.W.nsIn K mainGlobals "str" = some none)
    (z_ord : PySem.W.nsIn K mainGlobals "ord" = some none)
    (z_list : PySem.W.nsIn K mainGlobals "list" = some none)
    (z_range : PySem.W.nsIn K mainGlobals "range" = some none)
    : ∃ fd : FuncData, (∀ (s : Shared) (v : Value), BindsTo s fd ⟨[v], []⟩ [("script", v)]) ∧ ∀ base : Heap, K.In base → base.Ns mainGlobals mg → FnOk l.prog w K mg base CX0 3 fa fd ["script"] (spD K g_law) := by
  have e := hfa.symm.trans (PySem.W.mg_of X G a7)
  cases e
  have F1 := fun_mk (st := s_nth_string) l1 c1 k1
  have b1 := F1.binds (ps := ["number"]) fun _ _ _ _ _ _ us hl => match us, hl with | [_], _ => rfl
  have F2 := fun_mk (st := s__law_box) l2 c2 k2
  have b2 := F2.binds (ps := ["script"]) fun _ _ _ _ _ _ us hl => match us, hl with | [_], _ => rfl
  have F3 := fun_mk (st := s__law_take) l3 c3 k3
  have b3 := F3.binds (ps := ["box", "many"]) fun _ _ _ _ _ _ us hl => match us, hl with | [_, _], _ => rfl
  have F4 := fun_mk (st := s__law_codes) l4 c4 k4
  have b4 := F4.binds (ps := ["found"]) fun _ _ _ _ _ _ us hl => match us, hl with | [_], _ => rfl
  have F5 := fun_mk (st := s__law_next) l5 c5 k5
  have b5 := F5.binds (ps := ["digits"]) fun _ _ _ _ _ _ us hl => match us, hl with | [_], _ => rfl
  have F6 := fun_mk (st := s__law_digits) l6 c6 k6
  have b6 := F6.binds (ps := ["box"]) fun _ _ _ _ _ _ us hl => match us, hl with | [_], _ => rfl
  have F7 := fun_mk (st := s_law) l7 c7 k7
  have b7 := F7.binds (ps := ["script"]) fun _ _ _ _ _ _ us hl => match us, hl with | [_], _ => rfl
  have Z : Zt mg := ⟨PySem.W.mg_none_of X G z_divmod, PySem.W.mg_none_of X G z_len, ⟨tk_SIGNS, PySem.W.mg_of X G z_SIGNS⟩, PySem.W.mg_none_of X G z_int, PySem.W.mg_none_of X G z_isinstance, PySem.W.mg_none_of X G z_str, PySem.W.mg_none_of X G z_ord, PySem.W.mg_none_of X G z_list, PySem.W.mg_none_of X G z_range⟩
  refine ⟨PySem.W.fnOf "law" "law" (defArgs s_law) (defBody s_law) (defScope s_law) .none kV7 dc7 pm7 an7 cd7 ct7, fun s v => .of_eq rfl, fun base _ _ => ?_⟩
  have C_nth_string : Cal l.prog w K mg base CX0 1 "nth_string" s_nth_string ["number"] g_nth_string := ⟨f1, _, ok_nth_string F1 Z, PySem.W.mg_of X G a1, k1, b1, _, F1⟩
  have C__law_box : Cal l.prog w K mg base CX0 1 "_law_box" s__law_box ["script"] g__law_box := ⟨f2, _, ok__law_box F2 Z, PySem.W.mg_of X G a2, k2, b2, _, F2⟩
  have C__law_take : Cal l.prog w K mg base CX0 1 "_law_take" s__law_take ["box", "many"] g__law_take := ⟨f3, _, ok__law_take F3 Z, PySem.W.mg_of X G a3, k3, b3, _, F3⟩
  have C__law_codes : Cal l.prog w K mg base CX0 1 "_law_codes" s__law_codes ["found"] g__law_codes := ⟨f4, _, ok__law_codes F4 Z, PySem.W.mg_of X G a4, k4, b4, _, F4⟩
  have C__law_next : Cal l.prog w K mg base CX0 1 "_law_next" s__law_next ["digits"] g__law_next := ⟨f5, _, ok__law_next F5 Z, PySem.W.mg_of X G a5, k5, b5, _, F5⟩
  have C__law_digits : Cal l.prog w K mg base CX0 2 "_law_digits" s__law_digits ["box"] g__law_digits := ⟨f6, _, ok__law_digits F6 Z C__law_take, PySem.W.mg_of X G a6, k6, b6, _, F6⟩
  exact ok_law F7 Z C__law_box C__law_take C__law_digits C__law_codes C_nth_string C__law_next
end K53
open PySem PySem.W PyProof.Rows
set_option maxHeartbeats 0 in
theorem PySem.Challenge.cw_parsetwins_k53_strings_by_number_holds : PySem.Challenge.rw_parsetwins_k53_strings_by_number.Holds := by
  w_on; o_law; k_head; (case hw => w_witness2)
  k_fill
  refine L2.walk_of (l := PySem.Challenge.rw_parsetwins_k53_strings_by_number) (n := 63) (k := 3) (x := "script") (CX := fun _ => L2.CX0) (sp := fun w => DL.spD _ K53.g_law) rfl (by decide) rfl ⟨rfl, by decide, by decide⟩ (fun w h Y => PySem.W.kIn_of Y) ?F (fun _ _ a ns hl _ hS => DL.law_enter hS ⟨ns, rfl, hl, fun _ => rfl⟩) (fun _ _ _ _ _ h => h)
  case F =>
    intro w mg fa h KX G hmg
    refine' K53.all_mk KX G hmg ?a1 ?l1 ?c1 ?k1 ?a2 ?l2 ?c2 ?k2 ?a3 ?l3 ?c3 ?k3 ?a4 ?l4 ?c4 ?k4 ?a5 ?l5 ?c5 ?k5 ?a6 ?l6 ?c6 ?k6 ?a7 ?l7 ?c7 ?k7 ?z_divmod ?z_len ?z_SIGNS ?z_int ?z_isinstance ?z_str ?z_ord ?z_list ?z_range
    (case a1 => k_is)
    (case l1 => k_is)
    (case c1 => k_is)
    (case k1 => k_is)
    (case a2 => k_is)
    (case l2 => k_is)
    (case c2 => k_is)
    (case k2 => k_is)
    (case a3 => k_is)
    (case l3 => k_is)
    (case c3 => k_is)
    (case k3 => k_is)
    (case a4 => k_is)
    (case l4 => k_is)
    (case c4 => k_is)
    (case k4 => k_is)
    (case a5 => k_is)
    (case l5 => k_is)
    (case c5 => k_is)
    (case k5 => k_is)
    (case a6 => k_is)
    (case l6 => k_is)
    (case c6 => k_is)
    (case k6 => k_is)
    (case a7 => k_is)
    (case l7 => k_is)
    (case c7 => k_is)
    (case k7 => k_is)
    (case z_divmod => k_is)
    (case z_len => k_is)
    (case z_SIGNS => k_is)
    (case z_int => k_is)
    (case z_isinstance => k_is)
    (case z_str => k_is)
    (case z_ord => k_is)
    (case z_list => k_is)
    (case z_range => k_is)
