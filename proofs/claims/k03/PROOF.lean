import PyProof.Rows.All
import Wide.All
import OpenK.AllK
import Wide.FinOn
import HandS.ForMost
import HandS.TupAny
import HandS.Codes
import HandS.Flow
import HandS.Defaults
import HandS.MakeKw
import HandS.ExcOwn
import HandS.Wide
import HandS.FStr
import HandS.StrMore
import HandS.IsInst
import HandS.Small
import HandS.Style
import KE.SortData
import KE.DataFind
import OpenK.KOps
import HandS.OwnEq
import PyProof.InstEq
import HandS.Sort
import HandS.More
import PyProof.ReprRoads
import PyProof.StrLawsRepr
import HandS.IntHex
import HandS.Exc
import HandS.ListItems
import HandS.TryOnly
import HandS.SortKw
import KE.DataMinMax
import KE.KDictItemsList
import HandS.Deep
import HandS.ExcInit
import HandS.ExcSuper
import HandS.ExcBuiltin
import HandS.ExcField
import KE.KExcIs
import HandS.WordsExc
import HandS.ExcIs
import PyProof.ExcBaseAll.NotImplementedError
import PyProof.ExcBaseAll.OverflowError
import PyProof.ExcBaseAll.ArithmeticError
import PyProof.ExcBaseAll.TypeError
import PyProof.ExcBaseAll.ValueError
import PyProof.ExcBaseAll.ZeroDivisionError
import PyProof.ExcBaseAll.RuntimeError
import PyProof.ExcBaseAll.Exception
import PyProof.ExcBaseAll.IndexError
import PyProof.ExcBaseAll.LookupError
import PySem.Challenge.RW_boatbridge_k03_stretches_as_objects
set_option Elab.async false
set_option linter.all false
set_option maxRecDepth 100000
set_option maxHeartbeats 4000000
/-! Dl core: plain data D over the abstract heap, a store of mutable objects, readings by data. -/
namespace Dl
open PySem L2

/-- an exception's class: an own one, a built-in one -/
inductive XC where
  | own (C : Addr) | blt (n : String)
  deriving DecidableEq
def XC.val : XC → Value
  | .own C => .ref C
  | .blt n => .type n
/-- plain data -/
inductive D where
  | non | bl (b : Bool) | int (i : Int) | str (x : Str)
  | tup (ds : List D) | lst (ds : List D) | ksq (ds : List D)
  | obj (C : Addr) (ks : List Str) (ds : List D)
  | dic (ks : List Key) (ds : List D)
  | loc (n : Nat) | ref (a : Addr) | ty (n : String)
  | exc (c : XC) (ks : List Str) (ds : List D)

/-- mutable objects -/
inductive MO where
  | lst (ds : List D)
  | obj (C : Addr) (ks : List Str) (ds : List D)
  | dic (ks : List Key) (ds : List D)
  | dicT (ks : List (List Key)) (ds : List D)
abbrev Sto := List (Option MO)
abbrev Env_ := List (Option D)

/-- an exception's object that is kept -/
def excO (cls : Value) (d : Option Addr) (a : Addr) : HO := .ext fun h => ∃ (oe : Obj) (vs : Array Value), h.get? a = some oe ∧ oe.cls = cls ∧ oe.dict = d ∧ oe.data = .fields vs
/-- its fields -/
def Xd (Hv : Hp) (d : Option Addr) (fs : List (Str × V)) : Prop := match d with
  | some dd => Hv dd = some (.xd fs)
  | none => fs = []
theorem Xd.sub {H H' : Hp} {d : Option Addr} {fs : List (Str × V)} (h : ∀ a o, H a = some o → H' a = some o) (r : Xd H d fs) : Xd H' d fs := by
  cases d with
  | none => exact r
  | some dd => exact h _ _ r
section
variable (K : PySem.W.Frag) (m : Nat → Addr) (N : Nat) (Hv : Hp)
mutual
def Rep : D → V → Prop
  | .non, v => v = .non
  | .bl b, v => v = .bl b
  | .int i, v => v = .int i
  | .str x, v => v = .str x
  | .tup ds, v => ∃ a vs, v = .ref a ∧ SqT K Hv a vs ∧ Reps ds vs
  | .lst ds, v => ∃ a vs, v = .ref a ∧ Hv a = some (.lst vs) ∧ Reps ds vs
  | .ksq ds, v => ∃ a vs, v = .ref a ∧ SqL K Hv a vs ∧ Reps ds vs
  | .obj C ks ds, v => ∃ a dx vs, v = .ref a ∧ Hv a = some (.ins C dx (ks.zip vs)) ∧ ks.length = vs.length ∧ Reps ds vs
  | .dic ks ds, v => ∃ a vs, v = .ref a ∧ Hv a = some (.dK (ks.zip vs)) ∧ ks.length = vs.length ∧ Reps ds vs
  | .loc n, v => v = .ref (m n) ∧ n < N
  | .ref a, v => v = .ref a
  | .ty n, v => v = .ty n
  | .exc c ks ds, v => ∃ a dd vs, v = .ref a ∧ Hv a = some (excO c.val dd a) ∧ Xd Hv dd (ks.zip vs) ∧ ks.length = vs.length ∧ Reps ds vs
def Reps : List D → List V → Prop
  | [], vs => vs = []
  | d :: ds, vs => ∃ v r, vs = v :: r ∧ Rep d v ∧ Reps ds r
end
end

theorem SqT.sub {K : PySem.W.Frag} {H H' : Hp} {a : Addr} {vs : List V} (h : ∀ a o, H a = some o → H' a = some o) (r : SqT K H a vs) : SqT K H' a vs := by
  rcases r with (r | ⟨o, r⟩) | r
  · exact .inl (.inl (h _ _ r))
  · exact .inl (.inr ⟨o, h _ _ r⟩)
  · exact .inr r
theorem SqL.sub {K : PySem.W.Frag} {H H' : Hp} {a : Addr} {vs : List V} (h : ∀ a o, H a = some o → H' a = some o) (r : SqL K H a vs) : SqL K H' a vs := by
  rcases r with (r | ⟨o, r⟩) | r
  · exact .inl (.inl (h _ _ r))
  · exact .inl (.inr ⟨o, h _ _ r⟩)
  · exact .inr r

section
variable {K : PySem.W.Frag} {m m' : Nat → Addr} {N N' : Nat} {H H' : Hp}
mutual
theorem Rep.mono (hm : ∀ i, i < N → m' i = m i) (hN : N ≤ N') (hh : ∀ a o, H a = some o → H' a = some o) : ∀ {d : D} {v : V}, Rep K m N H d v → Rep K m' N' H' d v
  | .non, _, r => r
  | .bl _, _, r => r
  | .int _, _, r => r
  | .str _, _, r => r
  | .tup ds, _, r => by
    obtain ⟨a, vs, e, s, q⟩ := r
    exact ⟨a, vs, e, SqT.sub hh s, Reps.mono hm hN hh q⟩
  | .lst ds, _, r => by
    obtain ⟨a, vs, e, s, q⟩ := r
    exact ⟨a, vs, e, hh _ _ s, Reps.mono hm hN hh q⟩
  | .ksq ds, _, r => by
    obtain ⟨a, vs, e, s, q⟩ := r
    exact ⟨a, vs, e, SqL.sub hh s, Reps.mono hm hN hh q⟩
  | .obj C ks ds, _, r => by
    obtain ⟨a, dx, vs, e, s, l, q⟩ := r
    exact ⟨a, dx, vs, e, hh _ _ s, l, Reps.mono hm hN hh q⟩
  | .dic ks ds, _, r => by
    obtain ⟨a, vs, e, s, l, q⟩ := r
    exact ⟨a, vs, e, hh _ _ s, l, Reps.mono hm hN hh q⟩
  | .loc n, _, r => ⟨by rw [r.1, hm n r.2], Nat.lt_of_lt_of_le r.2 hN⟩
  | .ref _, _, r => r
  | .ty _, _, r => r
  | .exc c ks ds, _, r => by
    obtain ⟨a, dd, vs, e, s, x, l, q⟩ := r
    exact ⟨a, dd, vs, e, hh _ _ s, x.sub hh, l, Reps.mono hm hN hh q⟩
theorem Reps.mono (hm : ∀ i, i < N → m' i = m i) (hN : N ≤ N') (hh : ∀ a o, H a = some o → H' a = some o) : ∀ {ds : List D} {vs : List V}, Reps K m N H ds vs → Reps K m' N' H' ds vs
  | [], _, r => r
  | d :: ds, _, r => by
    obtain ⟨v, q, e, r1, r2⟩ := r
    exact ⟨v, q, e, Rep.mono hm hN hh r1, Reps.mono hm hN hh r2⟩
end
theorem Reps.len : ∀ {ds : List D} {vs : List V}, Reps K m N H ds vs → vs.length = ds.length
  | [], _, r => by rw [show _ = [] from r]; rfl
  | d :: ds, _, r => by
    obtain ⟨v, q, e, r1, r2⟩ := r
    rw [e, List.length_cons, List.length_cons, Reps.len r2]
theorem Reps.get : ∀ {ds : List D} {vs : List V} {i : Nat} {d : D}, Reps K m N H ds vs → ds[i]? = some d → ∃ v, vs[i]? = some v ∧ Rep K m N H d v
  | [], _, _, _, _, e => by simp at e
  | d :: ds, _, 0, _, r, e => by
    obtain ⟨v, q, e1, r1, r2⟩ := r
    rw [List.getElem?_cons_zero] at e
    cases e
    exact ⟨v, by rw [e1]; rfl, r1⟩
  | d :: ds, _, i + 1, _, r, e => by
    obtain ⟨v, q, e1, r1, r2⟩ := r
    rw [List.getElem?_cons_succ] at e
    obtain ⟨w, h1, h2⟩ := Reps.get r2 e
    exact ⟨w, by rw [e1, List.getElem?_cons_succ]; exact h1, h2⟩
theorem Reps.append : ∀ {ds es : List D} {vs ws : List V}, Reps K m N H ds vs → Reps K m N H es ws → Reps K m N H (ds ++ es) (vs ++ ws)
  | [], _, _, _, r, s => by rw [show _ = [] from r]; exact s
  | d :: ds, _, _, _, r, s => by
    obtain ⟨v, q, e1, r1, r2⟩ := r
    rw [e1]
    exact ⟨v, _, rfl, r1, Reps.append r2 s⟩
theorem Reps.nil : Reps K m N H [] [] := rfl
theorem Reps.one {d : D} {v : V} (r : Rep K m N H d v) : Reps K m N H [d] [v] := ⟨v, [], rfl, r, rfl⟩
theorem Reps.cons {d : D} {v : V} {ds : List D} {vs : List V} (r : Rep K m N H d v) (s : Reps K m N H ds vs) : Reps K m N H (d :: ds) (v :: vs) := ⟨v, vs, rfl, r, s⟩
theorem Reps.take : ∀ {ds : List D} {vs : List V} (n : Nat), Reps K m N H ds vs → Reps K m N H (ds.take n) (vs.take n)
  | [], _, n, r => by rw [show _ = [] from r]; simp [Reps]
  | d :: ds, _, 0, r => by simp [Reps]
  | d :: ds, _, n + 1, r => by
    obtain ⟨v, q, e1, r1, r2⟩ := r
    rw [e1]
    exact ⟨v, _, rfl, r1, Reps.take n r2⟩
theorem Reps.drop : ∀ {ds : List D} {vs : List V} (n : Nat), Reps K m N H ds vs → Reps K m N H (ds.drop n) (vs.drop n)
  | [], _, n, r => by rw [show _ = [] from r]; simp [Reps]
  | d :: ds, _, 0, r => r
  | d :: ds, _, n + 1, r => by
    obtain ⟨v, q, e1, r1, r2⟩ := r
    rw [e1]
    exact Reps.drop n r2
theorem Reps.set : ∀ {ds : List D} {vs : List V} (n : Nat) {d : D} {v : V}, Reps K m N H ds vs → Rep K m N H d v → Reps K m N H (ds.set n d) (vs.set n v)
  | [], _, n, _, _, r, _ => by rw [show _ = [] from r]; simp [Reps]
  | d :: ds, _, 0, _, _, r, s => by
    obtain ⟨v, q, e1, r1, r2⟩ := r
    rw [e1]
    exact ⟨_, _, rfl, s, r2⟩
  | d :: ds, _, n + 1, _, _, r, s => by
    obtain ⟨v, q, e1, r1, r2⟩ := r
    rw [e1]
    exact ⟨v, _, rfl, r1, Reps.set n r2 s⟩
theorem Reps.rev : ∀ {ds : List D} {vs : List V}, Reps K m N H ds vs → Reps K m N H ds.reverse vs.reverse
  | [], _, r => by rw [show _ = [] from r]; simp [Reps]
  | d :: ds, _, r => by
    obtain ⟨v, q, e1, r1, r2⟩ := r
    rw [e1, List.reverse_cons, List.reverse_cons]
    exact (Reps.rev r2).append (Reps.one r1)
/-- ints, texts -/
theorem Reps.ints : ∀ {ns : List Int} {vs : List V}, Reps K m N H (ns.map D.int) vs → vs = ns.map V.int
  | [], _, r => r
  | n :: ns, _, r => by
    obtain ⟨v, q, e1, r1, r2⟩ := r
    rw [e1, show v = V.int n from r1, Reps.ints r2]
    rfl
theorem Reps.ofInts : ∀ (ns : List Int), Reps K m N H (ns.map D.int) (ns.map V.int)
  | [] => rfl
  | n :: ns => ⟨_, _, rfl, rfl, Reps.ofInts ns⟩
theorem Reps.strs : ∀ {ns : List Str} {vs : List V}, Reps K m N H (ns.map D.str) vs → vs = ns.map V.str
  | [], _, r => r
  | n :: ns, _, r => by
    obtain ⟨v, q, e1, r1, r2⟩ := r
    rw [e1, show v = V.str n from r1, Reps.strs r2]
    rfl
theorem Reps.ofStrs : ∀ (ns : List Str), Reps K m N H (ns.map D.str) (ns.map V.str)
  | [] => rfl
  | n :: ns => ⟨_, _, rfl, rfl, Reps.ofStrs ns⟩
end

/-! ### the world -/
def Live (S : Sto) (n : Nat) : Prop := ∃ o, S[n]? = some (some o)
open Classical in
noncomputable def vis (m : Nat → Addr) (S : Sto) (Z : Addr → Prop) (H : Hp) : Hp := fun a => if Z a ∨ (∃ n, Live S n ∧ m n = a) then none else H a
theorem vis_sub {m : Nat → Addr} {S : Sto} {Z : Addr → Prop} {H : Hp} {a : Addr} {o : HO} (h : vis m S Z H a = some o) : H a = some o := by
  unfold vis at h
  split at h
  · cases h
  · exact h
theorem vis_of {m : Nat → Addr} {S : Sto} {Z : Addr → Prop} {H : Hp} {a : Addr} {o : HO} (h : H a = some o) (hz : ¬ Z a) (hl : ∀ n, Live S n → m n ≠ a) : vis m S Z H a = some o := by
  unfold vis
  rw [if_neg]
  · exact h
  · rintro (z | ⟨n, l, e⟩)
    · exact hz z
    · exact hl n l e
theorem vis_not {m : Nat → Addr} {S : Sto} {Z : Addr → Prop} {H : Hp} {a : Addr} {o : HO} (h : vis m S Z H a = some o) : ¬ Z a ∧ ∀ n, Live S n → m n ≠ a := by
  unfold vis at h
  split at h
  · cases h
  · rename_i q
    exact ⟨fun z => q (.inl z), fun n l e => q (.inr ⟨n, l, e⟩)⟩

section
variable (K : PySem.W.Frag) (m : Nat → Addr) (N : Nat) (Hv H : Hp)
def RepM : MO → Addr → Prop
  | .lst ds, a => ∃ vs, H a = some (.lst vs) ∧ Reps K m N Hv ds vs
  | .obj C ks ds, a => ∃ dx vs, H a = some (.ins C dx (ks.zip vs)) ∧ ks.length = vs.length ∧ Reps K m N Hv ds vs
  | .dic ks ds, a => ∃ vs, H a = some (.dK (ks.zip vs)) ∧ ks.length = vs.length ∧ Reps K m N Hv ds vs
  | .dicT ks ds, a => ∃ vs, H a = some (.dT (ks.zip vs)) ∧ ks.length = vs.length ∧ Reps K m N Hv ds vs
end
theorem RepM.mono {K : PySem.W.Frag} {m m' : Nat → Addr} {N N' : Nat} {Hv Hv' H H' : Hp} {o : MO} {a a' : Addr} (hm : ∀ i, i < N → m' i = m i) (hN : N ≤ N') (hh : ∀ a o, Hv a = some o → Hv' a = some o) (ha : H' a' = H a)
    (r : RepM K m N Hv H o a) : RepM K m' N' Hv' H' o a' := by
  cases o with
  | lst ds => obtain ⟨vs, e, q⟩ := r; exact ⟨vs, ha.trans e, Reps.mono hm hN hh q⟩
  | obj C ks ds => obtain ⟨dx, vs, e, l, q⟩ := r; exact ⟨dx, vs, ha.trans e, l, Reps.mono hm hN hh q⟩
  | dic ks ds => obtain ⟨vs, e, l, q⟩ := r; exact ⟨vs, ha.trans e, l, Reps.mono hm hN hh q⟩
  | dicT ks ds => obtain ⟨vs, e, l, q⟩ := r; exact ⟨vs, ha.trans e, l, Reps.mono hm hN hh q⟩
theorem RepM.there {K : PySem.W.Frag} {m : Nat → Addr} {N : Nat} {Hv H : Hp} {o : MO} {a : Addr} (r : RepM K m N Hv H o a) : ∃ u, H a = some u := by
  cases o with
  | lst ds => obtain ⟨vs, e, q⟩ := r; exact ⟨_, e⟩
  | obj C ks ds => obtain ⟨dx, vs, e, l, q⟩ := r; exact ⟨_, e⟩
  | dic ks ds => obtain ⟨vs, e, l, q⟩ := r; exact ⟨_, e⟩
  | dicT ks ds => obtain ⟨vs, e, l, q⟩ := r; exact ⟨_, e⟩

structure Wd0 (K : PySem.W.Frag) (m : Nat → Addr) (S : Sto) (Z : Addr → Prop) (H : Hp) : Prop where
  inj : ∀ i j, Live S i → Live S j → m i = m j → i = j
  zz : ∀ i, Live S i → ¬ Z (m i)
  zh : ∀ a, Z a → ∃ o, H a = some o
  rep : ∀ i o, S[i]? = some (some o) → RepM K m S.length (vis m S Z H) H o (m i)

structure Ext (m : Nat → Addr) (S : Sto) (Z : Addr → Prop) (H : Hp) (m' : Nat → Addr) (S' : Sto) (H' : Hp) : Prop where
  len : S.length ≤ S'.length
  loc : ∀ i, i < S.length → m' i = m i
  vis : ∀ a o, vis m S Z H a = some o → vis m' S' Z H' a = some o
  zed : ∀ a, Z a → H' a = H a

section
variable {K : PySem.W.Frag} {m m1 m2 : Nat → Addr} {S S1 S2 : Sto} {Z : Addr → Prop} {H H1 H2 : Hp}
theorem Ext.refl : Ext m S Z H m S H := ⟨Nat.le_refl _, fun _ _ => rfl, fun _ _ h => h, fun _ _ => rfl⟩
theorem Ext.trans (a : Ext m S Z H m1 S1 H1) (b : Ext m1 S1 Z H1 m2 S2 H2) : Ext m S Z H m2 S2 H2 :=
  ⟨Nat.le_trans a.len b.len, fun i h => (b.loc i (Nat.lt_of_lt_of_le h a.len)).trans (a.loc i h), fun x o h => b.vis x o (a.vis x o h), fun x h => (b.zed x h).trans (a.zed x h)⟩
theorem Rep.ext {d : D} {v : V} (e : Ext m S Z H m1 S1 H1) (r : Rep K m S.length (vis m S Z H) d v) : Rep K m1 S1.length (vis m1 S1 Z H1) d v := Rep.mono e.loc e.len e.vis r
theorem Reps.ext {d : List D} {v : List V} (e : Ext m S Z H m1 S1 H1) (r : Reps K m S.length (vis m S Z H) d v) : Reps K m1 S1.length (vis m1 S1 Z H1) d v := Reps.mono e.loc e.len e.vis r
theorem Wd0.live (w : Wd0 K m S Z H) {i : Nat} (l : Live S i) : ∃ o, H (m i) = some o := by
  obtain ⟨o, e⟩ := l
  exact (w.rep i o e).there
theorem Wd0.fresh (w : Wd0 K m S Z H) {p : Addr} (hp : H p = none) : ¬ Z p ∧ ∀ n, Live S n → m n ≠ p := by
  refine ⟨fun z => ?_, fun n l e => ?_⟩
  · obtain ⟨o, q⟩ := w.zh p z
    rw [hp] at q; cases q
  · obtain ⟨o, q⟩ := w.live l
    rw [e, hp] at q; cases q
/-- a new object that is no part of the store -/
theorem Wd0.new (w : Wd0 K m S Z H) {p : Addr} {o : HO} (hp : H p = none) : Wd0 K m S Z (upd H p o) ∧ Ext m S Z H m S (upd H p o) ∧ vis m S Z (upd H p o) p = some o := by
  obtain ⟨nz, nl⟩ := w.fresh hp
  have hv : ∀ a u, vis m S Z H a = some u → vis m S Z (upd H p o) a = some u := fun a u h => by
    obtain ⟨z1, z2⟩ := vis_not h
    exact vis_of (by rw [upd_ne (ne_of_none (vis_sub h) hp)]; exact vis_sub h) z1 z2
  have hz : ∀ a, Z a → upd H p o a = H a := fun a z => upd_ne (fun e => nz (e ▸ z))
  refine ⟨⟨w.inj, w.zz, fun a z => ?_, fun i x e => ?_⟩, ⟨Nat.le_refl _, fun _ _ => rfl, hv, hz⟩, vis_of upd_same nz nl⟩
  · rw [hz a z]; exact w.zh a z
  · exact (w.rep i x e).mono (fun _ _ => rfl) (Nat.le_refl _) hv (upd_ne (nl i ⟨x, e⟩))
/-- a new object of the store -/
theorem Wd0.add (w : Wd0 K m S Z H) {p : Addr} {o : HO} {mo : MO} (hp : H p = none) (hr : ∀ m1 N1 Hv1, (∀ i, i < S.length → m1 i = m i) → S.length ≤ N1 → (∀ a u, vis m S Z H a = some u → Hv1 a = some u) → RepM K m1 N1 Hv1 (upd H p o) mo p) :
    ∃ m', m' S.length = p ∧ Wd0 K m' (S ++ [some mo]) Z (upd H p o) ∧ Ext m S Z H m' (S ++ [some mo]) (upd H p o) := by
  obtain ⟨nz, nl⟩ := w.fresh hp
  let m' : Nat → Addr := fun i => if i = S.length then p else m i
  have e0 : m' S.length = p := if_pos rfl
  have e1 : ∀ i, i < S.length → m' i = m i := fun i h => if_neg (Nat.ne_of_lt h)
  have lv : ∀ i, Live (S ++ [some mo]) i → (i < S.length ∧ Live S i) ∨ i = S.length := fun i ⟨x, e⟩ => by
    by_cases h : i < S.length
    · exact .inl ⟨h, x, by rw [List.getElem?_append_left h] at e; exact e⟩
    · right
      have := (List.getElem?_eq_some_iff.mp e).1
      rw [List.length_append, List.length_singleton] at this
      omega
  have hv : ∀ a u, vis m S Z H a = some u → vis m' (S ++ [some mo]) Z (upd H p o) a = some u := fun a u h => by
    obtain ⟨z1, z2⟩ := vis_not h
    have nap : a ≠ p := ne_of_none (vis_sub h) hp
    refine vis_of (by rw [upd_ne nap]; exact vis_sub h) z1 fun n l => ?_
    rcases lv n l with ⟨hn, l⟩ | rfl
    · rw [e1 n hn]; exact z2 n l
    · rw [e0]; exact nap.symm
  have hz : ∀ a, Z a → upd H p o a = H a := fun a z => upd_ne (fun e => nz (e ▸ z))
  have len : (S ++ [some mo]).length = S.length + 1 := by simp
  refine ⟨m', e0, ⟨fun i j li lj e => ?_, fun i li => ?_, fun a z => by rw [hz a z]; exact w.zh a z, fun i x e => ?_⟩, ⟨by omega, e1, hv, hz⟩⟩
  · rcases lv i li with ⟨hi, li⟩ | rfl <;> rcases lv j lj with ⟨hj, lj⟩ | rfl
    · rw [e1 i hi, e1 j hj] at e; exact w.inj i j li lj e
    · rw [e1 i hi, e0] at e; exact absurd e (nl i li)
    · rw [e0, e1 j hj] at e; exact absurd e.symm (nl j lj)
    · rfl
  · rcases lv i li with ⟨hi, li⟩ | rfl
    · rw [e1 i hi]; exact w.zz i li
    · rw [e0]; exact nz
  · rw [len]
    rcases lv i ⟨x, e⟩ with ⟨hi, li⟩ | rfl
    · rw [List.getElem?_append_left hi] at e
      exact (w.rep i x e).mono e1 (Nat.le_succ _) hv (by rw [e1 i hi]; exact upd_ne (nl i li))
    · rw [List.getElem?_append_right (Nat.le_refl _), Nat.sub_self, List.getElem?_cons_zero] at e
      cases e
      rw [e0]
      exact hr m' _ _ e1 (Nat.le_succ _) hv
/-- an object of the store changes -/
theorem Wd0.upd (w : Wd0 K m S Z H) {n : Nat} {o : HO} {mo : MO} (l : Live S n) (hr : RepM K m S.length (vis m S Z H) (upd H (m n) o) mo (m n)) :
    Wd0 K m (S.set n (some mo)) Z (upd H (m n) o) ∧ Ext m S Z H m (S.set n (some mo)) (upd H (m n) o) ∧ vis m (S.set n (some mo)) Z (upd H (m n) o) = vis m S Z H := by
  have hn : n < S.length := by obtain ⟨x, e⟩ := l; exact (List.getElem?_eq_some_iff.mp e).1
  have lv : ∀ i, Live (S.set n (some mo)) i ↔ Live S i := fun i => by
    unfold Live
    by_cases h : n = i
    · subst h
      rw [List.getElem?_set_self hn]
      exact ⟨fun _ => l, fun _ => ⟨_, rfl⟩⟩
    · rw [List.getElem?_set_ne h]
  have hv : vis m (S.set n (some mo)) Z (L2.upd H (m n) o) = vis m S Z H := by
    funext a
    unfold vis
    have e : (∃ k, Live (S.set n (some mo)) k ∧ m k = a) ↔ ∃ k, Live S k ∧ m k = a := ⟨fun ⟨k, q, e⟩ => ⟨k, (lv k).mp q, e⟩, fun ⟨k, q, e⟩ => ⟨k, (lv k).mpr q, e⟩⟩
    by_cases c : Z a ∨ ∃ k, Live S k ∧ m k = a
    · rw [if_pos c, if_pos (by rw [e]; exact c)]
    · rw [if_neg c, if_neg (by rw [e]; exact c)]
      exact upd_ne (fun q => c (.inr ⟨n, l, q.symm⟩))
  have hz : ∀ a, Z a → L2.upd H (m n) o a = H a := fun a z => upd_ne (fun e => w.zz n l (e ▸ z))
  refine ⟨⟨fun i j li lj => w.inj i j ((lv i).mp li) ((lv j).mp lj), fun i li => w.zz i ((lv i).mp li), fun a z => by rw [hz a z]; exact w.zh a z, fun i x e => ?_⟩, ⟨by rw [List.length_set]; exact Nat.le_refl _, fun _ _ => rfl, fun a u h => by rw [hv]; exact h, hz⟩, hv⟩
  rw [hv, List.length_set]
  by_cases h : n = i
  · subst h
    rw [List.getElem?_set_self hn] at e
    cases e
    exact hr
  · rw [List.getElem?_set_ne h] at e
    exact (w.rep i x e).mono (fun _ _ => rfl) (Nat.le_refl _) (fun _ _ q => q) (upd_ne (fun q => h (w.inj i n ⟨x, e⟩ l q).symm))
end

/-! ### what is below n -/
mutual
def D.under (n : Nat) : D → Bool
  | .tup ds => D.unders n ds
  | .lst ds => D.unders n ds
  | .ksq ds => D.unders n ds
  | .obj _ _ ds => D.unders n ds
  | .dic _ ds => D.unders n ds
  | .loc k => decide (k < n)
  | .exc _ _ ds => D.unders n ds
  | .non => true | .bl _ => true | .int _ => true | .str _ => true | .ref _ => true | .ty _ => true
def D.unders (n : Nat) : List D → Bool
  | [] => true
  | d :: ds => D.under n d && D.unders n ds
end
def MO.under (n : Nat) : MO → Bool
  | .lst ds => D.unders n ds
  | .obj _ _ ds => D.unders n ds
  | .dic _ ds => D.unders n ds
  | .dicT _ ds => D.unders n ds
def Sto.under (n : Nat) (S : Sto) : Bool := S.all fun o => match o with | none => true | some x => x.under n
section
variable {K : PySem.W.Frag} {m : Nat → Addr} {N n : Nat} {H : Hp}
mutual
theorem Rep.cut (hn : n ≤ N) : ∀ {d : D} {v : V}, Rep K m N H d v → d.under n = true → Rep K m n H d v
  | .non, _, r, _ => r
  | .bl _, _, r, _ => r
  | .int _, _, r, _ => r
  | .str _, _, r, _ => r
  | .tup ds, _, r, b => by
    obtain ⟨a, vs, e, s, q⟩ := r
    exact ⟨a, vs, e, s, Reps.cut hn q b⟩
  | .lst ds, _, r, b => by
    obtain ⟨a, vs, e, s, q⟩ := r
    exact ⟨a, vs, e, s, Reps.cut hn q b⟩
  | .ksq ds, _, r, b => by
    obtain ⟨a, vs, e, s, q⟩ := r
    exact ⟨a, vs, e, s, Reps.cut hn q b⟩
  | .obj C ks ds, _, r, b => by
    obtain ⟨a, dx, vs, e, s, l, q⟩ := r
    exact ⟨a, dx, vs, e, s, l, Reps.cut hn q b⟩
  | .dic ks ds, _, r, b => by
    obtain ⟨a, vs, e, s, l, q⟩ := r
    exact ⟨a, vs, e, s, l, Reps.cut hn q b⟩
  | .loc k, _, r, b => ⟨r.1, by simpa [D.under] using b⟩
  | .ref _, _, r, _ => r
  | .ty _, _, r, _ => r
  | .exc c ks ds, _, r, b => by
    obtain ⟨a, dd, vs, e, s, x, l, q⟩ := r
    exact ⟨a, dd, vs, e, s, x, l, Reps.cut hn q b⟩
theorem Reps.cut (hn : n ≤ N) : ∀ {ds : List D} {vs : List V}, Reps K m N H ds vs → D.unders n ds = true → Reps K m n H ds vs
  | [], _, r, _ => r
  | d :: ds, _, r, b => by
    obtain ⟨v, q, e, r1, r2⟩ := r
    have b' : D.under n d = true ∧ D.unders n ds = true := by simpa [D.unders] using b
    exact ⟨v, q, e, Rep.cut hn r1 b'.1, Reps.cut hn r2 b'.2⟩
end
mutual
theorem Rep.below : ∀ {d : D} {v : V}, Rep K m N H d v → d.under N = true
  | .non, _, _ => by simp [D.under]
  | .bl _, _, _ => by simp [D.under]
  | .int _, _, _ => by simp [D.under]
  | .str _, _, _ => by simp [D.under]
  | .tup ds, _, r => by
    obtain ⟨a, vs, e, s, q⟩ := r
    simpa [D.under] using Reps.below q
  | .lst ds, _, r => by
    obtain ⟨a, vs, e, s, q⟩ := r
    simpa [D.under] using Reps.below q
  | .ksq ds, _, r => by
    obtain ⟨a, vs, e, s, q⟩ := r
    simpa [D.under] using Reps.below q
  | .obj C ks ds, _, r => by
    obtain ⟨a, dx, vs, e, s, l, q⟩ := r
    simpa [D.under] using Reps.below q
  | .dic ks ds, _, r => by
    obtain ⟨a, vs, e, s, l, q⟩ := r
    simpa [D.under] using Reps.below q
  | .loc k, _, r => by simpa [D.under] using r.2
  | .ref _, _, _ => by simp [D.under]
  | .ty _, _, _ => by simp [D.under]
  | .exc c ks ds, _, r => by
    obtain ⟨a, dd, vs, e, s, x, l, q⟩ := r
    simpa [D.under] using Reps.below q
theorem Reps.below : ∀ {ds : List D} {vs : List V}, Reps K m N H ds vs → D.unders N ds = true
  | [], _, _ => by simp [D.unders]
  | d :: ds, _, r => by
    obtain ⟨v, q, e, r1, r2⟩ := r
    simp [D.unders, Rep.below r1, Reps.below r2]
end
theorem RepM.cut {Hv : Hp} (hn : n ≤ N) {o : MO} {a : Addr} (r : RepM K m N Hv H o a) (b : o.under n = true) : RepM K m n Hv H o a := by
  cases o with
  | lst ds => obtain ⟨vs, e, q⟩ := r; exact ⟨vs, e, Reps.cut hn q b⟩
  | obj C ks ds => obtain ⟨dx, vs, e, l, q⟩ := r; exact ⟨dx, vs, e, l, Reps.cut hn q b⟩
  | dic ks ds => obtain ⟨vs, e, l, q⟩ := r; exact ⟨vs, e, l, Reps.cut hn q b⟩
  | dicT ks ds => obtain ⟨vs, e, l, q⟩ := r; exact ⟨vs, e, l, Reps.cut hn q b⟩
end
section
variable {K : PySem.W.Frag} {m m0 : Nat → Addr} {S S0 : Sto} {Z : Addr → Prop} {H H0 : Hp} {n : Nat}
theorem live_take {i : Nat} (h : Live (S.take n) i) : i < n ∧ Live S i := by
  obtain ⟨x, e⟩ := h
  have h1 : i < (S.take n).length := (List.getElem?_eq_some_iff.mp e).1
  rw [List.length_take] at h1
  have h2 : i < n := by omega
  refine ⟨h2, x, ?_⟩
  rw [List.getElem?_take_of_lt h2] at e
  exact e
theorem vis_take {a : Addr} {o : HO} (h : vis m S Z H a = some o) : vis m (S.take n) Z H a = some o := by
  obtain ⟨z1, z2⟩ := vis_not h
  exact vis_of (vis_sub h) z1 fun k l => z2 k (live_take l).2
/-- the store is cut: what lies beyond n is forgotten -/
theorem Wd0.take (w : Wd0 K m S Z H) (hn : n ≤ S.length) (hb : Sto.under n (S.take n) = true) : Wd0 K m (S.take n) Z H := by
  have len : (S.take n).length = n := by rw [List.length_take]; omega
  refine ⟨fun i j li lj => w.inj i j (live_take li).2 (live_take lj).2, fun i li => w.zz i (live_take li).2, w.zh, fun i x e => ?_⟩
  have h := live_take ⟨x, e⟩
  have e' := e
  rw [List.getElem?_take_of_lt h.1] at e'
  rw [len]
  have bx : x.under n = true := by
    have hm : some x ∈ S.take n := List.mem_of_getElem? e
    have := List.all_eq_true.mp hb _ hm
    exact this
  exact ((w.rep i x e').mono (fun _ _ => rfl) (Nat.le_refl _) (fun a o q => vis_take (n := n) q) rfl).cut hn bx
theorem Ext.take (e : Ext m0 S0 Z H0 m S H) (h : S0.length ≤ n) (hn : n ≤ S.length) : Ext m0 S0 Z H0 m (S.take n) H :=
  ⟨by rw [List.length_take]; omega, e.loc, fun a o q => vis_take (e.vis a o q), e.zed⟩
/-- an object of the store is given up: from here on it is seen, and never changes -/
theorem live_setN {i k : Nat} (h : Live (S.set k none) i) : i ≠ k ∧ Live S i := by
  obtain ⟨x, e⟩ := h
  by_cases q : k = i
  · subst q
    by_cases hk : k < S.length
    · rw [List.getElem?_set_self hk] at e; cases e
    · rw [List.getElem?_eq_none_iff.mpr (by rw [List.length_set]; omega)] at e; cases e
  · rw [List.getElem?_set_ne q] at e
    exact ⟨fun z => q z.symm, x, e⟩
theorem vis_setN {a : Addr} {o : HO} {k : Nat} (h : vis m S Z H a = some o) : vis m (S.set k none) Z H a = some o := by
  obtain ⟨z1, z2⟩ := vis_not h
  exact vis_of (vis_sub h) z1 fun j l => z2 j (live_setN l).2
theorem Wd0.freeze (w : Wd0 K m S Z H) (k : Nat) : Wd0 K m (S.set k none) Z H := by
  refine ⟨fun i j li lj => w.inj i j (live_setN li).2 (live_setN lj).2, fun i li => w.zz i (live_setN li).2, w.zh, fun i x e => ?_⟩
  have h := live_setN ⟨x, e⟩
  rw [List.getElem?_set_ne (fun q => h.1 q.symm)] at e
  rw [List.length_set]
  exact (w.rep i x e).mono (fun _ _ => rfl) (Nat.le_refl _) (fun a o q => vis_setN (k := k) q) rfl
theorem Ext.freeze (e : Ext m0 S0 Z H0 m S H) (k : Nat) : Ext m0 S0 Z H0 m (S.set k none) H :=
  ⟨by rw [List.length_set]; exact e.len, e.loc, fun a o q => vis_setN (e.vis a o q), e.zed⟩
/-- the list at k, given up, as data -/
theorem Wd0.frozen_lst (w : Wd0 K m S Z H) {k : Nat} {ds : List D} (e : S[k]? = some (some (.lst ds))) : Rep K m (S.set k none).length (vis m (S.set k none) Z H) (.lst ds) (.ref (m k)) := by
  obtain ⟨vs, h, r⟩ := w.rep k _ e
  refine ⟨m k, vs, rfl, vis_of h (w.zz k ⟨_, e⟩) fun j l q => ?_, ?_⟩
  · have h2 := live_setN l
    exact h2.1 (w.inj j k h2.2 ⟨_, e⟩ q)
  · rw [List.length_set]
    exact Reps.mono (fun _ _ => rfl) (Nat.le_refl _) (fun a o q => vis_setN q) r
theorem Wd0.frozen_obj (w : Wd0 K m S Z H) {k : Nat} {C : Addr} {ks : List Str} {ds : List D} (e : S[k]? = some (some (.obj C ks ds))) : Rep K m (S.set k none).length (vis m (S.set k none) Z H) (.obj C ks ds) (.ref (m k)) := by
  obtain ⟨dx, vs, h, hl, r⟩ := w.rep k _ e
  refine ⟨m k, dx, vs, rfl, vis_of h (w.zz k ⟨_, e⟩) fun j l q => ?_, hl, ?_⟩
  · have h2 := live_setN l
    exact h2.1 (w.inj j k h2.2 ⟨_, e⟩ q)
  · rw [List.length_set]
    exact Reps.mono (fun _ _ => rfl) (Nat.le_refl _) (fun a o q => vis_setN q) r
theorem Wd0.frozen_dic (w : Wd0 K m S Z H) {k : Nat} {ks : List Key} {ds : List D} (e : S[k]? = some (some (.dic ks ds))) : Rep K m (S.set k none).length (vis m (S.set k none) Z H) (.dic ks ds) (.ref (m k)) := by
  obtain ⟨vs, h, hl, r⟩ := w.rep k _ e
  refine ⟨m k, vs, rfl, vis_of h (w.zz k ⟨_, e⟩) fun j l q => ?_, hl, ?_⟩
  · have h2 := live_setN l
    exact h2.1 (w.inj j k h2.2 ⟨_, e⟩ q)
  · rw [List.length_set]
    exact Reps.mono (fun _ _ => rfl) (Nat.le_refl _) (fun a o q => vis_setN q) r
end
/-! ### the world, with what is wished of exceptions -/
def RelS (K : PySem.W.Frag) (m : Nat → Addr) (N : Nat) (Hv : Hp) (ρ : Env_) (σ : St) : Prop :=
  ρ.length = σ.length ∧ ∀ (i : Nat) (d : D), ρ[i]? = some (some d) → ∃ v : V, σ[i]? = some (some v) ∧ Rep K m N Hv d v
/-- a wish of exceptions, by data: class, fields, slots, store -/
abbrev XW := XC → List Str → List D → Env_ → Sto → Prop
structure Wi where
  W : Value → Option Addr → St → Hp → Prop
  D : XW
/-- none is let out -/
def U0 : Wi := ⟨fun _ _ _ _ => False, fun _ _ _ _ _ => False⟩
def Up (K : PySem.W.Frag) (U : Wi) (m : Nat → Addr) (S : Sto) (Z : Addr → Prop) (H : Hp) : Prop :=
  ∀ (H' : Hp) (m' : Nat → Addr) (S' : Sto) (σ' : St) (ρ' : Env_) (c : XC) (dd : Option Addr) (ks : List Str) (ds : List D) (vs : List V), Ext m S Z H m' S' H' → Wd0 K m' S' Z H' → RelS K m' S'.length (vis m' S' Z H') ρ' σ' →
    Xd (vis m' S' Z H') dd (ks.zip vs) → ks.length = vs.length → Reps K m' S'.length (vis m' S' Z H') ds vs → U.D c ks ds ρ' S' → U.W c.val dd σ' H'
structure Wd (K : PySem.W.Frag) (U : Wi) (m : Nat → Addr) (S : Sto) (Z : Addr → Prop) (H : Hp) : Prop extends Wd0 K m S Z H where
  up : Up K U m S Z H
section
variable {K : PySem.W.Frag} {U : Wi} {m m1 : Nat → Addr} {S S1 : Sto} {Z : Addr → Prop} {H H1 : Hp}
theorem Wd0.u0 (w : Wd0 K m S Z H) : Wd K U0 m S Z H := ⟨w, fun _ _ _ _ _ _ _ _ _ _ _ _ _ _ _ _ z => z.elim⟩
/-- a later world -/
theorem Wd.on (w : Wd K U m S Z H) (e : Ext m S Z H m1 S1 H1) (w1 : Wd0 K m1 S1 Z H1) : Wd K U m1 S1 Z H1 := ⟨w1, fun H' m' S' σ' ρ' c dd ks ds vs e' => w.up H' m' S' σ' ρ' c dd ks ds vs (e.trans e')⟩
theorem Wd.new (w : Wd K U m S Z H) {p : Addr} {o : HO} (hp : H p = none) : Wd K U m S Z (upd H p o) ∧ Ext m S Z H m S (upd H p o) ∧ vis m S Z (upd H p o) p = some o := by
  obtain ⟨a, b, c⟩ := w.toWd0.new (o := o) hp
  exact ⟨w.on b a, b, c⟩
theorem Wd.add (w : Wd K U m S Z H) {p : Addr} {o : HO} {mo : MO} (hp : H p = none) (hr : ∀ m1 N1 Hv1, (∀ i, i < S.length → m1 i = m i) → S.length ≤ N1 → (∀ a u, vis m S Z H a = some u → Hv1 a = some u) → RepM K m1 N1 Hv1 (upd H p o) mo p) :
    ∃ m', m' S.length = p ∧ Wd K U m' (S ++ [some mo]) Z (upd H p o) ∧ Ext m S Z H m' (S ++ [some mo]) (upd H p o) := by
  obtain ⟨m', e0, a, b⟩ := w.toWd0.add (o := o) (mo := mo) hp hr
  exact ⟨m', e0, w.on b a, b⟩
theorem Wd.upd (w : Wd K U m S Z H) {n : Nat} {o : HO} {mo : MO} (l : Live S n) (hr : RepM K m S.length (vis m S Z H) (upd H (m n) o) mo (m n)) :
    Wd K U m (S.set n (some mo)) Z (L2.upd H (m n) o) ∧ Ext m S Z H m (S.set n (some mo)) (L2.upd H (m n) o) ∧ vis m (S.set n (some mo)) Z (L2.upd H (m n) o) = vis m S Z H := by
  obtain ⟨a, b, c⟩ := w.toWd0.upd (o := o) (mo := mo) l hr
  exact ⟨w.on b a, b, c⟩
theorem Wd.freeze (w : Wd K U m S Z H) (k : Nat) : Wd K U m (S.set k none) Z H := w.on (Ext.refl.freeze k) (w.toWd0.freeze k)
end
end Dl
/-! Dl terms: readings over data. -/
namespace Dl
open PySem L2

section
variable {K : PySem.W.Frag} {m : Nat → Addr} {N : Nat} {Hv : Hp}
theorem rep_non : Rep K m N Hv .non .non := by simp [Rep]
theorem rep_bl {b : Bool} : Rep K m N Hv (.bl b) (.bl b) := by simp [Rep]
theorem rep_int {b : Int} : Rep K m N Hv (.int b) (.int b) := by simp [Rep]
theorem rep_str {b : Str} : Rep K m N Hv (.str b) (.str b) := by simp [Rep]
theorem rep_ref {b : Addr} : Rep K m N Hv (.ref b) (.ref b) := by simp [Rep]
theorem rep_tup {a : Addr} {vs : List V} {ds : List D} (h : SqT K Hv a vs) (r : Reps K m N Hv ds vs) : Rep K m N Hv (.tup ds) (.ref a) := by rw [Rep]; exact ⟨a, vs, rfl, h, r⟩
theorem rep_lst {a : Addr} {vs : List V} {ds : List D} (h : Hv a = some (.lst vs)) (r : Reps K m N Hv ds vs) : Rep K m N Hv (.lst ds) (.ref a) := by rw [Rep]; exact ⟨a, vs, rfl, h, r⟩
theorem rep_loc {a : Addr} {n : Nat} (e : m n = a) (h : n < N) : Rep K m N Hv (.loc n) (.ref a) := by rw [Rep]; exact ⟨by rw [e], h⟩
theorem reps_nil : Reps K m N Hv [] [] := by simp [Reps]
end
/-- what is wanted behind a step, by data -/
def Outs {A B : Type} (m : Nat → Addr) (S : Sto) (Z : Addr → Prop) (H : Hp) (K : PySem.W.Frag) (U : Wi) (rel : (Nat → Addr) → Nat → Hp → A → B → Prop) (q : A → Sto → Prop) (Q : B → Hp → Prop) : Prop :=
  ∀ b H' m' a S', Ext m S Z H m' S' H' → Wd K U m' S' Z H' → rel m' S'.length (vis m' S' Z H') a b → q a S' → Q b H'
abbrev rD (K : PySem.W.Frag) : (Nat → Addr) → Nat → Hp → D → V → Prop := fun m N Hv d v => Rep K m N Hv d v
abbrev rDs (K : PySem.W.Frag) : (Nat → Addr) → Nat → Hp → List D → List V → Prop := fun m N Hv d v => Reps K m N Hv d v
abbrev rEq {A : Type} : (Nat → Addr) → Nat → Hp → A → A → Prop := fun _ _ _ a b => a = b
/-- a step by data -/
abbrev G (A : Type) := Env_ → Sto → (A → Sto → Prop) → Prop
def tof {A B : Type} (K : PySem.W.Frag) (U : Wi) (rel : (Nat → Addr) → Nat → Hp → A → B → Prop) (g : G A) : St → Hp → (B → Hp → Prop) → Prop := fun σ H Q =>
  ∃ m S Z ρ q, Wd K U m S Z H ∧ RelS K m S.length (vis m S Z H) ρ σ ∧ g ρ S q ∧ Outs m S Z H K U rel q Q
abbrev tofE (K : PySem.W.Frag) (U : Wi) (g : G D) : TE := tof K U (rD K) g
abbrev tofB (K : PySem.W.Frag) (U : Wi) (g : G Bool) : TT := tof K U rEq g
abbrev tofA (K : PySem.W.Frag) (U : Wi) (g : G (List D)) : TA := tof K U (rDs K) g
abbrev tofO (K : PySem.W.Frag) (U : Wi) (g : G (Option Int)) : TO := tof K U rEq g

section
variable {A B : Type} {K : PySem.W.Frag} {m m1 : Nat → Addr} {S S1 : Sto} {Z : Addr → Prop} {H H1 : Hp} {rel : (Nat → Addr) → Nat → Hp → A → B → Prop} {q : A → Sto → Prop} {Q : B → Hp → Prop} {ρ : Env_} {σ : St}
theorem Outs.ext (e : Ext m S Z H m1 S1 H1) (k : Outs m S Z H K U rel q Q) : Outs m1 S1 Z H1 K U rel q Q := fun b H' m' a S' e' w r h => k b H' m' a S' (e.trans e') w r h
theorem Outs.now (k : Outs m S Z H K U rel q Q) (w : Wd K U m S Z H) {a : A} {b : B} (r : rel m S.length (vis m S Z H) a b) (h : q a S) : Q b H := k b H m a S Ext.refl w r h
theorem Outs.at (k : Outs m S Z H K U rel q Q) (e : Ext m S Z H m1 S1 H1) (w : Wd K U m1 S1 Z H1) {a : A} {b : B} (r : rel m1 S1.length (vis m1 S1 Z H1) a b) (h : q a S1) : Q b H1 := k b H1 m1 a S1 e w r h
theorem RelS.ext (e : Ext m S Z H m1 S1 H1) (r : RelS K m S.length (vis m S Z H) ρ σ) : RelS K m1 S1.length (vis m1 S1 Z H1) ρ σ :=
  ⟨r.1, fun i d h => let ⟨v, h1, h2⟩ := r.2 i d h; ⟨v, h1, h2.ext e⟩⟩
theorem RelS.set {i : Nat} {d : D} {v : V} {N : Nat} {Hv : Hp} (r : RelS K m N Hv ρ σ) (h : Rep K m N Hv d v) : RelS K m N Hv (ρ.set i (some d)) (σ.set i (some v)) := by
  refine ⟨by rw [List.length_set, List.length_set]; exact r.1, fun j x e => ?_⟩
  by_cases hj : i = j
  · subst hj
    have hl : i < ρ.length := by
      have := (List.getElem?_eq_some_iff.mp e).1
      rw [List.length_set] at this; exact this
    rw [List.getElem?_set_self hl] at e
    cases e
    exact ⟨v, List.getElem?_set_self (by rw [← r.1]; exact hl), h⟩
  · rw [List.getElem?_set_ne hj] at e
    obtain ⟨w, h1, h2⟩ := r.2 j x e
    exact ⟨w, by rw [List.getElem?_set_ne hj]; exact h1, h2⟩
theorem tof_in {g : G A} (w : Wd K U m S Z H) (r : RelS K m S.length (vis m S Z H) ρ σ) (h : g ρ S q) (k : Outs m S Z H K U rel q Q) : tof K U rel g σ H Q := ⟨m, S, Z, ρ, q, w, r, h, k⟩
end

section
variable {X : Cx} {e : Expr} {t t' : TE}
theorem weakE (h : PE X e t) (k : ∀ σ H Q, t' σ H Q → t σ H Q) : PE X e t' := ⟨fun pins s σ H Q I q => h.run pins s σ H Q I (k σ H Q q)⟩
theorem orE (h : PE X e t) (h' : PE X e t') : PE X e (fun σ H Q => t σ H Q ∨ t' σ H Q) := ⟨fun pins s σ H Q I q => q.elim (h.run pins s σ H Q I) (h'.run pins s σ H Q I)⟩
theorem weakT {u u' : TT} (h : PT X e u) (k : ∀ σ H Q, u' σ H Q → u σ H Q) : PT X e u' := ⟨fun pins s σ H Q I q => h.run pins s σ H Q I (k σ H Q q)⟩
theorem weakW {u u' : TT} (h : PW X e u) (k : ∀ σ H Q, u' σ H Q → u σ H Q) : PW X e u' := ⟨fun wh pins s σ H Q I q => h.run wh pins s σ H Q I (k σ H Q q)⟩
theorem weakA {es : List Expr} {u u' : TA} (h : PA X es u) (k : ∀ σ H Q, u' σ H Q → u σ H Q) : PA X es u' := ⟨fun pos pins s σ H Q I q => h.run pos pins s σ H Q I (k σ H Q q)⟩
theorem weakO {e : Option Expr} {u u' : TO} (h : PO X e u) (k : ∀ σ H Q, u' σ H Q → u σ H Q) : PO X e u' := ⟨fun pins s σ H Q I q => h.run pins s σ H Q I (k σ H Q q)⟩
theorem weakS {st : Stmt} {u u' : TS} (h : PS X st u) (k : ∀ E σ H, u' E σ H → u E σ H) : PS X st u' := ⟨fun pins s σ H E I q => h.run pins s σ H E I (k E σ H q)⟩
theorem weakSs {st : List Stmt} {u u' : TS} (h : PSs X st u) (k : ∀ E σ H, u' E σ H → u E σ H) : PSs X st u' := ⟨fun pins s σ H E I q => h.run pins s σ H E I (k E σ H q)⟩
/-- what is never reached -/
theorem deadE : PE X e (fun _ _ _ => False) := ⟨fun _ _ _ _ _ _ h => h.elim⟩
theorem deadT : PT X e (fun _ _ _ => False) := ⟨fun _ _ _ _ _ _ h => h.elim⟩
theorem deadS {st : Stmt} : PS X st (fun _ _ _ => False) := ⟨fun _ _ _ _ _ _ h => h.elim⟩
theorem deadSs {st : List Stmt} : PSs X st (fun _ _ _ => False) := ⟨fun _ _ _ _ _ _ h => h.elim⟩
end

/-! ### names, constants -/
def gVar (i : Nat) : G D := fun ρ S q => ∃ d : D, ρ[i]? = some (some d) ∧ q d S
def gC (d : D) : G D := fun _ S q => q d S
section
variable {X : Cx} {pos : Pos}
theorem d_var (i : Nat) {x : Str} (hN : X.N[i]? = some x := by rfl) (hv : Vis X.env.scope x := by first | exact Or.inl rfl | exact Or.inr (Or.inl rfl) | exact Or.inr (Or.inr rfl)) (hd : (x == ("__debug__" : Str)) = false := by decide)
    (hcd : (x == ("__classdict__" : Str)) = false := by decide) : PE X (.Name x pos) (tofE X.K U (gVar i)) :=
  weakE (pe_var hN hv hd hcd) fun σ H Q ⟨m, S, Z, ρ, q, w, r, ⟨d, e, h⟩, k⟩ => by
    obtain ⟨v, h1, h2⟩ := r.2 i d e
    exact ⟨v, h1, k.now w h2 h⟩
theorem ofC {e : Expr} {d : D} {v : V} (h : PE X e (tC v)) (hr : ∀ K m N Hv, Rep K m N Hv d v) : PE X e (tofE X.K U (gC d)) :=
  weakE h fun σ H Q ⟨m, S, Z, ρ, q, w, r, h, k⟩ => k.now w (hr _ _ _ _) h
theorem d_int {i j} : PE X (.Constant (.int i) j pos) (tofE X.K U (gC (.int i))) := ofC pe_int fun _ _ _ _ => rfl
theorem d_bl {b j} : PE X (.Constant (.bool b) j pos) (tofE X.K U (gC (.bl b))) := ofC pe_bl fun _ _ _ _ => rfl
theorem d_non {j} : PE X (.Constant .none j pos) (tofE X.K U (gC .non)) := ofC pe_non fun _ _ _ _ => rfl
theorem d_str {x j} : PE X (.Constant (.str x) j pos) (tofE X.K U (gC (.str x))) := ofC pe_str fun _ _ _ _ => rfl
/-- a module's constant: an int, a text -/
theorem d_gint {x : Str} {i : Int} (hg : Gl X x) (hm : ∃ t, X.mg x = some (.int i t)) (hd : (x == ("__debug__" : Str)) = false := by decide) : PE X (.Name x pos) (tofE X.K U (gC (.int i))) := by
  obtain ⟨t, hm⟩ := hm
  exact ofC (pe_glob (v := .int i) hg hm ⟨_, rfl⟩ hd) fun _ _ _ _ => rfl
theorem d_gstr {x y : Str} (hg : Gl X x) (hm : ∃ t, X.mg x = some (.str y t)) (hd : (x == ("__debug__" : Str)) = false := by decide) : PE X (.Name x pos) (tofE X.K U (gC (.str y))) := by
  obtain ⟨t, hm⟩ := hm
  exact ofC (pe_glob (v := .str y) hg hm ⟨_, rfl⟩ hd) fun _ _ _ _ => rfl
/-- a module's tuple, list -/
structure KTup (K : PySem.W.Frag) (ds : List D) (a : Addr) : Prop where
  ok : ∀ m N Hv, Rep K m N Hv (.tup ds) (.ref a)
theorem d_gtup {x : Str} {a : Addr} {ds : List D} (hg : Gl X x) (hm : X.mg x = some (.ref a)) (hk : KTup X.K ds a) (hd : (x == ("__debug__" : Str)) = false := by decide) : PE X (.Name x pos) (tofE X.K U (gC (.tup ds))) :=
  weakE (pe_glob (v := .ref a) hg hm rfl hd) fun σ H Q ⟨m, S, Z, ρ, q, w, r, h, k⟩ => k.now w (hk.ok _ _ _) h
theorem d_gref {x : Str} {a : Addr} (hg : Gl X x) (hm : X.mg x = some (.ref a)) (hd : (x == ("__debug__" : Str)) = false := by decide) : PE X (.Name x pos) (tofE X.K U (gC (.ref a))) :=
  ofC (pe_glob (v := .ref a) hg hm rfl hd) fun _ _ _ _ => rfl
end

/-! ### two expressions in a row -/
abbrev R2D := D → D → Sto → (D → Sto → Prop) → Prop
abbrev R1D := D → Sto → (D → Sto → Prop) → Prop
abbrev RND := List D → Sto → (D → Sto → Prop) → Prop
def gB2 (r : R2D) (ga gb : G D) : G D := fun ρ S q => ga ρ S fun a S1 => gb ρ S1 fun b S2 => r a b S2 q
def gU (r : R1D) (ga : G D) : G D := fun ρ S q => ga ρ S fun a S1 => r a S1 q
def VR2 (K : PySem.W.Frag) (r : R2) (g : R2D) : Prop := ∀ {U : Wi} {m : Nat → Addr} {S : Sto} {Z : Addr → Prop} {H : Hp} {a b : D} {v u : V} {q : D → Sto → Prop} {Q : VK}, Wd K U m S Z H → Rep K m S.length (vis m S Z H) a v → Rep K m S.length (vis m S Z H) b u →
  g a b S q → Outs m S Z H K U (rD K) q Q → r v u H Q
def VR1 (K : PySem.W.Frag) (r : V → Hp → VK → Prop) (g : R1D) : Prop := ∀ {U : Wi} {m : Nat → Addr} {S : Sto} {Z : Addr → Prop} {H : Hp} {a : D} {v : V} {q : D → Sto → Prop} {Q : VK}, Wd K U m S Z H → Rep K m S.length (vis m S Z H) a v →
  g a S q → Outs m S Z H K U (rD K) q Q → r v H Q
def VRN (K : PySem.W.Frag) (r : List V → Hp → VK → Prop) (g : RND) : Prop := ∀ {U : Wi} {m : Nat → Addr} {S : Sto} {Z : Addr → Prop} {H : Hp} {a : List D} {v : List V} {q : D → Sto → Prop} {Q : VK}, Wd K U m S Z H → Reps K m S.length (vis m S Z H) a v →
  g a S q → Outs m S Z H K U (rD K) q Q → r v H Q
section
variable {X : Cx} {pos : Pos} {a b c e : Expr} {ga gb gc : G D} {r r' : R2} {g g' : R2D}
theorem two_in {K : PySem.W.Frag} (hv : VR2 K r g) {σ : St} {H : Hp} {Q : VK} (h : tofE K U (gB2 g ga gb) σ H Q) : tOp r (tofE K U ga) (tofE K U gb) σ H Q := by
  obtain ⟨m, S, Z, ρ, q, w, rs, h, k⟩ := h
  exact tof_in w rs h fun v1 H1 m1 d1 S1 e1 w1 r1 h1 => tof_in w1 (rs.ext e1) h1 fun v2 H2 m2 d2 S2 e2 w2 r2 h2 => hv w2 (r1.ext e2) r2 h2 (k.ext (e1.trans e2))
theorem d_op {op : Operator} (ho : OpR X (binaryOp op) r) (hv : VR2 X.K r g) (ha : PE X a (tofE X.K U ga)) (hb : PE X b (tofE X.K U gb)) : PE X (.BinOp a op b pos) (tofE X.K U (gB2 g ga gb)) :=
  weakE (pe_op ho ha hb) fun _ _ _ h => two_in hv h
theorem d_cmp {op : CmpOp} (ho : OpR X (compareOp op) r) (hv : VR2 X.K r g) (ha : PE X a (tofE X.K U ga)) (hb : PE X b (tofE X.K U gb)) (hm : behindInMarks op b = false := by first | rfl | exact nomark _) : PE X (.Compare a [op] [b] pos) (tofE X.K U (gB2 g ga gb)) :=
  weakE (pe_cmpR ho ha hb hm) fun _ _ _ h => two_in hv h
/-- a comparison as a test -/
def gTest (g : G D) : G Bool := fun ρ S q => g ρ S fun d S1 => ∃ k, d = .bl k ∧ q k S1
theorem d_test {t : TE} (h : PE X e t) (ht : PT X e (tTest t)) {g : G D} (k : ∀ σ H Q, tofE X.K U g σ H Q → t σ H Q) : PT X e (tofB X.K U (gTest g)) :=
  weakT ht fun σ H Q ⟨m, S, Z, ρ, q, w, rs, h, kk⟩ => k σ H _ (tof_in w rs h fun v1 H1 m1 d1 S1 e1 w1 r1 h1 => by
    obtain ⟨b, e, h1⟩ := h1
    subst e
    exact ⟨b, r1, kk.at e1 w1 rfl h1⟩)
theorem d_tcmp {op : CmpOp} (ho : OpR X (compareOp op) r) (hv : VR2 X.K r g) (ha : PE X a (tofE X.K U ga)) (hb : PE X b (tofE X.K U gb)) (hm : behindInMarks op b = false := by first | rfl | exact nomark _) : PT X (.Compare a [op] [b] pos) (tofB X.K U (gTest (gB2 g ga gb))) :=
  d_test (pe_cmpR (pos := pos) ho ha hb hm) (pt_cmpR ho ha hb hm) fun _ _ _ h => two_in hv h
theorem VR2.or {K : PySem.W.Frag} (h : VR2 K r g) (h' : VR2 K r' g') : VR2 K (fun x y H Q => r x y H Q ∨ r' x y H Q) (fun a b S q => g a b S q ∨ g' a b S q) := fun w r1 r2 x k => x.elim (fun x => .inl (h w r1 r2 x k)) (fun x => .inr (h' w r1 r2 x k))
theorem VR2.imp {K : PySem.W.Frag} (h : VR2 K r g) (i : ∀ a b S q, g' a b S q → g a b S q) : VR2 K r g' := fun w r1 r2 x k => h w r1 r2 (i _ _ _ _ x) k
/-- a chain a < b < c -/
def gChain (g g' : R2D) (ga gb gc : G D) : G D := fun ρ S q => ga ρ S fun a S1 => gb ρ S1 fun b S2 => g a b S2 fun z S3 => ∃ k, z = .bl k ∧ (if k = true then gc ρ S3 fun c S4 => g' b c S4 q else q (.bl false) S3)
theorem chain_in {K : PySem.W.Frag} (hv : VR2 K r g) (hv' : VR2 K r' g') {σ : St} {H : Hp} {Q : VK} (h : tofE K U (gChain g g' ga gb gc) σ H Q) : tChain r r' (tofE K U ga) (tofE K U gb) (tofE K U gc) σ H Q := by
  obtain ⟨m, S, Z, ρ, q, w, rs, h, k⟩ := h
  refine tof_in w rs h fun v1 H1 m1 d1 S1 e1 w1 r1 h1 => tof_in w1 (rs.ext e1) h1 fun v2 H2 m2 d2 S2 e2 w2 r2 h2 => hv w2 (r1.ext e2) r2 h2 fun v3 H3 m3 d3 S3 e3 w3 r3 h3 => ?_
  obtain ⟨b, e, h3⟩ := h3
  subst e
  refine ⟨b, r3, ?_⟩
  cases b with
  | true => exact tof_in w3 (rs.ext ((e1.trans e2).trans e3)) h3 fun v4 H4 m4 d4 S4 e4 w4 r4 h4 => hv' w4 (r2.ext (e3.trans e4)) r4 h4 (k.ext (((e1.trans e2).trans e3).trans e4))
  | false => exact k.at ((e1.trans e2).trans e3) w3 (show Rep K m3 S3.length (vis m3 S3 Z H3) (.bl false) (.bl false) from by simp [Rep]) h3
theorem d_chain {op op' : CmpOp} (ho : OpR X (compareOp op) r) (ho' : OpR X (compareOp op') r') (hv : VR2 X.K r g) (hv' : VR2 X.K r' g') (ha : PE X a (tofE X.K U ga)) (hb : PE X b (tofE X.K U gb)) (hc : PE X c (tofE X.K U gc))
    (hm : lastMarks [op, op'] [b, c] = false := by with_unfolding_all rfl) : PE X (.Compare a [op, op'] [b, c] pos) (tofE X.K U (gChain g g' ga gb gc)) :=
  weakE (pe_chain ho ho' ha hb hc hm) fun _ _ _ h => chain_in hv hv' h
theorem d_tchain {op op' : CmpOp} (ho : OpR X (compareOp op) r) (ho' : OpR X (compareOp op') r') (hv : VR2 X.K r g) (hv' : VR2 X.K r' g') (ha : PE X a (tofE X.K U ga)) (hb : PE X b (tofE X.K U gb)) (hc : PE X c (tofE X.K U gc)) (hm : lastMarks [op, op'] [b, c] = false := by with_unfolding_all rfl) :
    PT X (.Compare a [op, op'] [b, c] pos) (tofB X.K U (gTest (gChain g g' ga gb gc))) :=
  d_test (pe_chain (pos := pos) ho ho' ha hb hc hm) (pt_chain ho ho' ha hb hc hm) fun _ _ _ h => chain_in hv hv' h
theorem d_un {op : UnaryOp} {u : V → Hp → VK → Prop} {g1 : R1D} (ho : UnR X (unaryOp op) u) (hv : VR1 X.K u g1) (ha : PE X a (tofE X.K U ga)) : PE X (.UnaryOp op a pos) (tofE X.K U (gU g1 ga)) :=
  weakE (pe_un ho ha) fun _ _ _ ⟨m, S, Z, ρ, q, w, rs, h, k⟩ => tof_in w rs h fun v1 H1 m1 d1 S1 e1 w1 r1 h1 => hv w1 r1 h1 (k.ext e1)
end

/-! ### tests -/
section
variable {X : Cx} {pos : Pos} {a b c e : Expr} {ga gb gc : G D} {rest : List Expr} {ta tb : G Bool}
/-- an expression whose value is a bool, as a test -/
theorem d_val (h : PE X e (tofE X.K U ga)) (he : ∀ whole, isTrue e X.env whole = (do let v ← whole; standAt e.pos; holding [v] (truthy v)) := by intro _; rfl) : PT X e (tofB X.K U (gTest ga)) :=
  d_test (t := tofE X.K U ga) h (weakT (pt_val h he) fun _ _ _ h => h) fun _ _ _ h => h
def gAndB (ta tb : G Bool) : G Bool := fun ρ S q => ta ρ S fun c S1 => if c = true then tb ρ S1 q else q false S1
def gOrB (ta tb : G Bool) : G Bool := fun ρ S q => ta ρ S fun c S1 => if c = true then q true S1 else tb ρ S1 q
def gNotB (ta : G Bool) : G Bool := fun ρ S q => ta ρ S fun c S1 => q (!c) S1
theorem d_and1 (ha : PT X a (tofB X.K U ta)) : PW X (.BoolOp .And [a] pos) (tofB X.K U ta) := pw_and1 ha
theorem d_or1 (ha : PT X a (tofB X.K U ta)) : PW X (.BoolOp .Or [a] pos) (tofB X.K U ta) := pw_or1 ha
theorem d_and (ha : PT X a (tofB X.K U ta)) (hb : PW X (.BoolOp .And (b :: rest) pos) (tofB X.K U tb)) : PW X (.BoolOp .And (a :: b :: rest) pos) (tofB X.K U (gAndB ta tb)) :=
  weakW (pw_and ha hb) fun σ H Q ⟨m, S, Z, ρ, q, w, rs, h, k⟩ => tof_in w rs h fun v1 H1 m1 d1 S1 e1 w1 r1 h1 => by
    cases (show d1 = v1 from r1)
    cases v1 with
    | true => exact tof_in w1 (rs.ext e1) h1 (k.ext e1)
    | false => exact k.at e1 w1 rfl h1
theorem d_or (ha : PT X a (tofB X.K U ta)) (hb : PW X (.BoolOp .Or (b :: rest) pos) (tofB X.K U tb)) : PW X (.BoolOp .Or (a :: b :: rest) pos) (tofB X.K U (gOrB ta tb)) :=
  weakW (pw_or ha hb) fun σ H Q ⟨m, S, Z, ρ, q, w, rs, h, k⟩ => tof_in w rs h fun v1 H1 m1 d1 S1 e1 w1 r1 h1 => by
    cases (show d1 = v1 from r1)
    cases v1 with
    | true => exact k.at e1 w1 rfl h1
    | false => exact tof_in w1 (rs.ext e1) h1 (k.ext e1)
theorem d_not (ha : PT X a (tofB X.K U ta)) : PT X (.UnaryOp .Not a pos) (tofB X.K U (gNotB ta)) :=
  weakT (pt_not ha) fun σ H Q ⟨m, S, Z, ρ, q, w, rs, h, k⟩ => tof_in w rs h fun v1 H1 m1 d1 S1 e1 w1 r1 h1 => by
    cases (show d1 = v1 from r1)
    exact k.at e1 w1 rfl h1
/-- and, or, not as values: bools -/
def gAndV (ga gb : G D) : G D := fun ρ S q => ga ρ S fun a S1 => ∃ c, a = .bl c ∧ if c = true then gb ρ S1 q else q (.bl false) S1
def gOrV (ga gb : G D) : G D := fun ρ S q => ga ρ S fun a S1 => ∃ c, a = .bl c ∧ if c = true then q (.bl true) S1 else gb ρ S1 q
def gNotV (ga : G D) : G D := fun ρ S q => ga ρ S fun a S1 => ∃ c, a = .bl c ∧ q (.bl (!c)) S1
theorem d_oneV {op} (h : PE X a (tofE X.K U ga)) : PE X (.BoolOp op [a] pos) (tofE X.K U ga) := pe_one h
theorem d_andV (ha : PE X a (tofE X.K U ga)) (hb : PE X (.BoolOp .And (b :: rest) pos) (tofE X.K U gb)) : PE X (.BoolOp .And (a :: b :: rest) pos) (tofE X.K U (gAndV ga gb)) :=
  weakE (pe_and ha hb) fun σ H Q ⟨m, S, Z, ρ, q, w, rs, h, k⟩ => tof_in w rs h fun v1 H1 m1 d1 S1 e1 w1 r1 h1 => by
    obtain ⟨c, e, h1⟩ := h1
    subst e
    refine ⟨c, r1, ?_⟩
    cases c with
    | true => exact tof_in w1 (rs.ext e1) h1 (k.ext e1)
    | false => exact k.at e1 w1 rep_bl h1
theorem d_orV (ha : PE X a (tofE X.K U ga)) (hb : PE X (.BoolOp .Or (b :: rest) pos) (tofE X.K U gb)) : PE X (.BoolOp .Or (a :: b :: rest) pos) (tofE X.K U (gOrV ga gb)) :=
  weakE (pe_or ha hb) fun σ H Q ⟨m, S, Z, ρ, q, w, rs, h, k⟩ => tof_in w rs h fun v1 H1 m1 d1 S1 e1 w1 r1 h1 => by
    obtain ⟨c, e, h1⟩ := h1
    subst e
    refine ⟨c, r1, ?_⟩
    cases c with
    | true => exact k.at e1 w1 rep_bl h1
    | false => exact tof_in w1 (rs.ext e1) h1 (k.ext e1)
theorem d_notV (ha : PE X a (tofE X.K U ga)) : PE X (.UnaryOp .Not a pos) (tofE X.K U (gNotV ga)) :=
  weakE (pe_not ha) fun σ H Q ⟨m, S, Z, ρ, q, w, rs, h, k⟩ => tof_in w rs h fun v1 H1 m1 d1 S1 e1 w1 r1 h1 => by
    obtain ⟨c, e, h1⟩ := h1
    subst e
    exact ⟨c, r1, k.at e1 w1 rep_bl h1⟩
def gIf (t : G Bool) (ga gb : G D) : G D := fun ρ S q => t ρ S fun c S1 => if c = true then ga ρ S1 q else gb ρ S1 q
theorem d_ifExp (hc : PT X c (tofB X.K U ta)) (ha : PE X a (tofE X.K U ga)) (hb : PE X b (tofE X.K U gb)) : PE X (.IfExp c a b pos) (tofE X.K U (gIf ta ga gb)) :=
  weakE (pe_ifExp hc ha hb) fun σ H Q ⟨m, S, Z, ρ, q, w, rs, h, k⟩ => tof_in w rs h fun v1 H1 m1 d1 S1 e1 w1 r1 h1 => by
    cases (show d1 = v1 from r1)
    cases v1 with
    | true => exact tof_in w1 (rs.ext e1) h1 (k.ext e1)
    | false => exact tof_in w1 (rs.ext e1) h1 (k.ext e1)
/-- is None -/
def D.isNon : D → Bool
  | .non => true
  | _ => false
theorem Rep.isNon {K : PySem.W.Frag} {m : Nat → Addr} {N : Nat} {Hv : Hp} {d : D} {v : V} (r : Rep K m N Hv d v) : decide (v = .non) = d.isNon := by
  cases d with
  | non => rw [show v = .non from r]; rfl
  | bl b => rw [show v = .bl b from r]; rfl
  | int b => rw [show v = .int b from r]; rfl
  | str b => rw [show v = .str b from r]; rfl
  | tup b => obtain ⟨a, vs, e, _⟩ := r; rw [e]; rfl
  | lst b => obtain ⟨a, vs, e, _⟩ := r; rw [e]; rfl
  | ksq b => obtain ⟨a, vs, e, _⟩ := r; rw [e]; rfl
  | obj b => obtain ⟨a, dx, vs, e, _⟩ := r; rw [e]; rfl
  | dic b => obtain ⟨a, vs, e, _⟩ := r; rw [e]; rfl
  | loc n => rw [r.1]; rfl
  | ref a => rw [show v = .ref a from r]; rfl
  | ty a => rw [show v = .ty a from r]; rfl
  | exc c ks ds => obtain ⟨a, dd, vs, e, _⟩ := r; rw [e]; rfl
def gIsN (ga : G D) : G D := fun ρ S q => ga ρ S fun a S1 => q (.bl a.isNon) S1
def gNotN (ga : G D) : G D := fun ρ S q => ga ρ S fun a S1 => q (.bl (!a.isNon)) S1
theorem d_isN {j pos'} (ha : PE X a (tofE X.K U ga)) : PE X (.Compare a [.Is] [.Constant .none j pos'] pos) (tofE X.K U (gIsN ga)) :=
  weakE (pe_cmp (pc_isN ha)) fun σ H Q ⟨m, S, Z, ρ, q, w, rs, h, k⟩ => tof_in w rs h fun v1 H1 m1 d1 S1 e1 w1 r1 h1 => k.at e1 w1 (by rw [Rep.isNon r1]; rfl) h1
theorem d_notN {j pos'} (ha : PE X a (tofE X.K U ga)) : PE X (.Compare a [.IsNot] [.Constant .none j pos'] pos) (tofE X.K U (gNotN ga)) :=
  weakE (pe_cmp (pc_notN ha)) fun σ H Q ⟨m, S, Z, ρ, q, w, rs, h, k⟩ => tof_in w rs h fun v1 H1 m1 d1 S1 e1 w1 r1 h1 => k.at e1 w1 (by rw [Rep.isNon r1]; rfl) h1
theorem d_tisN {j pos'} (ha : PE X a (tofE X.K U ga)) : PT X (.Compare a [.Is] [.Constant .none j pos'] pos) (tofB X.K U (gTest (gIsN ga))) :=
  weakT (pt_cmp (pc_isN ha)) fun σ H Q ⟨m, S, Z, ρ, q, w, rs, h, k⟩ => tof_in w rs h fun v1 H1 m1 d1 S1 e1 w1 r1 ⟨b, e, h1⟩ => ⟨_, by rw [Rep.isNon r1], k.at e1 w1 (by cases e; rfl) h1⟩
theorem d_tnotN {j pos'} (ha : PE X a (tofE X.K U ga)) : PT X (.Compare a [.IsNot] [.Constant .none j pos'] pos) (tofB X.K U (gTest (gNotN ga))) :=
  weakT (pt_cmp (pc_notN ha)) fun σ H Q ⟨m, S, Z, ρ, q, w, rs, h, k⟩ => tof_in w rs h fun v1 H1 m1 d1 S1 e1 w1 r1 ⟨b, e, h1⟩ => ⟨_, by rw [Rep.isNon r1], k.at e1 w1 (by cases e; rfl) h1⟩
end

/-! ### argument lists, displays -/
def gNil : G (List D) := fun _ S q => q [] S
def gCons (ga : G D) (gr : G (List D)) : G (List D) := fun ρ S q => ga ρ S fun a S1 => gr ρ S1 fun as S2 => q (a :: as) S2
/-- a new list: given up at once, or of the store -/
def newL (fz : Bool) (ds : List D) (S : Sto) (q : D → Sto → Prop) : Prop := if fz = true then q (.lst ds) S else q (.loc S.length) (S ++ [some (.lst ds)])
section
variable {K : PySem.W.Frag} {m : Nat → Addr} {S : Sto} {Z : Addr → Prop} {H : Hp} {q : D → Sto → Prop} {Q : VK} {ds : List D} {vs : List V} {fz : Bool} {p : Addr}
theorem out_newL (w : Wd K U m S Z H) (r : Reps K m S.length (vis m S Z H) ds vs) (h : newL fz ds S q) (k : Outs m S Z H K U (rD K) q Q) (hp : H p = none) : Q (.ref p) (upd H p (.lst vs)) := by
  cases fz with
  | true =>
    obtain ⟨w1, e1, hv⟩ := w.new (o := .lst vs) hp
    exact k.at e1 w1 (rep_lst hv (r.ext e1)) h
  | false =>
    obtain ⟨m', e0, w1, e1⟩ := w.add (o := .lst vs) (mo := .lst ds) hp fun m1 N1 Hv1 h1 h2 h3 => ⟨vs, upd_same, Reps.mono h1 h2 h3 r⟩
    exact k.at e1 w1 (rep_loc e0 (by simp)) h
theorem out_newT (w : Wd K U m S Z H) (r : Reps K m S.length (vis m S Z H) ds vs) (h : q (.tup ds) S) (k : Outs m S Z H K U (rD K) q Q) (hp : H p = none) : Q (.ref p) (upd H p (.tup vs)) := by
  obtain ⟨w1, e1, hv⟩ := w.new (o := .tup vs) hp
  exact k.at e1 w1 (rep_tup (SqT.of hv) (r.ext e1)) h
end
section
variable {X : Cx} {pos : Pos} {e : Expr} {es : List Expr} {ga : G D} {gr : G (List D)}
theorem d_nil : PA X [] (tofA X.K U gNil) := weakA pa_nil fun σ H Q ⟨m, S, Z, ρ, q, w, rs, h, k⟩ => k.now w reps_nil h
theorem d_cons (ha : PE X e (tofE X.K U ga)) (hr : PA X es (tofA X.K U gr)) (hs : starEach (e :: es) X.env = (false, eval e X.env) :: starEach es X.env := by rfl) : PA X (e :: es) (tofA X.K U (gCons ga gr)) :=
  weakA (pa_cons ha hr hs) fun σ H Q ⟨m, S, Z, ρ, q, w, rs, h, k⟩ => tof_in w rs h fun v1 H1 m1 d1 S1 e1 w1 r1 h1 => tof_in w1 (rs.ext e1) h1 fun v2 H2 m2 d2 S2 e2 w2 r2 h2 => k.at (e1.trans e2) w2 (Reps.cons (r1.ext e2) r2) h2
def gTup (gs : G (List D)) : G D := fun ρ S q => gs ρ S fun ds S1 => ds.length ≤ sizeLine ∧ q (.tup ds) S1
def gLst (fz : Bool) (gs : G (List D)) : G D := fun ρ S q => gs ρ S fun ds S1 => ds.length ≤ sizeLine ∧ newL fz ds S1 q
theorem d_tup {x1} (h : PA X es (tofA X.K U gr)) : PE X (.Tuple es x1 pos) (tofE X.K U (gTup gr)) :=
  weakE (pe_tup h) fun σ H Q ⟨m, S, Z, ρ, q, w, rs, h, k⟩ => tof_in w rs h fun v1 H1 m1 d1 S1 e1 w1 r1 h1 => ⟨by rw [Reps.len r1]; exact h1.1, fun p hp => out_newT w1 r1 h1.2 (k.ext e1) hp⟩
theorem d_lst (fz : Bool) (h : PA X es (tofA X.K U gr)) : PE X (.List es pos) (tofE X.K U (gLst fz gr)) :=
  weakE (pe_lst h) fun σ H Q ⟨m, S, Z, ρ, q, w, rs, h, k⟩ => tof_in w rs h fun v1 H1 m1 d1 S1 e1 w1 r1 h1 => ⟨by rw [Reps.len r1]; exact h1.1, fun p hp => out_newL w1 r1 h1.2 (k.ext e1) hp⟩
/-- a built-in by its name -/
def gCB (r : RND) (gs : G (List D)) : G D := fun ρ S q => gs ρ S fun ds S1 => r ds S1 q
theorem d_callB {x : Str} {id : String} {p : Pos} {r : List V → Hp → VK → Prop} {g : RND} (hc : CallR X (.builtin id) r) (hv : VRN X.K r g) (hg : Gl X x) (hm : X.mg x = none) (hb : bootBuiltins x = some (.builtin id)) (ha : PA X (e :: es) (tofA X.K U gr)) (hn : x ≠ "__name__" := by decide) (hdb : (x == ("__debug__" : Str)) = false := by decide)
    (hs : starEach (e :: es) X.env = (false, eval e X.env) :: starEach es X.env := by rfl) (hpl : (backTo pos (starEach es X.env)).any (·.1) = false := by rfl) : PE X (.Call (.Name x p) (e :: es) [] pos) (tofE X.K U (gCB g gr)) :=
  weakE (pe_callB hc hg hm hb ha hn hdb hs hpl) fun σ H Q ⟨m, S, Z, ρ, q, w, rs, h, k⟩ => tof_in w rs h fun v1 H1 m1 d1 S1 e1 w1 r1 h1 => hv w1 r1 h1 (k.ext e1)
theorem d_callTy {x : Str} {T : String} {p : Pos} {r : List V → Hp → VK → Prop} {g : RND} (hc : CallR X (.type T) r) (hv : VRN X.K r g) (hg : Gl X x) (hm : X.mg x = none) (hb : bootBuiltins x = some (.type T)) (ha : PA X (e :: es) (tofA X.K U gr)) (hn : x ≠ "__name__" := by decide) (hdb : (x == ("__debug__" : Str)) = false := by decide)
    (hs : starEach (e :: es) X.env = (false, eval e X.env) :: starEach es X.env := by rfl) (hpl : (backTo pos (starEach es X.env)).any (·.1) = false := by rfl) : PE X (.Call (.Name x p) (e :: es) [] pos) (tofE X.K U (gCB g gr)) :=
  weakE (pe_callTy hc hg hm hb ha hn hdb hs hpl) fun σ H Q ⟨m, S, Z, ρ, q, w, rs, h, k⟩ => tof_in w rs h fun v1 H1 m1 d1 S1 e1 w1 r1 h1 => hv w1 r1 h1 (k.ext e1)
/-- a built-in's method -/
def gBM (r : D → RND) (go : G D) (gs : G (List D)) : G D := fun ρ S q => go ρ S fun o S1 => gs ρ S1 fun ds S2 => r o ds S2 q
def VRM (K : PySem.W.Frag) (T : String) (r : V → List V → Hp → VK → Prop) (g : D → RND) : Prop := (∀ {U : Wi} {m : Nat → Addr} {S : Sto} {Z : Addr → Prop} {H : Hp} {o : D} {u : V} {a : List D} {v : List V} {q : D → Sto → Prop} {Q : VK}, Wd K U m S Z H → Rep K m S.length (vis m S Z H) o u → Reps K m S.length (vis m S Z H) a v →
  g o a S q → Outs m S Z H K U (rD K) q Q → r u v H Q)
/-- the receiver's kind -/
def isTy (T : String) (S : Sto) : D → Bool
  | .str _ => T == "str"
  | .lst _ => T == "list"
  | .ksq _ => T == "list"
  | .tup _ => T == "tuple"
  | .int _ => T == "int"
  | .loc k => match S[k]? with
    | some (some (.lst _)) => T == "list"
    | some (some (.dic _ _)) => T == "dict"
    | some (some (.dicT _ _)) => T == "dict"
    | _ => false
  | .dic _ _ => T == "dict"
  | _ => false
end
end Dl
/-! Dl statements, loops, comprehensions, defs. -/
namespace Dl
open PySem L2

/-- what is wanted behind a statement, by data -/
structure DE where
  nx : Env_ → Sto → Prop
  rt : D → Sto → Prop
  bk : Env_ → Sto → Prop := fun _ _ => False
  ct : Env_ → Sto → Prop := fun _ _ => False
abbrev GS := DE → Env_ → Sto → Prop
abbrev rS (K : PySem.W.Frag) : (Nat → Addr) → Nat → Hp → Env_ → St → Prop := fun m N Hv ρ σ => RelS K m N Hv ρ σ
structure OutE (m : Nat → Addr) (S : Sto) (Z : Addr → Prop) (H : Hp) (K : PySem.W.Frag) (U : Wi) (E : DE) (De : Ends) : Prop where
  nx : Outs m S Z H K U (rS K) E.nx De.nx
  rt : Outs m S Z H K U (rD K) E.rt De.rt
  bk : Outs m S Z H K U (rS K) E.bk De.bk
  ct : Outs m S Z H K U (rS K) E.ct De.ct
def tofS (K : PySem.W.Frag) (U : Wi) (g : GS) : TS := fun De σ H => ∃ m S Z ρ E, Wd K U m S Z H ∧ RelS K m S.length (vis m S Z H) ρ σ ∧ g E ρ S ∧ OutE m S Z H K U E De
section
variable {K : PySem.W.Frag} {m m1 : Nat → Addr} {S S1 : Sto} {Z : Addr → Prop} {H H1 : Hp} {E : DE} {De : Ends} {ρ : Env_} {σ : St}
theorem OutE.ext (e : Ext m S Z H m1 S1 H1) (k : OutE m S Z H K U E De) : OutE m1 S1 Z H1 K U E De := ⟨k.nx.ext e, k.rt.ext e, k.bk.ext e, k.ct.ext e⟩
theorem tofS_in {g : GS} (w : Wd K U m S Z H) (r : RelS K m S.length (vis m S Z H) ρ σ) (h : g E ρ S) (k : OutE m S Z H K U E De) : tofS K U g De σ H := ⟨m, S, Z, ρ, E, w, r, h, k⟩
end

/-! ### blocks -/
def gNext : GS := fun E ρ S => E.nx ρ S
def gSeq (g1 g2 : GS) : GS := fun E ρ S => g1 { E with nx := g2 E } ρ S
def gBreak : GS := fun E ρ S => E.bk ρ S
def gCont : GS := fun E ρ S => E.ct ρ S
def gDrop (ge : G D) : GS := fun E ρ S => ge ρ S fun _ S1 => E.nx ρ S1
def gRet (ge : G D) : GS := fun E ρ S => ge ρ S E.rt
def gRetN : GS := fun E ρ S => E.rt .non S
def gIfS (gt : G Bool) (g1 g2 : GS) : GS := fun E ρ S => gt ρ S fun b S1 => if b = true then g1 E ρ S1 else g2 E ρ S1
def gDead : GS := fun _ _ _ => False
def gDeadE : G D := fun _ _ _ => False
def gDeadT : G Bool := fun _ _ _ => False
section
variable {X : Cx} {pos : Pos} {st : Stmt} {rest : List Stmt} {e c : Expr} {ge : G D} {gt : G Bool} {g1 g2 : GS}
theorem d_deadE : PE X e (tofE X.K U gDeadE) := weakE deadE fun σ H Q ⟨m, S, Z, ρ, q, w, rs, h, k⟩ => h
theorem d_deadT : PT X e (tofB X.K U gDeadT) := weakT deadT fun σ H Q ⟨m, S, Z, ρ, q, w, rs, h, k⟩ => h
theorem d_dead : PS X st (tofS X.K U gDead) := weakS deadS fun E σ H ⟨m, S, Z, ρ, D, w, rs, h, k⟩ => h
theorem d_deads : PSs X rest (tofS X.K U gDead) := weakSs deadSs fun E σ H ⟨m, S, Z, ρ, D, w, rs, h, k⟩ => h
theorem ds_nil : PSs X [] (tofS X.K U gNext) := weakSs pss_nil fun E σ H ⟨m, S, Z, ρ, D, w, rs, h, k⟩ => k.nx.now w rs h
theorem ds_cons (h1 : PS X st (tofS X.K U g1)) (h2 : PSs X rest (tofS X.K U g2)) : PSs X (st :: rest) (tofS X.K U (gSeq g1 g2)) :=
  weakSs (pss_cons h1 h2) fun E σ H ⟨m, S, Z, ρ, D, w, rs, h, k⟩ => tofS_in (E := { D with nx := g2 D }) w rs h ⟨fun σ1 H1 m1 ρ1 S1 e1 w1 r1 h1 => tofS_in w1 r1 h1 (k.ext e1), k.rt, k.bk, k.ct⟩
theorem ds_one (h1 : PS X st (tofS X.K U g1)) : PSs X [st] (tofS X.K U g1) := pss_one h1
theorem d_pass : PS X (.Pass pos) (tofS X.K U gNext) := weakS ps_pass fun E σ H ⟨m, S, Z, ρ, D, w, rs, h, k⟩ => k.nx.now w rs h
theorem d_break : PS X (.Break pos) (tofS X.K U gBreak) := weakS ps_break fun E σ H ⟨m, S, Z, ρ, D, w, rs, h, k⟩ => k.bk.now w rs h
theorem d_continue : PS X (.Continue pos) (tofS X.K U gCont) := weakS ps_continue fun E σ H ⟨m, S, Z, ρ, D, w, rs, h, k⟩ => k.ct.now w rs h
theorem d_expr (he : PE X e (tofE X.K U ge)) (hs : swapsWith e none pos.line X.env = pure false := by rfl) : PS X (.Expr e pos) (tofS X.K U (gDrop ge)) :=
  weakS (ps_expr he hs) fun E σ H ⟨m, S, Z, ρ, D, w, rs, h, k⟩ => tof_in w rs h fun v1 H1 m1 d1 S1 e1 w1 r1 h1 => k.nx.at e1 w1 (rs.ext e1) h1
theorem d_doc {x j pos'} : PS X (.Expr (.Constant (.str x) j pos) pos') (tofS X.K U gNext) := weakS ps_doc fun E σ H ⟨m, S, Z, ρ, D, w, rs, h, k⟩ => k.nx.now w rs h
theorem d_ret (he : PE X e (tofE X.K U ge)) : PS X (.Return (some e) pos) (tofS X.K U (gRet ge)) :=
  weakS (ps_ret he) fun E σ H ⟨m, S, Z, ρ, D, w, rs, h, k⟩ => tof_in w rs h k.rt
theorem d_retN : PS X (.Return none pos) (tofS X.K U gRetN) := weakS ps_retN fun E σ H ⟨m, S, Z, ρ, D, w, rs, h, k⟩ => k.rt.now w rep_non h
theorem d_if {a b : List Stmt} (hc : PT X c (tofB X.K U gt)) (ha : PSs X a (tofS X.K U g1)) (hb : PSs X b (tofS X.K U g2)) : PS X (.If c a b pos) (tofS X.K U (gIfS gt g1 g2)) :=
  weakS (ps_if hc ha hb) fun E σ H ⟨m, S, Z, ρ, D, w, rs, h, k⟩ => tof_in w rs h fun v1 H1 m1 d1 S1 e1 w1 r1 h1 => by
    cases (show d1 = v1 from r1)
    cases v1 with
    | true => exact tofS_in w1 (rs.ext e1) h1 (k.ext e1)
    | false => exact tofS_in w1 (rs.ext e1) h1 (k.ext e1)
end

/-! ### targets -/
inductive Tgt where
  | nm (i : Nat) | tp (ts : List Tgt)
mutual
def Tgt.bind : Tgt → D → Env_ → Option Env_
  | .nm i, d, ρ => some (ρ.set i (some d))
  | .tp ts, .tup ds, ρ => Tgt.binds ts ds ρ
  | .tp _, _, _ => none
def Tgt.binds : List Tgt → List D → Env_ → Option Env_
  | [], [], ρ => some ρ
  | t :: ts, d :: ds, ρ => (Tgt.bind t d ρ).bind fun ρ' => Tgt.binds ts ds ρ'
  | _, _, _ => none
end
mutual
def Tgt.gof (K : PySem.W.Frag) : Tgt → TG
  | .nm i => gName i
  | .tp ts => L2.gTup K ts.length (Tgt.gofs K ts)
def Tgt.gofs (K : PySem.W.Frag) : List Tgt → TGs
  | [] => L2.gNil
  | t :: ts => L2.gCons (Tgt.gof K t) (Tgt.gofs K ts)
end
mutual
def Tgt.slots : Tgt → List Nat
  | .nm i => [i]
  | .tp ts => Tgt.slotss ts
def Tgt.slotss : List Tgt → List Nat
  | [] => []
  | t :: ts => Tgt.slots t ++ Tgt.slotss ts
end
theorem wipe_swap (σ : St) (v : Nat) : ∀ vs : List Nat, wipe (σ.set v none) vs = (wipe σ vs).set v none
  | [] => rfl
  | u :: us => by
    show (wipe (σ.set v none) us).set u none = ((wipe σ us).set u none).set v none
    rw [wipe_swap σ v us]
    by_cases h : u = v
    · subst h; rfl
    · exact List.set_comm _ _ (fun z => h z.symm)
theorem wipe_set {σ : St} {i : Nat} {x : Option V} : ∀ {vs : List Nat}, i ∈ vs → wipe (σ.set i x) vs = wipe σ vs
  | [], h => by cases h
  | v :: vs, h => by
    show (wipe (σ.set i x) vs).set v none = (wipe σ vs).set v none
    by_cases hv : i = v
    · subst hv
      rw [← wipe_swap, ← wipe_swap, List.set_set]
    · rcases List.mem_cons.mp h with e | h
      · exact absurd e hv
      · rw [wipe_set h]
theorem wipe_wipe {σ : St} : ∀ {vs : List Nat} (ws : List Nat), (∀ v ∈ vs, v ∈ ws) → wipe (wipe σ vs) ws = wipe σ ws
  | [], ws, _ => rfl
  | v :: vs, ws, h => by
    show wipe ((wipe σ vs).set v none) ws = wipe σ ws
    rw [wipe_set (h v (List.mem_cons_self ..)), wipe_wipe ws fun u hu => h u (List.mem_cons_of_mem _ hu)]
section
variable {K : PySem.W.Frag} {m : Nat → Addr} {N : Nat} {Hv H : Hp} {vs : List Nat}
mutual
theorem Tgt.ok (hH : ∀ a o, Hv a = some o → H a = some o) : ∀ {t : Tgt} {d : D} {v : V} {ρ ρ' : Env_} {σ : St} {Q : St → Hp → Prop}, t.bind d ρ = some ρ' → Rep K m N Hv d v → RelS K m N Hv ρ σ →
    (∀ σ', RelS K m N Hv ρ' σ' → ((∀ i ∈ t.slots, i ∈ vs) → wipe σ' vs = wipe σ vs) → Q σ' H) → t.gof K v σ H Q
  | .nm i, d, v, ρ, ρ', σ, Q, e, r, rs, k => by
    rw [Tgt.bind] at e
    cases e
    rw [Tgt.gof]
    exact k _ (rs.set r) fun h => wipe_set (h i (by rw [Tgt.slots]; exact List.mem_singleton.mpr rfl))
  | .tp ts, .tup ds, v, ρ, ρ', σ, Q, e, r, rs, k => by
    rw [Tgt.bind] at e
    rw [Rep] at r
    obtain ⟨a, xs, ev, hs, hr⟩ := r
    rw [Tgt.gof]
    have hl : ds.length = ts.length := Tgt.binds_len e
    refine ⟨a, xs, ev, SqT.sub hH hs, by rw [Reps.len hr, hl], Tgt.oks hH e hr rs fun σ' r' hw => k σ' r' fun h => hw fun i hi => h i (by rw [Tgt.slots]; exact hi)⟩
  | .tp ts, .non, v, ρ, ρ', σ, Q, e, r, rs, k => by rw [Tgt.bind] at e <;> first | cases e | (intro _ z; cases z)
  | .tp ts, .bl _, v, ρ, ρ', σ, Q, e, r, rs, k => by rw [Tgt.bind] at e <;> first | cases e | (intro _ z; cases z)
  | .tp ts, .int _, v, ρ, ρ', σ, Q, e, r, rs, k => by rw [Tgt.bind] at e <;> first | cases e | (intro _ z; cases z)
  | .tp ts, .str _, v, ρ, ρ', σ, Q, e, r, rs, k => by rw [Tgt.bind] at e <;> first | cases e | (intro _ z; cases z)
  | .tp ts, .lst _, v, ρ, ρ', σ, Q, e, r, rs, k => by rw [Tgt.bind] at e <;> first | cases e | (intro _ z; cases z)
  | .tp ts, .ksq _, v, ρ, ρ', σ, Q, e, r, rs, k => by rw [Tgt.bind] at e <;> first | cases e | (intro _ z; cases z)
  | .tp ts, .obj _ _ _, v, ρ, ρ', σ, Q, e, r, rs, k => by rw [Tgt.bind] at e <;> first | cases e | (intro _ z; cases z)
  | .tp ts, .dic _ _, v, ρ, ρ', σ, Q, e, r, rs, k => by rw [Tgt.bind] at e <;> first | cases e | (intro _ z; cases z)
  | .tp ts, .loc _, v, ρ, ρ', σ, Q, e, r, rs, k => by rw [Tgt.bind] at e <;> first | cases e | (intro _ z; cases z)
  | .tp ts, .ref _, v, ρ, ρ', σ, Q, e, r, rs, k => by rw [Tgt.bind] at e <;> first | cases e | (intro _ z; cases z)
  | .tp ts, .ty _, v, ρ, ρ', σ, Q, e, r, rs, k => by rw [Tgt.bind] at e <;> first | cases e | (intro _ z; cases z)
  | .tp ts, .exc _ _ _, v, ρ, ρ', σ, Q, e, r, rs, k => by rw [Tgt.bind] at e <;> first | cases e | (intro _ z; cases z)
theorem Tgt.oks (hH : ∀ a o, Hv a = some o → H a = some o) : ∀ {ts : List Tgt} {ds : List D} {xs : List V} {ρ ρ' : Env_} {σ : St} {Q : St → Hp → Prop}, Tgt.binds ts ds ρ = some ρ' → Reps K m N Hv ds xs → RelS K m N Hv ρ σ →
    (∀ σ', RelS K m N Hv ρ' σ' → ((∀ i ∈ Tgt.slotss ts, i ∈ vs) → wipe σ' vs = wipe σ vs) → Q σ' H) → Tgt.gofs K ts xs σ H Q
  | [], [], xs, ρ, ρ', σ, Q, e, r, rs, k => by
    rw [Tgt.binds] at e
    cases e
    rw [Reps] at r
    rw [Tgt.gofs]
    exact ⟨r, k σ rs fun _ => rfl⟩
  | t :: ts, d :: ds, xs, ρ, ρ', σ, Q, e, r, rs, k => by
    rw [Tgt.binds] at e
    rw [Reps] at r
    obtain ⟨v, q, ev, r1, r2⟩ := r
    rw [Tgt.gofs]
    cases h1 : t.bind d ρ with
    | none => rw [h1] at e; cases e
    | some ρ1 =>
      rw [h1] at e
      refine ⟨v, q, ev, Tgt.ok hH h1 r1 rs fun σ1 rs1 hw1 => Tgt.oks hH e r2 rs1 fun σ2 rs2 hw2 => k σ2 rs2 fun h => ?_⟩
      rw [hw2 fun i hi => h i (by rw [Tgt.slotss]; exact List.mem_append_right _ hi), hw1 fun i hi => h i (by rw [Tgt.slotss]; exact List.mem_append_left _ hi)]
  | [], _ :: _, xs, ρ, ρ', σ, Q, e, r, rs, k => by rw [Tgt.binds] at e <;> first | cases e | (intros; simp_all)
  | _ :: _, [], xs, ρ, ρ', σ, Q, e, r, rs, k => by rw [Tgt.binds] at e <;> first | cases e | (intros; simp_all)
theorem Tgt.binds_len : ∀ {ts : List Tgt} {ds : List D} {ρ ρ' : Env_}, Tgt.binds ts ds ρ = some ρ' → ds.length = ts.length
  | [], [], _, _, _ => rfl
  | t :: ts, d :: ds, ρ, ρ', e => by
    rw [Tgt.binds] at e
    cases h1 : t.bind d ρ with
    | none => rw [h1] at e; cases e
    | some ρ1 =>
      rw [h1] at e
      rw [List.length_cons, List.length_cons, Tgt.binds_len e]
  | [], _ :: _, ρ, ρ', e => by rw [Tgt.binds] at e <;> first | cases e | (intros; simp_all)
  | _ :: _, [], ρ, ρ', e => by rw [Tgt.binds] at e <;> first | cases e | (intros; simp_all)
end
end
/-- name(s) = e -/
def gAsg (t : Tgt) (ge : G D) : GS := fun E ρ S => ge ρ S fun d S1 => ∃ ρ', t.bind d ρ = some ρ' ∧ E.nx ρ' S1
def gSet (i : Nat) (ge : G D) : GS := fun E ρ S => ge ρ S fun d S1 => E.nx (ρ.set i (some d)) S1
/-- name op= e -/
def gAug (i : Nat) (r : R2D) (ge : G D) : GS := fun E ρ S => ∃ x : D, ρ[i]? = some (some x) ∧ ge ρ S fun y S1 => r x y S1 fun z S2 => E.nx (ρ.set i (some z)) S2
theorem vis_le {m : Nat → Addr} {S : Sto} {Z : Addr → Prop} {H : Hp} : ∀ a o, vis m S Z H a = some o → H a = some o := fun _ _ h => vis_sub h
section
variable {X : Cx} {pos : Pos} {e tg : Expr} {ge : G D}
theorem d_asg {t : Tgt} (he : PE X e (tofE X.K U ge)) (hg : PG X tg (t.gof X.K)) (hs : swapsWithSole [tg] e pos.line X.env = pure false := by rfl) (hw : swappedStores [tg] e X.env = pure none := by rfl)
    (h1 : (assignEach [tg] X.env).map (·.2) = [assign tg X.env] := by rfl) : PS X (.Assign [tg] e pos) (tofS X.K U (gAsg t ge)) :=
  weakS (ps_asg he hg hs hw h1) fun E σ H ⟨m, S, Z, ρ, D, w, rs, h, k⟩ => tof_in w rs h fun v1 H1 m1 d1 S1 e1 w1 r1 ⟨ρ', hb, h1⟩ =>
    Tgt.ok (vs := []) vis_le hb r1 (rs.ext e1) fun σ' rs' _ => k.nx.at e1 w1 rs' h1
theorem d_set {i : Nat} {x : Str} {pos' : Pos} (hN : X.N.Nodup) (hi : X.N[i]? = some x) (hx : Loc X.env.scope x) (he : PE X e (tofE X.K U ge)) (hs : swapsWith e (some (.Name x pos')) pos.line X.env = pure false := by rfl)
    (hf : X.fn x = true ∨ X.env.scope.names.lookup x = some .local := by first | exact .inl rfl | exact .inr rfl | assumption) : PS X (.Assign [.Name x pos'] e pos) (tofS X.K U (gSet i ge)) :=
  weakS (ps_set hN hi hx he hs hf) fun E σ H ⟨m, S, Z, ρ, D, w, rs, h, k⟩ => tof_in w rs h fun v1 H1 m1 d1 S1 e1 w1 r1 h1 => k.nx.at e1 w1 ((rs.ext e1).set r1) h1
theorem d_aug {i : Nat} {x : Str} {op : Operator} {r : R2} {g : R2D} {pos' : Pos} (hN : X.N.Nodup) (hi : X.N[i]? = some x) (hx : Loc X.env.scope x) (ho : OpR X (inplaceOp op) r) (hv : VR2 X.K r g) (he : PE X e (tofE X.K U ge))
    (hf : X.fn x = true ∨ X.env.scope.names.lookup x = some .local := by first | exact .inl rfl | exact .inr rfl | assumption) : PS X (.AugAssign (.Name x pos') op e pos) (tofS X.K U (gAug i g ge)) :=
  weakS (ps_aug (ti := r) hN hi hx he ho hf) fun E σ H ⟨m, S, Z, ρ, D, w, rs, ⟨x, ex, h⟩, k⟩ => by
    obtain ⟨v, ev, rv⟩ := rs.2 i x ex
    exact ⟨v, ev, tof_in w rs h fun v1 H1 m1 d1 S1 e1 w1 r1 h1 => hv w1 (rv.ext e1) r1 h1 fun v2 H2 m2 d2 S2 e2 w2 r2 h2 => k.nx.at (e1.trans e2) w2 ((rs.ext (e1.trans e2)).set r2) h2⟩
end

/-! ### walks -/
structure Lt (m : Nat → Addr) (S : Sto) (Z : Addr → Prop) (H : Hp) (m' : Nat → Addr) (S' : Sto) (Z' : Addr → Prop) (H' : Hp) : Prop where
  len : S.length ≤ S'.length
  loc : ∀ i, i < S.length → m' i = m i
  vis : ∀ a o, Dl.vis m S Z H a = some o → Dl.vis m' S' Z' H' a = some o
theorem Ext.lt {m m' : Nat → Addr} {S S' : Sto} {Z : Addr → Prop} {H H' : Hp} (e : Ext m S Z H m' S' H') : Lt m S Z H m' S' Z H' := ⟨e.len, e.loc, e.vis⟩
structure Yl (K : PySem.W.Frag) (J : It) (m : Nat → Addr) (S : Sto) (Z : Addr → Prop) (H : Hp) (ds : List D) (chk : Sto → Prop) : Prop where
  go : ∀ {U : Wi} {m' : Nat → Addr} {S' : Sto} {Z' : Addr → Prop} {H' : Hp} {i : Nat}, Lt m S Z H m' S' Z' H' → Wd K U m' S' Z' H' → chk S' → i < ds.length → J.go i H' ∧ ∀ x H2, J.yld i H' x H2 → ∃ d, ds[i]? = some d ∧ Wd K U m' S' Z' H2 ∧ Ext m' S' Z' H' m' S' H2 ∧ Rep K m' S'.length (vis m' S' Z' H2) d x
  stop : ∀ {U : Wi} {m' : Nat → Addr} {S' : Sto} {Z' : Addr → Prop} {H' : Hp}, Lt m S Z H m' S' Z' H' → Wd K U m' S' Z' H' → chk S' → J.stop ds.length H'
abbrev GI := Env_ → Sto → (List D → (Sto → Prop) → Sto → Prop) → Prop
def tofI (K : PySem.W.Frag) (U : Wi) (gi : GI) : TI := fun σ H R => ∃ m S Z ρ q, Wd K U m S Z H ∧ RelS K m S.length (vis m S Z H) ρ σ ∧ gi ρ S q ∧
  ∀ J H' m' S' ds chk, Ext m S Z H m' S' H' → Wd K U m' S' Z H' → Yl K J m' S' Z H' ds chk → q ds chk S' → R J H'
def gFor (gi : GI) (t : Tgt) (gb : GS) : GS := fun E ρ S => gi ρ S fun ds chk S1 => ∃ I : Nat → Env_ → Sto → Prop, I 0 ρ S1 ∧
  (∀ i d ρ S, ds[i]? = some d → I i ρ S → chk S ∧ ∃ ρ', t.bind d ρ = some ρ' ∧ gb { nx := I (i + 1), rt := E.rt, ct := I (i + 1), bk := E.nx } ρ' S) ∧ ∀ ρ S, I ds.length ρ S → chk S ∧ E.nx ρ S
section
variable {X : Cx} {pos : Pos} {tg iter : Expr} {gi : GI} {t : Tgt} {gb : GS} {body : List Stmt}
theorem weakI {w w' : TI} (h : PI X tg iter w) (k : ∀ σ H R, w' σ H R → w σ H R) : PI X tg iter w' := ⟨fun pins s σ H R I q => h.run pins s σ H R I (k σ H R q)⟩
theorem d_for (hp : PassesOwn (model X.prog X.w) X.A X.env X.xe) (hc : X.calm = true) (hi : PI X tg iter (tofI X.K U gi)) (hg : PG X tg (t.gof X.K)) (hb : PSs X body (tofS X.K U gb)) (hs : ∀ x, foldedSetIterable iter X.env x = pure x := by intro _; rfl) :
    PS X (.For tg iter body [] pos) (tofS X.K U (gFor gi t gb)) := by
  refine weakS (ps_for hp hc hi hg hb hs) fun De σ H ⟨m, S, Z, ρ, E, w, rs, h, k⟩ => ?_
  refine ⟨m, S, Z, ρ, _, w, rs, h, fun J H1 m1 S1 ds chk e1 w1 Y ⟨I, h0, hstep, hend⟩ => ?_⟩
  refine ⟨fun i n σ' H' => n = ds.length - i ∧ i ≤ ds.length ∧ ∃ m' S' ρ', Ext m1 S1 Z H1 m' S' H' ∧ Wd X.K U m' S' Z H' ∧ RelS X.K m' S'.length (vis m' S' Z H') ρ' σ' ∧ I i ρ' S', ⟨ds.length, by simp, Nat.zero_le _, m1, S1, ρ, Ext.refl, w1, rs.ext e1, h0⟩, ?_⟩
  rintro i n σ2 H2 ⟨rfl, hi2, m2, S2, ρ2, e2, w2, rs2, I2⟩
  by_cases hlt : i < ds.length
  · right
    obtain ⟨d, hd⟩ : ∃ d, ds[i]? = some d := ⟨ds[i], by simp [hlt]⟩
    obtain ⟨hchk, ρ3, hbind, hbody⟩ := hstep i d ρ2 S2 hd I2
    obtain ⟨g1, g2⟩ := Y.go e2.lt w2 hchk hlt
    refine ⟨g1, fun σ' H' => ∃ m' S' ρ', Ext m1 S1 Z H1 m' S' H' ∧ Wd X.K U m' S' Z H' ∧ RelS X.K m' S'.length (vis m' S' Z H') ρ' σ' ∧ I (i + 1) ρ' S', fun σ' H' hN => ⟨ds.length - (i + 1), by omega, rfl, hlt, hN⟩, fun x H3 hy => ?_⟩
    obtain ⟨d', hd', w3, e3, r3⟩ := g2 x H3 hy
    rw [hd] at hd'; cases hd'
    refine Tgt.ok (vs := []) vis_le hbind r3 (rs2.ext e3) fun σ4 rs4 _ => ?_
    have e23 := e2.trans e3
    exact tofS_in w3 rs4 hbody ⟨fun σ5 H5 m5 ρ5 S5 e5 w5 r5 h5 => ⟨m5, S5, ρ5, e23.trans e5, w5, r5, h5⟩, k.rt.ext (e1.trans e23), k.nx.ext (e1.trans e23), fun σ5 H5 m5 ρ5 S5 e5 w5 r5 h5 => ⟨m5, S5, ρ5, e23.trans e5, w5, r5, h5⟩⟩
  · left
    have ei : i = ds.length := by omega
    subst ei
    obtain ⟨hchk, hnx⟩ := hend ρ2 S2 I2
    exact ⟨Y.stop e2.lt w2 hchk, k.nx.at (e1.trans e2) w2 rs2 hnx⟩
/-- while -/
def gWhile (gt : G Bool) (gb : GS) : GS := fun E ρ S => ∃ (I : Env_ → Sto → Prop) (μ : Env_ → Sto → Nat), I ρ S ∧ ∀ ρ S, I ρ S →
  gt ρ S fun b S1 => if b = true then gb { nx := fun ρ' S' => I ρ' S' ∧ μ ρ' S' < μ ρ S, rt := E.rt, ct := fun ρ' S' => I ρ' S' ∧ μ ρ' S' < μ ρ S, bk := E.nx } ρ S1 else E.nx ρ S1
theorem d_while {c : Expr} {gt : G Bool} (hp : PassesOwn (model X.prog X.w) X.A X.env X.xe) (hc : PT X c (tofB X.K U gt)) (hb : PSs X body (tofS X.K U gb)) : PS X (.While c body [] pos) (tofS X.K U (gWhile gt gb)) := by
  refine weakS (ps_while hp hc hb) fun De σ H ⟨m, S, Z, ρ, E, w, rs, ⟨I, μ, h0, hstep⟩, k⟩ => ?_
  refine ⟨fun n σ' H' => ∃ m' S' ρ', Ext m S Z H m' S' H' ∧ Wd X.K U m' S' Z H' ∧ RelS X.K m' S'.length (vis m' S' Z H') ρ' σ' ∧ I ρ' S' ∧ n = μ ρ' S', ⟨_, m, S, ρ, Ext.refl, w, rs, h0, rfl⟩, ?_⟩
  rintro n σ1 H1 ⟨m1, S1, ρ1, e1, w1, rs1, I1, rfl⟩
  refine tof_in w1 rs1 (hstep ρ1 S1 I1) fun b H2 m2 b' S2 e2 w2 hb2 h2 => ?_
  cases (show b' = b from hb2)
  cases b with
  | true =>
    refine ⟨fun σ' H' => ∃ m' S' ρ', Ext m S Z H m' S' H' ∧ Wd X.K U m' S' Z H' ∧ RelS X.K m' S'.length (vis m' S' Z H') ρ' σ' ∧ I ρ' S' ∧ μ ρ' S' < μ ρ1 S1, fun σ' H' ⟨m', S', ρ', a1, a2, a3, a4, a5⟩ => ⟨_, a5, m', S', ρ', a1, a2, a3, a4, rfl⟩, ?_⟩
    have e12 := e1.trans e2
    exact tofS_in w2 (rs1.ext e2) h2 ⟨fun σ5 H5 m5 ρ5 S5 e5 w5 r5 h5 => ⟨m5, S5, ρ5, e12.trans e5, w5, r5, h5⟩, k.rt.ext e12, k.nx.ext e12, fun σ5 H5 m5 ρ5 S5 e5 w5 r5 h5 => ⟨m5, S5, ρ5, e12.trans e5, w5, r5, h5⟩⟩
  | false => exact k.nx.at (e1.trans e2) w2 (rs1.ext e2) h2
end
end Dl
/-! Dl: room with what is under way told (no repr is), defs by it. -/
namespace Dl
open PySem L2 PyProof.Rows
structure RoomG (k : Nat) (A : Around) : Prop extends Room k A where
  gd : A.guards = some []
theorem RoomG.mono {j k : Nat} {A : Around} (r : RoomG k A) (h : j ≤ k) : RoomG j A := ⟨r.toRoom.mono h, r.gd⟩
theorem RoomG.deeper {k : Nat} {A : Around} (r : RoomG (k + 1) A) (env : Env) : RoomG k (A.deeper env) := ⟨r.toRoom.deeper env, r.gd⟩
theorem RoomG.in1 {k : Nat} {A : Around} (r : RoomG (k + 1) A) : RoomG k A.in1 := ⟨r.toRoom.in1, r.gd⟩
theorem make_guards {A : Around} {C : Addr} {us : List Value} {kw : List (Str × Value)} (h : A.guards = some []) : (A.under (.builtin "type.__call__" ⟨.ref C :: us, kw⟩)).guards = some [] := by
  simp [Around.under, Code.guards, Code.isGuard, guardIds, pushGuards, h]
theorem RoomG.make {k : Nat} {A : Around} (r : RoomG (k + 1) A) (C : Addr) (us : List Value) (kw : List (Str × Value)) : RoomG k (A.under (.builtin "type.__call__" ⟨.ref C :: us, kw⟩)) := ⟨r.toRoom.make C us kw, make_guards r.gd⟩
structure SubG (X : Cx) (n : Nat) (A : Around) : Prop where
  room : RoomG n A
  fr : A.frames = X.A.frames
theorem SubG.in1 {X : Cx} {n : Nat} {A : Around} (s : SubG X (n + 1) A) : SubG X n A.in1 := ⟨s.room.in1, s.fr⟩
theorem SubG.mono {X : Cx} {n m : Nat} {A : Around} (s : SubG X n A) (h : m ≤ n) : SubG X m A := ⟨s.room.mono h, s.fr⟩
/-- a def that keeps a promise wherever no repr is under way -/
structure FnG (P : Program) (w : World) (K : PySem.W.Frag) (mg : Str → Option Value) (base : Heap) (CX : CXT) (k : Nat) (f : Addr) (fd : FuncData) (ps : List Str) (sp : Sp) : Prop where
  len : ∀ vs H Q E, sp vs H Q E → vs.length = ps.length
  run : ∀ (A : Around) (outer : List Env) (s : Shared) (H : Hp) (args : Args) (us : List Value) (vs : List V) (Q : VK) (E : XK), RoomG k A → Env0 P w K mg base A outer s H → BindsTo s fd args (ps.zip us) → Vals vs us →
    sp vs H Q E → codeAny (model P w) A (.call (.ref f) args) (CR CX outer P w H s Q E) s
section
variable {P : Program} {w : World} {K : PySem.W.Frag} {mg : Str → Option Value} {base : Heap} {CX : CXT} {k : Nat} {f : Addr} {fd : FuncData} {ps : List Str} {sp sp' : Sp}
theorem FnG.mono {j : Nat} (F : FnG P w K mg base CX j f fd ps sp) (h : j ≤ k) : FnG P w K mg base CX k f fd ps sp where
  len := F.len
  run A outer s H args us vs Q E hr := F.run A outer s H args us vs Q E (hr.mono h)
theorem FnG.imp (F : FnG P w K mg base CX k f fd ps sp) (h : ∀ vs H Q E, sp' vs H Q E → sp vs H Q E) : FnG P w K mg base CX k f fd ps sp' where
  len vs H Q E q := F.len vs H Q E (h vs H Q E q)
  run A outer s H args us vs Q E hr e0 hb hv hs := F.run A outer s H args us vs Q E hr e0 hb hv (h vs H Q E hs)
/-- by its body -/
theorem FnG.by_body {x qual : Str} {params : Arguments} {body : List Stmt} {scope : Scope} {dvs : List V} {kws : List (Str × V)} {N : List Str} (F : FunD K x qual params body scope dvs kws f fd) (S : FnScope N ps scope) (len : ∀ vs H Q E, sp vs H Q E → vs.length = ps.length)
    (go : ∀ (cdv : Value) (A : Around) (outer : List Env) (s : Shared) (H : Hp) (vs : List V) (Q : VK) (E : XK), RoomG k (A.deeper (envOfC qual scope s.heap.objs.size f cdv)) → sp vs H Q E →
      ∃ t, PSs (cxOf CX P w K mg base N qual scope f cdv A outer s H E) body t ∧ t { nx := fun _ H' => Q .non H', rt := Q } (L2.start N vs) H) : FnG P w K mg base CX (k + 1) f fd ps sp := by
  obtain ⟨oc, od, dV, kV, doc, pm, an, cdv, ct, osl, rfl, lk, hcd, _, _⟩ := F.ex
  constructor
  · exact len
  intro A outer s H args us vs Q E hr e0 hb hv hsp
  have kept : ∀ b o, base.get? b = some o → s.heap.get? b = some o := fun b o e => (e0.bs b o e).1
  have inK := e0.mod.kin.keeps kept
  refine codeAny_call_function hr.toRoom.depth (inK _ _ lk) rfl S.co S.gen rfl (PySem.W.codeRec_of inK hcd) (hb _ _ _ _ ?_)
  refine wpAny_newFunctionEnv_cells S.kind (fun y hy => ?_) fun env he s1 x => ?_
  · rcases S.par y.1 (List.of_mem_zip (a := y.1) (b := y.2) hy).1 with q | q
    · left; exact q
    · right; exact ⟨q, PySem.W.cellsFrom_some _ _ _ (.inl q)⟩
  subst he
  obtain ⟨t, ht, hq⟩ := go cdv A outer s H vs Q E (hr.deeper _) hsp
  refine ⟨(e0.mod.nolimit.keeps kept).keeps x.toInCall.keep, codeAny_func (wpAny_mono (ht.run [] s1 _ H _ (inv_start S hr.hd e0 (len _ _ _ _ hsp) hv x) hq) (fun fl s' hs => ?_) fun e s' hs => hs)⟩
  cases fl with
  | ret u => obtain ⟨v, σ', H', J, rv, q⟩ := hs; exact ⟨v, H', J.os, J.bare, J.base, J.hok, rv, q⟩
  | next => obtain ⟨σ', H', J, q⟩ := hs; exact ⟨.non, H', J.os, J.bare, J.base, J.hok, rfl, q⟩
  | brk => obtain ⟨σ', H', J, q⟩ := hs; exact q.elim
  | cont => obtain ⟨σ', H', J, q⟩ := hs; exact q.elim
end
section
variable {X : Cx} {CX : CXT} {k n : Nat} {f C : Addr} {fd : FuncData} {ps ks : List Str} {sp : Sp} {E : XK} {g : List Value → List Value → List Value} {gV : List V → List V → List V}
/-- a def's end, told to its caller -/
theorem told {pins : List (Addr × Obj)} {σ : L2.St} {H : Hp} {s : Shared} {Q : VK} (hx : PassesAt CX X σ E) (I : Inv X pins σ H s) (r : Result) (s' : Shared) (h : CR CX X.stack X.prog X.w H s Q E r s') :
    (match r with | .ok (.ret u) => EP X pins σ Q u s' | .ok _ => False | .error e => X.xe e s') := by
  cases r with
  | error e => exact hx pins H s e s' I h
  | ok fl =>
    cases fl with
    | ret u => exact I.after h
    | next => exact h
    | brk => exact h
    | cont => exact h
theorem run_fnS' {pins : List (Addr × Obj)} {σ : L2.St} {H : Hp} {s : Shared} {Q : VK} {us ws : List Value} {vs zs : List V} (F : FnG X.prog X.w X.K X.mg X.base CX k f fd ps sp) (hr : RoomG k X.A) (hb : KBn X.K fd ps n ks g gV) (hx : PassesAt CX X σ E)
    (I : Inv X pins σ H s) (r : Vals vs us) (rz : Vals zs ws) (l1 : vs.length = n) (l2 : zs.length = ks.length) (h : sp (gV vs zs) H Q E) : wpAny (model X.prog X.w) X.A (call (.ref f) us (ks.zip ws)) (EP X pins σ Q) X.xe s := by
  refine wpAny_call (codeAny_mono (F.run X.A X.stack s H ⟨us, ks.zip ws⟩ (g us ws) (gV vs zs) Q E hr I.env0 (hb.to s us ws I.kIn (r.length.symm.trans l1) (rz.length.symm.trans l2)) (hb.rel r rz) h) fun r s' q => ?_)
  have z := told hx I r s' q
  cases r with
  | error e => exact z
  | ok fl => cases fl <;> exact z
theorem passAll {σ : L2.St} (hx : Passes CX X E) : PassesAt CX X σ E := fun pins H s e s' => hx pins σ H s e s'
theorem run_fnG {pins : List (Addr × Obj)} {σ : L2.St} {H : Hp} {s : Shared} {Q : VK} {us ws : List Value} {vs zs : List V} (F : FnG X.prog X.w X.K X.mg X.base CX k f fd ps sp) (hr : RoomG k X.A) (hb : KBn X.K fd ps n ks g gV) (hx : Passes CX X E)
    (I : Inv X pins σ H s) (r : Vals vs us) (rz : Vals zs ws) (l1 : vs.length = n) (l2 : zs.length = ks.length) (h : sp (gV vs zs) H Q E) : wpAny (model X.prog X.w) X.A (call (.ref f) us (ks.zip ws)) (EP X pins σ Q) X.xe s :=
  run_fnS' F hr hb (passAll hx) I r rz l1 l2 h
/-- C(..) -/
theorem run_makeS {pins : List (Addr × Obj)} {σ : L2.St} {H : Hp} {s : Shared} {Q : VK} {us ws : List Value} {vs zs : List V} (M : Mk X.K C f) (F : FnG X.prog X.w X.K X.mg X.base CX k f fd ps sp) (hr : RoomG (k + 1) X.A) (hb : KBn X.K fd ps (n + 1) ks g gV)
    (hx : PassesAt CX X σ E) (I : Inv X pins σ H s) (r : Vals vs us) (rz : Vals zs ws) (l1 : vs.length = n) (l2 : zs.length = ks.length)
    (h : ∀ x dx, H x = none → H dx = none → dx ≠ x → sp (gV (.ref x :: vs) zs) (upd (upd H dx (.own x)) x (.ins C dx [])) (fun v H2 => v = .non ∧ Q (.ref x) H2) E) :
    wpAny (model X.prog X.w) X.A (call (.ref C) us (ks.zip ws)) (EP X pins σ Q) X.xe s := by
  let sz := s.heap.objs.size
  have hq := h (sz + 1) sz (I.hok.fresh (Nat.le_succ _)) (I.hok.fresh (Nat.le_refl _)) (Nat.ne_of_lt (Nat.lt_succ_self _))
  have I2 := Inv.made (C := C) I
  have r1 : Vals (V.ref (sz + 1) :: vs) (Value.ref (sz + 1) :: us) := .cons rfl r
  have b2 := hb.to _ (Value.ref (sz + 1) :: us) ws I2.kIn (r1.length.symm.trans (congrArg Nat.succ l1)) (rz.length.symm.trans l2)
  have run := F.run _ X.stack _ _ ⟨Value.ref (sz + 1) :: us, ks.zip ws⟩ (g (Value.ref (sz + 1) :: us) ws) _ _ E (hr.make C us (ks.zip ws)) (I2.env0.make C us (ks.zip ws)) b2 (hb.rel r1 rz) hq
  refine wpAny_call (make_map (f := f) I.kIn M.makes M.init (beq_iff_eq.mp M.fn) (codeAny_mono run fun r s' q => ?_))
  have z := told hx I2 r s' q
  cases r with
  | error e => exact z
  | ok fl =>
    cases fl with
    | ret u =>
      obtain ⟨v, H', I3, rv, ev, q3⟩ := z
      subst ev
      exact ⟨rv, ⟨V.ref (sz + 1), H', I3, rfl, q3⟩⟩
    | next => exact z
    | brk => exact z
    | cont => exact z
theorem run_makeG {pins : List (Addr × Obj)} {σ : L2.St} {H : Hp} {s : Shared} {Q : VK} {us ws : List Value} {vs zs : List V} (M : Mk X.K C f) (F : FnG X.prog X.w X.K X.mg X.base CX k f fd ps sp) (hr : RoomG (k + 1) X.A) (hb : KBn X.K fd ps (n + 1) ks g gV)
    (hx : Passes CX X E) (I : Inv X pins σ H s) (r : Vals vs us) (rz : Vals zs ws) (l1 : vs.length = n) (l2 : zs.length = ks.length)
    (h : ∀ x dx, H x = none → H dx = none → dx ≠ x → sp (gV (.ref x :: vs) zs) (upd (upd H dx (.own x)) x (.ins C dx [])) (fun v H2 => v = .non ∧ Q (.ref x) H2) E) :
    wpAny (model X.prog X.w) X.A (call (.ref C) us (ks.zip ws)) (EP X pins σ Q) X.xe s := run_makeS M F hr hb (passAll hx) I r rz l1 l2 h
end
end Dl
/-! Dl defs: promises by data, binding, calls, methods, instances, fields. -/
namespace Dl
open PySem L2

abbrev DSp := List D → Sto → (D → Sto → Prop) → Prop
theorem Outs.to0 {A B : Type} {K : PySem.W.Frag} {U : Wi} {m : Nat → Addr} {S : Sto} {Z : Addr → Prop} {H : Hp} {rel : (Nat → Addr) → Nat → Hp → A → B → Prop} {q : A → Sto → Prop} {Q : B → Hp → Prop} (w : Wd K U m S Z H) (k : Outs m S Z H K U rel q Q) : Outs m S Z H K U0 rel q Q :=
  fun b H' m' a S' e w0 r h => k b H' m' a S' e (w.on e w0.toWd0) r h
theorem Wd.w0 {K : PySem.W.Frag} {U : Wi} {m : Nat → Addr} {S : Sto} {Z : Addr → Prop} {H : Hp} (w : Wd K U m S Z H) : Wd K U0 m S Z H := w.toWd0.u0
def spOf (K : PySem.W.Frag) (dsp : DSp) : Sp := fun vs H Q _ => ∃ m S Z ds q, Wd K U0 m S Z H ∧ Reps K m S.length (vis m S Z H) ds vs ∧ dsp ds S q ∧ Outs m S Z H K U0 (rD K) q Q
def startD (N : List Str) (ds : List D) : Env_ := ds.map some ++ List.replicate (N.length - ds.length) none
theorem relS_start {K : PySem.W.Frag} {m : Nat → Addr} {n : Nat} {Hv : Hp} {N : List Str} {ds : List D} {vs : List V} (r : Reps K m n Hv ds vs) : RelS K m n Hv (startD N ds) (L2.start N vs) := by
  have hl := Reps.len r
  refine ⟨by unfold startD L2.start; simp [hl], fun i d e => ?_⟩
  unfold startD at e
  by_cases hi : i < ds.length
  · rw [List.getElem?_append_left (by simpa using hi), List.getElem?_map] at e
    cases h1 : ds[i]? with
    | none => rw [h1] at e; cases e
    | some x =>
      rw [h1] at e
      cases e
      obtain ⟨v, h2, h3⟩ := Reps.get r h1
      refine ⟨v, ?_, h3⟩
      unfold L2.start
      rw [List.getElem?_append_left (by rw [List.length_map, hl]; exact hi), List.getElem?_map, h2]
      rfl
  · rw [List.getElem?_append_right (by simpa using Nat.le_of_not_lt hi), List.getElem?_replicate] at e
    split at e <;> cases e
theorem Wd.under {K : PySem.W.Frag} {m : Nat → Addr} {S : Sto} {Z : Addr → Prop} {H : Hp} (w : Wd K U m S Z H) : Sto.under S.length S = true := by
  refine List.all_eq_true.mpr fun o ho => ?_
  cases o with
  | none => rfl
  | some x =>
    obtain ⟨i, hi⟩ := List.getElem?_of_mem ho
    have r := w.rep i x hi
    show x.under S.length = true
    cases x with
    | lst ds => obtain ⟨vs, _, r⟩ := r; exact Reps.below r
    | obj C ks ds => obtain ⟨dx, vs, _, _, r⟩ := r; exact Reps.below r
    | dic ks ds => obtain ⟨vs, _, _, r⟩ := r; exact Reps.below r
    | dicT ks ds => obtain ⟨vs, _, _, r⟩ := r; exact Reps.below r
/-- a def's end: the store cut back to what it was, a list of its own given up -/
def fin (n : Nat) (q : D → Sto → Prop) (d : D) (S' : Sto) : Prop :=
  Sto.under n (S'.take n) = true ∧ match d with
  | .loc k => if k < n then q (.loc k) (S'.take n) else match S'[k]? with
    | some (some (.lst ds)) => D.unders n ds = true ∧ q (.lst ds) (S'.take n)
    | some (some (.dic ks ds)) => D.unders n ds = true ∧ q (.dic ks ds) (S'.take n)
    | some (some (.obj C ks ds)) => D.unders n ds = true ∧ q (.obj C ks ds) (S'.take n)
    | _ => False
  | d => d.under n = true ∧ q d (S'.take n)
theorem take_setN {S : Sto} {k n : Nat} (h : n ≤ k) : (S.set k none).take n = S.take n := by
  apply List.ext_getElem?
  intro i
  by_cases hi : i < n
  · rw [List.getElem?_take_of_lt hi, List.getElem?_take_of_lt hi, List.getElem?_set_ne (by omega)]
  · rw [List.getElem?_eq_none_iff.mpr (by rw [List.length_take]; omega), List.getElem?_eq_none_iff.mpr (by rw [List.length_take]; omega)]
theorem out_fin {K : PySem.W.Frag} {m : Nat → Addr} {S : Sto} {Z : Addr → Prop} {H : Hp} {q : D → Sto → Prop} {Q : VK} (w0 : Wd K U m S Z H) (k : Outs m S Z H K U (rD K) q Q) : Outs m S Z H K U (rD K) (fin S.length q) Q := by
  intro v H' m' d S' e w r ⟨hu, h⟩
  have e2 := e.take (Nat.le_refl _) e.len
  have w2 := w0.on e2 (w.toWd0.take e.len hu)
  have len : (S'.take S.length).length = S.length := by rw [List.length_take]; have := e.len; omega
  have key : ∀ {d : D}, Rep K m' S'.length (vis m' S' Z H') d v → d.under S.length = true → Rep K m' (S'.take S.length).length (vis m' (S'.take S.length) Z H') d v := fun {d} r hb => by
    rw [len]
    exact Rep.cut e.len (Rep.mono (fun _ _ => rfl) (Nat.le_refl _) (fun a o z => vis_take z) r) hb
  have key2 : ∀ {j : Nat} {d : D}, S.length ≤ j → v = V.ref (m' j) → Rep K m' (S'.set j none).length (vis m' (S'.set j none) Z H') d (.ref (m' j)) → d.under S.length = true →
      Rep K m' (S'.take S.length).length (vis m' (S'.take S.length) Z H') d v := fun {j d} hj hv r hb => by
    rw [hv, len]
    have r2 := Rep.cut (n := S.length) (by rw [List.length_set]; exact e.len) (Rep.mono (fun _ _ => rfl) (Nat.le_refl _) (fun a o z => vis_take (n := S.length) z) r) hb
    rw [take_setN hj] at r2
    exact r2
  cases d with
  | loc j =>
    by_cases hj : j < S.length
    · have h' : q (.loc j) (S'.take S.length) := by simpa [hj] using h
      exact k.at e2 w2 (key r (by simp [D.under, hj])) h'
    · have h' : match S'[j]? with
        | some (some (.lst ds)) => D.unders S.length ds = true ∧ q (.lst ds) (S'.take S.length)
        | some (some (.dic ks ds)) => D.unders S.length ds = true ∧ q (.dic ks ds) (S'.take S.length)
        | some (some (.obj C ks ds)) => D.unders S.length ds = true ∧ q (.obj C ks ds) (S'.take S.length)
        | _ => False := by simpa [hj] using h
      have hv : v = V.ref (m' j) := by
        have r' : Rep K m' S'.length (vis m' S' Z H') (.loc j) v := r
        rw [Rep] at r'
        exact r'.1
      have hj' := Nat.le_of_not_lt hj
      cases ho : S'[j]? with
      | none => rw [ho] at h'; exact h'.elim
      | some o =>
        cases o with
        | none => rw [ho] at h'; exact h'.elim
        | some o =>
          rw [ho] at h'
          cases o with
          | lst ds => exact k.at e2 w2 (key2 hj' hv (w.frozen_lst ho) (by simpa [D.under] using h'.1)) h'.2
          | dic ks ds => exact k.at e2 w2 (key2 hj' hv (w.frozen_dic ho) (by simpa [D.under] using h'.1)) h'.2
          | obj C ks ds => exact k.at e2 w2 (key2 hj' hv (w.frozen_obj ho) (by simpa [D.under] using h'.1)) h'.2
          | dicT ks ds => exact h'.elim
  | non => exact k.at e2 w2 (key r h.1) h.2
  | bl b => exact k.at e2 w2 (key r h.1) h.2
  | int b => exact k.at e2 w2 (key r h.1) h.2
  | str b => exact k.at e2 w2 (key r h.1) h.2
  | tup b => exact k.at e2 w2 (key r h.1) h.2
  | lst b => exact k.at e2 w2 (key r h.1) h.2
  | ksq b => exact k.at e2 w2 (key r h.1) h.2
  | obj C b c => exact k.at e2 w2 (key r h.1) h.2
  | dic b c => exact k.at e2 w2 (key r h.1) h.2
  | ref b => exact k.at e2 w2 (key r h.1) h.2
  | ty b => exact k.at e2 w2 (key r h.1) h.2
  | exc a b c => exact k.at e2 w2 (key r h.1) h.2

/-! ### binding -/
inductive Src where
  | p (i : Nat) | d (i : Nat) | k (i : Nat)
def pick {A : Type} (us its ws : List A) : Src → Option A
  | .p i => us[i]?
  | .d i => its[i]?
  | .k i => ws[i]?
def gat {A : Type} (src : List Src) (us its ws : List A) : List A := src.filterMap (pick us its ws)
theorem paired_at {A B : Type} {F : A → B → Prop} : ∀ {l : List A} {l' : List B}, Paired F l l' → ∀ i : Nat, (l[i]? = none ∧ l'[i]? = none) ∨ ∃ (a : A) (b : B), l[i]? = some a ∧ l'[i]? = some b ∧ F a b
  | _, _, .nil, i => .inl (by simp)
  | _, _, .cons r t, 0 => .inr ⟨_, _, rfl, rfl, r⟩
  | _, _, .cons r t, i + 1 => by simpa using paired_at t i
theorem gat_pair {A B : Type} {F : A → B → Prop} {us its ws : List A} {us' its' ws' : List B} (h1 : Paired F us us') (h2 : Paired F its its') (h3 : Paired F ws ws') : ∀ src : List Src, Paired F (gat src us its ws) (gat src us' its' ws')
  | [] => .nil
  | x :: xs => by
    have ih := gat_pair h1 h2 h3 xs
    unfold gat at *
    have : (pick us its ws x = none ∧ pick us' its' ws' x = none) ∨ ∃ a b, pick us its ws x = some a ∧ pick us' its' ws' x = some b ∧ F a b := by
      cases x with
      | p i => exact paired_at h1 i
      | d i => exact paired_at h2 i
      | k i => exact paired_at h3 i
    rcases this with ⟨e1, e2⟩ | ⟨a, b, e1, e2, r⟩
    · rw [List.filterMap_cons_none e1, List.filterMap_cons_none e2]; exact ih
    · rw [List.filterMap_cons_some e1, List.filterMap_cons_some e2]; exact .cons r ih
theorem Reps.paired {K : PySem.W.Frag} {m : Nat → Addr} {N : Nat} {H : Hp} : ∀ {ds : List D} {vs : List V}, Reps K m N H ds vs → Paired (fun d v => Rep K m N H d v) ds vs
  | [], _, r => by rw [show _ = [] from r]; exact .nil
  | d :: ds, _, r => by
    obtain ⟨v, q, e, r1, r2⟩ := r
    rw [e]
    exact .cons r1 (Reps.paired r2)
theorem Reps.of_paired {K : PySem.W.Frag} {m : Nat → Addr} {N : Nat} {H : Hp} : ∀ {ds : List D} {vs : List V}, Paired (fun d v => Rep K m N H d v) ds vs → Reps K m N H ds vs
  | _, _, .nil => reps_nil
  | _, _, .cons r t => Reps.cons r (Reps.of_paired t)
/-- how a call with n values and keywords ks binds; nd defaults -/
inductive Bnd (x qual : Str) (st : Stmt) (ps : List Str) (n : Nat) (ks : List Str) (src : List Src) : Nat → Prop where
  | zero (h : ∀ (kV doc pm : Value) (an : Option Addr) (cdv ct : Value) (us ws : List Value), us.length = n → ws.length = ks.length →
      bindArgs (PySem.W.fnOf x qual (defArgs st) (defBody st) (defScope st) .none kV doc pm an cdv ct) ⟨us, ks.zip ws⟩ = pure (ps.zip (gat src us [] ws))) : Bnd x qual st ps n ks src 0
  | more (nd : Nat) (h : ∀ (T : Addr) (kV doc pm : Value) (an : Option Addr) (cdv ct : Value) (us its ws : List Value), us.length = n → its.length = nd + 1 → ws.length = ks.length →
      ∃ k, bindArgs (PySem.W.fnOf x qual (defArgs st) (defBody st) (defScope st) (.ref T) kV doc pm an cdv ct) ⟨us, ks.zip ws⟩ = seqItems? (.ref T) >>= k ∧ k (some its.toArray) = pure (ps.zip (gat src us its ws))) : Bnd x qual st ps n ks src (nd + 1)
abbrev FunS (K : PySem.W.Frag) (x qual : Str) (st : Stmt) (dvs : List V) (f : Addr) (fd : FuncData) : Prop := FunD K x qual (defArgs st) (defBody st) (defScope st) dvs [] f fd
theorem kbn_of {K : PySem.W.Frag} {x qual : Str} {st : Stmt} {dvs : List V} {f : Addr} {fd : FuncData} {ps ks : List Str} {n : Nat} {src : List Src} (F : FunS K x qual st dvs f fd) (b : Bnd x qual st ps n ks src dvs.length) :
    ∃ its : List Value, KBn K fd ps n ks (fun us ws => gat src us its ws) (fun vs zs => gat src vs dvs zs) := by
  obtain ⟨oc, od, dV, kV, doc, pm, an, cdv, ct, osl, rfl, lk, hcd, hD, hK⟩ := F.ex
  rcases hD with ⟨rfl, rfl⟩ | ⟨hne, T, o, its, mm, rfl, lT, oT, rT⟩
  · cases b with
    | zero h => exact ⟨[], ⟨fun s us ws X l1 l2 => .of_eq (h kV doc pm an cdv ct us ws l1 l2), fun r1 r2 => gat_pair r1 .nil r2 src⟩⟩
  · have hb : ∃ nd, dvs.length = nd + 1 := by
      cases dvs with
      | nil => exact absurd rfl hne
      | cons _ r => exact ⟨r.length, rfl⟩
    obtain ⟨nd, e⟩ := hb
    rw [e] at b
    cases b with
    | more _ h =>
      refine ⟨its, ⟨fun s us ws X l1 l2 => ?_, fun r1 r2 => gat_pair r1 rT r2 src⟩⟩
      obtain ⟨k, e1, e2⟩ := h T kV doc pm an cdv ct us its ws l1 (rT.length.symm.trans e) l2
      refine BindsTo.of_looks fun M => ?_
      rw [e1]
      exact looks_items X lT oT (.of_pure e2)

/-! ### the arguments of a call -/
abbrev GA := Env_ → Sto → (List D → List D → Sto → Prop) → Prop
def gArgs (ga gk : G (List D)) : GA := fun ρ S q => ga ρ S fun as S1 => gk ρ S1 fun ks S2 => q as ks S2
abbrev TA2 := St → Hp → (List V → List V → Hp → Prop) → Prop
structure PArgs (X : Cx) (es : List Expr) (kws : List Keyword) (pos : Pos) (ks : List Str) (t : TA2) : Prop where
  run : ∀ (pins : List (Addr × Obj)) (s : Shared) (σ : St) (H : Hp) (Q : List V → List V → Hp → Prop) (f : Value) (first : List Value) (R : Value → Shared → Prop), Inv X pins σ H s → PySem.W.keepIn X.K f = true → t σ H Q →
    (∀ us ws vs zs s' H', Inv X pins σ H' s' → Vals vs us → Vals zs ws → Q vs zs H' → wpAny (model X.prog X.w) X.A (call f (first ++ us) (ks.zip ws)) R X.xe s') →
    wpAny (model X.prog X.w) X.A (callWith pos f first (backTo pos (starEach es X.env)) (backToKw pos (keywordEach kws X.env))) R X.xe s
def tof2 (K : PySem.W.Frag) (U : Wi) (g : GA) : TA2 := fun σ H Q => ∃ m S Z ρ q, Wd K U m S Z H ∧ RelS K m S.length (vis m S Z H) ρ σ ∧ g ρ S q ∧
  ∀ vs zs H' m' as ks S', Ext m S Z H m' S' H' → Wd K U m' S' Z H' → Reps K m' S'.length (vis m' S' Z H') as vs → Reps K m' S'.length (vis m' S' Z H') ks zs → q as ks S' → Q vs zs H'
section
variable {X : Cx} {pos : Pos} {e : Expr} {es : List Expr} {kws : List Keyword} {ks : List Str} {ga gk : G (List D)}
theorem tof2_in {K : PySem.W.Frag} {σ : St} {H : Hp} {Q : List V → List V → Hp → Prop} (h : tof2 K U (gArgs ga gk) σ H Q) : tofA K U ga σ H fun vs H1 => tofA K U gk σ H1 fun zs H2 => Q vs zs H2 := by
  obtain ⟨m, S, Z, ρ, q, w, rs, h, k⟩ := h
  exact tof_in w rs h fun v1 H1 m1 d1 S1 e1 w1 r1 h1 => tof_in w1 (rs.ext e1) h1 fun v2 H2 m2 d2 S2 e2 w2 r2 h2 => k v1 v2 H2 m2 d1 d2 S2 (e1.trans e2) w2 (r1.ext e2) r2 h2
theorem dk_nil : PK X [] (tofA X.K U gNil) := ⟨fun pos pins s σ H Q I ⟨m, S, Z, ρ, q, w, rs, h, k⟩ => (pk_nil (X := X)).run pos pins s σ H Q I (k.now w reps_nil h)⟩
theorem dk_cons {nm : Option Str} {kpos : Pos} {ge : G D} (ha : PE X e (tofE X.K U ge)) (hr : PK X kws (tofA X.K U gk)) : PK X (⟨nm, e, kpos⟩ :: kws) (tofA X.K U (gCons ge gk)) :=
  ⟨fun pos pins s σ H Q I ⟨m, S, Z, ρ, q, w, rs, h, k⟩ => (pk_cons (nm := nm) (kpos := kpos) ha hr).run pos pins s σ H Q I
    (tof_in w rs h fun v1 H1 m1 d1 S1 e1 w1 r1 h1 => tof_in w1 (rs.ext e1) h1 fun v2 H2 m2 d2 S2 e2 w2 r2 h2 => k.at (e1.trans e2) w2 (Reps.cons (r1.ext e2) r2) h2)⟩
theorem da_00 : PArgs X [] [] pos [] (tof2 X.K U (gArgs gNil gNil)) := ⟨fun pins s σ H Q f first R I hk h go => by
  obtain ⟨m, S, Z, ρ, q, w, rs, h, k⟩ := h
  exact PySem.W.callWith_K0 I.kIn hk (go [] [] [] [] s H I .nil .nil (k [] [] H m [] [] S Ext.refl w reps_nil reps_nil h))⟩
theorem da_p0 (ha : PA X (e :: es) (tofA X.K U ga)) (he : starEach (e :: es) X.env = (false, eval e X.env) :: starEach es X.env := by rfl) (hpl : (backTo pos (starEach es X.env)).any (·.1) = false := by rfl) :
    PArgs X (e :: es) [] pos [] (tof2 X.K U (gArgs ga gNil)) := ⟨fun pins s σ H Q f first R I hk h go => by
  obtain ⟨m, S, Z, ρ, q, w, rs, h, k⟩ := h
  refine PySem.W.callWith_K (h₀ := X.base) I.ok.mod.kin hk (thn (ha.run pos pins s σ H (fun vs H1 => Q vs [] H1) I (tof_in w rs h fun v1 H1 m1 d1 S1 e1 w1 r1 h1 => k v1 [] H1 m1 d1 [] S1 e1 w1 r1 reps_nil h1)) fun us s1 ⟨vs, H1, I1, r, q⟩ => ⟨I1.kIn, ?_⟩) he hpl
  exact go us [] vs [] s1 H1 I1 r .nil q⟩
theorem da_0k (hkw : PK X kws (tofA X.K U gk)) (hall : (backToKw pos (keywordEach kws X.env)).all (·.1.isSome) = true := by rfl) (hks : (backToKw pos (keywordEach kws X.env)).filterMap (·.1) = ks := by rfl)
    (hpl : ((backTo pos (starEach [] X.env)).any (·.1) || (backToKw pos (keywordEach kws X.env)).any (·.1.isNone)) = false := by rfl) : PArgs X [] kws pos ks (tof2 X.K U (gArgs gNil gk)) := ⟨fun pins s σ H Q f first R I hk h go => by
  obtain ⟨m, S, Z, ρ, q, w, rs, h, k⟩ := h
  refine PySem.W.callWith_KW0 (h₀ := X.base) I.ok.mod.kin hk hall (thn (hkw.run pos pins s σ H (fun zs H1 => Q [] zs H1) I (tof_in w rs h fun v1 H1 m1 d1 S1 e1 w1 r1 h1 => k [] v1 H1 m1 [] d1 S1 e1 w1 reps_nil r1 h1)) fun ws s1 ⟨zs, H1, I1, r, q⟩ => ⟨I1.kIn, ?_⟩) hpl
  rw [hks]
  exact go [] ws [] zs s1 H1 I1 .nil r q⟩
theorem da_pk (ha : PA X (e :: es) (tofA X.K U ga)) (hkw : PK X kws (tofA X.K U gk)) (hall : (backToKw pos (keywordEach kws X.env)).all (·.1.isSome) = true := by rfl) (hks : (backToKw pos (keywordEach kws X.env)).filterMap (·.1) = ks := by rfl)
    (he : starEach (e :: es) X.env = (false, eval e X.env) :: starEach es X.env := by rfl)
    (hpl : ((backTo pos (starEach (e :: es) X.env)).any (·.1) || (backToKw pos (keywordEach kws X.env)).any (·.1.isNone)) = false := by rfl) : PArgs X (e :: es) kws pos ks (tof2 X.K U (gArgs ga gk)) := ⟨fun pins s σ H Q f first R I hk h go => by
  refine PySem.W.callWith_KW (h₀ := X.base) I.ok.mod.kin hk hall (thn (ha.run pos pins s σ H _ I (tof2_in h)) fun us s1 ⟨vs, H1, I1, r, q⟩ => thn (hkw.run pos pins s1 σ H1 _ I1 q) fun ws s2 ⟨zs, H2, I2, rz, q2⟩ => ⟨I2.kIn, ?_⟩) hpl he
  rw [hks]
  exact go us ws vs zs s2 H2 I2 r rz q2⟩
end

/-! ### defs called -/
/-- a def of the top with its promise -/
structure Fnc (P : Program) (w : World) (K : PySem.W.Frag) (mg : Str → Option Value) (base : Heap) (x : Str) (st : Stmt) (dvs : List V) (k : Nat) (ps : List Str) (dsp : DSp) : Prop where
  ex : ∃ f fd, FunS K x x st dvs f fd ∧ mg x = some (.ref f) ∧ FnG P w K mg base CX0 k f fd ps (spOf K dsp)
def DfV (dds : List D) (dvs : List V) : Prop := ∀ K m N Hv, Reps K m N Hv dds dvs
theorem dfv_nil : DfV [] [] := fun _ _ _ _ => reps_nil
/-- f(..): n values, keywords -/
def gCall (n nk : Nat) (src : List Src) (dds : List D) (dsp : DSp) (ga : GA) : G D := fun ρ S q => ga ρ S fun as ks S1 => as.length = n ∧ ks.length = nk ∧ dsp (gat src as dds ks) S1 q
section
variable {X : Cx} {pos p apos : Pos} {x m qual : Str} {st : Stmt} {dvs : List V} {dds : List D} {k n : Nat} {ps ks : List Str} {dsp : DSp} {es : List Expr} {kws : List Keyword} {src : List Src} {ga : GA}
theorem gat_reps {K : PySem.W.Frag} {mm : Nat → Addr} {N : Nat} {Hv : Hp} {as zs : List D} {vs ws : List V} (r1 : Reps K mm N Hv as vs) (hd : DfV dds dvs) (r2 : Reps K mm N Hv zs ws) : Reps K mm N Hv (gat src as dds zs) (gat src vs dvs ws) :=
  Reps.of_paired (gat_pair (Reps.paired r1) (Reps.paired (hd K mm N Hv)) (Reps.paired r2) src)
theorem d_call (F : Fnc X.prog X.w X.K X.mg X.base x st dvs k ps dsp) (hr : RoomG k X.A) (hg : Gl X x) (b : Bnd x x st ps n ks src dvs.length) (hd : DfV dds dvs) (ha : PArgs X es kws pos ks (tof2 X.K U ga)) (hdb : (x == ("__debug__" : Str)) = false := by decide) :
    PE X (.Call (.Name x p) es kws pos) (tofE X.K U (gCall n ks.length src dds dsp ga)) := by
  refine ⟨fun pins s σ H Q I ⟨mm, S, Z, ρ, q, w, rs, h, kk⟩ => ?_⟩
  obtain ⟨f, fd, FS, hm, FO⟩ := F.ex
  obtain ⟨its, KB⟩ := kbn_of FS b
  refine wpAny_Call_Name_kw (ld_glob I hg hm ?_ hdb)
  refine ha.run pins s σ H (fun vs zs H1 => vs.length = n ∧ zs.length = ks.length ∧ spOf X.K dsp (gat src vs dvs zs) H1 Q fun _ _ _ => False) (.ref f) [] _ I FS.kp ⟨mm, S, Z, ρ, _, w, rs, h, fun vs zs H1 m1 as zd S1 e1 w1 r1 r2 h1 => ?_⟩ fun us ws vs zs s1 H1 I1 rv rz ⟨l1, l2, hs⟩ => ?_
  · exact ⟨by rw [Reps.len r1]; exact h1.1, by rw [Reps.len r2]; exact h1.2.1, m1, S1, Z, gat src as dds zd, q, w1.w0, gat_reps r1 hd r2, h1.2.2, (kk.ext e1).to0 w1⟩
  · exact run_fnG FO hr KB pass0 I1 rv rz l1 l2 hs
end
end Dl
/-! Dl objects: fields, methods, new instances; a def's body; walks; comprehensions. -/
namespace Dl
open PySem L2

/-! ### fields -/
def putK (f : Str) : List Str → List Str
  | [] => [f]
  | g :: ks => if g = f then g :: ks else g :: putK f ks
def putX {A : Type} (f : Str) (y : A) : List Str → List A → List A
  | [], _ => [y]
  | g :: ks, x :: xs => if g = f then y :: xs else x :: putX f y ks xs
  | _ :: _, [] => []
theorem putF_zip (f : Str) (v : V) : ∀ (ks : List Str) (vs : List V), ks.length = vs.length → putF f v (ks.zip vs) = (putK f ks).zip (putX f v ks vs) ∧ (putK f ks).length = (putX f v ks vs).length
  | [], [], _ => ⟨rfl, rfl⟩
  | g :: ks, x :: vs, h => by
    have ih := putF_zip f v ks vs (by simpa using h)
    rw [List.zip_cons_cons, putF, putK, putX]
    by_cases e : g = f
    · rw [if_pos e, if_pos e, if_pos e, List.zip_cons_cons]
      exact ⟨rfl, by simpa using h⟩
    · rw [if_neg e, if_neg e, if_neg e, List.zip_cons_cons, ih.1]
      exact ⟨rfl, by simp [ih.2]⟩
  | [], _ :: _, h => by simp at h
  | _ :: _, [], h => by simp at h
def fget (f : Str) (ks : List Str) (ds : List D) : Option D := (ks.zip ds).lookup f
section
variable {K : PySem.W.Frag} {m : Nat → Addr} {N : Nat} {Hv : Hp}
theorem reps_putX {f : Str} {d : D} {v : V} (r : Rep K m N Hv d v) : ∀ {ks : List Str} {ds : List D} {vs : List V}, ks.length = vs.length → Reps K m N Hv ds vs → Reps K m N Hv (putX f d ks ds) (putX f v ks vs)
  | [], _, _, _, _ => Reps.one r
  | g :: ks, [], _, h, q => by rw [show _ = [] from q] at h; simp at h
  | g :: ks, x :: ds, _, h, q => by
    obtain ⟨u, us, e, r1, r2⟩ := q
    rw [e] at h ⊢
    rw [putX, putX]
    by_cases e1 : g = f
    · rw [if_pos e1, if_pos e1]; exact Reps.cons r r2
    · rw [if_neg e1, if_neg e1]; exact Reps.cons r1 (reps_putX r (by simpa using h) r2)
theorem reps_fget {f : Str} : ∀ {ks : List Str} {ds : List D} {vs : List V} {d : D}, Reps K m N Hv ds vs → fget f ks ds = some d → ∃ v, (ks.zip vs).lookup f = some v ∧ Rep K m N Hv d v
  | [], _, _, _, _, h => by simp [fget] at h
  | _ :: _, [], _, _, _, h => by simp [fget] at h
  | g :: ks, x :: ds, _, d, q, h => by
    obtain ⟨u, us, e, r1, r2⟩ := q
    rw [e]
    unfold fget at h
    rw [List.zip_cons_cons, List.lookup_cons] at h ⊢
    by_cases e1 : f == g
    · rw [e1] at h ⊢
      cases h
      exact ⟨u, rfl, r1⟩
    · rw [Bool.eq_false_iff.mpr e1] at h ⊢
      exact reps_fget r2 h
theorem zip_lookup_none {f : Str} : ∀ {ks : List Str} {vs : List V}, ks.contains f = false → (ks.zip vs).lookup f = none
  | [], _, _ => rfl
  | _ :: _, [], _ => rfl
  | g :: ks, x :: vs, h => by
    rw [List.contains_cons] at h
    have h1 : (f == g) = false := by cases q : f == g <;> simp_all
    have h2 : ks.contains f = false := by cases q : ks.contains f <;> simp_all
    rw [List.zip_cons_cons, List.lookup_cons, h1]
    exact zip_lookup_none h2
end
def objOf (S : Sto) : D → Option (Addr × List Str × List D)
  | .obj C ks ds => some (C, ks, ds)
  | .loc n => match S[n]? with
    | some (some (.obj C ks ds)) => some (C, ks, ds)
    | _ => none
  | _ => none
theorem objOf_rep {K : PySem.W.Frag} {m : Nat → Addr} {S : Sto} {Z : Addr → Prop} {H : Hp} {d : D} {v : V} {C : Addr} {ks : List Str} {ds : List D} (w : Wd K U m S Z H) (r : Rep K m S.length (vis m S Z H) d v) (h : objOf S d = some (C, ks, ds)) :
    ∃ a dx vs, v = .ref a ∧ H a = some (.ins C dx (ks.zip vs)) ∧ ks.length = vs.length ∧ Reps K m S.length (vis m S Z H) ds vs := by
  cases d with
  | obj C' ks' ds' =>
    cases h
    rw [Rep] at r
    obtain ⟨a, dx, vs, e, h1, h2, h3⟩ := r
    exact ⟨a, dx, vs, e, vis_sub h1, h2, h3⟩
  | loc n =>
    rw [Rep] at r
    rw [objOf] at h
    cases hS : S[n]? with
    | none => rw [hS] at h; cases h
    | some o =>
      cases o with
      | none => rw [hS] at h; cases h
      | some o =>
        cases o with
        | obj C' ks' ds' =>
          rw [hS] at h
          cases h
          obtain ⟨dx, vs, h1, h2, h3⟩ := w.rep n _ hS
          exact ⟨m n, dx, vs, r.1, h1, h2, h3⟩
        | lst _ => rw [hS] at h; cases h
        | dic _ _ => rw [hS] at h; cases h
        | dicT _ _ => rw [hS] at h; cases h
  | non => cases h
  | bl _ => cases h
  | int _ => cases h
  | str _ => cases h
  | tup _ => cases h
  | lst _ => cases h
  | ksq _ => cases h
  | dic _ _ => cases h
  | ref _ => cases h
  | ty _ => cases h
  | exc _ _ _ => cases h
structure FldOk (K : PySem.W.Frag) (C : Addr) (f : Str) : Prop where
  cl : Cls K C
  no : NoAttr K C f
def gFld (K : PySem.W.Frag) (f : Str) (go : G D) : G D := fun ρ S q => go ρ S fun o S1 => ∃ C ks ds d, objOf S1 o = some (C, ks, ds) ∧ FldOk K C f ∧ fget f ks ds = some d ∧ q d S1
def gFldSet (K : PySem.W.Frag) (f : Str) (go gv : G D) : GS := fun E ρ S => gv ρ S fun y S1 => go ρ S1 fun o S2 => ∃ n C ks ds, o = .loc n ∧ S2[n]? = some (some (.obj C ks ds)) ∧ FldOk K C f ∧ ks.length < 1000 ∧
  E.nx ρ (S2.set n (some (.obj C (putK f ks) (putX f y ks ds))))
section
variable {X : Cx} {pos pos' : Pos} {e o value : Expr} {f : Str} {go gv : G D}
theorem d_fld (he : PE X e (tofE X.K U go)) (hb : attributeBase e f X.env (eval e X.env) = eval e X.env := by rfl) : PE X (.Attribute e f pos) (tofE X.K U (gFld X.K f go)) :=
  weakE (pe_fld he hb) fun σ H Q ⟨m, S, Z, ρ, q, w, rs, h, k⟩ => tof_in w rs h fun v1 H1 m1 d1 S1 e1 w1 r1 ⟨C, ks, ds, d, h1, h2, h3, h4⟩ => by
    obtain ⟨a, dx, vs, ev, ha, hl, hr⟩ := objOf_rep w1 r1 h1
    obtain ⟨v, hv, rv⟩ := reps_fget hr h3
    exact ⟨a, C, dx, _, v, ev, ha, h2.cl, h2.no, hv, k.at e1 w1 rv h4⟩
theorem d_fldset (ho : PE X o (tofE X.K U go)) (hv : PE X value (tofE X.K U gv)) (hs : swapsWith value (some (.Attribute o f pos')) pos.line X.env = pure false := by rfl) : PS X (.Assign [.Attribute o f pos'] value pos) (tofS X.K U (gFldSet X.K f go gv)) :=
  weakS (ps_fld ho hv hs) fun De σ H ⟨m, S, Z, ρ, E, w, rs, h, k⟩ => tof_in w rs h fun v1 H1 m1 d1 S1 e1 w1 r1 h1 => tof_in w1 (rs.ext e1) h1 fun v2 H2 m2 d2 S2 e2 w2 r2 ⟨n, C, ks, ds, ed, hS, h2, hl, h3⟩ => by
    subst ed
    obtain ⟨dx, vs, ha, hlen, hr⟩ := w2.rep n _ hS
    have r2' : Rep X.K m2 S2.length (vis m2 S2 Z H2) (.loc n) v2 := r2
    rw [Rep] at r2'
    refine ⟨m2 n, C, dx, _, r2'.1, ha, h2.cl, h2.no, by rw [List.length_zip, ← hlen, Nat.min_self]; exact hl, ?_⟩
    obtain ⟨z1, z2⟩ := putF_zip f v1 ks vs hlen
    rw [z1]
    obtain ⟨w3, e3, hv3⟩ := w2.upd (o := .ins C dx ((putK f ks).zip (putX f v1 ks vs))) (mo := .obj C (putK f ks) (putX f d1 ks ds)) ⟨_, hS⟩ ⟨dx, _, upd_same, z2, reps_putX (r1.ext e2) hlen hr⟩
    exact k.nx.at ((e1.trans e2).trans e3) w3 (rs.ext ((e1.trans e2).trans e3)) h3
end

/-! ### methods, new instances -/
structure MFn (P : Program) (w : World) (K : PySem.W.Frag) (mg : Str → Option Value) (base : Heap) (C : Addr) (m qual : Str) (st : Stmt) (dvs : List V) (k : Nat) (ps : List Str) (dsp : DSp) : Prop where
  cl : Cls K C
  ex : ∃ f fd, FunS K m qual st dvs f fd ∧ Meth K C m f ∧ FnG P w K mg base CX0 k f fd ps (spOf K dsp)
structure CFn (P : Program) (w : World) (K : PySem.W.Frag) (mg : Str → Option Value) (base : Heap) (x : Str) (C : Addr) (qual : Str) (st : Stmt) (dvs : List V) (k : Nat) (ps : List Str) (dsp : DSp) : Prop where
  mC : mg x = some (.ref C)
  ex : ∃ f fd, FunS K "__init__" qual st dvs f fd ∧ Mk K C f ∧ FnG P w K mg base CX0 k f fd ps (spOf K dsp)
def gMeth (C : Addr) (m : Str) (n nk : Nat) (src : List Src) (dds : List D) (dsp : DSp) (go : G D) (ga : GA) : G D := fun ρ S q => go ρ S fun o S1 => ∃ ks ds, objOf S1 o = some (C, ks, ds) ∧ ks.contains m = false ∧
  ga ρ S1 fun as zs S2 => as.length = n ∧ zs.length = nk ∧ dsp (gat src (o :: as) dds zs) S2 q
/-- C(..), the new instance of the store -/
def gMake (C : Addr) (n nk : Nat) (src : List Src) (dds : List D) (dsp : DSp) (ga : GA) : G D := fun ρ S q => ga ρ S fun as zs S1 => as.length = n ∧ zs.length = nk ∧
  dsp (gat src (.loc S1.length :: as) dds zs) (S1 ++ [some (.obj C [] [])]) fun v S2 => v = .non ∧ q (.loc S1.length) S2
/-- C(..), the new instance given up at once -/
def gMakeF (C : Addr) (n nk : Nat) (src : List Src) (dds : List D) (dsp : DSp) (ga : GA) : G D := fun ρ S q => ga ρ S fun as zs S1 => as.length = n ∧ zs.length = nk ∧ (D.unders S1.length as = true → D.unders S1.length zs = true →
  dsp (gat src (.loc S1.length :: as) dds zs) (S1 ++ [some (.obj C [] [])]) fun v S2 => v = .non ∧ ∃ ks ds, S2 = S1 ++ [some (.obj C ks ds)] ∧ D.unders S1.length ds = true ∧ q (.obj C ks ds) S1)
section
variable {X : Cx} {pos p apos : Pos} {x m qual : Str} {st : Stmt} {dvs : List V} {dds : List D} {k n : Nat} {ps ks : List Str} {dsp : DSp} {es : List Expr} {kws : List Keyword} {src : List Src} {ga : GA} {o : Expr} {go : G D} {C : Addr}
theorem d_meth {pl : Sem Bool} (F : MFn X.prog X.w X.K X.mg X.base C m qual st dvs k ps dsp) (hr : RoomG k X.A) (b : Bnd m qual st ps (n + 1) ks src dvs.length) (hd : DfV dds dvs) (ho : PE X o (tofE X.K U go)) (ha : PArgs X es kws pos ks (tof2 X.K U ga))
    (ht : eval (.Call (.Attribute o m apos) es kws pos) X.env = (do
      let ov ← eval o X.env
      standAt apos.atName
      let (f, first) ← holding [ov] (getMethod ov m pl)
      callWith pos f first (backTo pos (starEach es X.env)) (backToKw pos (keywordEach kws X.env))) := by rfl) :
    PE X (.Call (.Attribute o m apos) es kws pos) (tofE X.K U (gMeth C m n ks.length src dds dsp go ga)) := by
  refine ⟨fun pins s σ H Q I ⟨mm, S, Z, ρ, q, w, rs, h, kk⟩ => ?_⟩
  obtain ⟨f, fd, FS, hm, FO⟩ := F.ex
  obtain ⟨its, KB⟩ := kbn_of FS b
  refine PySem.W.methodCall_KW (pl := pl) (thn (ho.run pins s σ H (fun x H1 => ∃ a dx fs, x = .ref a ∧ H1 a = some (.ins C dx fs) ∧ fs.lookup m = none ∧ tof2 X.K U ga σ H1 fun vs zs H2 => vs.length = n ∧ zs.length = ks.length ∧ spOf X.K dsp (gat src (x :: vs) dvs zs) H2 Q fun _ _ _ => False) I
    (tof_in w rs h fun v1 H1 m1 d1 S1 e1 w1 r1 ⟨kf, df, h1, h2, h3⟩ => ?_)) fun u s1 ⟨x, H1, I1, rx, a, dx, fs, ex, ea, l, q⟩ => ?_) ht
  · obtain ⟨a, dx, vs, ev, hha, hlen, hrr⟩ := objOf_rep w1 r1 h1
    refine ⟨a, dx, _, ev, hha, zip_lookup_none h2, m1, S1, Z, ρ, _, w1, rs.ext e1, h3, fun vs zs H2 m2 as zd S2 e2 w2 r2 r3 h4 => ?_⟩
    exact ⟨by rw [Reps.len r2]; exact h4.1, by rw [Reps.len r3]; exact h4.2.1, m2, S2, Z, gat src (d1 :: as) dds zd, _, w2.w0, gat_reps (Reps.cons (r1.ext e2) r2) hd r3, h4.2.2, (kk.ext (e1.trans e2)).to0 w2⟩
  · subst ex
    obtain rfl : u = Value.ref a := rx
    refine getmeth_ok I1 ea F.cl hm l ?_
    refine ha.run pins s1 σ H1 _ (.ref f) [.ref a] _ I1 hm.kp q fun us ws vs zs s2 H2 I2 rv rz ⟨l1, l2, hs⟩ => ?_
    exact run_fnG FO hr KB pass0 I2 (us := .ref a :: us) (vs := .ref a :: vs) (.cons rfl rv) rz (congrArg Nat.succ l1) l2 hs
theorem spOf_len {K : PySem.W.Frag} (hl : ∀ ds S q, dsp ds S q → ds.length = ps.length) : ∀ vs H Q E, spOf K dsp vs H Q E → vs.length = ps.length := fun vs H Q E ⟨m, S, Z, ds, q, w, r, h, k⟩ => by rw [Reps.len r]; exact hl ds S q h
theorem run_makeD {P : Program} {wo : World} (M : ∃ f fd, FunS X.K "__init__" qual st dvs f fd ∧ Mk X.K C f ∧ FnG X.prog X.w X.K X.mg X.base CX0 k f fd ps (spOf X.K dsp)) (hm : X.mg x = some (.ref C)) (hr : RoomG (k + 1) X.A) (hg : Gl X x) (b : Bnd "__init__" qual st ps (n + 1) ks src dvs.length)
    (ha : PArgs X es kws pos ks (tof2 X.K U ga)) (hdb : (x == ("__debug__" : Str)) = false) {g : G D}
    (hgo : ∀ σ H Q, tofE X.K U g σ H Q → tof2 X.K U ga σ H fun vs zs H2 => vs.length = n ∧ zs.length = ks.length ∧ ∀ x dx, H2 x = none → H2 dx = none → dx ≠ x → spOf X.K dsp (gat src (.ref x :: vs) dvs zs) (upd (upd H2 dx (.own x)) x (.ins C dx [])) (fun v H3 => v = .non ∧ Q (.ref x) H3) fun _ _ _ => False) :
    PE X (.Call (.Name x p) es kws pos) (tofE X.K U g) := by
  refine ⟨fun pins s σ H Q I h => ?_⟩
  obtain ⟨f, fd, FS, MK, FO⟩ := M
  obtain ⟨its, KB⟩ := kbn_of FS b
  refine wpAny_Call_Name_kw (ld_glob I hg hm ?_ hdb)
  refine ha.run pins s σ H _ (.ref C) [] _ I MK.kp (hgo σ H Q h) fun us ws vs zs s1 H1 I1 rv rz ⟨l1, l2, hs⟩ => ?_
  exact run_makeG MK FO hr KB pass0 I1 rv rz l1 l2 hs
theorem made_in {K : PySem.W.Frag} {mm : Nat → Addr} {S : Sto} {Z : Addr → Prop} {H : Hp} {a dx : Addr} (w : Wd K U mm S Z H) (ha : H a = none) (hdx : H dx = none) (hne : dx ≠ a) :
    ∃ m', m' S.length = a ∧ Wd K U m' (S ++ [some (.obj C [] [])]) Z (upd (upd H dx (.own a)) a (.ins C dx [])) ∧ Ext mm S Z H m' (S ++ [some (.obj C [] [])]) (upd (upd H dx (.own a)) a (.ins C dx [])) := by
  obtain ⟨w1, e1, _⟩ := w.new (o := .own a) hdx
  obtain ⟨m', e0, w2, e2⟩ := w1.add (p := a) (o := .ins C dx []) (mo := .obj C [] []) (by rw [upd_ne hne.symm]; exact ha) fun m1 N1 Hv1 h1 h2 h3 => ⟨dx, [], upd_same, rfl, reps_nil⟩
  exact ⟨m', e0, w2, e1.trans e2⟩
theorem d_make (F : CFn X.prog X.w X.K X.mg X.base x C qual st dvs k ps dsp) (hr : RoomG (k + 1) X.A) (hg : Gl X x) (b : Bnd "__init__" qual st ps (n + 1) ks src dvs.length) (hd : DfV dds dvs) (ha : PArgs X es kws pos ks (tof2 X.K U ga)) (hdb : (x == ("__debug__" : Str)) = false := by decide) :
    PE X (.Call (.Name x p) es kws pos) (tofE X.K U (gMake C n ks.length src dds dsp ga)) :=
  run_makeD (P := X.prog) (wo := X.w) F.ex F.mC hr hg b ha hdb fun σ H Q ⟨mm, S, Z, ρ, q, w, rs, h, kk⟩ => ⟨mm, S, Z, ρ, _, w, rs, h, fun vs zs H2 m2 as zd S2 e2 w2 r2 r3 h4 => by
    refine ⟨by rw [Reps.len r2]; exact h4.1, by rw [Reps.len r3]; exact h4.2.1, fun a dx ha hdx hne => ?_⟩
    obtain ⟨m', e0, w3, e3⟩ := made_in (C := C) w2 ha hdx hne
    refine ⟨m', _, Z, gat src (.loc S2.length :: as) dds zd, _, w3.w0, gat_reps (Reps.cons (rep_loc e0 (by simp)) (r2.ext e3)) hd (r3.ext e3), h4.2.2, fun v H5 m5 d5 S5 e5 w5 r5 ⟨hv, h5⟩ => ?_⟩
    subst hv
    refine ⟨r5, kk.at ((e2.trans e3).trans e5) (w3.on e5 w5.toWd0) (rep_loc ?_ ?_) h5⟩
    · rw [e5.loc _ (by simp), e0]
    · exact Nat.lt_of_lt_of_le (by simp) e5.len⟩
theorem d_makeF (F : CFn X.prog X.w X.K X.mg X.base x C qual st dvs k ps dsp) (hr : RoomG (k + 1) X.A) (hg : Gl X x) (b : Bnd "__init__" qual st ps (n + 1) ks src dvs.length) (hd : DfV dds dvs) (ha : PArgs X es kws pos ks (tof2 X.K U ga)) (hdb : (x == ("__debug__" : Str)) = false := by decide) :
    PE X (.Call (.Name x p) es kws pos) (tofE X.K U (gMakeF C n ks.length src dds dsp ga)) :=
  run_makeD (P := X.prog) (wo := X.w) F.ex F.mC hr hg b ha hdb fun σ H Q ⟨mm, S, Z, ρ, q, w, rs, h, kk⟩ => ⟨mm, S, Z, ρ, _, w, rs, h, fun vs zs H2 m2 as zd S2 e2 w2 r2 r3 h4 => by
    refine ⟨by rw [Reps.len r2]; exact h4.1, by rw [Reps.len r3]; exact h4.2.1, fun a dx ha hdx hne => ?_⟩
    obtain ⟨m', e0, w3, e3⟩ := made_in (C := C) w2 ha hdx hne
    refine ⟨m', _, Z, gat src (.loc S2.length :: as) dds zd, _, w3.w0, gat_reps (Reps.cons (rep_loc e0 (by simp)) (r2.ext e3)) hd (r3.ext e3), h4.2.2 (Reps.below r2) (Reps.below r3), fun v H5 m5 d5 S5 e5 w5 r5 ⟨hv, kf, df, eS, hu, h5⟩ => ?_⟩
    subst hv
    refine ⟨r5, ?_⟩
    subst eS
    have hN : (S2 ++ [some (MO.obj C kf df)])[S2.length]? = some (some (.obj C kf df)) := by simp
    have ht : (S2 ++ [some (MO.obj C kf df)]).take S2.length = S2 := by simp
    have hle : S2.length ≤ (S2 ++ [some (MO.obj C kf df)]).length := by simp
    have w6 := w5.toWd0.take (n := S2.length) hle (by rw [ht]; exact w2.under)
    have e6 := (e3.trans e5).take (n := S2.length) (Nat.le_refl _) hle
    have r6 := w5.frozen_obj hN
    rw [ht] at w6 e6
    have em : m5 S2.length = a := by rw [e5.loc _ (by simp), e0]
    have r7 : Rep X.K m5 S2.length (vis m5 S2 Z H5) (.obj C kf df) (.ref a) := by
      have z := Rep.cut (n := S2.length) (by rw [List.length_set]; exact hle) (Rep.mono (fun _ _ => rfl) (Nat.le_refl _) (fun a o z => vis_take (n := S2.length) z) r6) (by simpa [D.under] using hu)
      rw [take_setN (Nat.le_refl _), ht, em] at z
      exact z
    exact kk.at (e2.trans e6) (w2.on e6 w6) r7 h5⟩
end

/-! ### a def's body -/
section
variable {P : Program} {w : World} {K : PySem.W.Frag} {mg : Str → Option Value} {base : Heap} {x qual : Str} {st : Stmt} {dvs : List V} {f : Addr} {fd : FuncData} {N ps : List Str} {k : Nat} {dsp : DSp}
theorem fn_body (F : FunS K x qual st dvs f fd) (S : FnScope N ps (defScope st)) (len : ∀ ds S q, dsp ds S q → ds.length = ps.length) (g : GS)
    (hbody : ∀ (cdv : Value) (A : Around) (outer : List Env) (s : Shared) (H : Hp) (E : XK), RoomG k (A.deeper (PyProof.Rows.envOfC qual (defScope st) s.heap.objs.size f cdv)) →
      PSs (cxOf CX0 P w K mg base N qual (defScope st) f cdv A outer s H E).nox (defBody st) (tofS K U0 g))
    (hread : ∀ ds S q, D.unders S.length ds = true → Sto.under S.length S = true → dsp ds S q → g { nx := fun _ S' => fin S.length q .non S', rt := fin S.length q } (startD N ds) S) : FnG P w K mg base CX0 (k + 1) f fd ps (spOf K dsp) := by
  refine FnG.by_body F S (spOf_len len) fun cdv A outer s H vs Q E hr ⟨m, St', Z, ds, q, wd, rd, hd, kk⟩ => ?_
  refine ⟨_, (hbody cdv A outer s H E hr).nox, m, St', Z, startD N ds, _, wd, relS_start rd, hread ds St' q (Reps.below rd) wd.under hd, ⟨?_, out_fin wd kk, ?_, ?_⟩⟩
  · exact fun σ' H' m' ρ' S' e' w' _ h' => out_fin wd kk .non H' m' .non S' e' w' rep_non h'
  · exact fun _ _ _ _ _ _ _ _ h => h.elim
  · exact fun _ _ _ _ _ _ _ _ h => h.elim
end
end Dl
/-! Dl walks and comprehensions. -/
namespace Dl
open PySem L2

def seqOf (S : Sto) : D → Option (List D)
  | .lst ds => some ds
  | .ksq ds => some ds
  | .tup ds => some ds
  | .loc n => match S[n]? with
    | some (some (.lst ds)) => some ds
    | _ => none
  | _ => none
def D.isTup : D → Bool
  | .tup _ => true
  | _ => false
theorem loc_lst {S : Sto} {n : Nat} {ds : List D} (h : seqOf S (.loc n) = some ds) : S[n]? = some (some (.lst ds)) := by
  rw [seqOf] at h
  cases hS : S[n]? with
  | none => rw [hS] at h; cases h
  | some o =>
    cases o with
    | none => rw [hS] at h; cases h
    | some o =>
      cases o with
      | lst _ => rw [hS] at h; cases h; rfl
      | obj _ _ _ => rw [hS] at h; cases h
      | dic _ _ => rw [hS] at h; cases h
      | dicT _ _ => rw [hS] at h; cases h
theorem seqOf_rep {K : PySem.W.Frag} {m : Nat → Addr} {S : Sto} {Z : Addr → Prop} {H : Hp} {d : D} {v : V} {ds : List D} (w : Wd K U m S Z H) (r : Rep K m S.length (vis m S Z H) d v) (h : seqOf S d = some ds) :
    ∃ a vs, v = .ref a ∧ Reps K m S.length (vis m S Z H) ds vs ∧ (d.isTup = true → SqT K H a vs) ∧ (d.isTup = false → SqL K H a vs) := by
  cases d with
  | lst ds' => cases h; rw [Rep] at r; obtain ⟨a, vs, e, h1, h2⟩ := r; exact ⟨a, vs, e, h2, fun z => (by cases z), fun _ => SqL.of (vis_sub h1)⟩
  | ksq ds' => cases h; rw [Rep] at r; obtain ⟨a, vs, e, h1, h2⟩ := r; exact ⟨a, vs, e, h2, fun z => (by cases z), fun _ => SqL.sub vis_le h1⟩
  | tup ds' => cases h; rw [Rep] at r; obtain ⟨a, vs, e, h1, h2⟩ := r; exact ⟨a, vs, e, h2, fun _ => SqT.sub vis_le h1, fun z => (by cases z)⟩
  | loc n =>
    rw [Rep] at r
    obtain ⟨vs, h1, h2⟩ := w.rep n _ (loc_lst h)
    exact ⟨m n, vs, r.1, h2, fun z => (by cases z), fun _ => SqL.of h1⟩
  | non => cases h
  | bl _ => cases h
  | int _ => cases h
  | str _ => cases h
  | obj _ _ _ => cases h
  | dic _ _ => cases h
  | ref _ => cases h
  | ty _ => cases h
  | exc _ _ _ => cases h
theorem Rep.lt {K : PySem.W.Frag} {m m' : Nat → Addr} {S S' : Sto} {Z Z' : Addr → Prop} {H H' : Hp} {d : D} {v : V} (e : Lt m S Z H m' S' Z' H') (r : Rep K m S.length (vis m S Z H) d v) : Rep K m' S'.length (vis m' S' Z' H') d v := Rep.mono e.loc e.len e.vis r
theorem Reps.lt {K : PySem.W.Frag} {m m' : Nat → Addr} {S S' : Sto} {Z Z' : Addr → Prop} {H H' : Hp} {d : List D} {v : List V} (e : Lt m S Z H m' S' Z' H') (r : Reps K m S.length (vis m S Z H) d v) : Reps K m' S'.length (vis m' S' Z' H') d v := Reps.mono e.loc e.len e.vis r

def gIter (ge : G D) : GI := fun ρ S q => ge ρ S fun d S1 => ∃ ds, seqOf S1 d = some ds ∧ q ds (fun S' => seqOf S' d = some ds) S1
def rngD (lo : Int) (n : Nat) : List D := (List.range n).map fun i => .int (lo + ((i : Nat) : Int))
def gRng1 (ga : G (List D)) : GI := fun ρ S q => ga ρ S fun as S1 => ∃ j : Int, as = [.int j] ∧ -(2 ^ 62) ≤ j ∧ j < 2 ^ 62 ∧ q (rngD 0 j.toNat) (fun _ => True) S1
def gRng2 (ga : G (List D)) : GI := fun ρ S q => ga ρ S fun as S1 => ∃ i j : Int, as = [.int i, .int j] ∧ (-(2 ^ 62) ≤ i ∧ i < 2 ^ 62 ∧ -(2 ^ 62) ≤ j ∧ j < 2 ^ 62) ∧ q (rngD i (j - i).toNat) (fun _ => True) S1
def signsD (x : Str) : List D := x.cps.toList.map fun c => .str ⟨#[c]⟩
def gIterS (ge : G D) : GI := fun ρ S q => ge ρ S fun d S1 => ∃ x, d = .str x ∧ q (signsD x) (fun _ => True) S1
def enumD (ds : List D) : List D := ds.zipIdx.map fun p => .tup [.int (p.2 : Nat), p.1]
def gEnum (ga : G (List D)) : GI := fun ρ S q => ga ρ S fun as S1 => ∃ d ds, as = [d] ∧ d.isTup = false ∧ seqOf S1 d = some ds ∧ q (enumD ds) (fun S' => seqOf S' d = some ds) S1
def zipD (ds es : List D) : List D := List.zipWith (fun a b => .tup [a, b]) ds es
def gZip (ga : G (List D)) : GI := fun ρ S q => ga ρ S fun as S1 => ∃ d e ds es, as = [d, e] ∧ d.isTup = false ∧ e.isTup = false ∧ seqOf S1 d = some ds ∧ seqOf S1 e = some es ∧ q (zipD ds es) (fun S' => seqOf S' d = some ds ∧ seqOf S' e = some es) S1
section
variable {X : Cx} {pos p tpos : Pos} {tg e e2 : Expr} {ge : G D} {ga : G (List D)}
theorem orI {w w' : TI} (h : PI X tg e w) (h' : PI X tg e w') : PI X tg e (fun σ H R => w σ H R ∨ w' σ H R) := ⟨fun pins s σ H R I q => q.elim (h.run pins s σ H R I) (h'.run pins s σ H R I)⟩
theorem yl_list {K : PySem.W.Frag} {m : Nat → Addr} {S : Sto} {Z : Addr → Prop} {H : Hp} {d : D} {a : Addr} {ds : List D} (ht : d.isTup = false) (r : Rep K m S.length (vis m S Z H) d (.ref a)) : Yl K (Itl K a) m S Z H ds (fun S' => seqOf S' d = some ds) := by
  refine ⟨fun {_ m' S' Z' H' i} l w hc hi => ?_, fun {_ m' S' Z' H'} l w hc => ?_⟩
  · obtain ⟨a', vs, e, hr, _, hs⟩ := seqOf_rep w (r.lt l) hc
    cases e
    obtain ⟨d', hd⟩ : ∃ d', ds[i]? = some d' := ⟨ds[i], by simp [hi]⟩
    obtain ⟨v, hv, rv⟩ := Reps.get hr hd
    refine ⟨⟨vs, v, hs ht, hv⟩, fun x H2 ⟨e2, hx⟩ => ?_⟩
    subst e2
    have := hx vs (hs ht)
    rw [hv] at this; cases this
    exact ⟨d', hd, w, Ext.refl, rv⟩
  · obtain ⟨a', vs, e, hr, _, hs⟩ := seqOf_rep w (r.lt l) hc
    cases e
    exact ⟨vs, hs ht, by rw [Reps.len hr]; exact Nat.le_refl _⟩
theorem yl_tup {K : PySem.W.Frag} {m : Nat → Addr} {S : Sto} {Z : Addr → Prop} {H : Hp} {d : D} {a : Addr} {ds : List D} (ht : d.isTup = true) (r : Rep K m S.length (vis m S Z H) d (.ref a)) : Yl K (Itt K a) m S Z H ds (fun S' => seqOf S' d = some ds) := by
  refine ⟨fun {_ m' S' Z' H' i} l w hc hi => ?_, fun {_ m' S' Z' H'} l w hc => ?_⟩
  · obtain ⟨a', vs, e, hr, hs, _⟩ := seqOf_rep w (r.lt l) hc
    cases e
    obtain ⟨d', hd⟩ : ∃ d', ds[i]? = some d' := ⟨ds[i], by simp [hi]⟩
    obtain ⟨v, hv, rv⟩ := Reps.get hr hd
    refine ⟨⟨vs, v, hs ht, hv⟩, fun x H2 ⟨e2, hx⟩ => ?_⟩
    subst e2
    have := hx vs (hs ht)
    rw [hv] at this; cases this
    exact ⟨d', hd, w, Ext.refl, rv⟩
  · obtain ⟨a', vs, e, hr, hs, _⟩ := seqOf_rep w (r.lt l) hc
    cases e
    exact ⟨vs, hs ht, by rw [Reps.len hr]; exact Nat.le_refl _⟩
/-- what a for walks: a list, a tuple, a text -/
theorem pi_seq {tl : TE} (hl : PE X e tl) : PI X tg e (fun σ H R => tl σ H fun x H1 => (∃ a, x = .ref a ∧ (∃ xs, SqL X.K H1 a xs) ∧ R (Itl X.K a) H1) ∨ (∃ a, x = .ref a ∧ (∃ xs, SqT X.K H1 a xs) ∧ R (Itt X.K a) H1) ∨ ∃ z, x = .str z ∧ R (Its z) H1) := by
  refine ⟨fun pins s σ H R I h => ?_⟩
  refine thn (hl.run pins s σ H _ I h) fun v s1 ⟨x, H1, I1, r1, q1⟩ => ?_
  rcases q1 with ⟨a, e, ⟨xs, hq⟩, q⟩ | ⟨a, e, ⟨xs, hq⟩, q⟩ | ⟨z, e, q⟩
  · subst e
    cases r1
    obtain ⟨its, rv, p, hz⟩ := I1.list hq
    refine wpAny_pyIter_list p.isList ?_
    refine ⟨s1.heap.objs.size, [s1.heap.objs.size], _, _, H1, rfl, I1.kept (t' := s1.toks) fun b o e => Heap.get?_push_of_some _ e, turn_list a _, ⟨_, Heap.get?_push_size _ rfl, rfl, rfl⟩, fun b hb => ?_, q⟩
    have e : b = s1.heap.objs.size := by simpa using hb
    subst e
    exact I1.fpOk (Nat.le_refl _) (I1.hok.fresh (Nat.le_refl _))
  · subst e
    cases r1
    obtain ⟨its, rv, p, hz⟩ := I1.tuple hq
    refine wpAny_pyIter_tuple (show s1.heap.IsTuple a its.toArray from p) ?_
    refine ⟨s1.heap.objs.size, [s1.heap.objs.size], _, _, H1, rfl, I1.kept (t' := s1.toks) fun b o e => Heap.get?_push_of_some _ e, turn_tuple a _, ⟨_, Heap.get?_push_size _ rfl, rfl, rfl⟩, fun b hb => ?_, q⟩
    have e : b = s1.heap.objs.size := by simpa using hb
    subst e
    exact I1.fpOk (Nat.le_refl _) (I1.hok.fresh (Nat.le_refl _))
  · subst e
    obtain ⟨t, rfl⟩ := r1
    cases ha : z.cps.all (· < 128)
    · exact wpAny_pyIter_wide ha (pi_one (tk := s1.toks) I1 _ (turn_str _ z t "str_iterator" (.inr rfl)) ⟨_, Heap.get?_push_size _ rfl, rfl, rfl⟩ q)
    · exact wpAny_pyIter_ascii ha (pi_one (tk := s1.toks) I1 _ (turn_str _ z t "str_ascii_iterator" (.inl rfl)) ⟨_, Heap.get?_push_size _ rfl, rfl, rfl⟩ q)
def gIt (ge : G D) : GI := fun ρ S q => ge ρ S fun d S1 => match d with
  | .str x => q (signsD x) (fun _ => True) S1
  | d => ∃ ds, seqOf S1 d = some ds ∧ q ds (fun S' => seqOf S' d = some ds) S1
theorem di_seq (h : PE X e (tofE X.K U ge)) : PI X tg e (tofI X.K U (gIt ge)) :=
  weakI (pi_seq h) fun σ H R ⟨m, S, Z, ρ, q, w, rs, h, k⟩ => tof_in w rs h fun v1 H1 m1 d1 S1 e1 w1 r1 h1 => by
    have go : ∀ ds, seqOf S1 d1 = some ds → q ds (fun S' => seqOf S' d1 = some ds) S1 → (∃ a, v1 = .ref a ∧ (∃ xs, SqL X.K H1 a xs) ∧ R (Itl X.K a) H1) ∨ (∃ a, v1 = .ref a ∧ (∃ xs, SqT X.K H1 a xs) ∧ R (Itt X.K a) H1) ∨ ∃ z, v1 = .str z ∧ R (Its z) H1 := fun ds hq hk => by
      obtain ⟨a, vs, e, hr, ht, hl⟩ := seqOf_rep w1 r1 hq
      subst e
      cases hd : d1.isTup with
      | false => exact .inl ⟨a, rfl, ⟨vs, hl hd⟩, k _ _ _ _ _ _ e1 w1 (yl_list hd r1) hk⟩
      | true => exact .inr (.inl ⟨a, rfl, ⟨vs, ht hd⟩, k _ _ _ _ _ _ e1 w1 (yl_tup hd r1) hk⟩)
    cases d1 with
    | str x =>
      have r1' : Rep X.K m1 S1.length (vis m1 S1 Z H1) (.str x) v1 := r1
      rw [Rep] at r1'
      refine .inr (.inr ⟨x, r1', k _ _ _ _ _ _ e1 w1 ⟨fun {_ m' S' Z' H' i} l w hc hi => ?_, fun {_ m' S' Z' H'} l w hc => ?_⟩ h1⟩)
      · have hi' : i < x.cps.size := by simpa [signsD] using hi
        refine ⟨hi', fun y H2 ⟨e2, c, hc, ey⟩ => ?_⟩
        subst e2 ey
        refine ⟨.str ⟨#[c]⟩, ?_, w, Ext.refl, rep_str⟩
        unfold signsD
        rw [List.getElem?_map, Array.getElem?_toList, hc]
        rfl
      · show x.cps.size ≤ (signsD x).length
        simp [signsD]
    | lst _ => obtain ⟨ds, hq, hk⟩ := h1; exact go ds hq hk
    | ksq _ => obtain ⟨ds, hq, hk⟩ := h1; exact go ds hq hk
    | tup _ => obtain ⟨ds, hq, hk⟩ := h1; exact go ds hq hk
    | loc _ => obtain ⟨ds, hq, hk⟩ := h1; exact go ds hq hk
    | non => obtain ⟨ds, hq, hk⟩ := h1; cases hq
    | bl _ => obtain ⟨ds, hq, hk⟩ := h1; cases hq
    | int _ => obtain ⟨ds, hq, hk⟩ := h1; cases hq
    | obj _ _ _ => obtain ⟨ds, hq, hk⟩ := h1; cases hq
    | dic _ _ => obtain ⟨ds, hq, hk⟩ := h1; cases hq
    | ref _ => obtain ⟨ds, hq, hk⟩ := h1; cases hq
    | ty _ => obtain ⟨ds, hq, hk⟩ := h1; cases hq
    | exc _ _ _ => obtain ⟨ds, hq, hk⟩ := h1; cases hq
theorem yl_rng {K : PySem.W.Frag} {m : Nat → Addr} {S : Sto} {Z : Addr → Prop} {H : Hp} {lo : Int} {n : Nat} : Yl K (Itr lo n) m S Z H (rngD lo n) (fun _ => True) := by
  have len : (rngD lo n).length = n := by simp [rngD]
  refine ⟨fun {_ m' S' Z' H' i} l w hc hi => ?_, fun {_ m' S' Z' H'} l w hc => ?_⟩
  · rw [len] at hi
    refine ⟨hi, fun y H2 ⟨e2, ey⟩ => ?_⟩
    subst e2 ey
    exact ⟨.int (lo + (i : Int)), by unfold rngD; rw [List.getElem?_map, List.getElem?_range hi]; rfl, w, Ext.refl, rep_int⟩
  · show n ≤ (rngD lo n).length
    rw [len]
    exact Nat.le_refl _
theorem reps1 {K : PySem.W.Frag} {m : Nat → Addr} {N : Nat} {Hv : Hp} {d : D} {vs : List V} (r : Reps K m N Hv [d] vs) : ∃ v, vs = [v] ∧ Rep K m N Hv d v := by
  obtain ⟨v, q, e, r1, r2⟩ := r
  exact ⟨v, by rw [e, show q = [] from r2], r1⟩
theorem reps2 {K : PySem.W.Frag} {m : Nat → Addr} {N : Nat} {Hv : Hp} {d d' : D} {vs : List V} (r : Reps K m N Hv [d, d'] vs) : ∃ v v', vs = [v, v'] ∧ Rep K m N Hv d v ∧ Rep K m N Hv d' v' := by
  obtain ⟨v, q, e, r1, r2⟩ := r
  obtain ⟨v', e', r'⟩ := reps1 r2
  exact ⟨v, v', by rw [e, e'], r1, r'⟩
theorem reps3 {K : PySem.W.Frag} {m : Nat → Addr} {N : Nat} {Hv : Hp} {d d' d'' : D} {vs : List V} (r : Reps K m N Hv [d, d', d''] vs) : ∃ v v' v'', vs = [v, v', v''] ∧ Rep K m N Hv d v ∧ Rep K m N Hv d' v' ∧ Rep K m N Hv d'' v'' := by
  obtain ⟨v, q, e, r1, r2⟩ := r
  obtain ⟨v', v'', e', r', r''⟩ := reps2 r2
  exact ⟨v, v', v'', by rw [e, e'], r1, r', r''⟩
theorem di_rng1 {a : Expr} (hg : Gl X "range") (hm : X.mg "range" = none) (ha : PA X [a] (tofA X.K U ga)) (hs : starEach [a] X.env = [(false, eval a X.env)] := by rfl) : PI X tg (.Call (.Name "range" p) [a] [] pos) (tofI X.K U (gRng1 ga)) :=
  weakI (pi_range1 hg hm ha hs) fun σ H R ⟨m, S, Z, ρ, q, w, rs, h, k⟩ => tof_in w rs h fun v1 H1 m1 d1 S1 e1 w1 r1 ⟨j, ed, h1, h2, h3⟩ => by
    subst ed
    obtain ⟨v, ev, rv⟩ := reps1 r1
    rw [Rep] at rv
    exact ⟨j, by rw [ev, rv], h1, h2, k _ _ _ _ _ _ e1 w1 yl_rng h3⟩
theorem di_rng2 {a b : Expr} (hg : Gl X "range") (hm : X.mg "range" = none) (ha : PA X [a, b] (tofA X.K U ga)) (hs : starEach [a, b] X.env = [(false, eval a X.env), (false, eval b X.env)] := by rfl) (hs2 : starEach [b] X.env = [(false, eval b X.env)] := by rfl) : PI X tg (.Call (.Name "range" p) [a, b] [] pos) (tofI X.K U (gRng2 ga)) :=
  weakI (pi_range2 hg hm ha hs hs2) fun σ H R ⟨m, S, Z, ρ, q, w, rs, h, k⟩ => tof_in w rs h fun v1 H1 m1 d1 S1 e1 w1 r1 ⟨i, j, ed, h1, h3⟩ => by
    subst ed
    obtain ⟨v, v', ev, rv, rv'⟩ := reps2 r1
    rw [Rep] at rv rv'
    exact ⟨i, j, by rw [ev, rv, rv'], h1, k _ _ _ _ _ _ e1 w1 yl_rng h3⟩
theorem di_enum {elts : List Expr} {kk : Nat} {a : Expr} (hg : Gl X "enumerate") (hm : X.mg "enumerate" = none) (ha : PA X [a] (tofA X.K U ga)) (hs : starEach [a] X.env = (false, eval a X.env) :: starEach [] X.env := by rfl)
    : PI X (.Tuple elts kk tpos) (.Call (.Name "enumerate" p) [a] [] pos) (tofI X.K U (gEnum ga)) :=
  weakI (pi_enum hg hm ha hs) fun σ H R ⟨m, S, Z, ρ, q, w, rs, h, k⟩ => tof_in w rs h fun v1 H1 m1 d1 S1 e1 w1 r1 ⟨d, ds, ed, hd, hq, h1⟩ => by
    subst ed
    obtain ⟨v, ev, rv⟩ := reps1 r1
    obtain ⟨a, vs, e, hr, _, hl⟩ := seqOf_rep w1 rv hq
    subst e
    refine ⟨a, vs, ev, hl hd, k _ _ _ _ _ _ e1 w1 ⟨fun {_ m' S' Z' H' i} l w hc hi => ?_, fun {_ m' S' Z' H'} l w hc => ?_⟩ h1⟩
    · obtain ⟨a', vs', e', hr', _, hl'⟩ := seqOf_rep w (rv.lt l) hc
      cases e'
      have hi' : i < ds.length := by simpa [enumD] using hi
      obtain ⟨d', hd'⟩ : ∃ d', ds[i]? = some d' := ⟨ds[i], by simp [hi']⟩
      obtain ⟨u, hu, ru⟩ := Reps.get hr' hd'
      refine ⟨⟨vs', u, hl' hd, hu⟩, fun x H2 ⟨T, x', ex, hT, eH, hx⟩ => ?_⟩
      have := hx vs' (hl' hd)
      rw [hu] at this; cases this
      subst ex eH
      obtain ⟨w3, e3, hv3⟩ := w.new (o := .tup [.int ((i : Nat) : Int), u]) hT
      refine ⟨.tup [.int ((i : Nat) : Int), d'], ?_, w3, e3, rep_tup (SqT.of hv3) (Reps.cons rep_int (Reps.one (ru.ext e3)))⟩
      unfold enumD
      rw [List.getElem?_map, List.getElem?_zipIdx, hd']
      simp
    · obtain ⟨a', vs', e', hr', _, hl'⟩ := seqOf_rep w (rv.lt l) hc
      cases e'
      exact ⟨vs', hl' hd, by rw [Reps.len hr']; simp [enumD]⟩
theorem di_zip {elts : List Expr} {kk : Nat} (hg : Gl X "zip") (hm : X.mg "zip" = none) (ha : PA X [e, e2] (tofA X.K U ga))
    (hs : starEach [e, e2] X.env = (false, eval e X.env) :: starEach [e2] X.env := by rfl) (hpl : (backTo pos (starEach [e2] X.env)).any (·.1) = false := by rfl) : PI X (.Tuple elts kk tpos) (.Call (.Name "zip" p) [e, e2] [] pos) (tofI X.K U (gZip ga)) :=
  weakI (pi_zip hg hm ha hs hpl) fun σ H R ⟨m, S, Z, ρ, q, w, rs, h, k⟩ => tof_in w rs h fun v1 H1 m1 d1 S1 e1 w1 r1 ⟨d, e, ds, es, ed, hd, he, hq, hq2, h1⟩ => by
    subst ed
    obtain ⟨v, v', ev, rv, rv'⟩ := reps2 r1
    obtain ⟨a, vs, ea, hr, _, hl⟩ := seqOf_rep w1 rv hq
    obtain ⟨b, ws, eb, hr2, _, hl2⟩ := seqOf_rep w1 rv' hq2
    subst ea eb
    refine ⟨a, b, vs, ws, ev, hl hd, hl2 he, k _ _ _ _ _ _ e1 w1 ⟨fun {_ m' S' Z' H' i} l w hc hi => ?_, fun {_ m' S' Z' H'} l w hc => ?_⟩ h1⟩
    · obtain ⟨a', vs', e', hr', _, hl'⟩ := seqOf_rep w (rv.lt l) hc.1
      obtain ⟨b', ws', e'', hr'', _, hl''⟩ := seqOf_rep w (rv'.lt l) hc.2
      cases e'
      cases e''
      have hi' : i < ds.length ∧ i < es.length := by
        have z : i < min ds.length es.length := by simpa [zipD] using hi
        omega
      obtain ⟨d', hd'⟩ : ∃ d', ds[i]? = some d' := ⟨ds[i]'hi'.1, by simp [hi'.1]⟩
      obtain ⟨f', hf'⟩ : ∃ f', es[i]? = some f' := ⟨es[i]'hi'.2, by simp [hi'.2]⟩
      obtain ⟨u, hu, ru⟩ := Reps.get hr' hd'
      obtain ⟨u', hu', ru'⟩ := Reps.get hr'' hf'
      refine ⟨⟨vs', ws', u, u', hl' hd, hl'' he, hu, hu'⟩, fun x H2 ⟨T, x', y', ex, hT, eH, hx, hy⟩ => ?_⟩
      have := hx vs' (hl' hd)
      rw [hu] at this; cases this
      have := hy ws' (hl'' he)
      rw [hu'] at this; cases this
      subst ex eH
      obtain ⟨w3, e3, hv3⟩ := w.new (o := .tup [u, u']) hT
      refine ⟨.tup [d', f'], ?_, w3, e3, rep_tup (SqT.of hv3) (Reps.cons (ru.ext e3) (Reps.one (ru'.ext e3)))⟩
      unfold zipD
      rw [List.getElem?_zipWith, hd', hf']
    · obtain ⟨a', vs', e', hr', _, hl'⟩ := seqOf_rep w (rv.lt l) hc.1
      obtain ⟨b', ws', e'', hr'', _, hl''⟩ := seqOf_rep w (rv'.lt l) hc.2
      cases e'
      cases e''
      refine ⟨vs', ws', hl' hd, hl'' he, ?_⟩
      rw [Reps.len hr', Reps.len hr'']
      simp only [zipD, List.length_zipWith]
      omega
end

/-! ### comprehensions -/
def wipeD (ρ : Env_) : List Nat → Env_
  | [] => ρ
  | v :: vs => (wipeD ρ vs).set v none
theorem relS_wipe {K : PySem.W.Frag} {m : Nat → Addr} {N : Nat} {Hv : Hp} {ρ : Env_} {σ : L2.St} (r : RelS K m N Hv ρ σ) : ∀ vs : List Nat, RelS K m N Hv (wipeD ρ vs) (wipe σ vs)
  | [] => r
  | v :: vs => by
    have ih := relS_wipe r vs
    refine ⟨by unfold wipeD wipe; rw [List.length_set, List.length_set]; exact ih.1, fun i d e => ?_⟩
    unfold wipeD at e
    by_cases h : v = i
    · subst h
      by_cases hl : v < (wipeD ρ vs).length
      · rw [List.getElem?_set_self hl] at e; cases e
      · rw [List.getElem?_eq_none_iff.mpr (by rw [List.length_set]; omega)] at e; cases e
    · rw [List.getElem?_set_ne h] at e
      obtain ⟨u, h1, h2⟩ := ih.2 i d e
      exact ⟨u, by unfold wipe; rw [List.getElem?_set_ne h]; exact h1, h2⟩
def gYes : G Bool := fun _ S q => q true S
def gLc (fz : Bool) (gi : GI) (t : Tgt) (gt : G Bool) (ge : G D) (vs : List Nat) : G D := fun ρ S q => gi ρ S fun ds chk S1 => ∃ I : Nat → List D → Sto → Prop, I 0 [] S1 ∧
  (∀ i d acc S, ds[i]? = some d → I i acc S → chk S ∧ ∃ ρ', t.bind d (wipeD ρ vs) = some ρ' ∧ gt ρ' S fun b S2 => if b = true then ge ρ' S2 fun y S3 => acc.length < sizeLine ∧ I (i + 1) (acc ++ [y]) S3 else I (i + 1) acc S2) ∧
  ∀ acc S, I ds.length acc S → chk S ∧ newL fz acc S q
theorem Wd0.hide {K : PySem.W.Frag} {m : Nat → Addr} {S : Sto} {Z : Addr → Prop} {H : Hp} (w : Wd0 K m S Z H) {p : Addr} {o : HO} (hp : H p = none) : Wd0 K m S (fun a => Z a ∨ a = p) (L2.upd H p o) ∧ Lt m S Z H m S (fun a => Z a ∨ a = p) (L2.upd H p o) := by
  obtain ⟨nz, nl⟩ := w.fresh hp
  have hv : ∀ a u, vis m S Z H a = some u → vis m S (fun a => Z a ∨ a = p) (L2.upd H p o) a = some u := fun a u h => by
    obtain ⟨z1, z2⟩ := vis_not h
    have nap : a ≠ p := ne_of_none (vis_sub h) hp
    exact vis_of (by rw [L2.upd_ne nap]; exact vis_sub h) (fun z => z.elim z1 nap) z2
  refine ⟨⟨w.inj, fun i l => ?_, fun a z => ?_, fun i x e => ?_⟩, ⟨Nat.le_refl _, fun _ _ => rfl, hv⟩⟩
  · rintro (z | z)
    · exact w.zz i l z
    · exact nl i l z
  · by_cases e : a = p
    · rw [e, L2.upd_same]; exact ⟨_, rfl⟩
    · rcases z with z | z
      · rw [L2.upd_ne e]; exact w.zh a z
      · exact absurd z e
  · exact (w.rep i x e).mono (fun _ _ => rfl) (Nat.le_refl _) hv (L2.upd_ne (nl i ⟨x, e⟩))
/-- a hidden object changes -/
theorem Wd0.hid {K : PySem.W.Frag} {m : Nat → Addr} {S : Sto} {Z : Addr → Prop} {H : Hp} (w : Wd0 K m S Z H) {p : Addr} {o : HO} (hz : Z p) : Wd0 K m S Z (L2.upd H p o) ∧ vis m S Z (L2.upd H p o) = vis m S Z H := by
  have hv : vis m S Z (L2.upd H p o) = vis m S Z H := by
    funext a
    unfold vis
    by_cases c : Z a ∨ ∃ k, Live S k ∧ m k = a
    · rw [if_pos c, if_pos c]
    · rw [if_neg c, if_neg c]
      exact upd_ne (fun q => c (.inl (q ▸ hz)))
  refine ⟨⟨w.inj, w.zz, fun a z => ?_, fun i x e => ?_⟩, hv⟩
  · by_cases e : a = p
    · rw [e, upd_same]; exact ⟨_, rfl⟩
    · rw [upd_ne e]; exact w.zh a z
  · rw [hv]
    exact (w.rep i x e).mono (fun _ _ => rfl) (Nat.le_refl _) (fun _ _ q => q) (upd_ne (fun q => w.zz i ⟨x, e⟩ (q ▸ hz)))
theorem vis_unhide {m : Nat → Addr} {S : Sto} {Z Z' : Addr → Prop} {H : Hp} (hz : ∀ a, Z a → Z' a) {a : Addr} {o : HO} (h : vis m S Z' H a = some o) : vis m S Z H a = some o := by
  obtain ⟨z1, z2⟩ := vis_not h
  exact vis_of (vis_sub h) (fun z => z1 (hz a z)) z2
theorem Wd0.unhide {K : PySem.W.Frag} {m : Nat → Addr} {S : Sto} {Z Z' : Addr → Prop} {H : Hp} (hz : ∀ a, Z a → Z' a) (w : Wd0 K m S Z' H) : Wd0 K m S Z H :=
  ⟨w.inj, fun i l z => w.zz i l (hz _ z), fun a z => w.zh a (hz a z), fun i x e => (w.rep i x e).mono (fun _ _ => rfl) (Nat.le_refl _) (fun _ _ q => vis_unhide hz q) rfl⟩
theorem Wd0.adopt {K : PySem.W.Frag} {m : Nat → Addr} {S : Sto} {Z : Addr → Prop} {H : Hp} {p : Addr} {ds : List D} {vs : List V} (nz : ¬ Z p) (w : Wd0 K m S (fun a => Z a ∨ a = p) H) (hp : H p = some (.lst vs)) (r : Reps K m S.length (vis m S (fun a => Z a ∨ a = p) H) ds vs) :
    ∃ m', m' S.length = p ∧ Wd0 K m' (S ++ [some (.lst ds)]) Z H ∧ (∀ i, i < S.length → m' i = m i) ∧ ∀ a u, vis m S (fun a => Z a ∨ a = p) H a = some u → vis m' (S ++ [some (.lst ds)]) Z H a = some u := by
  let m' : Nat → Addr := fun i => if i = S.length then p else m i
  have e0 : m' S.length = p := if_pos rfl
  have e1 : ∀ i, i < S.length → m' i = m i := fun i h => if_neg (Nat.ne_of_lt h)
  have lv : ∀ i, Live (S ++ [some (MO.lst ds)]) i → (i < S.length ∧ Live S i) ∨ i = S.length := fun i ⟨x, e⟩ => by
    by_cases h : i < S.length
    · exact .inl ⟨h, x, by rw [List.getElem?_append_left h] at e; exact e⟩
    · right
      have := (List.getElem?_eq_some_iff.mp e).1
      rw [List.length_append, List.length_singleton] at this
      omega
  have nl : ∀ i, Live S i → m i ≠ p := fun i l e => w.zz i l (.inr e)
  have hv : ∀ a u, vis m S (fun a => Z a ∨ a = p) H a = some u → vis m' (S ++ [some (.lst ds)]) Z H a = some u := fun a u h => by
    obtain ⟨z1, z2⟩ := vis_not h
    refine vis_of (vis_sub h) (fun z => z1 (.inl z)) fun n l => ?_
    rcases lv n l with ⟨hn, l⟩ | rfl
    · rw [e1 n hn]; exact z2 n l
    · rw [e0]; exact fun q => z1 (.inr q.symm)
  have len : (S ++ [some (MO.lst ds)]).length = S.length + 1 := by simp
  refine ⟨m', e0, ⟨fun i j li lj e => ?_, fun i li => ?_, fun a z => w.zh a (.inl z), fun i x e => ?_⟩, e1, hv⟩
  · rcases lv i li with ⟨hi, li⟩ | rfl <;> rcases lv j lj with ⟨hj, lj⟩ | rfl
    · rw [e1 i hi, e1 j hj] at e; exact w.inj i j li lj e
    · rw [e1 i hi, e0] at e; exact absurd e (nl i li)
    · rw [e0, e1 j hj] at e; exact absurd e.symm (nl j lj)
    · rfl
  · rcases lv i li with ⟨hi, li⟩ | rfl
    · rw [e1 i hi]; exact fun z => w.zz i li (.inl z)
    · rw [e0]; exact nz
  · rw [len]
    rcases lv i ⟨x, e⟩ with ⟨hi, li⟩ | rfl
    · rw [List.getElem?_append_left hi] at e
      exact (w.rep i x e).mono e1 (Nat.le_succ _) hv (by rw [e1 i hi])
    · rw [List.getElem?_append_right (Nat.le_refl _), Nat.sub_self, List.getElem?_cons_zero] at e
      cases e
      exact ⟨vs, by rw [e0]; exact hp, Reps.mono e1 (Nat.le_succ _) hv r⟩
section
variable {K : PySem.W.Frag} {gi : GI} {t : Tgt} {gt : G Bool} {ge : G D} {vs : List Nat} {fz : Bool}
theorem lc_in (hsub : ∀ i ∈ t.slots, i ∈ vs) {σ : L2.St} {H : Hp} {Q : VK} (h : tofE K U (gLc fz gi t gt ge vs) σ H Q) : tLc (tofI K U gi) (t.gof K) (tofB K U0 gt) (tofE K U0 ge) vs σ H Q := by
  obtain ⟨m, S, Z, ρ, q, w, rs, h, k⟩ := h
  refine ⟨m, S, Z, ρ, _, w, rs, h, fun J H1 m1 S1 ds chk e1 w1 Y ⟨I, h0, hstep, hend⟩ p hp => ?_⟩
  obtain ⟨nz, nl⟩ := w1.fresh hp
  obtain ⟨w1', l1⟩ := w1.toWd0.hide (o := .lst []) hp
  let Z' : Addr → Prop := fun a => Z a ∨ a = p
  have hzp : Z' p := .inr rfl
  have hz1 : ∀ a, Z a → upd H1 p (.lst []) a = H1 a := fun a z => upd_ne (fun e => nz (e ▸ z))
  refine ⟨fun i n H' => n = ds.length - i ∧ i ≤ ds.length ∧ ∃ m' S' acc av, Lt m1 S1 Z H1 m' S' Z' H' ∧ (∀ a, Z a → H' a = H1 a) ∧ Wd K U0 m' S' Z' H' ∧ H' p = some (.lst av) ∧ Reps K m' S'.length (vis m' S' Z' H') acc av ∧ I i acc S',
    ⟨ds.length, by simp, Nat.zero_le _, m1, S1, [], [], l1, hz1, w1'.u0, upd_same, reps_nil, h0⟩, ?_⟩
  rintro i n H2 ⟨rfl, hi2, m2, S2, acc, av, l2, z2, w2, hp2, ra, I2⟩
  by_cases hlt : i < ds.length
  · right
    obtain ⟨d, hd⟩ : ∃ d, ds[i]? = some d := ⟨ds[i], by simp [hlt]⟩
    obtain ⟨hchk, ρ3, hbind, hbody⟩ := hstep i d acc S2 hd I2
    obtain ⟨g1, g2⟩ := Y.go l2 w2 hchk hlt
    refine ⟨g1, fun H' => ∃ m' S' acc av, Lt m1 S1 Z H1 m' S' Z' H' ∧ (∀ a, Z a → H' a = H1 a) ∧ Wd K U0 m' S' Z' H' ∧ H' p = some (.lst av) ∧ Reps K m' S'.length (vis m' S' Z' H') acc av ∧ I (i + 1) acc S', fun H' hN => ⟨ds.length - (i + 1), by omega, rfl, hlt, hN⟩, fun x H3 hy => ?_⟩
    obtain ⟨d', hd', w3, e3, r3⟩ := g2 x H3 hy
    rw [hd] at hd'; cases hd'
    have rs2 : RelS K m2 S2.length (vis m2 S2 Z' H2) ρ σ := by
      have z := rs.ext e1
      exact ⟨z.1, fun i d h => let ⟨v, h1, h2⟩ := z.2 i d h; ⟨v, h1, h2.lt l2⟩⟩
    refine Tgt.ok (vs := vs) vis_le hbind r3 (relS_wipe (rs2.ext e3) vs) fun σ4 rs4 hw4 => ⟨?_, ?_⟩
    · rw [hw4 hsub, wipe_wipe vs fun v hv => hv]
    · have lt_of : ∀ {m' S' H'}, Ext m2 S2 Z' H2 m' S' H' → Lt m1 S1 Z H1 m' S' Z' H' ∧ (∀ a, Z a → H' a = H1 a) := fun {m' S' H'} e => ⟨⟨Nat.le_trans l2.len e.len, fun i hi => (e.loc i (Nat.lt_of_lt_of_le hi l2.len)).trans (l2.loc i hi), fun a o q => e.vis a o (l2.vis a o q)⟩, fun a z => (e.zed a (.inl z)).trans (z2 a z)⟩
      refine tof_in w3 rs4 hbody fun b H4 m4 b' S4 e4 w4 hb h4 => ?_
      cases (show b' = b from hb)
      cases b with
      | true =>
        refine tof_in w4 (rs4.ext e4) h4 fun y H5 m5 dy S5 e5 w5 ry h5 => ?_
        have e25 := (e3.trans e4).trans e5
        have hp5 : H5 p = some (.lst av) := (e25.zed p hzp).trans hp2
        obtain ⟨w6, hv6⟩ := w5.toWd0.hid (o := .lst (av ++ [y])) hzp
        obtain ⟨l5, z5⟩ := lt_of e25
        refine ⟨av, hp5, by rw [Reps.len ra]; exact h5.1, m5, S5, acc ++ [dy], av ++ [y], ⟨l5.len, l5.loc, fun a o q => by rw [hv6]; exact l5.vis a o q⟩, fun a z => (upd_ne (show a ≠ p from fun e => nz (e ▸ z))).trans (z5 a z), w6.u0, upd_same, ?_, h5.2⟩
        rw [hv6]
        exact (ra.ext e25).append (Reps.one ry)
      | false =>
        have e24 := e3.trans e4
        obtain ⟨l4, z4⟩ := lt_of e24
        exact ⟨m4, S4, acc, av, l4, z4, w4, (e24.zed p hzp).trans hp2, ra.ext e24, h4⟩
  · left
    have ei : i = ds.length := by omega
    subst ei
    obtain ⟨hchk, hnew⟩ := hend acc S2 I2
    refine ⟨Y.stop l2 w2 hchk, ?_⟩
    cases fz with
    | true =>
      have wu : Wd0 K m2 S2 Z H2 := Wd0.unhide (fun a z => .inl z) w2.toWd0
      have eu : Ext m1 S1 Z H1 m2 S2 H2 := ⟨l2.len, l2.loc, fun a o q => vis_unhide (fun a z => .inl z) (l2.vis a o q), z2⟩
      refine k.at (e1.trans eu) (w1.on eu wu) (rep_lst (vis_of hp2 nz fun n l e => w2.zz n l (.inr e)) (Reps.mono (fun _ _ => rfl) (Nat.le_refl _) (fun a o q => vis_unhide (fun a z => .inl z) q) ra)) hnew
    | false =>
      obtain ⟨m3, e0, w3, em, hv3⟩ := Wd0.adopt nz w2.toWd0 hp2 ra
      have eu : Ext m1 S1 Z H1 m3 (S2 ++ [some (.lst acc)]) H2 := ⟨by rw [List.length_append]; exact Nat.le_trans l2.len (Nat.le_add_right _ _), fun i hi => (em i (Nat.lt_of_lt_of_le hi l2.len)).trans (l2.loc i hi), fun a o q => hv3 a o (l2.vis a o q), z2⟩
      exact k.at (e1.trans eu) (w1.on eu w3) (rep_loc e0 (by simp)) hnew
end
section
variable {X : Cx} {elt tg iter c : Expr} {ifs : List Expr} {scope : Scope} {own : List (Str × Nat)} {pos spos : Pos} {gi : GI} {t : Tgt} {gt : G Bool} {ge : G D}
theorem dt_nil : PTs X [] (tofB X.K U gYes) := ⟨fun pins s σ H Q I ⟨m, S, Z, ρ, q, w, rs, h, k⟩ => (pts_nil (X := X)).run pins s σ H Q I (k.now w rfl h)⟩
theorem dt_one (h : PT X c (tofB X.K U gt)) : PTs X [c] (tofB X.K U gt) := pts_one h
theorem d_lc (fz : Bool) (hc : X.calm = true) (hN : X.N.Nodup) (hi : PI X tg iter (tofI X.K U gi)) (ok : BlkOk X.N X.env.scope scope own) (hsub : ∀ i ∈ t.slots, i ∈ own.map (·.2))
    (hg : ∀ (s : Shared) (H : Hp) (C : Addr) (cl : List (Str × Addr)) (fp : List Addr), PG (X.blk s H scope (compEnvC scope cl C X.env) fp) tg (t.gof X.K)) (ht : ∀ (s : Shared) (H : Hp) (C : Addr) (cl : List (Str × Addr)) (fp : List Addr), PTs (X.blk s H scope (compEnvC scope cl C X.env) fp) ifs (tofB X.K U0 gt))
    (he : ∀ (s : Shared) (H : Hp) (C : Addr) (cl : List (Str × Addr)) (fp : List Addr), PE (X.blk s H scope (compEnvC scope cl C X.env) fp) elt (tofE X.K U0 ge)) (hs : ∀ x, foldedSetIterable iter X.env x = pure x := by intro _; rfl) :
    PE X (.ListComp elt [⟨tg, iter, ifs, 0⟩] scope pos) (tofE X.K U (gLc fz gi t gt ge (own.map (·.2)))) :=
  weakE (pe_lc hc hN hi ok hg ht he hs) fun _ _ _ h => lc_in hsub h
/-- name = [..] -/
theorem d_setLc (fz : Bool) {i : Nat} {y : Str} {py : Pos} (hc : X.calm = true) (hN : X.N.Nodup) (hy : X.N[i]? = some y) (hyl : X.env.scope.names.lookup y = some .local)
    (hsw : swapsWith (.ListComp elt [⟨tg, iter, ifs, 0⟩] scope pos) (some (.Name y py)) spos.line X.env = pure true) (hi : PI X tg iter (tofI X.K U gi)) (ok : BlkOk X.N X.env.scope scope own) (hsub : ∀ i ∈ t.slots, i ∈ own.map (·.2))
    (hg : ∀ (s : Shared) (H : Hp) (C : Addr) (cl : List (Str × Addr)) (fp : List Addr), PG (X.blk s H scope (compEnvC scope cl C X.env) fp) tg (t.gof X.K)) (ht : ∀ (s : Shared) (H : Hp) (C : Addr) (cl : List (Str × Addr)) (fp : List Addr), PTs (X.blk s H scope (compEnvC scope cl C X.env) fp) ifs (tofB X.K U0 gt))
    (he : ∀ (s : Shared) (H : Hp) (C : Addr) (cl : List (Str × Addr)) (fp : List Addr), PE (X.blk s H scope (compEnvC scope cl C X.env) fp) elt (tofE X.K U0 ge)) (hs : ∀ x, foldedSetIterable iter X.env x = pure x := by intro _; rfl) :
    PS X (.Assign [.Name y py] (.ListComp elt [⟨tg, iter, ifs, 0⟩] scope pos) spos) (tofS X.K U (gSet i (gLc fz gi t gt ge (own.map (·.2))))) :=
  weakS (ps_setLc hc hN hy hyl hsw hi ok hg ht he hs) fun E σ H ⟨m, S, Z, ρ, D, w, rs, h, k⟩ => lc_in hsub (tof_in w rs h fun v1 H1 m1 d1 S1 e1 w1 r1 h1 => k.nx.at e1 w1 ((rs.ext e1).set r1) h1)
end
end Dl
/-! Dl builtins by values. -/
namespace Dl
open PySem L2

abbrev rStrI : List V → Hp → VK → Prop := fun xs H Q => ∃ i, xs = [.int i] ∧ i.natAbs.log2 < 1920 ∧ Q (.str (toString i)) H
abbrev rIntA : List V → Hp → VK → Prop := fun xs H Q => (∃ a n, xs = [.str a] ∧ PySem.intText? a = some n ∧ a.length ≤ 640 ∧ Q (.int n) H) ∨ ((∃ i, xs = [.int i] ∧ Q (.int i) H) ∨ ∃ k, xs = [.bl k] ∧ Q (.int (if k then 1 else 0)) H)
abbrev rDvm : List V → Hp → VK → Prop := fun xs H Q => ∃ i j, xs = [.int i, .int j] ∧ CDiv i j ∧ ∀ p, H p = none → Q (.ref p) (upd H p (.tup [.int (i / j), .int (i % j)]))
abbrev rMx2 : List V → Hp → VK → Prop := fun xs H Q => ∃ i j, xs = [.int i, .int j] ∧ Q (.int (if j > i then j else i)) H
abbrev rMn2 : List V → Hp → VK → Prop := fun xs H Q => ∃ i j, xs = [.int i, .int j] ∧ Q (.int (if j < i then j else i)) H
abbrev rLstOf (K : PySem.W.Frag) : List V → Hp → VK → Prop := fun xs H Q => ∃ p ys, xs = [.ref p] ∧ (SqL K H p ys ∨ SqT K H p ys) ∧ ∀ l, H l = none → Q (.ref l) (upd H l (.lst ys))
abbrev rTupOf (K : PySem.W.Frag) : List V → Hp → VK → Prop := fun xs H Q => ∃ p ys, xs = [.ref p] ∧ ((SqL K H p ys ∧ ∀ l, H l = none → Q (.ref l) (upd H l (.tup ys))) ∨ (SqT K H p ys ∧ Q (.ref p) H))
abbrev showI (i : Int) : Str := ((toString i : String) : Str)
section
variable {K : PySem.W.Frag}
/-! ### ints -/
def aI2 (C : Int → Int → Prop) (f : Int → Int → D) : R2D := fun a b S q => ∃ i j, a = .int i ∧ b = .int j ∧ C i j ∧ q (f i j) S
theorem vr_I2 {C : Int → Int → Prop} {g : Int → Int → V} {f : Int → Int → D} (hf : ∀ m N Hv i j, Rep K m N Hv (f i j) (g i j)) : VR2 K (rI C g) (aI2 C f) := fun w r1 r2 ⟨i, j, e1, e2, h1, h2⟩ k => by
  subst e1 e2
  rw [Rep] at r1 r2
  exact ⟨i, j, r1, r2, h1, k.now w (hf _ _ _ _ _) h2⟩
theorem vr_I20 {g : Int → Int → V} {f : Int → Int → D} (hf : ∀ m N Hv i j, Rep K m N Hv (f i j) (g i j)) : VR2 K (rI0 g) (aI2 (fun _ _ => True) f) := fun w r1 r2 ⟨i, j, e1, e2, h1, h2⟩ k => by
  subst e1 e2
  rw [Rep] at r1 r2
  exact ⟨i, j, r1, r2, k.now w (hf _ _ _ _ _) h2⟩
/-! ### + -/
def listOf (S : Sto) : D → Option (List D)
  | .lst ds => some ds
  | .loc n => match S[n]? with
    | some (some (.lst ds)) => some ds
    | _ => none
  | _ => none
theorem listOf_rep {m : Nat → Addr} {S : Sto} {Z : Addr → Prop} {H : Hp} {d : D} {v : V} {ds : List D} (w : Wd K U m S Z H) (r : Rep K m S.length (vis m S Z H) d v) (h : listOf S d = some ds) :
    ∃ a vs, v = .ref a ∧ H a = some (.lst vs) ∧ Reps K m S.length (vis m S Z H) ds vs := by
  cases d with
  | lst ds' => cases h; rw [Rep] at r; obtain ⟨a, vs, e, h1, h2⟩ := r; exact ⟨a, vs, e, vis_sub h1, h2⟩
  | loc n =>
    rw [Rep] at r
    obtain ⟨vs, h1, h2⟩ := w.rep n _ (loc_lst h)
    exact ⟨m n, vs, r.1, h1, h2⟩
  | non => cases h
  | bl _ => cases h
  | int _ => cases h
  | str _ => cases h
  | tup _ => cases h
  | ksq _ => cases h
  | obj _ _ _ => cases h
  | dic _ _ => cases h
  | ref _ => cases h
  | ty _ => cases h
  | exc _ _ _ => cases h
def aAdd (fz : Bool) : R2D := fun a b S q => match a, b with
  | .int i, .int j => q (.int (i + j)) S
  | .str x, .str y => x.length + y.length ≤ sizeLine ∧ q (.str (x ++ y)) S
  | .tup xs, .tup ys => xs.length + ys.length ≤ sizeLine ∧ q (.tup (xs ++ ys)) S
  | a, b => ∃ xs ys, listOf S a = some xs ∧ listOf S b = some ys ∧ xs.length + ys.length ≤ sizeLine ∧ newL fz (xs ++ ys) S q
abbrev rAddA (K : PySem.W.Frag) : R2 := fun x y H Q => rI0 (fun i j => .int (i + j)) x y H Q ∨ (∃ i j, x = .str i ∧ y = .str j ∧ i.length + j.length ≤ sizeLine ∧ Q (.str (i ++ j)) H) ∨ rCatA K x y H Q ∨ rCat x y H Q
theorem or_add {X : Cx} : OpR X (binaryOp .Add) (rAddA X.K) := op_add.or (op_add_str.or (op_catA.or op_cat))
theorem vr_add {fz : Bool} : VR2 K (rAddA K) (aAdd fz) := fun {_ m S Z H a b v u q Q} w r1 r2 h k => by
  have lists : (∃ xs ys, listOf S a = some xs ∧ listOf S b = some ys ∧ xs.length + ys.length ≤ sizeLine ∧ newL fz (xs ++ ys) S q) → rAddA K v u H Q := fun ⟨xs, ys, h1, h2, h3, h4⟩ => by
    obtain ⟨a1, vs, e1, hh1, q1⟩ := listOf_rep w r1 h1
    obtain ⟨a2, us, e2, hh2, q2⟩ := listOf_rep w r2 h2
    exact .inr (.inr (.inr ⟨a1, a2, vs, us, e1, e2, hh1, hh2, by rw [Reps.len q1, Reps.len q2]; exact h3, fun p hp => out_newL w (q1.append q2) h4 k hp⟩))
  cases a <;> cases b <;> first
    | (rw [Rep] at r1 r2; exact .inl ⟨_, _, r1, r2, k.now w rep_int h⟩)
    | (rw [Rep] at r1 r2; exact .inr (.inl ⟨_, _, r1, r2, h.1, k.now w rep_str h.2⟩))
    | exact lists h
    | skip
  case tup.tup xs ys =>
    rw [Rep] at r1 r2
    obtain ⟨a1, vs, e1, s1, q1⟩ := r1
    obtain ⟨a2, us, e2, s2, q2⟩ := r2
    subst e1 e2
    have l1 := Reps.len q1
    have l2 := Reps.len q2
    refine .inr (.inr (.inl ⟨a1, a2, vs, us, rfl, rfl, SqT.sub vis_le s1, SqT.sub vis_le s2, by rw [l1, l2]; exact h.1, fun e => ?_, fun _ e => ?_, fun _ _ p hp => ?_⟩))
    · subst e
      have e' : xs = [] := List.eq_nil_of_length_eq_zero (by simpa using l1.symm)
      subst e'
      exact k.now w (rep_tup s2 q2) h.2
    · subst e
      have e' : ys = [] := List.eq_nil_of_length_eq_zero (by simpa using l2.symm)
      subst e'
      have h2 := h.2
      rw [List.append_nil] at h2
      exact k.now w (rep_tup s1 q1) h2
    · exact out_newT w (q1.append q2) h.2 k hp
def aSub : R2D := aI2 (fun _ _ => True) fun i j => .int (i - j)
theorem vr_sub : VR2 K (rI0 fun i j => .int (i - j)) aSub := vr_I20 fun _ _ _ _ _ => rep_int
/-! ### * : ints; a list by an int -/
def mulOk (i j : Int) : Prop := CMul i j ∨ CMulW i j
abbrev rMulA : R2 := fun x y H Q => rI CMul (fun i j => .int (i * j)) x y H Q ∨ rI CMulW (fun i j => .int (i * j)) x y H Q ∨ rRep x y H Q
theorem or_mul {X : Cx} : OpR X (binaryOp .Mult) rMulA := op_mul.or (op_mulW.or op_rep)
def aMul (fz : Bool) : R2D := fun a b S q => match a, b with
  | .int i, .int j => mulOk i j ∧ q (.int (i * j)) S
  | a, .int k => ∃ xs, listOf S a = some xs ∧ -(2 ^ 63) ≤ k ∧ k < 2 ^ 63 ∧ xs.length * k.toNat ≤ sizeLine ∧ newL fz (List.replicate k.toNat xs).flatten S q
  | _, _ => False
theorem reps_rep {m : Nat → Addr} {N : Nat} {Hv : Hp} {ds : List D} {vs : List V} (r : Reps K m N Hv ds vs) : ∀ n : Nat, Reps K m N Hv (List.replicate n ds).flatten (List.replicate n vs).flatten
  | 0 => reps_nil
  | n + 1 => by rw [List.replicate_succ, List.replicate_succ, List.flatten_cons, List.flatten_cons]; exact r.append (reps_rep r n)
theorem vr_mul {fz : Bool} : VR2 K rMulA (aMul fz) := fun {_ m S Z H a b v u q Q} w r1 r2 h k => by
  cases b with
  | int j =>
    rw [Rep] at r2
    have lists : (∃ xs, listOf S a = some xs ∧ -(2 ^ 63) ≤ j ∧ j < 2 ^ 63 ∧ xs.length * j.toNat ≤ sizeLine ∧ newL fz (List.replicate j.toNat xs).flatten S q) → rMulA v u H Q := fun ⟨xs, h1, h2, h3, h4, h5⟩ => by
      obtain ⟨a1, vs, e1, hh1, q1⟩ := listOf_rep w r1 h1
      exact .inr (.inr ⟨a1, j, vs, e1, r2, hh1, h2, h3, by rw [Reps.len q1]; exact h4, fun p hp => out_newL w (reps_rep q1 _) h5 k hp⟩)
    cases a <;> first
      | (rw [Rep] at r1
         rcases h.1 with h1 | h1
         · exact .inl ⟨_, _, r1, r2, h1, k.now w rep_int h.2⟩
         · exact .inr (.inl ⟨_, _, r1, r2, h1, k.now w rep_int h.2⟩))
      | exact lists h
  | non => cases a <;> exact False.elim h
  | bl _ => cases a <;> exact False.elim h
  | str _ => cases a <;> exact False.elim h
  | tup _ => cases a <;> exact False.elim h
  | lst _ => cases a <;> exact False.elim h
  | ksq _ => cases a <;> exact False.elim h
  | obj _ _ _ => cases a <;> exact False.elim h
  | dic _ _ => cases a <;> exact False.elim h
  | loc _ => cases a <;> exact False.elim h
  | ref _ => cases a <;> exact False.elim h
  | ty _ => cases a <;> exact False.elim h
  | exc _ _ _ => cases a <;> exact False.elim h
def divOk (i j : Int) : Prop := CDiv i j ∨ CDivW i j
def aFdiv : R2D := aI2 divOk fun i j => .int (i / j)
abbrev rDivA : R2 := fun x y H Q => rI CDiv (fun i j => .int (i / j)) x y H Q ∨ rI CDivW (fun i j => .int (i / j)) x y H Q
theorem or_fdiv {X : Cx} : OpR X (binaryOp .FloorDiv) rDivA := op_fdiv.or op_fdivW
theorem vr_fdiv : VR2 K rDivA aFdiv := fun w r1 r2 ⟨i, j, e1, e2, h1, h2⟩ k => by
  subst e1 e2
  rw [Rep] at r1 r2
  rcases h1 with h1 | h1
  · exact .inl ⟨i, j, r1, r2, h1, k.now w rep_int h2⟩
  · exact .inr ⟨i, j, r1, r2, h1, k.now w rep_int h2⟩
def aMod : R2D := aI2 (fun _ j => 0 < j) fun i j => .int (i % j)
theorem vr_mod : VR2 K (rI (fun _ j => 0 < j) fun i j => .int (i % j)) aMod := vr_I2 fun _ _ _ _ _ => rep_int
def aPow : R2D := aI2 CPow fun i j => .int (i ^ j.toNat)
theorem vr_pow : VR2 K (rI CPow fun i j => .int (i ^ j.toNat)) aPow := vr_I2 fun _ _ _ _ _ => rep_int
def aShr : R2D := aI2 (fun _ j => 0 ≤ j) fun i j => .int (i / 2 ^ j.toNat)
theorem vr_shr : VR2 K (rI (fun _ j => 0 ≤ j) fun i j => .int (i / 2 ^ j.toNat)) aShr := vr_I2 fun _ _ _ _ _ => rep_int
/-! ### order of ints -/
def aLt : R2D := aI2 (fun _ _ => True) fun i j => .bl (decide (i < j))
def aLe : R2D := aI2 (fun _ _ => True) fun i j => .bl (decide (i ≤ j))
def aGt : R2D := aI2 (fun _ _ => True) fun i j => .bl (decide (j < i))
def aGe : R2D := aI2 (fun _ _ => True) fun i j => .bl (decide (j ≤ i))
theorem vr_lt : VR2 K (rI0 fun i j => .bl (decide (i < j))) aLt := vr_I20 fun _ _ _ _ _ => rep_bl
theorem vr_le : VR2 K (rI0 fun i j => .bl (decide (i ≤ j))) aLe := vr_I20 fun _ _ _ _ _ => rep_bl
theorem vr_gt : VR2 K (rI0 fun i j => .bl (decide (j < i))) aGt := vr_I20 fun _ _ _ _ _ => rep_bl
theorem vr_ge : VR2 K (rI0 fun i j => .bl (decide (j ≤ i))) aGe := vr_I20 fun _ _ _ _ _ => rep_bl
/-- - of one int -/
def aNeg : R1D := fun a S q => ∃ i, a = .int i ∧ q (.int (-i)) S
theorem vr_neg : VR1 K (rU fun i => .int (-i)) aNeg := fun w r1 ⟨i, e1, h⟩ k => by
  subst e1
  rw [Rep] at r1
  exact ⟨i, r1, k.now w rep_int h⟩
end

/-! ### == of data at any depth -/
mutual
def toPy : D → Option PyData
  | .non => some .none
  | .bl b => some (.bool b)
  | .int i => some (.int i)
  | .str x => some (.str x)
  | .tup ds => (toPys ds).map .tuple
  | .lst ds => (toPys ds).map .list
  | .ksq ds => (toPys ds).map .list
  | .obj _ _ _ => none
  | .dic _ _ => none
  | .loc _ => none
  | .ref _ => none
  | .ty _ => none
  | .exc _ _ _ => none
def toPys : List D → Option (List PyData)
  | [] => some []
  | d :: ds => match toPy d, toPys ds with
    | some p, some ps => some (p :: ps)
    | _, _ => none
end
def toPyS (S : Sto) : D → Option PyData
  | .loc n => match S[n]? with
    | some (some (.lst ds)) => (toPys ds).map .list
    | _ => none
  | d => toPy d
section
variable {K : PySem.W.Frag} {m : Nat → Addr} {N : Nat} {Hv : Hp}
mutual
theorem dp_of : ∀ {d : D} {v : V} {p : PyData}, Rep K m N Hv d v → toPy d = some p → Dp K Hv v p
  | .non, _, _, r, e => by rw [Rep] at r; rw [toPy] at e; cases e; rw [r]; exact .non
  | .bl _, _, _, r, e => by rw [Rep] at r; rw [toPy] at e; cases e; rw [r]; exact .bl _
  | .int _, _, _, r, e => by rw [Rep] at r; rw [toPy] at e; cases e; rw [r]; exact .int _
  | .str _, _, _, r, e => by rw [Rep] at r; rw [toPy] at e; cases e; rw [r]; exact .str _
  | .tup ds, _, _, r, e => by
    rw [Rep] at r
    rw [toPy] at e
    obtain ⟨a, vs, ev, h1, h2⟩ := r
    obtain ⟨ps, hp, rfl⟩ := Option.map_eq_some_iff.mp e
    rw [ev]
    exact .tup h1 (dps_of h2 hp)
  | .lst ds, _, _, r, e => by
    rw [Rep] at r
    rw [toPy] at e
    obtain ⟨a, vs, ev, h1, h2⟩ := r
    obtain ⟨ps, hp, rfl⟩ := Option.map_eq_some_iff.mp e
    rw [ev]
    exact .lst (SqL.of h1) (dps_of h2 hp)
  | .ksq ds, _, _, r, e => by
    rw [Rep] at r
    rw [toPy] at e
    obtain ⟨a, vs, ev, h1, h2⟩ := r
    obtain ⟨ps, hp, rfl⟩ := Option.map_eq_some_iff.mp e
    rw [ev]
    exact .lst h1 (dps_of h2 hp)
  | .obj _ _ _, _, _, _, e => by rw [toPy] at e; cases e
  | .dic _ _, _, _, _, e => by rw [toPy] at e; cases e
  | .loc _, _, _, _, e => by rw [toPy] at e; cases e
  | .ref _, _, _, _, e => by rw [toPy] at e; cases e
  | .ty _, _, _, _, e => by rw [toPy] at e; cases e
  | .exc _ _ _, _, _, _, e => by rw [toPy] at e; cases e
theorem dps_of : ∀ {ds : List D} {vs : List V} {ps : List PyData}, Reps K m N Hv ds vs → toPys ds = some ps → DpAll K Hv vs ps
  | [], _, _, r, e => by rw [Reps] at r; rw [toPys] at e; cases e; rw [r]; exact .nil
  | d :: ds, _, _, r, e => by
    rw [Reps] at r
    obtain ⟨v, q, ev, r1, r2⟩ := r
    rw [toPys] at e
    cases h1 : toPy d with
    | none => rw [h1] at e; cases e
    | some p =>
      cases h2 : toPys ds with
      | none => rw [h1, h2] at e; cases e
      | some ps =>
        rw [h1, h2] at e
        cases e
        rw [ev]
        exact .cons (dp_of r1 h1) (dps_of r2 h2)
end
mutual
theorem Dp.sub {H H' : Hp} (hh : ∀ a o, H a = some o → H' a = some o) : ∀ {v : V} {p : PyData}, Dp K H v p → Dp K H' v p
  | _, _, .non => .non
  | _, _, .bl b => .bl b
  | _, _, .int b => .int b
  | _, _, .str b => .str b
  | _, _, .lst h r => .lst (SqL.sub hh h) (DpAll.sub hh r)
  | _, _, .tup h r => .tup (SqT.sub hh h) (DpAll.sub hh r)
theorem DpAll.sub {H H' : Hp} (hh : ∀ a o, H a = some o → H' a = some o) : ∀ {v : List V} {p : List PyData}, DpAll K H v p → DpAll K H' v p
  | _, _, .nil => .nil
  | _, _, .cons h r => .cons (Dp.sub hh h) (DpAll.sub hh r)
end
theorem dpS_of {S : Sto} {Z : Addr → Prop} {H : Hp} {d : D} {v : V} {p : PyData} (w : Wd K U m S Z H) (r : Rep K m S.length (vis m S Z H) d v) (e : toPyS S d = some p) : Dp K H v p := by
  cases d with
  | loc n =>
    rw [toPyS] at e
    rw [Rep] at r
    cases hS : S[n]? with
    | none => rw [hS] at e; cases e
    | some o =>
      cases o with
      | none => rw [hS] at e; cases e
      | some o =>
        cases o with
        | lst ds =>
          rw [hS] at e
          obtain ⟨ps, hp, rfl⟩ := Option.map_eq_some_iff.mp e
          obtain ⟨vs, h1, h2⟩ := w.rep n _ hS
          rw [r.1]
          exact .lst (SqL.of h1) (DpAll.sub vis_le (dps_of h2 hp))
        | obj _ _ _ => rw [hS] at e; cases e
        | dic _ _ => rw [hS] at e; cases e
        | dicT _ _ => rw [hS] at e; cases e
  | non => exact Dp.sub vis_le (dp_of r e)
  | bl _ => exact Dp.sub vis_le (dp_of r e)
  | int _ => exact Dp.sub vis_le (dp_of r e)
  | str _ => exact Dp.sub vis_le (dp_of r e)
  | tup _ => exact Dp.sub vis_le (dp_of r e)
  | lst _ => exact Dp.sub vis_le (dp_of r e)
  | ksq _ => exact Dp.sub vis_le (dp_of r e)
  | obj _ _ _ => exact Dp.sub vis_le (dp_of r e)
  | dic _ _ => exact Dp.sub vis_le (dp_of r e)
  | ref _ => exact Dp.sub vis_le (dp_of r e)
  | ty _ => exact Dp.sub vis_le (dp_of r e)
  | exc _ _ _ => exact Dp.sub vis_le (dp_of r e)
end
def aEq : R2D := fun a b S q => ∃ p p', toPyS S a = some p ∧ toPyS S b = some p' ∧ SeqAt.shaped p = true ∧ SeqAt.shaped p' = true ∧ q (.bl (PyData.eqv p p')) S
def aNe : R2D := fun a b S q => ∃ p p', toPyS S a = some p ∧ toPyS S b = some p' ∧ SeqAt.shaped p = true ∧ SeqAt.shaped p' = true ∧ q (.bl (!PyData.eqv p p')) S
section
variable {K : PySem.W.Frag}
theorem vr_eq : VR2 K (rEqD K) aEq := fun w r1 r2 ⟨p, p', h1, h2, h3, h4, h5⟩ k => ⟨p, p', dpS_of w r1 h1, dpS_of w r2 h2, h3, h4, k.now w rep_bl h5⟩
theorem vr_ne : VR2 K (rNeD K) aNe := fun w r1 r2 ⟨p, p', h1, h2, h3, h4, h5⟩ k => ⟨p, p', dpS_of w r1 h1, dpS_of w r2 h2, h3, h4, k.now w rep_bl h5⟩
/-! ### in -/
def aInS : R2D := fun a b S q => ∃ (c : Nat) (z : Str), a = .str ⟨#[c]⟩ ∧ b = .str z ∧ q (.bl (decide (c ∈ z.cps.toList))) S
theorem vr_inS : VR2 K (fun x y H Q => ∃ (c : Nat) (z : Str), x = .str ⟨#[c]⟩ ∧ y = .str z ∧ Q (.bl (decide (c ∈ z.cps.toList))) H) aInS := fun w r1 r2 ⟨c, z, e1, e2, h⟩ k => by
  subst e1 e2
  rw [Rep] at r1 r2
  exact ⟨c, z, r1, r2, k.now w rep_bl h⟩
/-! ### built-in functions -/
theorem vrn_of1 {r : List V → Hp → VK → Prop} {g : RND} (P : D → Sto → (D → Sto → Prop) → Prop) (hg : ∀ as S q, g as S q → ∃ d, as = [d] ∧ P d S q)
    (h : ∀ {U : Wi} {m : Nat → Addr} {S : Sto} {Z : Addr → Prop} {H : Hp} {d : D} {v : V} {q : D → Sto → Prop} {Q : VK}, Wd K U m S Z H → Rep K m S.length (vis m S Z H) d v → P d S q → Outs m S Z H K U (rD K) q Q → r [v] H Q) : VRN K r g := fun w rs hh k => by
  obtain ⟨d, e, hp⟩ := hg _ _ _ hh
  subst e
  obtain ⟨v, ev, rv⟩ := reps1 rs
  rw [ev]
  exact h w rv hp k
def a1 (P : D → Sto → (D → Sto → Prop) → Prop) : RND := fun as S q => ∃ d, as = [d] ∧ P d S q
def a2 (P : D → D → Sto → (D → Sto → Prop) → Prop) : RND := fun as S q => ∃ d e, as = [d, e] ∧ P d e S q
theorem vrn1 {r : List V → Hp → VK → Prop} {P : R1D} (h : ∀ {U : Wi} {m : Nat → Addr} {S : Sto} {Z : Addr → Prop} {H : Hp} {d : D} {v : V} {q : D → Sto → Prop} {Q : VK}, Wd K U m S Z H → Rep K m S.length (vis m S Z H) d v → P d S q → Outs m S Z H K U (rD K) q Q → r [v] H Q) : VRN K r (a1 P) :=
  vrn_of1 P (fun _ _ _ h => h) h
theorem vrn2 {r : List V → Hp → VK → Prop} {P : R2D} (h : ∀ {U : Wi} {m : Nat → Addr} {S : Sto} {Z : Addr → Prop} {H : Hp} {d e : D} {v u : V} {q : D → Sto → Prop} {Q : VK}, Wd K U m S Z H → Rep K m S.length (vis m S Z H) d v → Rep K m S.length (vis m S Z H) e u → P d e S q → Outs m S Z H K U (rD K) q Q → r [v, u] H Q) : VRN K r (a2 P) := fun w rs ⟨d, e, ed, hh⟩ k => by
  subst ed
  obtain ⟨v, u, ev, rv, ru⟩ := reps2 rs
  rw [ev]
  exact h w rv ru hh k
/-- len -/
def lenOf (S : Sto) : D → Option Nat
  | .str x => some x.length
  | d => (seqOf S d).map List.length
def aLen : R1D := fun d S q => match d with
  | .str x => x.length ≤ sizeLine ∧ q (.int x.length) S
  | d => ∃ ds, seqOf S d = some ds ∧ q (.int ds.length) S
abbrev rLenA (K : PySem.W.Frag) : List V → Hp → VK → Prop := fun xs H Q => (∃ p ys, xs = [.ref p] ∧ (SqL K H p ys ∨ SqT K H p ys) ∧ Q (.int ys.length) H) ∨ (∃ z, xs = [.str z] ∧ z.length ≤ sizeLine ∧ Q (.int z.length) H)
theorem or_len {X : Cx} : CallR X (.builtin "len") (rLenA X.K) := call_len_seq.or call_len_str
theorem seq_any {m : Nat → Addr} {S : Sto} {Z : Addr → Prop} {H : Hp} {d : D} {v : V} {ds : List D} (w : Wd K U m S Z H) (r : Rep K m S.length (vis m S Z H) d v) (h : seqOf S d = some ds) :
    ∃ a vs, v = .ref a ∧ Reps K m S.length (vis m S Z H) ds vs ∧ (SqL K H a vs ∨ SqT K H a vs) := by
  obtain ⟨a, vs, e, hr, ht, hl⟩ := seqOf_rep w r h
  refine ⟨a, vs, e, hr, ?_⟩
  cases hd : d.isTup with
  | true => exact .inr (ht hd)
  | false => exact .inl (hl hd)
theorem vr_len : VRN K (rLenA K) (a1 aLen) := vrn1 fun {_ m S Z H d v q Q} w r h k => by
  have go : (∃ ds, seqOf S d = some ds ∧ q (.int ds.length) S) → rLenA K [v] H Q := fun ⟨ds, h1, h2⟩ => by
    obtain ⟨a, vs, e, hr, hs⟩ := seq_any w r h1
    exact .inl ⟨a, vs, by rw [e], hs, k.now w (by rw [Reps.len hr]; exact rep_int) h2⟩
  cases d <;> first
    | (rw [Rep] at r; exact .inr ⟨_, by rw [r], h.1, k.now w rep_int h.2⟩)
    | exact go h
/-- str(int), int(text), int(bool), abs -/
def aStr : R1D := fun d S q => ∃ i, d = .int i ∧ i.natAbs.log2 < 1920 ∧ q (.str (showI i)) S
theorem vr_str : VRN K rStrI (a1 aStr) := vrn1 fun w r ⟨i, e, h1, h2⟩ k => by
  subst e; rw [Rep] at r
  exact ⟨i, by rw [r], h1, k.now w rep_str h2⟩
def aInt : R1D := fun d S q => match d with
  | .str x => ∃ n, PySem.intText? x = some n ∧ x.length ≤ 640 ∧ q (.int n) S
  | .int i => q (.int i) S
  | .bl b => q (.int (if b then 1 else 0)) S
  | _ => False
theorem vr_int : VRN K rIntA (a1 aInt) := vrn1 fun {_ m S Z H d v q Q} w r h k => by
  cases d <;> first
    | exact False.elim h
    | (rw [Rep] at r; obtain ⟨n, h1, h2, h3⟩ := h; exact .inl ⟨_, n, by rw [r], h1, h2, k.now w rep_int h3⟩)
    | (rename_i i; rw [Rep] at r; subst r; exact .inr (.inl ⟨i, rfl, k.now w rep_int h⟩))
    | (rename_i b; rw [Rep] at r; subst r; exact .inr (.inr ⟨b, rfl, k.now w rep_int h⟩))
theorem or_int {X : Cx} : CallR X (.type "int") rIntA := call_int_str.or call_int1
/-- divmod -/
def aDivmod : R2D := fun a b S q => ∃ i j, a = .int i ∧ b = .int j ∧ CDiv i j ∧ q (.tup [.int (i / j), .int (i % j)]) S
theorem vr_divmod : VRN K rDvm (a2 aDivmod) := vrn2 fun w r1 r2 ⟨i, j, e1, e2, h1, h2⟩ k => by
  subst e1 e2; rw [Rep] at r1 r2
  exact ⟨i, j, by rw [r1, r2], h1, fun p hp => out_newT w (Reps.cons rep_int (Reps.one rep_int)) h2 k hp⟩
/-- max, min of two ints; of a list of ints -/
def aMax2 : R2D := fun a b S q => ∃ i j, a = .int i ∧ b = .int j ∧ q (.int (max i j)) S
def aMin2 : R2D := fun a b S q => ∃ i j, a = .int i ∧ b = .int j ∧ q (.int (min i j)) S
theorem vr_max2 : VRN K rMx2 (a2 aMax2) := vrn2 fun w r1 r2 ⟨i, j, e1, e2, h2⟩ k => by
  subst e1 e2; rw [Rep] at r1 r2
  refine ⟨i, j, by rw [r1, r2], k.now w ?_ h2⟩
  have e : (if j > i then j else i) = max i j := by by_cases h : j > i <;> simp [h] <;> omega
  rw [e]; exact rep_int
theorem vr_min2 : VRN K rMn2 (a2 aMin2) := vrn2 fun w r1 r2 ⟨i, j, e1, e2, h2⟩ k => by
  subst e1 e2; rw [Rep] at r1 r2
  refine ⟨i, j, by rw [r1, r2], k.now w ?_ h2⟩
  have e : (if j < i then j else i) = min i j := by by_cases h : j < i <;> simp [h] <;> omega
  rw [e]; exact rep_int
theorem ints_seq {m : Nat → Addr} {S : Sto} {Z : Addr → Prop} {H : Hp} {d : D} {v : V} {ns : List Int} (w : Wd K U m S Z H) (r : Rep K m S.length (vis m S Z H) d v) (ht : d.isTup = false) (h : seqOf S d = some (ns.map D.int)) : ∃ a, v = .ref a ∧ SqL K H a (ns.map V.int) := by
  obtain ⟨a, vs, e, hr, _, hl⟩ := seqOf_rep w r h
  have q := hl ht
  rw [Reps.ints hr] at q
  exact ⟨a, e, q⟩
def aSum : R1D := fun d S q => ∃ ns : List Int, d.isTup = false ∧ seqOf S d = some (ns.map D.int) ∧ q (.int ns.sum) S
theorem vr_sum : VRN K (rSum K) (a1 aSum) := vrn1 fun w r ⟨ns, ht, h1, h2⟩ k => by
  obtain ⟨a, e, hs⟩ := ints_seq w r ht h1
  exact ⟨a, ns, by rw [e], hs, k.now w rep_int h2⟩
def aMaxL : R1D := fun d S q => ∃ ns : List Int, d.isTup = false ∧ seqOf S d = some (ns.map D.int) ∧ 0 < ns.length ∧ ∀ m, m ∈ ns → (∀ y, y ∈ ns → y ≤ m) → q (.int m) S
theorem vr_maxL : VRN K (rMax K) (a1 aMaxL) := vrn1 fun w r ⟨ns, ht, h1, h2, h3⟩ k => by
  obtain ⟨a, e, hs⟩ := ints_seq w r ht h1
  exact ⟨a, ns, by rw [e], hs, h2, fun m h4 h5 => k.now w rep_int (h3 m h4 h5)⟩
def aMinL : R1D := fun d S q => ∃ ns : List Int, d.isTup = false ∧ seqOf S d = some (ns.map D.int) ∧ 0 < ns.length ∧ ∀ m, m ∈ ns → (∀ y, y ∈ ns → m ≤ y) → q (.int m) S
theorem vr_minL : VRN K (rMin K) (a1 aMinL) := vrn1 fun w r ⟨ns, ht, h1, h2, h3⟩ k => by
  obtain ⟨a, e, hs⟩ := ints_seq w r ht h1
  exact ⟨a, ns, by rw [e], hs, h2, fun m h4 h5 => k.now w rep_int (h3 m h4 h5)⟩
theorem Reps.bls {m : Nat → Addr} {N : Nat} {H : Hp} : ∀ {ns : List Bool} {vs : List V}, Reps K m N H (ns.map D.bl) vs → vs = ns.map V.bl
  | [], _, r => r
  | n :: ns, _, r => by
    obtain ⟨v, q, e1, r1, r2⟩ := r
    rw [Rep] at r1
    rw [e1, r1, Reps.bls r2]
    rfl
def aAll : R1D := fun d S q => ∃ bs : List Bool, d.isTup = false ∧ seqOf S d = some (bs.map D.bl) ∧ q (.bl (bs.all id)) S
def aAny : R1D := fun d S q => ∃ bs : List Bool, d.isTup = false ∧ seqOf S d = some (bs.map D.bl) ∧ q (.bl (bs.any id)) S
theorem vr_all : VRN K (rAll K) (a1 aAll) := vrn1 fun w r ⟨bs, ht, h1, h2⟩ k => by
  obtain ⟨a, vs, e, hr, _, hl⟩ := seqOf_rep w r h1
  have q := hl ht
  rw [Reps.bls hr] at q
  exact ⟨a, bs, by rw [e], q, k.now w rep_bl h2⟩
theorem vr_any : VRN K (rAny K) (a1 aAny) := vrn1 fun w r ⟨bs, ht, h1, h2⟩ k => by
  obtain ⟨a, vs, e, hr, _, hl⟩ := seqOf_rep w r h1
  have q := hl ht
  rw [Reps.bls hr] at q
  exact ⟨a, bs, by rw [e], q, k.now w rep_bl h2⟩
/-- list(x), tuple(x) -/
def aList (fz : Bool) : R1D := fun d S q => ∃ ds, seqOf S d = some ds ∧ newL fz ds S q
theorem vr_list {fz : Bool} : VRN K (rLstOf K) (a1 (aList fz)) := vrn1 fun w r ⟨ds, h1, h2⟩ k => by
  obtain ⟨a, vs, e, hr, hs⟩ := seq_any w r h1
  exact ⟨a, vs, by rw [e], hs, fun p hp => out_newL w hr h2 k hp⟩
def aTuple : R1D := fun d S q => ∃ ds, seqOf S d = some ds ∧ q (.tup ds) S
theorem vr_tuple : VRN K (rTupOf K) (a1 aTuple) := vrn1 fun {_ m S Z H d v q Q} w r ⟨ds, h1, h2⟩ k => by
  obtain ⟨a, vs, e, hr, ht, hl⟩ := seqOf_rep w r h1
  refine ⟨a, vs, by rw [e], ?_⟩
  cases d with
  | tup es =>
    cases h1
    exact .inr ⟨ht rfl, by rw [← e]; exact k.now w r h2⟩
  | lst _ => exact .inl ⟨hl rfl, fun p hp => out_newT w hr h2 k hp⟩
  | ksq _ => exact .inl ⟨hl rfl, fun p hp => out_newT w hr h2 k hp⟩
  | loc _ => exact .inl ⟨hl rfl, fun p hp => out_newT w hr h2 k hp⟩
  | non => cases h1
  | bl _ => cases h1
  | int _ => cases h1
  | str _ => cases h1
  | obj _ _ _ => cases h1
  | dic _ _ => cases h1
  | ref _ => cases h1
  | ty _ => cases h1
  | exc _ _ _ => cases h1
/-- isinstance of a built-in class -/
def tyN (S : Sto) : D → Option String
  | .non => some "NoneType"
  | .bl _ => some "bool"
  | .int _ => some "int"
  | .str _ => some "str"
  | .tup _ => some "tuple"
  | .lst _ => some "list"
  | .loc n => match S[n]? with
    | some (some (.lst _)) => some "list"
    | some (some (.dic _ _)) => some "dict"
    | some (some (.dicT _ _)) => some "dict"
    | _ => none
  | .dic _ _ => some "dict"
  | _ => none
def isiB (a b : String) : Bool := a == b || (a == "bool" && b == "int")
def basicT : List String := ["bool", "int", "str", "tuple", "list", "dict"]
def aIsi : R2D := fun d c S q => ∃ a b, tyN S d = some a ∧ c = .ty b ∧ basicT.contains b = true ∧ q (.bl (isiB a b)) S
theorem kit_basic : ∀ a ∈ "NoneType" :: basicT, ∀ b ∈ basicT, L2.kitB a b = some (isiB a b) := by decide +kernel
theorem tyX_of {m : Nat → Addr} {S : Sto} {Z : Addr → Prop} {H : Hp} {d : D} {v : V} {a : String} (w : Wd K U m S Z H) (r : Rep K m S.length (vis m S Z H) d v) (h : tyN S d = some a) : TyX K H v (.type a) ∧ a ∈ "NoneType" :: basicT := by
  cases d with
  | non => cases h; rw [Rep] at r; rw [r]; exact ⟨.base .non, by decide⟩
  | bl _ => cases h; rw [Rep] at r; rw [r]; exact ⟨.base (.bl _), by decide⟩
  | int _ => cases h; rw [Rep] at r; rw [r]; exact ⟨.base (.int _), by decide⟩
  | str _ => cases h; rw [Rep] at r; rw [r]; exact ⟨.base (.str _), by decide⟩
  | tup _ =>
    cases h
    rw [Rep] at r
    obtain ⟨p, vs, e, h1, _⟩ := r
    rw [e]
    refine ⟨?_, by decide⟩
    rcases h1 with (h1 | ⟨o, h1⟩) | ⟨o, its, n, h1, h2, _⟩
    · exact .base (.tup (vis_sub h1))
    · exact .fTuple (vis_sub h1)
    · exact .kTuple h1 h2
  | lst _ =>
    cases h
    rw [Rep] at r
    obtain ⟨p, vs, e, h1, _⟩ := r
    rw [e]
    exact ⟨.base (.lst (vis_sub h1)), by decide⟩
  | dic _ _ =>
    cases h
    rw [Rep] at r
    obtain ⟨p, vs, e, h1, _⟩ := r
    rw [e]
    exact ⟨.base (.dK (vis_sub h1)), by decide⟩
  | loc n =>
    rw [Rep] at r
    rw [tyN] at h
    rw [r.1]
    cases hS : S[n]? with
    | none => rw [hS] at h; cases h
    | some o =>
      cases o with
      | none => rw [hS] at h; cases h
      | some o =>
        rw [hS] at h
        cases o with
        | lst ds => cases h; obtain ⟨vs, h1, _⟩ := w.rep n _ hS; exact ⟨.base (.lst h1), by decide⟩
        | obj _ _ _ => cases h
        | dic _ _ => cases h; obtain ⟨vs, h1, _⟩ := w.rep n _ hS; exact ⟨.base (.dK h1), by decide⟩
        | dicT _ _ => cases h; obtain ⟨vs, h1, _⟩ := w.rep n _ hS; exact ⟨.base (.dT h1), by decide⟩
  | ksq _ => cases h
  | obj _ _ _ => cases h
  | ref _ => cases h
  | ty _ => cases h
  | exc _ _ _ => cases h
theorem vr_isi : VRN K (rIsi K) (a2 aIsi) := vrn2 fun {_ m S Z H d e v u q Q} w r1 r2 ⟨a, b, h1, e2, h3, h4⟩ k => by
  subst e2
  rw [Rep] at r2
  subst r2
  obtain ⟨h5, h6⟩ := tyX_of w r1 h1
  exact ⟨v, .ty b, .type a, .type b, isiB a b, rfl, .ty b, h5, kit_ty (kit_basic a h6 b (List.contains_iff_mem.mp h3)), k.now w rep_bl h4⟩
/-! ### items, slices -/
def aIx : R2D := fun a b S q => ∃ i, b = .int i ∧ match a with
  | .str z => z.length ≤ sizeLine ∧ ∃ c, atI z.cps.toList i = some c ∧ q (.str ⟨#[c]⟩) S
  | a => ∃ ds d, seqOf S a = some ds ∧ atI ds i = some d ∧ q d S
theorem atI_reps {m : Nat → Addr} {N : Nat} {Hv : Hp} {ds : List D} {vs : List V} {i : Int} {d : D} (r : Reps K m N Hv ds vs) (h : atI ds i = some d) : ∃ v, atI vs i = some v ∧ Rep K m N Hv d v := by
  unfold atI at h ⊢
  rw [Reps.len r]
  cases hx : ixN ds.length i with
  | none => rw [hx] at h; cases h
  | some j =>
    rw [hx] at h
    exact Reps.get r h
theorem vr_ix : VR2 K (rIx K) aIx := fun {_ m S Z H a b v u q Q} w r1 r2 ⟨i, e2, h⟩ k => by
  subst e2
  rw [Rep] at r2
  have go : (∃ ds d, seqOf S a = some ds ∧ atI ds i = some d ∧ q d S) → rIx K v u H Q := fun ⟨ds, d, h1, h2, h3⟩ => by
    obtain ⟨p, vs, e, hr, hs⟩ := seq_any w r1 h1
    obtain ⟨x, hx, rx⟩ := atI_reps hr h2
    rcases hs with hs | hs
    · exact .inl ⟨p, vs, i, x, e, r2, hs, hx, k.now w rx h3⟩
    · exact .inr (.inl ⟨p, vs, i, x, e, r2, hs, hx, k.now w rx h3⟩)
  cases a <;> first
    | (rw [Rep] at r1; obtain ⟨h1, c, h2, h3⟩ := h; exact .inr (.inr ⟨_, i, c, r1, r2, h1, h2, k.now w rep_str h3⟩))
    | exact go h
def cutD (ds : List D) (lo hi : Option Int) : List D := (ds.drop (HT.sIx ds.length 0 lo)).take (HT.sIx ds.length ds.length hi - HT.sIx ds.length 0 lo)
def aSl (fz : Bool) (a : D) (lo hi : Option Int) (S : Sto) (q : D → Sto → Prop) : Prop := match a with
  | .str z => z.length ≤ sizeLine ∧ q (.str (cutS z lo hi)) S
  | .tup ds => q (.tup (cutD ds lo hi)) S
  | a => ∃ ds, seqOf S a = some ds ∧ newL fz (cutD ds lo hi) S q
abbrev rSlAll (K : PySem.W.Frag) : V → Option Int → Option Int → Hp → VK → Prop := fun x lo hi H Q => rSlL K x lo hi H Q ∨ rSlS x lo hi H Q ∨ rSlA K x lo hi H Q
theorem or_sl {X : Cx} : SlR X (rSlAll X.K) := sl_list.or (sl_str.or sl_tupA)
theorem reps_cut {m : Nat → Addr} {N : Nat} {Hv : Hp} {ds : List D} {vs : List V} {lo hi : Option Int} (r : Reps K m N Hv ds vs) : Reps K m N Hv (cutD ds lo hi) (cutV vs lo hi) := by
  unfold cutD cutV
  rw [← Reps.len r]
  exact (r.drop _).take _
theorem vr_sl {fz : Bool} {m : Nat → Addr} {S : Sto} {Z : Addr → Prop} {H : Hp} {a : D} {v : V} {lo hi : Option Int} {q : D → Sto → Prop} {Q : VK} (w : Wd K U m S Z H) (r1 : Rep K m S.length (vis m S Z H) a v) (h : aSl fz a lo hi S q) (k : Outs m S Z H K U (rD K) q Q) : rSlAll K v lo hi H Q := by
  have go : a.isTup = false → (∃ ds, seqOf S a = some ds ∧ newL fz (cutD ds lo hi) S q) → rSlAll K v lo hi H Q := fun ht ⟨ds, h1, h2⟩ => by
    obtain ⟨p, vs, e, hr, _, hl⟩ := seqOf_rep w r1 h1
    exact .inl ⟨p, vs, e, hl ht, fun p hp => out_newL w (reps_cut hr) h2 k hp⟩
  cases a with
  | str z => rw [Rep] at r1; exact .inr (.inl ⟨z, r1, h.1, k.now w rep_str h.2⟩)
  | tup ds =>
    obtain ⟨p, vs, e, hr, ht, _⟩ := seqOf_rep (ds := ds) w r1 rfl
    refine .inr (.inr ⟨p, vs, e, ht rfl, fun hw => ?_, fun _ p hp => out_newT w (reps_cut hr) h k hp⟩)
    have e2 : cutD ds lo hi = ds := by
      unfold cutD
      rw [← Reps.len hr, hw.1, hw.2, List.drop_zero, Nat.sub_zero, Reps.len hr, List.take_length]
    have h' : q (.tup (cutD ds lo hi)) S := h
    rw [e2] at h'
    rw [← e]
    exact k.now w r1 h'
  | lst _ => exact go rfl h
  | ksq _ => exact go rfl h
  | loc _ => exact go rfl h
  | non => exact go rfl h
  | bl _ => exact go rfl h
  | int _ => exact go rfl h
  | obj _ _ _ => exact go rfl h
  | dic _ _ => exact go rfl h
  | ref _ => exact go rfl h
  | ty _ => exact go rfl h
  | exc _ _ _ => exact go rfl h
end
abbrev GO := G (Option Int)
def gNoP : GO := fun _ S q => q none S
def gPart (ge : G D) : GO := fun ρ S q => ge ρ S fun d S1 => ∃ i, d = .int i ∧ q (some i) S1
def gIx (ga gb : G D) : G D := gB2 aIx ga gb
def gSl (fz : Bool) (ga : G D) (gl gh : GO) : G D := fun ρ S q => ga ρ S fun a S1 => gl ρ S1 fun lo S2 => gh ρ S2 fun hi S3 => aSl fz a lo hi S3 q
section
variable {X : Cx} {pos p2 : Pos} {a b e : Expr} {ga gb ge : G D} {gl gh : GO} {lo hi : Option Expr}
theorem d_ix (ha : PE X a (tofE X.K U ga)) (hb : PE X b (tofE X.K U gb)) (hs : PlainIx b := by intro _ _; rfl) : PE X (.Subscript a b pos) (tofE X.K U (gIx ga gb)) :=
  weakE (pe_ix ix_seq ha hb hs) fun _ _ _ h => two_in vr_ix h
theorem do_none : PO X none (tofO X.K U gNoP) := weakO po_none fun σ H Q ⟨m, S, Z, ρ, q, w, rs, h, k⟩ => k.now w rfl h
theorem do_some (h : PE X e (tofE X.K U ge)) : PO X (some e) (tofO X.K U (gPart ge)) := weakO (po_some h) fun σ H Q ⟨m, S, Z, ρ, q, w, rs, h, k⟩ => tof_in w rs h fun v1 H1 m1 d1 S1 e1 w1 r1 ⟨i, ed, h1⟩ => by
  subst ed
  have r1' : Rep X.K m1 S1.length (vis m1 S1 Z H1) (.int i) v1 := r1
  rw [Rep] at r1'
  exact ⟨i, r1', k.at e1 w1 rfl h1⟩
theorem d_sl (fz : Bool) (ha : PE X a (tofE X.K U ga)) (hl : PO X lo (tofO X.K U gl)) (hh : PO X hi (tofO X.K U gh)) : PE X (.Subscript a (.Slice lo hi none p2) pos) (tofE X.K U (gSl fz ga gl gh)) :=
  weakE (pe_slice or_sl ha hl hh) fun σ H Q ⟨m, S, Z, ρ, q, w, rs, h, k⟩ => tof_in w rs h fun v1 H1 m1 d1 S1 e1 w1 r1 h1 => tof_in w1 (rs.ext e1) h1 fun v2 H2 m2 d2 S2 e2 w2 r2 h2 => tof_in w2 (rs.ext (e1.trans e2)) h2 fun v3 H3 m3 d3 S3 e3 w3 r3 h3 => by
    cases (show d2 = v2 from r2)
    cases (show d3 = v3 from r3)
    exact vr_sl w3 (r1.ext (e2.trans e3)) h3 (k.ext ((e1.trans e2).trans e3))
/-- a built-in class as a value -/
theorem d_gty {x : Str} {T : String} (hg : Gl X x) (hm : X.mg x = none) (hb : bootBuiltins x = some (.type T)) (hn : x ≠ "__name__" := by decide) (hd : (x == ("__debug__" : Str)) = false := by decide) : PE X (.Name x pos) (tofE X.K U (gC (.ty T))) :=
  ofC (pe_bltn (v := .ty T) hg hm hb rfl hn hd) fun _ _ _ _ => by simp [Rep]
end

/-! ### f-strings -/
def gFmt (ge : G D) : G D := fun ρ S q => ge ρ S fun d S1 => match d with
  | .str y => y.length ≤ sizeLine ∧ q (.str y) S1
  | .int i => i.natAbs.log2 < 1920 ∧ q (.str (showI i)) S1
  | _ => False
def gJs : List (G D) → Str → Env_ → Sto → (Str → Sto → Prop) → Prop
  | [], acc, _, S, q => q acc S
  | g :: gs, acc, ρ, S, q => g ρ S fun d S1 => ∃ y, d = .str y ∧ (acc ++ y).length ≤ sizeLine ∧ gJs gs (acc ++ y) ρ S1 q
def gJoined (gs : List (G D)) : G D := fun ρ S q => gJs gs Str.empty ρ S fun out S1 => q (.str out) S1
inductive DJ (X : Cx) (U : Wi) : List Expr → List (G D) → Prop where
  | nil : DJ X U [] []
  | cons {e : Expr} {g : G D} {es : List Expr} {gs : List (G D)} (h : PE X e (tofE X.K U g)) (r : DJ X U es gs) : DJ X U (e :: es) (g :: gs)
theorem DJ.pj {X : Cx} {es : List Expr} {gs : List (G D)} (h : DJ X U es gs) : PJ X es (gs.map (tofE X.K U)) := by
  induction h with
  | nil => exact .nil
  | cons h _ ih => exact .cons h ih
theorem js_in {K : PySem.W.Frag} {ρ : Env_} {σ : L2.St} : ∀ {gs : List (G D)} {acc : Str} {m : Nat → Addr} {S : Sto} {Z : Addr → Prop} {H : Hp} {q : D → Sto → Prop} {Q : VK}, Wd K U m S Z H → RelS K m S.length (vis m S Z H) ρ σ →
    gJs gs acc ρ S (fun out S1 => q (.str out) S1) → Outs m S Z H K U (rD K) q Q → tJs (gs.map (tofE K U)) acc σ H fun out H1 => Q (.str out) H1
  | [], _, _, _, _, _, _, _, w, rs, h, k => k.now w rep_str h
  | g :: gs, _, _, _, _, _, _, _, w, rs, h, k => tof_in w rs h fun v1 H1 m1 d1 S1 e1 w1 r1 ⟨y, ed, h1, h2⟩ => by
    subst ed
    rw [rD, Rep] at r1
    exact ⟨y, r1, h1, js_in w1 (rs.ext e1) h2 (k.ext e1)⟩
section
variable {X : Cx} {pos : Pos} {e v1 v2 : Expr} {rest : List Expr} {ge : G D} {gs : List (G D)}
theorem d_fmt (he : PE X e (tofE X.K U ge)) : PE X (.FormattedValue e (-1) none pos) (tofE X.K U (gFmt ge)) :=
  weakE (pe_fmt he) fun σ H Q ⟨m, S, Z, ρ, q, w, rs, h, k⟩ => tof_in w rs h fun u1 H1 m1 d1 S1 e1 w1 r1 h1 => by
    cases d1 <;> first
      | exact False.elim h1
      | (rw [rD, Rep] at r1; exact .inl ⟨_, r1, h1.1, k.at e1 w1 rep_str h1.2⟩)
      | (rw [rD, Rep] at r1; exact .inr ⟨_, r1, h1.1, k.at e1 w1 rep_str h1.2⟩)
theorem d_joined (h : DJ X U (v1 :: v2 :: rest) gs) : PE X (.JoinedStr (v1 :: v2 :: rest) pos) (tofE X.K U (gJoined gs)) :=
  weakE (pe_joined h.pj) fun σ H Q ⟨m, S, Z, ρ, q, w, rs, h, k⟩ => js_in w rs h k
end

/-! ### methods of built-in types -/
section
variable {K : PySem.W.Frag}
theorem tyV_of {m : Nat → Addr} {S : Sto} {Z : Addr → Prop} {H : Hp} {T : String} {d : D} {v : V} (w : Wd K U m S Z H) (r : Rep K m S.length (vis m S Z H) d v) (hT : T ≠ "tuple") (h : isTy T S d = true) : tyV K T v H := by
  cases d with
  | str _ => rw [Rep] at r; rw [r]; exact beq_iff_eq.mp h
  | int _ => rw [Rep] at r; rw [r]; exact beq_iff_eq.mp h
  | lst _ => rw [Rep] at r; obtain ⟨a, vs, e, h1, _⟩ := r; rw [e]; exact .inl ⟨beq_iff_eq.mp h, vs, SqL.of (vis_sub h1)⟩
  | ksq _ => rw [Rep] at r; obtain ⟨a, vs, e, h1, _⟩ := r; rw [e]; exact .inl ⟨beq_iff_eq.mp h, vs, SqL.sub vis_le h1⟩
  | dic _ _ => rw [Rep] at r; obtain ⟨a, vs, e, h1, _⟩ := r; rw [e]; exact .inr (.inr (.inl ⟨beq_iff_eq.mp h, .inl ⟨_, vis_sub h1⟩⟩))
  | tup _ => exact absurd (beq_iff_eq.mp h) hT
  | loc n =>
    rw [Rep] at r
    rw [isTy] at h
    rw [r.1]
    cases hS : S[n]? with
    | none => rw [hS] at h; cases h
    | some o =>
      cases o with
      | none => rw [hS] at h; cases h
      | some o =>
        rw [hS] at h
        cases o with
        | lst ds => obtain ⟨vs, h1, _⟩ := w.rep n _ hS; exact .inl ⟨beq_iff_eq.mp h, vs, SqL.of h1⟩
        | obj _ _ _ => cases h
        | dic _ _ => obtain ⟨vs, h1, _⟩ := w.rep n _ hS; exact .inr (.inr (.inl ⟨beq_iff_eq.mp h, .inl ⟨_, h1⟩⟩))
        | dicT _ _ => obtain ⟨vs, h1, _⟩ := w.rep n _ hS; exact .inr (.inr (.inl ⟨beq_iff_eq.mp h, .inr ⟨_, h1⟩⟩))
  | non => cases h
  | bl _ => cases h
  | obj _ _ _ => cases h
  | ref _ => cases h
  | ty _ => cases h
  | exc _ _ _ => cases h
end
def gMt (T : String) (r : D → RND) (go : G D) (gs : G (List D)) : G D := fun ρ S q => go ρ S fun o S1 => isTy T S1 o = true ∧ gs ρ S1 fun ds S2 => r o ds S2 q
section
variable {X : Cx} {o e : Expr} {es : List Expr} {go : G D} {gs : G (List D)} {name : Str} {apos cpos : Pos} {T id : String} {r : V → List V → Hp → VK → Prop} {g : D → RND}
theorem d_bm (hT : T ≠ "tuple") (pa : PlainAttrs T) (slot : Slot T name id) (hty : typeOf (.builtin id) = pure (.type "method_descriptor")) (hm : MtR X id r) (hv : VRM X.K T r g) (ho : PE X o (tofE X.K U go)) (ha : PA X (e :: es) (tofA X.K U gs))
    (hbase : attributeBase o name X.env (eval o X.env) = eval o X.env := by rfl)
    (hfew : ((backTo cpos (starEach (e :: es) X.env)).all (fun x => !x.1) && (backToKw cpos (keywordEach [] X.env)).all (fun x => x.1.isSome)
      && decide ((e :: es).length + ([] : List Keyword).length + (if ([] : List Keyword).isEmpty then 0 else 1) < 30)) = true := by rfl)
    (hline : (apos.endLine == cpos.line) = true := by rfl) (hs : starEach (e :: es) X.env = (false, eval e X.env) :: starEach es X.env := by rfl) (hplain : (backTo cpos (starEach es X.env)).any (·.1) = false := by rfl) :
    PE X (.Call (.Attribute o name apos) (e :: es) [] cpos) (tofE X.K U (gMt T g go gs)) :=
  weakE (pe_bm pa slot hty hm ho ha hbase hfew hline hs hplain) fun σ H Q ⟨m, S, Z, ρ, q, w, rs, h, k⟩ => tof_in w rs h fun v1 H1 m1 d1 S1 e1 w1 r1 h1 => ⟨tyV_of w1 r1 hT h1.1, tof_in w1 (rs.ext e1) h1.2 fun v2 H2 m2 d2 S2 e2 w2 r2 h2 => hv w2 (r1.ext e2) r2 h2 (k.ext (e1.trans e2))⟩
theorem d_bm0 (hT : T ≠ "tuple") (pa : PlainAttrs T) (slot : Slot T name id) (hty : typeOf (.builtin id) = pure (.type "method_descriptor")) (hm : MtR X id r) (hv : VRM X.K T r g) (ho : PE X o (tofE X.K U go))
    (hbase : attributeBase o name X.env (eval o X.env) = eval o X.env := by rfl) (hline : (apos.endLine == cpos.line) = true := by rfl) : PE X (.Call (.Attribute o name apos) [] [] cpos) (tofE X.K U (gMt T g go gNil)) :=
  weakE (pe_bm0 pa slot hty hm ho hbase hline) fun σ H Q ⟨m, S, Z, ρ, q, w, rs, h, k⟩ => tof_in w rs h fun v1 H1 m1 d1 S1 e1 w1 r1 h1 => ⟨tyV_of w1 r1 hT h1.1, hv w1 r1 reps_nil h1.2 (k.ext e1)⟩
end
section
variable {K : PySem.W.Frag}
/-- xs.append(y) -/
def aAppend : D → RND := fun o as S q => ∃ n ds y, o = .loc n ∧ as = [y] ∧ S[n]? = some (some (.lst ds)) ∧ ds.length < sizeLine ∧ q .non (S.set n (some (.lst (ds ++ [y]))))
theorem vm_append : VRM K "list" rAppend aAppend := fun {_ m S Z H o u a v q Q} w r rs ⟨n, ds, y, e1, e2, hS, hl, h⟩ k => by
  subst e1 e2
  rw [Rep] at r
  obtain ⟨x, ex, rx⟩ := reps1 rs
  obtain ⟨vs, h1, h2⟩ := w.rep n _ hS
  obtain ⟨w3, e3, hv3⟩ := w.upd (o := .lst (vs ++ [x])) (mo := .lst (ds ++ [y])) ⟨_, hS⟩ ⟨_, upd_same, h2.append (Reps.one rx)⟩
  exact ⟨m n, vs, x, r.1, ex, h1, by rw [Reps.len h2]; exact hl, k.at e3 w3 rep_non h⟩
/-- text methods with a text or an int -/
def aS1 (C : Str → Str → Prop) (f : Str → Str → D) : D → RND := fun o as S q => ∃ x y, o = .str x ∧ as = [.str y] ∧ C x y ∧ q (f x y) S
def aS0 (C : Str → Prop) (f : Str → D) : D → RND := fun o as S q => ∃ x, o = .str x ∧ as = [] ∧ C x ∧ q (f x) S
def aSI (C : Str → Int → Prop) (f : Str → Int → D) : D → RND := fun o as S q => ∃ x y, o = .str x ∧ as = [.int y] ∧ C x y ∧ q (f x y) S
theorem vm_zfill : VRM K "str" (fun x xs H Q => ∃ (a : Str) (i : Int), x = .str a ∧ xs = [.int i] ∧ PadOk i = true ∧ Q (.str (Txt.zfill a i)) H) (aSI (fun _ i => PadOk i = true) fun a i => .str (Txt.zfill a i)) := fun w r rs ⟨x, y, e1, e2, h1, h2⟩ k => by
  subst e1 e2
  rw [Rep] at r
  obtain ⟨z, ez, rz⟩ := reps1 rs
  rw [Rep] at rz
  exact ⟨x, y, r, by rw [ez, rz], h1, k.now w rep_str h2⟩
/-- sep.join(texts) -/
def aJoin : D → RND := fun o as S q => ∃ x d ys, o = .str x ∧ as = [d] ∧ seqOf S d = some (ys.map D.str) ∧ (ys.map (·.length)).sum + ys.length * x.length ≤ 16777216 ∧ q (.str (Txt.join x ys)) S
theorem vm_join : VRM K "str" (fun x xs H Q => ∃ a p, ∃ ys : List Str, x = .str a ∧ xs = [.ref p] ∧ (SqL K H p (ys.map V.str) ∨ SqT K H p (ys.map V.str)) ∧ (ys.map (·.length)).sum + ys.length * a.length ≤ 16777216 ∧ Q (.str (Txt.join a ys)) H) aJoin := fun w r rs ⟨x, d, ys, e1, e2, h1, h2, h3⟩ k => by
  subst e1 e2
  rw [Rep] at r
  obtain ⟨z, ez, rz⟩ := reps1 rs
  obtain ⟨a, vs, ea, hr, hs⟩ := seq_any w rz h1
  rw [Reps.strs hr] at hs
  exact ⟨x, a, ys, r, by rw [ez, ea], hs, h2, k.now w rep_str h3⟩
end
/-- xs[i] = v -/
def gSetIx (go gi gv : G D) : GS := fun E ρ S => gv ρ S fun v S1 => go ρ S1 fun o S2 => gi ρ S2 fun i S3 => ∃ n ds k j, o = .loc n ∧ i = .int k ∧ S3[n]? = some (some (.lst ds)) ∧ ixN ds.length k = some j ∧ E.nx ρ (S3.set n (some (.lst (ds.set j v))))
section
variable {X : Cx} {pos pos' : Pos} {o i value : Expr} {go gi gv : G D}
theorem d_setix (ho : PE X o (tofE X.K U go)) (hi : PE X i (tofE X.K U gi)) (hv : PE X value (tofE X.K U gv))
    (ha : ∀ v, assign (.Subscript o i pos') X.env v = (do
      let ov ← holding [v] (eval o X.env)
      let iv ← holding [v, ov] (eval i X.env)
      standAt pos'
      holding [v, ov, iv] (setItem ov iv v)
      release [v, ov, iv] []) := by intro _; rfl)
    (hs : swapsWithSole [.Subscript o i pos'] value pos.line X.env = pure false := by rfl) (hw : swappedStores [.Subscript o i pos'] value X.env = pure none := by rfl)
    (h1 : (assignEach [.Subscript o i pos'] X.env).map (·.2) = [assign (.Subscript o i pos') X.env] := by rfl) : PS X (.Assign [.Subscript o i pos'] value pos) (tofS X.K U (gSetIx go gi gv)) :=
  weakS (ps_asg hv (pg_sub ho hi set_list ha) hs hw h1) fun E σ H ⟨m, S, Z, ρ, D, w, rs, h, k⟩ => tof_in w rs h fun v1 H1 m1 d1 S1 e1 w1 r1 h1 => tof_in w1 (rs.ext e1) h1 fun v2 H2 m2 d2 S2 e2 w2 r2 h2 => tof_in w2 (rs.ext (e1.trans e2)) h2 fun v3 H3 m3 d3 S3 e3 w3 r3 ⟨n, ds, kk, j, eo, ei, hS, hj, h3⟩ => by
    subst eo ei
    have r2' := r2.ext e3
    rw [Rep] at r2'
    rw [rD, Rep] at r3
    obtain ⟨vs, hh, hr⟩ := w3.rep n _ hS
    obtain ⟨w4, e4, hv4⟩ := w3.upd (o := .lst (vs.set j v1)) (mo := .lst (ds.set j d1)) ⟨_, hS⟩ ⟨_, upd_same, hr.set j (r1.ext (e2.trans e3))⟩
    refine ⟨m3 n, vs, kk, j, r2'.1, r3, hh, by rw [Reps.len hr]; exact hj, k.nx.at (((e1.trans e2).trans e3).trans e4) w4 (rs.ext (((e1.trans e2).trans e3).trans e4)) h3⟩
end
end Dl
/-! Dl more: facts of the text, defs by them, pairs of targets, text methods, list methods, own == and isinstance. -/
namespace Dl
open PySem L2

/-! ### what the text's own part says -/
structure FnB (K : PySem.W.Frag) (mg : Str → Option Value) (x : Str) (st : Stmt) (dvs : List V) : Prop where
  ex : ∃ f fd, FunS K x x st dvs f fd ∧ mg x = some (.ref f)
structure MtB (K : PySem.W.Frag) (C : Addr) (m qual : Str) (st : Stmt) (dvs : List V) : Prop where
  ex : ∃ f fd, FunS K m qual st dvs f fd ∧ Meth K C m f
structure MkB (K : PySem.W.Frag) (C : Addr) (qual : Str) (st : Stmt) (dvs : List V) : Prop where
  ex : ∃ f fd, FunS K "__init__" qual st dvs f fd ∧ Mk K C f
section
variable {P : Program} {w : World} {K : PySem.W.Frag} {mg : Str → Option Value} {base : Heap} {x m qual : Str} {st : Stmt} {dvs : List V} {N ps : List Str} {k : Nat} {dsp : DSp} {C : Addr}
theorem fn_body0 {f : Addr} {fd : FuncData} (F : FunS K x qual st dvs f fd) (S : FnScope N ps (defScope st)) (len : ∀ ds S q, dsp ds S q → ds.length = ps.length) (g : GS)
    (hbody : ∀ (cdv : Value) (A : Around) (outer : List Env) (s : Shared) (H : Hp) (E : XK), RoomG k (A.deeper (PyProof.Rows.envOfC qual (defScope st) s.heap.objs.size f cdv)) →
      PSs (cxOf CX0 P w K mg base N qual (defScope st) f cdv A outer s H E).nox (defBody st) (tofS K U0 g))
    (hread : ∀ ds S q, D.unders S.length ds = true → Sto.under S.length S = true → dsp ds S q → g { nx := fun _ S' => q .non S', rt := q } (startD N ds) S) : FnG P w K mg base CX0 (k + 1) f fd ps (spOf K dsp) := by
  refine FnG.by_body F S (spOf_len len) fun cdv A outer s H vs Q E hr ⟨m, St', Z, ds, q, wd, rd, hd, kk⟩ => ?_
  refine ⟨_, (hbody cdv A outer s H E hr).nox, m, St', Z, startD N ds, _, wd, relS_start rd, hread ds St' q (Reps.below rd) wd.under hd, ⟨?_, kk, ?_, ?_⟩⟩
  · exact fun σ' H' m' ρ' S' e' w' _ h' => kk .non H' m' .non S' e' w' rep_non h'
  · exact fun _ _ _ _ _ _ _ _ h => h.elim
  · exact fun _ _ _ _ _ _ _ _ h => h.elim
theorem fnc_of (B : FnB K mg x st dvs) (S : FnScope N ps (defScope st)) (len : ∀ ds S q, dsp ds S q → ds.length = ps.length) (g : GS)
    (hbody : ∀ (f : Addr) (cdv : Value) (A : Around) (outer : List Env) (s : Shared) (H : Hp) (E : XK), RoomG k (A.deeper (PyProof.Rows.envOfC x (defScope st) s.heap.objs.size f cdv)) →
      PSs (cxOf CX0 P w K mg base N x (defScope st) f cdv A outer s H E).nox (defBody st) (tofS K U0 g))
    (hread : ∀ ds S q, D.unders S.length ds = true → Sto.under S.length S = true → dsp ds S q → g { nx := fun _ S' => fin S.length q .non S', rt := fin S.length q } (startD N ds) S) : Fnc P w K mg base x st dvs (k + 1) ps dsp := by
  obtain ⟨f, fd, F, hm⟩ := B.ex
  exact ⟨f, fd, F, hm, fn_body F S len g (hbody f) hread⟩
theorem fnc_of0 (B : FnB K mg x st dvs) (S : FnScope N ps (defScope st)) (len : ∀ ds S q, dsp ds S q → ds.length = ps.length) (g : GS)
    (hbody : ∀ (f : Addr) (cdv : Value) (A : Around) (outer : List Env) (s : Shared) (H : Hp) (E : XK), RoomG k (A.deeper (PyProof.Rows.envOfC x (defScope st) s.heap.objs.size f cdv)) →
      PSs (cxOf CX0 P w K mg base N x (defScope st) f cdv A outer s H E).nox (defBody st) (tofS K U0 g))
    (hread : ∀ ds S q, D.unders S.length ds = true → Sto.under S.length S = true → dsp ds S q → g { nx := fun _ S' => q .non S', rt := q } (startD N ds) S) : Fnc P w K mg base x st dvs (k + 1) ps dsp := by
  obtain ⟨f, fd, F, hm⟩ := B.ex
  exact ⟨f, fd, F, hm, fn_body0 F S len g (hbody f) hread⟩
theorem mfn_of (c : Cls K C) (B : MtB K C m qual st dvs) (S : FnScope N ps (defScope st)) (len : ∀ ds S q, dsp ds S q → ds.length = ps.length) (g : GS)
    (hbody : ∀ (f : Addr) (cdv : Value) (A : Around) (outer : List Env) (s : Shared) (H : Hp) (E : XK), RoomG k (A.deeper (PyProof.Rows.envOfC qual (defScope st) s.heap.objs.size f cdv)) →
      PSs (cxOf CX0 P w K mg base N qual (defScope st) f cdv A outer s H E).nox (defBody st) (tofS K U0 g))
    (hread : ∀ ds S q, D.unders S.length ds = true → Sto.under S.length S = true → dsp ds S q → g { nx := fun _ S' => fin S.length q .non S', rt := fin S.length q } (startD N ds) S) : MFn P w K mg base C m qual st dvs (k + 1) ps dsp := by
  obtain ⟨f, fd, F, hm⟩ := B.ex
  exact ⟨c, f, fd, F, hm, fn_body F S len g (hbody f) hread⟩
theorem mfn_of0 (c : Cls K C) (B : MtB K C m qual st dvs) (S : FnScope N ps (defScope st)) (len : ∀ ds S q, dsp ds S q → ds.length = ps.length) (g : GS)
    (hbody : ∀ (f : Addr) (cdv : Value) (A : Around) (outer : List Env) (s : Shared) (H : Hp) (E : XK), RoomG k (A.deeper (PyProof.Rows.envOfC qual (defScope st) s.heap.objs.size f cdv)) →
      PSs (cxOf CX0 P w K mg base N qual (defScope st) f cdv A outer s H E).nox (defBody st) (tofS K U0 g))
    (hread : ∀ ds S q, D.unders S.length ds = true → Sto.under S.length S = true → dsp ds S q → g { nx := fun _ S' => q .non S', rt := q } (startD N ds) S) : MFn P w K mg base C m qual st dvs (k + 1) ps dsp := by
  obtain ⟨f, fd, F, hm⟩ := B.ex
  exact ⟨c, f, fd, F, hm, fn_body0 F S len g (hbody f) hread⟩
theorem cfn_of0 (mC : mg x = some (.ref C)) (B : MkB K C qual st dvs) (S : FnScope N ps (defScope st)) (len : ∀ ds S q, dsp ds S q → ds.length = ps.length) (g : GS)
    (hbody : ∀ (f : Addr) (cdv : Value) (A : Around) (outer : List Env) (s : Shared) (H : Hp) (E : XK), RoomG k (A.deeper (PyProof.Rows.envOfC qual (defScope st) s.heap.objs.size f cdv)) →
      PSs (cxOf CX0 P w K mg base N qual (defScope st) f cdv A outer s H E).nox (defBody st) (tofS K U0 g))
    (hread : ∀ ds S q, D.unders S.length ds = true → Sto.under S.length S = true → dsp ds S q → g { nx := fun _ S' => q .non S', rt := q } (startD N ds) S) : CFn P w K mg base x C qual st dvs (k + 1) ps dsp := by
  obtain ⟨f, fd, F, hm⟩ := B.ex
  exact ⟨mC, f, fd, F, hm, fn_body0 F S len g (hbody f) hread⟩
/-- a weaker promise -/
theorem Fnc.imp {dsp' : DSp} (F : Fnc P w K mg base x st dvs k ps dsp) (h : ∀ ds S q, dsp' ds S q → dsp ds S q) : Fnc P w K mg base x st dvs k ps dsp' := by
  obtain ⟨f, fd, F1, hm, FO⟩ := F.ex
  exact ⟨f, fd, F1, hm, FO.imp fun vs H Q E ⟨m, S, Z, ds, q, w, r, hh, kk⟩ => ⟨m, S, Z, ds, q, w, r, h _ _ _ hh, kk⟩⟩
end

/-! ### a, b = x, y -/
def gPar (i j : Nat) (ga : G (List D)) : GS := fun E ρ S => ga ρ S fun as S1 => ∃ v u, as = [v, u] ∧ E.nx ((ρ.set i (some v)).set j (some u)) S1
def gPar3 (i j l : Nat) (ga : G (List D)) : GS := fun E ρ S => ga ρ S fun as S1 => ∃ v u z, as = [v, u, z] ∧ E.nx (((ρ.set i (some v)).set j (some u)).set l (some z)) S1
section
variable {X : Cx} {pos : Pos} {ga : G (List D)}
theorem d_par {i j : Nat} {x y : Str} {a b : Expr} {px py pt : Pos} {kt k2 pt2} (hN : X.N.Nodup) (ha : PA X [a, b] (tofA X.K U ga)) (hc : X.calm = true := by rfl) (hi : X.N[i]? = some x := by rfl) (hj : X.N[j]? = some y := by rfl) (hij : i ≠ j := by decide)
    (hx : X.env.scope.names.lookup x = some .local := by rfl) (hy : X.env.scope.names.lookup y = some .local := by rfl)
    (hw : swappedStores [.Tuple [.Name x px, .Name y py] kt pt] (.Tuple [a, b] k2 pt2) X.env = pure (some [x, y]) := by rfl)
    (hs : swapsWithSole [.Tuple [.Name x px, .Name y py] kt pt] (.Tuple [a, b] k2 pt2) pos.line X.env = pure false := by rfl) :
    PS X (.Assign [.Tuple [.Name x px, .Name y py] kt pt] (.Tuple [a, b] k2 pt2) pos) (tofS X.K U (gPar i j ga)) :=
  weakS (ps_par hc hN hi hj hij hx hy ha hw hs) fun E σ H ⟨m, S, Z, ρ, D, w, rs, h, k⟩ => tof_in w rs h fun v1 H1 m1 d1 S1 e1 w1 r1 ⟨v, u, ed, h1⟩ => by
    subst ed
    obtain ⟨v', u', ev, rv, ru⟩ := reps2 r1
    exact ⟨v', u', ev, k.nx.at e1 w1 (((rs.ext e1).set rv).set ru) h1⟩
end

/-! ### texts -/
section
variable {X : Cx}
def rpartS (x y : Str) : Str × Str × Str := match Builtin.Str.lastOccurrence x y 0 x.length with
  | some i => (Builtin.Str.strSub x 0 i, y, Builtin.Str.strSub x (i + y.length) x.length)
  | none => (Str.empty, Str.empty, x)
abbrev rRpart : V → List V → Hp → VK → Prop := fun x xs H Q => ∃ a b, x = .str a ∧ xs = [.str b] ∧ (b.length == 0) = false ∧ a.length ≤ sizeLine ∧ ∀ p, H p = none → Q (.ref p) (upd H p (.tup [.str (rpartS a b).1, .str (rpartS a b).2.1, .str (rpartS a b).2.2]))
theorem mt_rpartition : MtR X "str.rpartition" rRpart := by
  intro pins s σ H x xs v us Q I rx rs h
  obtain ⟨a, b, rfl, rfl, hb, hz, h⟩ := h
  obtain ⟨t, rfl⟩ := rx
  cases rs with
  | cons r1 rs =>
    cases rs
    obtain ⟨u, rfl⟩ := r1
    refine call_meets F.slot_str_rpartition (typeIs_str _ _ _) F.entry_str_rpartition (F.args_str_rpartition_2 _ _) (meets_str_rpartition a b t u hb hz) ?_
    unfold rpartS at h
    revert h
    cases Builtin.Str.lastOccurrence a b 0 a.length with
    | none => intro h; exact laid_parts I h
    | some i => intro h; exact laid_parts I h
end
section
variable {K : PySem.W.Frag}
def aRpart : D → RND := fun o as S q => ∃ x y, o = .str x ∧ as = [.str y] ∧ (y.length == 0) = false ∧ x.length ≤ sizeLine ∧ q (.tup [.str (rpartS x y).1, .str (rpartS x y).2.1, .str (rpartS x y).2.2]) S
theorem reps_s3 {m : Nat → Addr} {N : Nat} {Hv : Hp} {x y z : Str} : Reps K m N Hv [.str x, .str y, .str z] [.str x, .str y, .str z] := Reps.cons rep_str (Reps.cons rep_str (Reps.one rep_str))
theorem vm_rpartition : VRM K "str" rRpart aRpart := fun w r rs ⟨x, y, e1, e2, h1, h2, h3⟩ k => by
  subst e1 e2
  rw [Rep] at r
  obtain ⟨z, ez, rz⟩ := reps1 rs
  rw [Rep] at rz
  exact ⟨x, y, r, by rw [ez, rz], h1, h2, fun p hp => out_newT w reps_s3 h3 k hp⟩
abbrev rPart : V → List V → Hp → VK → Prop := fun x xs H Q => ∃ a b, x = .str a ∧ xs = [.str b] ∧ (b.length == 0) = false ∧ a.length ≤ sizeLine ∧
    ∀ p, H p = none → Q (.ref p) (upd H p (.tup [.str (Txt.partition a b).1, .str (Txt.partition a b).2.1, .str (Txt.partition a b).2.2]))
def aPart : D → RND := fun o as S q => ∃ x y, o = .str x ∧ as = [.str y] ∧ (y.length == 0) = false ∧ x.length ≤ sizeLine ∧ q (.tup [.str (Txt.partition x y).1, .str (Txt.partition x y).2.1, .str (Txt.partition x y).2.2]) S
theorem vm_partition : VRM K "str" rPart aPart := fun w r rs ⟨x, y, e1, e2, h1, h2, h3⟩ k => by
  subst e1 e2
  rw [Rep] at r
  obtain ⟨z, ez, rz⟩ := reps1 rs
  rw [Rep] at rz
  exact ⟨x, y, r, by rw [ez, rz], h1, h2, fun p hp => out_newT w reps_s3 h3 k hp⟩
abbrev rSplit : V → List V → Hp → VK → Prop := fun x xs H Q => ∃ a b, x = .str a ∧ xs = [.str b] ∧ (b.length == 0) = false ∧ a.length + 2 ≤ sizeLine ∧ rNewStrs (Txt.split a b) H Q
def aSplit (fz : Bool) : D → RND := fun o as S q => ∃ x y, o = .str x ∧ as = [.str y] ∧ (y.length == 0) = false ∧ x.length + 2 ≤ sizeLine ∧ newL fz ((Txt.split x y).map D.str) S q
theorem vm_split {fz : Bool} : VRM K "str" rSplit (aSplit fz) := fun w r rs ⟨x, y, e1, e2, h1, h2, h3⟩ k => by
  subst e1 e2
  rw [Rep] at r
  obtain ⟨z, ez, rz⟩ := reps1 rs
  rw [Rep] at rz
  exact ⟨x, y, r, by rw [ez, rz], h1, h2, fun p hp => out_newL w (Reps.ofStrs _) h3 k hp⟩
/-- += of ints and texts -/
abbrev rIadd : R2 := fun x y H Q => rI0 (fun i j => .int (i + j)) x y H Q ∨ (∃ i j, x = .str i ∧ y = .str j ∧ i.length + j.length ≤ sizeLine ∧ Q (.str (i ++ j)) H)
theorem or_iadd {X : Cx} : OpR X (inplaceOp .Add) rIadd := iop_add.or iop_add_str
def aIadd : R2D := fun a b S q => match a, b with
  | .int i, .int j => q (.int (i + j)) S
  | .str x, .str y => x.length + y.length ≤ sizeLine ∧ q (.str (x ++ y)) S
  | _, _ => False
theorem vr_iadd : VR2 K rIadd aIadd := fun {_ m S Z H a b v u q Q} w r1 r2 h k => by
  cases a <;> cases b <;> first
    | exact False.elim h
    | (rw [Rep] at r1 r2; exact .inl ⟨_, _, r1, r2, k.now w rep_int h⟩)
    | (rw [Rep] at r1 r2; exact .inr ⟨_, _, r1, r2, h.1, k.now w rep_str h.2⟩)
/-! ### list methods -/
def aPop : D → RND := fun o as S q => ∃ n ds y, o = .loc n ∧ as = [] ∧ S[n]? = some (some (.lst ds)) ∧ ds[ds.length - 1]? = some y ∧ q y (S.set n (some (.lst ds.dropLast)))
theorem Reps.dropLast {m : Nat → Addr} {N : Nat} {Hv : Hp} {ds : List D} {vs : List V} (r : Reps K m N Hv ds vs) : Reps K m N Hv ds.dropLast vs.dropLast := by
  rw [List.dropLast_eq_take, List.dropLast_eq_take, Reps.len r]
  exact r.take _
theorem vm_pop : VRM K "list" rPop aPop := fun {_ m S Z H o u a v q Q} w r rs ⟨n, ds, y, e1, e2, hS, hl, h⟩ k => by
  subst e1 e2
  rw [Rep] at r
  rw [Reps] at rs
  obtain ⟨vs, h1, h2⟩ := w.rep n _ hS
  obtain ⟨x, hx, rx⟩ := Reps.get h2 hl
  obtain ⟨w3, e3, hv3⟩ := w.upd (o := .lst vs.dropLast) (mo := .lst ds.dropLast) ⟨_, hS⟩ ⟨_, upd_same, h2.dropLast⟩
  exact ⟨m n, vs, x, r.1, rs, h1, by rw [Reps.len h2]; exact hx, k.at e3 w3 (rx.ext e3) h⟩
def aPopAt : D → RND := fun o as S q => ∃ n ds i k y, o = .loc n ∧ as = [.int i] ∧ S[n]? = some (some (.lst ds)) ∧ -(2 ^ 63) ≤ i ∧ i < 2 ^ 63 ∧ seqIndex? i ds.length = some k ∧ ds[k]? = some y ∧ q y (S.set n (some (.lst (ds.eraseIdx k))))
theorem Reps.eraseIdx {m : Nat → Addr} {N : Nat} {Hv : Hp} : ∀ {ds : List D} {vs : List V} (n : Nat), Reps K m N Hv ds vs → Reps K m N Hv (ds.eraseIdx n) (vs.eraseIdx n)
  | [], _, n, r => by rw [show _ = [] from r]; simp [Reps]
  | d :: ds, _, 0, r => by
    obtain ⟨v, q, e1, r1, r2⟩ := r
    rw [e1]; exact r2
  | d :: ds, _, n + 1, r => by
    obtain ⟨v, q, e1, r1, r2⟩ := r
    rw [e1]
    exact Reps.cons r1 (Reps.eraseIdx n r2)
theorem vm_popAt : VRM K "list" rPopAt aPopAt := fun {_ m S Z H o u a v q Q} w r rs ⟨n, ds, i, j, y, e1, e2, hS, hi, hi2, hj, hl, h⟩ k => by
  subst e1 e2
  rw [Rep] at r
  obtain ⟨z, ez, rz⟩ := reps1 rs
  rw [Rep] at rz
  obtain ⟨vs, h1, h2⟩ := w.rep n _ hS
  obtain ⟨x, hx, rx⟩ := Reps.get h2 hl
  obtain ⟨w3, e3, hv3⟩ := w.upd (o := .lst (vs.eraseIdx j)) (mo := .lst (ds.eraseIdx j)) ⟨_, hS⟩ ⟨_, upd_same, h2.eraseIdx j⟩
  exact ⟨m n, vs, i, j, x, r.1, by rw [ez, rz], h1, hi, hi2, by rw [Reps.len h2]; exact hj, hx, k.at e3 w3 (rx.ext e3) h⟩
def aReverse : D → RND := fun o as S q => ∃ n ds, o = .loc n ∧ as = [] ∧ S[n]? = some (some (.lst ds)) ∧ q .non (S.set n (some (.lst ds.reverse)))
theorem vm_reverse : VRM K "list" rReverse aReverse := fun {_ m S Z H o u a v q Q} w r rs ⟨n, ds, e1, e2, hS, h⟩ k => by
  subst e1 e2
  rw [Rep] at r
  rw [Reps] at rs
  obtain ⟨vs, h1, h2⟩ := w.rep n _ hS
  obtain ⟨w3, e3, hv3⟩ := w.upd (o := .lst vs.reverse) (mo := .lst ds.reverse) ⟨_, hS⟩ ⟨_, upd_same, h2.rev⟩
  exact ⟨m n, vs, r.1, rs, h1, k.at e3 w3 rep_non h⟩
def aClear : D → RND := fun o as S q => ∃ n ds, o = .loc n ∧ as = [] ∧ S[n]? = some (some (.lst ds)) ∧ q .non (S.set n (some (.lst [])))
theorem vm_clear : VRM K "list" rClear aClear := fun {_ m S Z H o u a v q Q} w r rs ⟨n, ds, e1, e2, hS, h⟩ k => by
  subst e1 e2
  rw [Rep] at r
  rw [Reps] at rs
  obtain ⟨vs, h1, h2⟩ := w.rep n _ hS
  obtain ⟨w3, e3, hv3⟩ := w.upd (o := .lst []) (mo := .lst []) ⟨_, hS⟩ ⟨_, upd_same, reps_nil⟩
  exact ⟨m n, vs, r.1, rs, h1, k.at e3 w3 rep_non h⟩
def aExtend : D → RND := fun o as S q => ∃ n ds e es, o = .loc n ∧ as = [e] ∧ S[n]? = some (some (.lst ds)) ∧ listOf S e = some es ∧ ds.length + es.length ≤ sizeLine ∧ q .non (S.set n (some (.lst (ds ++ es))))
theorem vm_extend : VRM K "list" rExtend aExtend := fun {_ m S Z H o u a v q Q} w r rs ⟨n, ds, e, es, e1, e2, hS, he, hl, h⟩ k => by
  subst e1 e2
  rw [Rep] at r
  obtain ⟨z, ez, rz⟩ := reps1 rs
  obtain ⟨b, zs, eb, hb, rb⟩ := listOf_rep w rz he
  obtain ⟨vs, h1, h2⟩ := w.rep n _ hS
  obtain ⟨w3, e3, hv3⟩ := w.upd (o := .lst (vs ++ zs)) (mo := .lst (ds ++ es)) ⟨_, hS⟩ ⟨_, upd_same, h2.append rb⟩
  exact ⟨m n, b, vs, zs, r.1, by rw [ez, eb], h1, hb, by rw [Reps.len h2, Reps.len rb]; exact hl, k.at e3 w3 rep_non h⟩
abbrev rInsert : V → List V → Hp → VK → Prop := fun x vs H Q => ∃ (l : Addr) (xs : List V) (i : Int) (y : V), x = .ref l ∧ vs = [.int i, y] ∧ H l = some (.lst xs) ∧ xs.length < sizeLine ∧ 0 ≤ i ∧ i < 2 ^ 63 ∧ Q .non (upd H l (.lst (xs.take i.toNat ++ [y] ++ xs.drop i.toNat)))
def aInsert : D → RND := fun o as S q => ∃ n ds i y, o = .loc n ∧ as = [.int i, y] ∧ S[n]? = some (some (.lst ds)) ∧ ds.length < sizeLine ∧ 0 ≤ i ∧ i < 2 ^ 63 ∧ q .non (S.set n (some (.lst (ds.take i.toNat ++ [y] ++ ds.drop i.toNat))))
theorem vm_insert : VRM K "list" rInsert aInsert := fun {_ m S Z H o u a v q Q} w r rs ⟨n, ds, i, y, e1, e2, hS, hl, hi, hi2, h⟩ k => by
  subst e1 e2
  rw [Rep] at r
  obtain ⟨z, z', ez, rz, rz'⟩ := reps2 rs
  rw [Rep] at rz
  obtain ⟨vs, h1, h2⟩ := w.rep n _ hS
  obtain ⟨w3, e3, hv3⟩ := w.upd (o := .lst (vs.take i.toNat ++ [z'] ++ vs.drop i.toNat)) (mo := .lst (ds.take i.toNat ++ [y] ++ ds.drop i.toNat)) ⟨_, hS⟩ ⟨_, upd_same, ((h2.take _).append (Reps.one rz')).append (h2.drop _)⟩
  exact ⟨m n, vs, i, z', r.1, by rw [ez, rz], h1, by rw [Reps.len h2]; exact hl, hi, hi2, k.at e3 w3 rep_non h⟩
/-! ### isinstance of an own class -/
structure IsC (K : PySem.W.Frag) (C : Addr) : Prop where
  cl : Cls K C
  ha : PySem.W.findIn K (.ref C) "__class__" = some (some (.builtin "object.__class__"))
  hn : PySem.W.specialIn K (.builtin "object.__class__") "__get__" = some (some (.builtin "getset_descriptor.__get__"))
  htk : PySem.W.takesIn K (.builtin "object.__class__") = some true
  hm : PySem.W.mroIn K C (.type "object") = some true
/-- which of two classes -/
structure KitC (K : PySem.W.Frag) (C C' : Addr) (b : Bool) : Prop where
  is : PySem.W.kitOne K (.ref C) (.ref C') = some b
structure KitB (K : PySem.W.Frag) (C' : Addr) : Prop where
  no : ∀ a ∈ "NoneType" :: basicT, PySem.W.kitOne K (.type a) (.ref C') = some false
def aIsiC (K : PySem.W.Frag) : R2D := fun d c S q => ∃ C', c = .ref C' ∧ ((∃ C ks ds b, objOf S d = some (C, ks, ds) ∧ IsC K C ∧ KitC K C C' b ∧ q (.bl b) S) ∨ (∃ a, tyN S d = some a ∧ KitB K C' ∧ q (.bl false) S))
theorem vr_isiC : VRN K (rIsi K) (a2 (aIsiC K)) := vrn2 fun {_ m S Z H d e v u q Q} w r1 r2 ⟨C', e2, h⟩ k => by
  subst e2
  rw [Rep] at r2
  subst r2
  rcases h with ⟨C, ks, ds, b, h1, ic, kc, h4⟩ | ⟨a, h1, kb, h4⟩
  · obtain ⟨x, dx, vs, ev, hx, _, _⟩ := objOf_rep w r1 h1
    subst ev
    exact ⟨.ref x, .ref C', .ref C, .ref C', b, rfl, .own C', .base (.ins hx ic.cl ic.ha ic.hn ic.htk ic.hm), kc.is, k.now w rep_bl h4⟩
  · obtain ⟨h5, h6⟩ := tyX_of w r1 h1
    exact ⟨v, .ref C', .type a, .ref C', false, rfl, .own C', h5, kb.no a h6, k.now w rep_bl h4⟩
end
/-! ### own == -/
def rOwn (C : Addr) (sp : Sp) : R2 := fun x y H Q => ∃ a b dx dy fs gs, x = .ref a ∧ y = .ref b ∧ H a = some (.ins C dx fs) ∧ H b = some (.ins C dy gs) ∧ sp [x, y] H (fun v H' => (∃ k, v = .bl k) ∧ Q v H') fun _ _ _ => False
def aOwn (C : Addr) (dsp : DSp) : R2D := fun a b S q => (∃ ks ds, objOf S a = some (C, ks, ds)) ∧ (∃ ks ds, objOf S b = some (C, ks, ds)) ∧ dsp [a, b] S fun d S' => (∃ k, d = .bl k) ∧ q d S'
section
variable {X : Cx} {C : Addr} {qual : Str} {st : Stmt} {dvs : List V} {k : Nat} {ps : List Str} {dsp : DSp}
theorem or_own (F : MFn X.prog X.w X.K X.mg X.base C "__eq__" qual st dvs k ps dsp) (hr : RoomG k X.A) (b : Bnd "__eq__" qual st ps 2 [] [.p 0, .p 1] dvs.length) : OpR X (compareOp .Eq) (rOwn C (spOf X.K dsp)) := by
  intro pins s σ H x y v u Q I rx ry d
  obtain ⟨a, b', dx, dy, fs, gs, rfl, rfl, ha, hb', hsp⟩ := d
  cases rx
  cases ry
  obtain ⟨f, fd, FS, hm, FO⟩ := F.ex
  obtain ⟨its, KB⟩ := kbn_of FS b
  obtain ⟨mA, J, _⟩ := ins_get I.hok ha
  obtain ⟨mB, J', _⟩ := ins_get I.hok hb'
  obtain ⟨od, J, _⟩ := J.look
  obtain ⟨od', J', _⟩ := J'.look
  obtain ⟨m, hF⟩ := I.fr
  show wpAny (model X.prog X.w) X.A (richCompare .Eq (.ref a) (.ref b')) (EP X pins σ Q) X.xe s
  refine PySem.W.cmp_K (op := .Eq) (tb := .ref C) hr.units0 hF I.ok.mod.kin J J'.type (by simp [PySem.W.notFirst]) hm.at_ hm.fn ?_
  have r2 : Vals [V.ref a, V.ref b'] [Value.ref a, Value.ref b'] := .cons rfl (.cons rfl .nil)
  refine thn (run_fnG FO hr KB pass0 I r2 .nil rfl rfl (Q := fun v H' => (∃ k, v = .bl k) ∧ Q v H') (by simpa [gat, pick] using hsp)) fun w' s' ⟨z, H', I', rz, ⟨kk, ez⟩, q⟩ => ?_
  subst ez
  cases rz
  exact ⟨.bl kk, H', I', rfl, q⟩
theorem vr_own {K : PySem.W.Frag} : VR2 K (rOwn C (spOf K dsp)) (aOwn C dsp) := fun {_ m S Z H a b v u q Q} w r1 r2 ⟨⟨ks, ds, h1⟩, ⟨ks', ds', h2⟩, h3⟩ k => by
  obtain ⟨x, dx, vs, ev, hx, _, _⟩ := objOf_rep w r1 h1
  obtain ⟨y, dy, us, eu, hy, _, _⟩ := objOf_rep w r2 h2
  refine ⟨x, y, dx, dy, _, _, ev, eu, hx, hy, m, S, Z, [a, b], _, w.w0, Reps.cons r1 (Reps.one r2), h3, fun v1 H1 m1 d1 S1 e1 w1 rr ⟨⟨kk, ek⟩, hq⟩ => ?_⟩
  subst ek
  have rr' := rr
  rw [rD, Rep] at rr'
  exact ⟨⟨kk, rr'⟩, k.at e1 (w.on e1 w1.toWd0) rr hq⟩
end
end Dl
/-! Dl readings: rules that rewrite a reading. -/
namespace Dl
open PySem L2
def aFmt : R1D := fun d S1 q => match d with
  | .str y => y.length ≤ sizeLine ∧ q (.str y) S1
  | .int i => i.natAbs.log2 < 1920 ∧ q (.str (showI i)) S1
  | _ => False
section
variable {S : Sto} {q : D → Sto → Prop} {fz : Bool} {i j : Int} {x y : Str} {C : Int → Int → Prop} {f : Int → Int → D} {ds : List D} {n : Nat} {d e : D} {bs : List Bool} {ns : List Int} {a b : Bool}
theorem x_i2 : aI2 C f (.int i) (.int j) S q ↔ C i j ∧ q (f i j) S := by
  unfold aI2
  constructor
  · rintro ⟨i', j', e1, e2, h⟩; cases e1; cases e2; exact h
  · exact fun h => ⟨i, j, rfl, rfl, h⟩
theorem x_addI : aAdd fz (.int i) (.int j) S q ↔ q (.int (i + j)) S := Iff.rfl
theorem x_addS : aAdd fz (.str x) (.str y) S q ↔ x.length + y.length ≤ sizeLine ∧ q (.str (x ++ y)) S := Iff.rfl
theorem x_mulI : aMul fz (.int i) (.int j) S q ↔ mulOk i j ∧ q (.int (i * j)) S := Iff.rfl
theorem x_iaddS : aIadd (.str x) (.str y) S q ↔ x.length + y.length ≤ sizeLine ∧ q (.str (x ++ y)) S := Iff.rfl
theorem x_iaddI : aIadd (.int i) (.int j) S q ↔ q (.int (i + j)) S := Iff.rfl
theorem x_neg : aNeg (.int i) S q ↔ q (.int (-i)) S := ⟨fun ⟨_, e, h⟩ => by cases e; exact h, fun h => ⟨_, rfl, h⟩⟩
theorem sh_int : SeqAt.shaped (.int i) = true := rfl
theorem sh_non : SeqAt.shaped .none = true := by decide
theorem sh_bool : SeqAt.shaped (.bool a) = true := by cases a <;> decide
theorem sh_str (h : PyData.strOk x = true) : SeqAt.shaped (.str x) = true := by
  unfold SeqAt.shaped PyData.canLay0
  rw [h]
  rfl
theorem x_eq {p p' : PyData} (h1 : toPyS S d = some p) (h2 : toPyS S e = some p') : aEq d e S q ↔ SeqAt.shaped p = true ∧ SeqAt.shaped p' = true ∧ q (.bl (PyData.eqv p p')) S := by
  unfold aEq
  rw [h1, h2]
  constructor
  · rintro ⟨_, _, e1, e2, h⟩; cases e1; cases e2; exact h
  · exact fun h => ⟨_, _, rfl, rfl, h⟩
theorem x_ne {p p' : PyData} (h1 : toPyS S d = some p) (h2 : toPyS S e = some p') : aNe d e S q ↔ SeqAt.shaped p = true ∧ SeqAt.shaped p' = true ∧ q (.bl (!PyData.eqv p p')) S := by
  unfold aNe
  rw [h1, h2]
  constructor
  · rintro ⟨_, _, e1, e2, h⟩; cases e1; cases e2; exact h
  · exact fun h => ⟨_, _, rfl, rfl, h⟩
theorem x_eqI : aEq (.int i) (.int j) S q ↔ q (.bl (decide (i = j))) S := by
  rw [x_eq rfl rfl]
  simp only [sh_int, true_and, PyData.eqv]
  rw [show (i == j) = decide (i = j) from rfl]
theorem x_neI : aNe (.int i) (.int j) S q ↔ q (.bl (decide (i ≠ j))) S := by
  rw [x_ne rfl rfl]
  simp only [sh_int, true_and, PyData.eqv]
  rw [show (!(i == j)) = decide (i ≠ j) by rw [decide_not]; rfl]
theorem x_eqS : aEq (.str x) (.str y) S q ↔ PyData.strOk x = true ∧ PyData.strOk y = true ∧ q (.bl (decide (x = y))) S := by
  rw [x_eq rfl rfl]
  have h : ∀ z, SeqAt.shaped (.str z) = PyData.strOk z := fun z => by unfold SeqAt.shaped PyData.canLay0; exact Bool.and_true _
  rw [h, h, show PyData.eqv (.str x) (.str y) = decide (x = y) by unfold PyData.eqv; rfl]
theorem x_neS : aNe (.str x) (.str y) S q ↔ PyData.strOk x = true ∧ PyData.strOk y = true ∧ q (.bl (decide (x ≠ y))) S := by
  rw [x_ne rfl rfl]
  have h : ∀ z, SeqAt.shaped (.str z) = PyData.strOk z := fun z => by unfold SeqAt.shaped PyData.canLay0; exact Bool.and_true _
  rw [h, h, show (!PyData.eqv (.str x) (.str y)) = decide (x ≠ y) by unfold PyData.eqv; rw [decide_not]; rfl]
theorem x_eqB : aEq (.bl a) (.bl b) S q ↔ q (.bl (a == b)) S := by
  rw [x_eq rfl rfl]
  simp only [sh_bool, true_and, PyData.eqv]
theorem x_neB : aNe (.bl a) (.bl b) S q ↔ q (.bl (!(a == b))) S := by
  rw [x_ne rfl rfl]
  simp only [sh_bool, true_and, PyData.eqv]
theorem x_eqNI : aEq .non (.int j) S q ↔ q (.bl false) S := by
  rw [x_eq rfl rfl]; simp only [sh_non, sh_int, true_and, PyData.eqv]
theorem x_neNI : aNe .non (.int j) S q ↔ q (.bl true) S := by
  rw [x_ne rfl rfl]; simp only [sh_non, sh_int, true_and, PyData.eqv, Bool.not_false]
theorem x_lenS : aLen (.str x) S q ↔ x.length ≤ sizeLine ∧ q (.int x.length) S := Iff.rfl
theorem x_lenL (h : seqOf S d = some ds) : aLen d S q ↔ q (.int ds.length) S := by
  have go : (∃ es, seqOf S d = some es ∧ q (.int es.length) S) ↔ q (.int ds.length) S := by
    rw [h]
    exact ⟨fun ⟨_, e, k⟩ => by cases e; exact k, fun k => ⟨_, rfl, k⟩⟩
  cases d <;> first
    | exact go
    | (cases h; done)
theorem x_str : aStr (.int i) S q ↔ i.natAbs.log2 < 1920 ∧ q (.str (showI i)) S := ⟨fun ⟨_, e, h⟩ => by cases e; exact h, fun h => ⟨_, rfl, h⟩⟩
theorem x_intI : aInt (.int i) S q ↔ q (.int i) S := Iff.rfl
theorem x_intB : aInt (.bl a) S q ↔ q (.int (if a then 1 else 0)) S := Iff.rfl
theorem x_intS (h : PySem.intText? x = some i) : aInt (.str x) S q ↔ x.length ≤ 640 ∧ q (.int i) S := by
  unfold aInt
  constructor
  · rintro ⟨k, e, h1⟩; rw [h] at e; cases e; exact h1
  · exact fun h1 => ⟨i, h, h1⟩
theorem x_divmod : aDivmod (.int i) (.int j) S q ↔ CDiv i j ∧ q (.tup [.int (i / j), .int (i % j)]) S := ⟨fun ⟨_, _, e1, e2, h⟩ => by cases e1; cases e2; exact h, fun h => ⟨_, _, rfl, rfl, h⟩⟩
theorem x_max2 : aMax2 (.int i) (.int j) S q ↔ q (.int (max i j)) S := ⟨fun ⟨_, _, e1, e2, h⟩ => by cases e1; cases e2; exact h, fun h => ⟨_, _, rfl, rfl, h⟩⟩
theorem x_min2 : aMin2 (.int i) (.int j) S q ↔ q (.int (min i j)) S := ⟨fun ⟨_, _, e1, e2, h⟩ => by cases e1; cases e2; exact h, fun h => ⟨_, _, rfl, rfl, h⟩⟩
theorem x_all (h0 : d.isTup = false) (h : seqOf S d = some (bs.map D.bl)) : q (.bl (bs.all id)) S → aAll d S q := fun k => ⟨bs, h0, h, k⟩
theorem x_any (h0 : d.isTup = false) (h : seqOf S d = some (bs.map D.bl)) : q (.bl (bs.any id)) S → aAny d S q := fun k => ⟨bs, h0, h, k⟩
theorem x_sum (h0 : d.isTup = false) (h : seqOf S d = some (ns.map D.int)) : q (.int ns.sum) S → aSum d S q := fun k => ⟨ns, h0, h, k⟩
theorem x_list (h : seqOf S d = some ds) : aList fz d S q ↔ newL fz ds S q := ⟨fun ⟨_, e, k⟩ => by rw [h] at e; cases e; exact k, fun k => ⟨_, h, k⟩⟩
theorem x_tuple (h : seqOf S d = some ds) : aTuple d S q ↔ q (.tup ds) S := ⟨fun ⟨_, e, k⟩ => by rw [h] at e; cases e; exact k, fun k => ⟨_, h, k⟩⟩
theorem x_isi {t u : String} (h : tyN S d = some t) (hb : basicT.contains u = true) : aIsi d (.ty u) S q ↔ q (.bl (isiB t u)) S := by
  constructor
  · rintro ⟨_, _, e1, e2, _, k⟩; rw [h] at e1; cases e1; cases e2; exact k
  · exact fun k => ⟨_, _, h, rfl, hb, k⟩
theorem x_ixS : aIx (.str x) (.int i) S q ↔ x.length ≤ sizeLine ∧ ∃ c, atI x.cps.toList i = some c ∧ q (.str ⟨#[c]⟩) S := by
  unfold aIx
  exact ⟨fun ⟨_, e, h⟩ => by cases e; exact h, fun h => ⟨_, rfl, h⟩⟩
theorem x_ix (h : seqOf S d = some ds) (h2 : atI ds i = some e) : aIx d (.int i) S q ↔ q e S := by
  have go : (∃ k, D.int i = D.int k ∧ ∃ xs z, seqOf S d = some xs ∧ atI xs k = some z ∧ q z S) ↔ q e S := by
    constructor
    · rintro ⟨_, e1, xs, z, e2, e3, k⟩; cases e1; rw [h] at e2; cases e2; rw [h2] at e3; cases e3; exact k
    · exact fun k => ⟨_, rfl, _, _, h, h2, k⟩
  unfold aIx
  cases d <;> first
    | exact go
    | (cases h; done)
theorem x_slS {lo hi : Option Int} : aSl fz (.str x) lo hi S q ↔ x.length ≤ sizeLine ∧ q (.str (cutS x lo hi)) S := Iff.rfl
theorem x_slT {lo hi : Option Int} : aSl fz (.tup ds) lo hi S q ↔ q (.tup (cutD ds lo hi)) S := Iff.rfl
theorem x_slL {lo hi : Option Int} (h0 : d.isTup = false) (h : seqOf S d = some ds) : aSl fz d lo hi S q ↔ newL fz (cutD ds lo hi) S q := by
  have go : (∃ es, seqOf S d = some es ∧ newL fz (cutD es lo hi) S q) ↔ newL fz (cutD ds lo hi) S q := by
    rw [h]
    exact ⟨fun ⟨_, e, k⟩ => by cases e; exact k, fun k => ⟨_, rfl, k⟩⟩
  unfold aSl
  cases d <;> first
    | exact go
    | (cases h0; done)
    | (cases h; done)
theorem x_inS {c : Nat} : aInS (.str ⟨#[c]⟩) (.str y) S q ↔ q (.bl (decide (c ∈ y.cps.toList))) S := by
  unfold aInS
  constructor
  · rintro ⟨_, _, e1, e2, k⟩; cases e1; cases e2; exact k
  · exact fun k => ⟨_, _, rfl, rfl, k⟩
theorem x_newT : newL true ds S q ↔ q (.lst ds) S := Iff.rfl
theorem x_newF : newL false ds S q ↔ q (.loc S.length) (S ++ [some (.lst ds)]) := Iff.rfl
theorem x_si {P : Str → Int → Prop} {g : Str → Int → D} : aSI P g (.str x) [.int i] S q ↔ P x i ∧ q (g x i) S := by
  unfold aSI
  constructor
  · rintro ⟨_, _, e1, e2, k⟩; cases e1; cases e2; exact k
  · exact fun k => ⟨_, _, rfl, rfl, k⟩
theorem x_s1 {P : Str → Str → Prop} {g : Str → Str → D} : aS1 P g (.str x) [.str y] S q ↔ P x y ∧ q (g x y) S := by
  unfold aS1
  constructor
  · rintro ⟨_, _, e1, e2, k⟩; cases e1; cases e2; exact k
  · exact fun k => ⟨_, _, rfl, rfl, k⟩
theorem x_s0 {P : Str → Prop} {g : Str → D} : aS0 P g (.str x) [] S q ↔ P x ∧ q (g x) S := by
  unfold aS0
  constructor
  · rintro ⟨_, e1, e2, k⟩; cases e1; exact k
  · exact fun k => ⟨_, rfl, rfl, k⟩
theorem x_rpart : aRpart (.str x) [.str y] S q ↔ (y.length == 0) = false ∧ x.length ≤ sizeLine ∧ q (.tup [.str (rpartS x y).1, .str (rpartS x y).2.1, .str (rpartS x y).2.2]) S := by
  unfold aRpart
  constructor
  · rintro ⟨_, _, e1, e2, k⟩; cases e1; cases e2; exact k
  · exact fun k => ⟨_, _, rfl, rfl, k⟩
theorem x_part : aPart (.str x) [.str y] S q ↔ (y.length == 0) = false ∧ x.length ≤ sizeLine ∧ q (.tup [.str (Txt.partition x y).1, .str (Txt.partition x y).2.1, .str (Txt.partition x y).2.2]) S := by
  unfold aPart
  constructor
  · rintro ⟨_, _, e1, e2, k⟩; cases e1; cases e2; exact k
  · exact fun k => ⟨_, _, rfl, rfl, k⟩
theorem x_a1 {P : D → Sto → (D → Sto → Prop) → Prop} : a1 P [d] S q ↔ P d S q := by
  unfold a1
  exact ⟨fun ⟨_, e, k⟩ => by cases e; exact k, fun k => ⟨_, rfl, k⟩⟩
theorem x_a2 {P : D → D → Sto → (D → Sto → Prop) → Prop} : a2 P [d, e] S q ↔ P d e S q := by
  unfold a2
  exact ⟨fun ⟨_, _, e, k⟩ => by cases e; exact k, fun k => ⟨_, _, rfl, k⟩⟩
theorem x_app (h : S[n]? = some (some (.lst ds))) : aAppend (.loc n) [d] S q ↔ ds.length < sizeLine ∧ q .non (S.set n (some (.lst (ds ++ [d])))) := by
  unfold aAppend
  constructor
  · rintro ⟨_, _, _, e1, e2, e3, k⟩; cases e1; cases e2; rw [h] at e3; cases e3; exact k
  · exact fun k => ⟨_, _, _, rfl, rfl, h, k⟩
theorem x_slL_l {lo hi : Option Int} : aSl fz (.lst ds) lo hi S q ↔ newL fz (cutD ds lo hi) S q := x_slL rfl rfl
theorem x_slL_k {lo hi : Option Int} : aSl fz (.ksq ds) lo hi S q ↔ newL fz (cutD ds lo hi) S q := x_slL rfl rfl
theorem x_lenL_l : aLen (.lst ds) S q ↔ q (.int ds.length) S := x_lenL rfl
theorem x_lenL_k : aLen (.ksq ds) S q ↔ q (.int ds.length) S := x_lenL rfl
theorem x_lenL_t : aLen (.tup ds) S q ↔ q (.int ds.length) S := x_lenL rfl
theorem x_isiStr : aIsi (.str x) (.ty "str") S q ↔ q (.bl true) S := x_isi (t := "str") rfl (by decide)
theorem x_isiInt : aIsi (.int i) (.ty "int") S q ↔ q (.bl true) S := x_isi (t := "int") rfl (by decide)
theorem x_isiIntB : aIsi (.int i) (.ty "bool") S q ↔ q (.bl false) S := x_isi (t := "int") rfl (by decide)
theorem x_isiIntS : aIsi (.int i) (.ty "str") S q ↔ q (.bl false) S := x_isi (t := "int") rfl (by decide)
theorem x_isiBB : aIsi (.bl a) (.ty "bool") S q ↔ q (.bl true) S := x_isi (t := "bool") rfl (by decide)
theorem x_isiBI : aIsi (.bl a) (.ty "int") S q ↔ q (.bl true) S := x_isi (t := "bool") rfl (by decide)
theorem x_isiStrI : aIsi (.str x) (.ty "int") S q ↔ q (.bl false) S := x_isi (t := "str") rfl (by decide)
theorem x_isiNonI : aIsi .non (.ty "int") S q ↔ q (.bl false) S := x_isi (t := "NoneType") rfl (by decide)
theorem x_isiNonS : aIsi .non (.ty "str") S q ↔ q (.bl false) S := x_isi (t := "NoneType") rfl (by decide)
theorem x_isiT : aIsi (.tup ds) (.ty "tuple") S q ↔ q (.bl true) S := x_isi (t := "tuple") rfl (by decide)
theorem x_isiL : aIsi (.lst ds) (.ty "list") S q ↔ q (.bl true) S := x_isi (t := "list") rfl (by decide)
theorem x_ex {A : Type} {a : A} {P : A → Prop} : (∃ z, a = z ∧ P z) ↔ P a := ⟨fun ⟨_, e, h⟩ => by cases e; exact h, fun h => ⟨_, rfl, h⟩⟩
theorem x_var0 {ρ : Env_} {S : Sto} {q : D → Sto → Prop} {d : D} : gVar 0 (some d :: ρ) S q ↔ q d S := by
  unfold gVar
  simp only [List.getElem?_cons_zero, Option.some.injEq, x_ex]
theorem x_varS {ρ : Env_} {S : Sto} {q : D → Sto → Prop} {o : Option D} {i : Nat} : gVar (i + 1) (o :: ρ) S q ↔ gVar i ρ S q := by
  unfold gVar
  simp only [List.getElem?_cons_succ]
theorem x_bnm {ρ : Env_} {i : Nat} {d : D} : Tgt.bind (.nm i) d ρ = some (ρ.set i (some d)) := by rw [Tgt.bind]
theorem x_btp {ρ : Env_} {ts : List Tgt} {ds : List D} : Tgt.bind (.tp ts) (.tup ds) ρ = Tgt.binds ts ds ρ := by rw [Tgt.bind]
theorem x_bn {ρ : Env_} : Tgt.binds [] [] ρ = some ρ := by rw [Tgt.binds]
theorem x_bc {ρ : Env_} {t : Tgt} {ts : List Tgt} {d : D} {ds : List D} : Tgt.binds (t :: ts) (d :: ds) ρ = (Tgt.bind t d ρ).bind fun ρ' => Tgt.binds ts ds ρ' := by rw [Tgt.binds]
theorem x_tyS {S : Sto} {x : Str} : isTy "str" S (.str x) = true := rfl
theorem x_tyL {S : Sto} {x : List D} : isTy "list" S (.lst x) = true := rfl
theorem x_tyO {S : Sto} {n : Nat} {ds : List D} (h : S[n]? = some (some (.lst ds))) : isTy "list" S (.loc n) = true := by simp only [isTy, h]; rfl
theorem x_nnN : D.isNon .non = true := rfl
theorem x_nnI {i : Int} : D.isNon (.int i) = false := rfl
theorem x_nnS {x : Str} : D.isNon (.str x) = false := rfl
theorem x_nnB {x : Bool} : D.isNon (.bl x) = false := rfl
theorem x_nnT {x : List D} : D.isNon (.tup x) = false := rfl
theorem x_nnL {x : List D} : D.isNon (.lst x) = false := rfl
theorem x_nnO {C : Addr} {ks : List Str} {x : List D} : D.isNon (.obj C ks x) = false := rfl
theorem x_nnl {n : Nat} : D.isNon (.loc n) = false := rfl
theorem x_fmtS {ge : G D} {ρ : Env_} {S : Sto} {q : D → Sto → Prop} : gFmt ge ρ S q = ge ρ S fun d S1 => aFmt d S1 q := rfl
theorem x_afS {x : Str} {S : Sto} {q : D → Sto → Prop} : aFmt (.str x) S q ↔ x.length ≤ sizeLine ∧ q (.str x) S := Iff.rfl
theorem x_afI {i : Int} {S : Sto} {q : D → Sto → Prop} : aFmt (.int i) S q ↔ i.natAbs.log2 < 1920 ∧ q (.str (showI i)) S := Iff.rfl
theorem x_aug0 {ρ : Env_} {S : Sto} {d : D} {r : R2D} {ge : G D} {E : DE} : gAug 0 r ge E (some d :: ρ) S ↔ ge (some d :: ρ) S fun y S1 => r d y S1 fun z S2 => E.nx (some z :: ρ) S2 := by
  unfold gAug
  simp only [List.getElem?_cons_zero, Option.some.injEq, x_ex, List.set_cons_zero]
theorem x_aug {i : Nat} {ρ : Env_} {S : Sto} {d : D} {r : R2D} {ge : G D} {E : DE} (h : ρ[i]? = some (some d)) : gAug i r ge E ρ S ↔ ge ρ S fun y S1 => r d y S1 fun z S2 => E.nx (ρ.set i (some z)) S2 := by
  unfold gAug
  rw [h]
  simp only [Option.some.injEq, x_ex]
theorem x_js0 {acc : Str} {ρ : Env_} {S : Sto} {q : Str → Sto → Prop} : gJs [] acc ρ S q ↔ q acc S := by rw [gJs]
theorem x_jsc {g : G D} {gs : List (G D)} {acc : Str} {ρ : Env_} {S : Sto} {q : Str → Sto → Prop} : gJs (g :: gs) acc ρ S q ↔ g ρ S fun d S1 => ∃ y, d = .str y ∧ (acc ++ y).length ≤ sizeLine ∧ gJs gs (acc ++ y) ρ S1 q := by rw [gJs]
theorem x_rng (i k : Nat) (lo : Int) : (rngD lo k)[i]? = if i < k then some (.int (lo + ((i : Nat) : Int))) else none := by
  unfold rngD
  rw [List.getElem?_map]
  by_cases h : i < k
  · rw [if_pos h, List.getElem?_range h]; rfl
  · rw [if_neg h, List.getElem?_eq_none_iff.mpr (by simp; omega)]; rfl
theorem x_rngL (k : Nat) (lo : Int) : (rngD lo k).length = k := by unfold rngD; simp
end
/-! ### items of the store's first lists, named ends -/
def aSetIx (o i v : D) (S3 : Sto) (c : Sto → Prop) : Prop := ∃ n ds k j, o = .loc n ∧ i = .int k ∧ S3[n]? = some (some (.lst ds)) ∧ ixN ds.length k = some j ∧ c (S3.set n (some (.lst (ds.set j v))))
abbrev QI := List D → (Sto → Prop) → Sto → Prop
def aIt (d : D) (S1 : Sto) (q : QI) : Prop := match d with
  | .str x => q (signsD x) (fun _ => True) S1
  | d => ∃ ds, seqOf S1 d = some ds ∧ q ds (fun S' => seqOf S' d = some ds) S1
def aRng1 (as : List D) (S1 : Sto) (q : QI) : Prop := ∃ j : Int, as = [.int j] ∧ -(2 ^ 62) ≤ j ∧ j < 2 ^ 62 ∧ q (rngD 0 j.toNat) (fun _ => True) S1
def aRng2 (as : List D) (S1 : Sto) (q : QI) : Prop := ∃ i j : Int, as = [.int i, .int j] ∧ (-(2 ^ 62) ≤ i ∧ i < 2 ^ 62 ∧ -(2 ^ 62) ≤ j ∧ j < 2 ^ 62) ∧ q (rngD i (j - i).toNat) (fun _ => True) S1
def aEnum (as : List D) (S1 : Sto) (q : QI) : Prop := ∃ d ds, as = [d] ∧ d.isTup = false ∧ seqOf S1 d = some ds ∧ q (enumD ds) (fun S' => seqOf S' d = some ds) S1
def aZip (as : List D) (S1 : Sto) (q : QI) : Prop := ∃ d e ds es, as = [d, e] ∧ d.isTup = false ∧ e.isTup = false ∧ seqOf S1 d = some ds ∧ seqOf S1 e = some es ∧ q (zipD ds es) (fun S' => seqOf S' d = some ds ∧ seqOf S' e = some es) S1
def aLc (fz : Bool) (t : Tgt) (gt : G Bool) (ge : G D) (vs : List Nat) (ρ : Env_) (ds : List D) (chk : Sto → Prop) (S1 : Sto) (q : D → Sto → Prop) : Prop := ∃ I : Nat → List D → Sto → Prop, I 0 [] S1 ∧
  (∀ i d acc S, ds[i]? = some d → I i acc S → chk S ∧ ∃ ρ', t.bind d (wipeD ρ vs) = some ρ' ∧ gt ρ' S fun b S2 => if b = true then ge ρ' S2 fun y S3 => acc.length < sizeLine ∧ I (i + 1) (acc ++ [y]) S3 else I (i + 1) acc S2) ∧
  ∀ acc S, I ds.length acc S → chk S ∧ newL fz acc S q
def aFor (t : Tgt) (gb : GS) (E : DE) (ρ : Env_) (ds : List D) (chk : Sto → Prop) (S1 : Sto) : Prop := ∃ I : Nat → Env_ → Sto → Prop, I 0 ρ S1 ∧
  (∀ i d ρ S, ds[i]? = some d → I i ρ S → chk S ∧ ∃ ρ', t.bind d ρ = some ρ' ∧ gb { nx := I (i + 1), rt := E.rt, ct := I (i + 1), bk := E.nx } ρ' S) ∧ ∀ ρ S, I ds.length ρ S → chk S ∧ E.nx ρ S
section
variable {S R : Sto} {q : D → Sto → Prop} {ρ : Env_} {go gi' gv ge : G D} {ga : G (List D)} {gi : GI} {E : DE} {t : Tgt} {gt : G Bool} {gb : GS} {vs : List Nat} {fz : Bool} {ds es : List D} {d e a b c : D} {i j : Int} {k : QI} {cc : Sto → Prop} {x : Str}
theorem x_gset : gSetIx go gi' gv E ρ S = gv ρ S fun v S1 => go ρ S1 fun o S2 => gi' ρ S2 fun i S3 => aSetIx o i v S3 (E.nx ρ) := rfl
theorem x_lc : gLc fz gi t gt ge vs ρ S q = gi ρ S fun ds chk S1 => aLc fz t gt ge vs ρ ds chk S1 q := rfl
theorem x_for : gFor gi t gb E ρ S = gi ρ S fun ds chk S1 => aFor t gb E ρ ds chk S1 := rfl
theorem x_it : gIt ge ρ S k = ge ρ S fun d S1 => aIt d S1 k := rfl
theorem x_rn1 : gRng1 ga ρ S k = ga ρ S fun as S1 => aRng1 as S1 k := rfl
theorem x_rn2 : gRng2 ga ρ S k = ga ρ S fun as S1 => aRng2 as S1 k := rfl
theorem x_enu : gEnum ga ρ S k = ga ρ S fun as S1 => aEnum as S1 k := rfl
theorem x_zip : gZip ga ρ S k = ga ρ S fun as S1 => aZip as S1 k := rfl
theorem x_itS : aIt (.str x) S k ↔ k (signsD x) (fun _ => True) S := Iff.rfl
theorem x_itL : aIt (.lst ds) S k ↔ k ds (fun _ => True) S := by
  have h : (fun S' : Sto => seqOf S' (.lst ds) = some ds) = fun _ => True := funext fun S' => propext ⟨fun _ => trivial, fun _ => rfl⟩
  show (∃ es, seqOf S (.lst ds) = some es ∧ k es (fun S' => seqOf S' (.lst ds) = some es) S) ↔ _
  constructor
  · rintro ⟨es, e, h1⟩; cases e; rw [h] at h1; exact h1
  · exact fun h1 => ⟨ds, rfl, by rw [h]; exact h1⟩
theorem x_itK : aIt (.ksq ds) S k ↔ k ds (fun _ => True) S := by
  have h : (fun S' : Sto => seqOf S' (.ksq ds) = some ds) = fun _ => True := funext fun S' => propext ⟨fun _ => trivial, fun _ => rfl⟩
  show (∃ es, seqOf S (.ksq ds) = some es ∧ k es (fun S' => seqOf S' (.ksq ds) = some es) S) ↔ _
  constructor
  · rintro ⟨es, e, h1⟩; cases e; rw [h] at h1; exact h1
  · exact fun h1 => ⟨ds, rfl, by rw [h]; exact h1⟩
theorem x_itT : aIt (.tup ds) S k ↔ k ds (fun _ => True) S := by
  have h : (fun S' : Sto => seqOf S' (.tup ds) = some ds) = fun _ => True := funext fun S' => propext ⟨fun _ => trivial, fun _ => rfl⟩
  show (∃ es, seqOf S (.tup ds) = some es ∧ k es (fun S' => seqOf S' (.tup ds) = some es) S) ↔ _
  constructor
  · rintro ⟨es, e, h1⟩; cases e; rw [h] at h1; exact h1
  · exact fun h1 => ⟨ds, rfl, by rw [h]; exact h1⟩
theorem x_itO {n : Nat} (h : seqOf S (.loc n) = some ds) : aIt (.loc n) S k ↔ k ds (fun S' => seqOf S' (.loc n) = some ds) S := by
  show (∃ es, seqOf S (.loc n) = some es ∧ k es (fun S' => seqOf S' (.loc n) = some es) S) ↔ _
  constructor
  · rintro ⟨es, e, h1⟩; rw [h] at e; cases e; exact h1
  · exact fun h1 => ⟨ds, h, h1⟩
theorem x_rn1I : aRng1 [.int j] S k ↔ -(2 ^ 62) ≤ j ∧ j < 2 ^ 62 ∧ k (rngD 0 j.toNat) (fun _ => True) S := by
  constructor
  · rintro ⟨_, e, h⟩; cases e; exact h
  · exact fun h => ⟨j, rfl, h⟩
theorem x_rn2I : aRng2 [.int i, .int j] S k ↔ (-(2 ^ 62) ≤ i ∧ i < 2 ^ 62 ∧ -(2 ^ 62) ≤ j ∧ j < 2 ^ 62) ∧ k (rngD i (j - i).toNat) (fun _ => True) S := by
  constructor
  · rintro ⟨_, _, e, h⟩; cases e; exact h
  · exact fun h => ⟨i, j, rfl, h⟩
theorem x_enuL : aEnum [.lst ds] S k ↔ k (enumD ds) (fun _ => True) S := by
  have h : (fun S' : Sto => seqOf S' (.lst ds) = some ds) = fun _ => True := funext fun S' => propext ⟨fun _ => trivial, fun _ => rfl⟩
  constructor
  · rintro ⟨d, es, e1, _, e2, h1⟩; cases e1; cases e2; rw [h] at h1; exact h1
  · exact fun h1 => ⟨_, ds, rfl, rfl, rfl, by rw [h]; exact h1⟩
theorem x_enuK : aEnum [.ksq ds] S k ↔ k (enumD ds) (fun _ => True) S := by
  have h : (fun S' : Sto => seqOf S' (.ksq ds) = some ds) = fun _ => True := funext fun S' => propext ⟨fun _ => trivial, fun _ => rfl⟩
  constructor
  · rintro ⟨d, es, e1, _, e2, h1⟩; cases e1; cases e2; rw [h] at h1; exact h1
  · exact fun h1 => ⟨_, ds, rfl, rfl, rfl, by rw [h]; exact h1⟩
theorem x_zipL : aZip [.lst ds, .lst es] S k ↔ k (zipD ds es) (fun _ => True) S := by
  have h : (fun S' : Sto => seqOf S' (.lst ds) = some ds ∧ seqOf S' (.lst es) = some es) = fun _ => True := funext fun S' => propext ⟨fun _ => trivial, fun _ => ⟨rfl, rfl⟩⟩
  constructor
  · rintro ⟨_, _, _, _, e1, _, _, e2, e3, h1⟩; cases e1; cases e2; cases e3; rw [h] at h1; exact h1
  · exact fun h1 => ⟨_, _, ds, es, rfl, rfl, rfl, rfl, rfl, by rw [h]; exact h1⟩
theorem x_ixS0 : aIx (.loc 0) (.int i) (some (.lst ds) :: R) q ↔ ∃ e, atI ds i = some e ∧ q e (some (.lst ds) :: R) := by
  unfold aIx
  constructor
  · rintro ⟨_, e1, xs, z, e2, e3, h⟩; cases e1; cases e2; exact ⟨z, e3, h⟩
  · rintro ⟨z, e3, h⟩; exact ⟨_, rfl, ds, z, rfl, e3, h⟩
theorem x_ixL : aIx (.lst ds) (.int i) S q ↔ ∃ e, atI ds i = some e ∧ q e S := by
  unfold aIx
  constructor
  · rintro ⟨_, e1, xs, z, e2, e3, h⟩; cases e1; cases e2; exact ⟨z, e3, h⟩
  · rintro ⟨z, e3, h⟩; exact ⟨_, rfl, ds, z, rfl, e3, h⟩
theorem x_ixT : aIx (.tup ds) (.int i) S q ↔ ∃ e, atI ds i = some e ∧ q e S := by
  unfold aIx
  constructor
  · rintro ⟨_, e1, xs, z, e2, e3, h⟩; cases e1; cases e2; exact ⟨z, e3, h⟩
  · rintro ⟨z, e3, h⟩; exact ⟨_, rfl, ds, z, rfl, e3, h⟩
theorem x_ixK : aIx (.ksq ds) (.int i) S q ↔ ∃ e, atI ds i = some e ∧ q e S := by
  unfold aIx
  constructor
  · rintro ⟨_, e1, xs, z, e2, e3, h⟩; cases e1; cases e2; exact ⟨z, e3, h⟩
  · rintro ⟨z, e3, h⟩; exact ⟨_, rfl, ds, z, rfl, e3, h⟩
theorem ixN_lit {n k : Nat} (h : k < n) : ixN n (k : Int) = some k := by
  unfold ixN
  rw [if_pos (by omega), if_pos (by omega)]
  rfl
theorem atI_lit {A : Type} {xs : List A} {k : Nat} {v : A} (h : xs[k]? = some v) : atI xs (k : Int) = some v := by
  unfold atI
  rw [ixN_lit (List.getElem?_eq_some_iff.mp h).1]
  exact h
theorem x_at0 {A : Type} {a : A} {l : List A} : atI (a :: l) 0 = some a := atI_lit (k := 0) rfl
theorem x_at1 {A : Type} {a b : A} {l : List A} : atI (a :: b :: l) 1 = some b := atI_lit (k := 1) rfl
theorem x_at2 {A : Type} {a b c : A} {l : List A} : atI (a :: b :: c :: l) 2 = some c := atI_lit (k := 2) rfl
theorem x_at3 {A : Type} {a b c d : A} {l : List A} : atI (a :: b :: c :: d :: l) 3 = some d := atI_lit (k := 3) rfl
theorem x_at4 {A : Type} {a b c d e : A} {l : List A} : atI (a :: b :: c :: d :: e :: l) 4 = some e := atI_lit (k := 4) rfl
theorem x_set0 {k : Nat} {v : D} (h : k < ds.length) : aSetIx (.loc 0) (.int (k : Int)) v (some (.lst ds) :: R) cc ↔ cc (some (.lst (ds.set k v)) :: R) := by
  constructor
  · rintro ⟨n, xs, kk, j, e1, e2, e3, e4, h1⟩
    cases e1; cases e2; cases e3
    rw [ixN_lit h] at e4; cases e4
    exact h1
  · exact fun h1 => ⟨0, ds, k, k, rfl, rfl, rfl, ixN_lit h, h1⟩
theorem x_set00 {v : D} : aSetIx (.loc 0) (.int 0) v (some (.lst (a :: es)) :: R) cc ↔ cc (some (.lst (v :: es)) :: R) := x_set0 (k := 0) (by simp)
theorem x_set01 {v : D} : aSetIx (.loc 0) (.int 1) v (some (.lst (a :: b :: es)) :: R) cc ↔ cc (some (.lst (a :: v :: es)) :: R) := x_set0 (k := 1) (by simp)
theorem x_set02 {v : D} : aSetIx (.loc 0) (.int 2) v (some (.lst (a :: b :: c :: es)) :: R) cc ↔ cc (some (.lst (a :: b :: v :: es)) :: R) := x_set0 (k := 2) (by simp)
end
def aPar (i j : Nat) (ρ : Env_) (k : Env_ → Sto → Prop) (as : List D) (S1 : Sto) : Prop := ∃ v u, as = [v, u] ∧ k ((ρ.set i (some v)).set j (some u)) S1
theorem x_par {i j : Nat} {ga : G (List D)} {E : DE} {ρ : Env_} {S : Sto} : gPar i j ga E ρ S = ga ρ S fun as S1 => aPar i j ρ E.nx as S1 := rfl
theorem x_par2 {i j : Nat} {k : Env_ → Sto → Prop} {ρ : Env_} {S : Sto} {v u : D} : aPar i j ρ k [v, u] S ↔ k ((ρ.set i (some v)).set j (some u)) S := by
  constructor
  · rintro ⟨_, _, e, h⟩; cases e; exact h
  · exact fun h => ⟨v, u, rfl, h⟩
theorem toPys_int : ∀ ns : List Int, toPys (ns.map D.int) = some (ns.map PyData.int)
  | [] => by simp [toPys]
  | n :: ns => by simp [toPys, toPy, toPys_int ns]
theorem can_int : ∀ ns : List Int, PyData.canLayAll0 (ns.map PyData.int) = true
  | [] => by simp [PyData.canLayAll0]
  | n :: ns => by simp [PyData.canLayAll0, PyData.canLay0, can_int ns]
theorem dep_int : ∀ ns : List Int, PyData.depthAll (ns.map PyData.int) = 0
  | [] => by simp [PyData.depthAll]
  | n :: ns => by simp [PyData.depthAll, PyData.depth, dep_int ns]
theorem sh_ints (ns : List Int) : SeqAt.shaped (.list (ns.map PyData.int)) = true := by
  simp [SeqAt.shaped, PyData.canLay0, PyData.depth, can_int, dep_int]
theorem x_neNil {ns : List Int} {S : Sto} {q : D → Sto → Prop} : aNe (.lst (ns.map D.int)) (.lst []) S q ↔ q (.bl (decide (ns ≠ []))) S := by
  rw [x_ne (p := .list (ns.map PyData.int)) (p' := .list ([].map PyData.int)) (by simp [toPyS, toPy, toPys_int]) (by simp [toPyS, toPy, toPys])]
  simp only [sh_ints, true_and]
  cases ns with
  | nil => simp [PyData.eqv, PyData.eqvAll]
  | cons n ns => simp [PyData.eqv, PyData.eqvAll]
/-- a comprehension that leaves the store alone -/
theorem lc_run {ds : List D} {S : Sto} {chk : Sto → Prop} {ρ : Env_} {t : Tgt} {gt : G Bool} {ge : G D} {vs : List Nat} {fz : Bool} {q : D → Sto → Prop} (f : D → Option D) (hchk : chk S) (hlen : ds.length ≤ sizeLine)
    (step : ∀ (i : Nat) (d : D) (acc : List D) (R : List D → Sto → Prop), ds[i]? = some d → acc.length < sizeLine → R (acc ++ (f d).toList) S →
      ∃ ρ', t.bind d (wipeD ρ vs) = some ρ' ∧ gt ρ' S fun b S2 => if b = true then ge ρ' S2 fun y S3 => acc.length < sizeLine ∧ R (acc ++ [y]) S3 else R acc S2)
    (h : newL fz (ds.filterMap f) S q) : aLc fz t gt ge vs ρ ds chk S q := by
  refine ⟨fun i acc S' => S' = S ∧ acc = (ds.take i).filterMap f, ⟨rfl, by simp⟩, ?_, ?_⟩
  · rintro i d acc S' hd ⟨rfl, rfl⟩
    have hi : i < ds.length := (List.getElem?_eq_some_iff.mp hd).1
    have htake : ds.take (i + 1) = ds.take i ++ [d] := by rw [List.take_add_one, hd]; rfl
    refine ⟨hchk, step i d _ (fun acc S'' => S'' = S' ∧ acc = (ds.take (i + 1)).filterMap f) hd ?_ ⟨rfl, ?_⟩⟩
    · have := List.length_filterMap_le f (ds.take i)
      rw [List.length_take] at this
      omega
    · rw [htake, List.filterMap_append, List.filterMap_cons]
      cases f d <;> simp
  · rintro acc S' ⟨rfl, rfl⟩
    rw [List.take_length]
    exact ⟨hchk, h⟩
section
variable {S : Sto} {r : R2D} {ge : G D} {E : DE} {d : D} {ρ : Env_}
theorem x_aug1 {o0 : Option D} : gAug 1 r ge E (o0 :: some d :: ρ) S ↔ ge (o0 :: some d :: ρ) S fun y S1 => r d y S1 fun z S2 => E.nx (o0 :: some z :: ρ) S2 := x_aug rfl
theorem x_aug2 {o0 o1 : Option D} : gAug 2 r ge E (o0 :: o1 :: some d :: ρ) S ↔ ge (o0 :: o1 :: some d :: ρ) S fun y S1 => r d y S1 fun z S2 => E.nx (o0 :: o1 :: some z :: ρ) S2 := x_aug rfl
theorem x_aug3 {o0 o1 o2 : Option D} : gAug 3 r ge E (o0 :: o1 :: o2 :: some d :: ρ) S ↔ ge (o0 :: o1 :: o2 :: some d :: ρ) S fun y S1 => r d y S1 fun z S2 => E.nx (o0 :: o1 :: o2 :: some z :: ρ) S2 := x_aug rfl
theorem x_aug4 {o0 o1 o2 o3 : Option D} : gAug 4 r ge E (o0 :: o1 :: o2 :: o3 :: some d :: ρ) S ↔ ge (o0 :: o1 :: o2 :: o3 :: some d :: ρ) S fun y S1 => r d y S1 fun z S2 => E.nx (o0 :: o1 :: o2 :: o3 :: some z :: ρ) S2 := x_aug rfl
theorem x_aug5 {o0 o1 o2 o3 o4 : Option D} : gAug 5 r ge E (o0 :: o1 :: o2 :: o3 :: o4 :: some d :: ρ) S ↔ ge (o0 :: o1 :: o2 :: o3 :: o4 :: some d :: ρ) S fun y S1 => r d y S1 fun z S2 => E.nx (o0 :: o1 :: o2 :: o3 :: o4 :: some z :: ρ) S2 := x_aug rfl
theorem x_aug6 {o0 o1 o2 o3 o4 o5 : Option D} : gAug 6 r ge E (o0 :: o1 :: o2 :: o3 :: o4 :: o5 :: some d :: ρ) S ↔ ge (o0 :: o1 :: o2 :: o3 :: o4 :: o5 :: some d :: ρ) S fun y S1 => r d y S1 fun z S2 => E.nx (o0 :: o1 :: o2 :: o3 :: o4 :: o5 :: some z :: ρ) S2 := x_aug rfl
theorem x_aug7 {o0 o1 o2 o3 o4 o5 o6 : Option D} : gAug 7 r ge E (o0 :: o1 :: o2 :: o3 :: o4 :: o5 :: o6 :: some d :: ρ) S ↔ ge (o0 :: o1 :: o2 :: o3 :: o4 :: o5 :: o6 :: some d :: ρ) S fun y S1 => r d y S1 fun z S2 => E.nx (o0 :: o1 :: o2 :: o3 :: o4 :: o5 :: o6 :: some z :: ρ) S2 := x_aug rfl
theorem x_aug8 {o0 o1 o2 o3 o4 o5 o6 o7 : Option D} : gAug 8 r ge E (o0 :: o1 :: o2 :: o3 :: o4 :: o5 :: o6 :: o7 :: some d :: ρ) S ↔ ge (o0 :: o1 :: o2 :: o3 :: o4 :: o5 :: o6 :: o7 :: some d :: ρ) S fun y S1 => r d y S1 fun z S2 => E.nx (o0 :: o1 :: o2 :: o3 :: o4 :: o5 :: o6 :: o7 :: some z :: ρ) S2 := x_aug rfl
theorem x_aug9 {o0 o1 o2 o3 o4 o5 o6 o7 o8 : Option D} : gAug 9 r ge E (o0 :: o1 :: o2 :: o3 :: o4 :: o5 :: o6 :: o7 :: o8 :: some d :: ρ) S ↔ ge (o0 :: o1 :: o2 :: o3 :: o4 :: o5 :: o6 :: o7 :: o8 :: some d :: ρ) S fun y S1 => r d y S1 fun z S2 => E.nx (o0 :: o1 :: o2 :: o3 :: o4 :: o5 :: o6 :: o7 :: o8 :: some z :: ρ) S2 := x_aug rfl
theorem x_aug10 {o0 o1 o2 o3 o4 o5 o6 o7 o8 o9 : Option D} : gAug 10 r ge E (o0 :: o1 :: o2 :: o3 :: o4 :: o5 :: o6 :: o7 :: o8 :: o9 :: some d :: ρ) S ↔ ge (o0 :: o1 :: o2 :: o3 :: o4 :: o5 :: o6 :: o7 :: o8 :: o9 :: some d :: ρ) S fun y S1 => r d y S1 fun z S2 => E.nx (o0 :: o1 :: o2 :: o3 :: o4 :: o5 :: o6 :: o7 :: o8 :: o9 :: some z :: ρ) S2 := x_aug rfl
theorem x_aug11 {o0 o1 o2 o3 o4 o5 o6 o7 o8 o9 o10 : Option D} : gAug 11 r ge E (o0 :: o1 :: o2 :: o3 :: o4 :: o5 :: o6 :: o7 :: o8 :: o9 :: o10 :: some d :: ρ) S ↔ ge (o0 :: o1 :: o2 :: o3 :: o4 :: o5 :: o6 :: o7 :: o8 :: o9 :: o10 :: some d :: ρ) S fun y S1 => r d y S1 fun z S2 => E.nx (o0 :: o1 :: o2 :: o3 :: o4 :: o5 :: o6 :: o7 :: o8 :: o9 :: o10 :: some z :: ρ) S2 := x_aug rfl
theorem x_aug12 {o0 o1 o2 o3 o4 o5 o6 o7 o8 o9 o10 o11 : Option D} : gAug 12 r ge E (o0 :: o1 :: o2 :: o3 :: o4 :: o5 :: o6 :: o7 :: o8 :: o9 :: o10 :: o11 :: some d :: ρ) S ↔ ge (o0 :: o1 :: o2 :: o3 :: o4 :: o5 :: o6 :: o7 :: o8 :: o9 :: o10 :: o11 :: some d :: ρ) S fun y S1 => r d y S1 fun z S2 => E.nx (o0 :: o1 :: o2 :: o3 :: o4 :: o5 :: o6 :: o7 :: o8 :: o9 :: o10 :: o11 :: some z :: ρ) S2 := x_aug rfl
theorem x_aug13 {o0 o1 o2 o3 o4 o5 o6 o7 o8 o9 o10 o11 o12 : Option D} : gAug 13 r ge E (o0 :: o1 :: o2 :: o3 :: o4 :: o5 :: o6 :: o7 :: o8 :: o9 :: o10 :: o11 :: o12 :: some d :: ρ) S ↔ ge (o0 :: o1 :: o2 :: o3 :: o4 :: o5 :: o6 :: o7 :: o8 :: o9 :: o10 :: o11 :: o12 :: some d :: ρ) S fun y S1 => r d y S1 fun z S2 => E.nx (o0 :: o1 :: o2 :: o3 :: o4 :: o5 :: o6 :: o7 :: o8 :: o9 :: o10 :: o11 :: o12 :: some z :: ρ) S2 := x_aug rfl
theorem x_aug14 {o0 o1 o2 o3 o4 o5 o6 o7 o8 o9 o10 o11 o12 o13 : Option D} : gAug 14 r ge E (o0 :: o1 :: o2 :: o3 :: o4 :: o5 :: o6 :: o7 :: o8 :: o9 :: o10 :: o11 :: o12 :: o13 :: some d :: ρ) S ↔ ge (o0 :: o1 :: o2 :: o3 :: o4 :: o5 :: o6 :: o7 :: o8 :: o9 :: o10 :: o11 :: o12 :: o13 :: some d :: ρ) S fun y S1 => r d y S1 fun z S2 => E.nx (o0 :: o1 :: o2 :: o3 :: o4 :: o5 :: o6 :: o7 :: o8 :: o9 :: o10 :: o11 :: o12 :: o13 :: some z :: ρ) S2 := x_aug rfl
theorem x_aug15 {o0 o1 o2 o3 o4 o5 o6 o7 o8 o9 o10 o11 o12 o13 o14 : Option D} : gAug 15 r ge E (o0 :: o1 :: o2 :: o3 :: o4 :: o5 :: o6 :: o7 :: o8 :: o9 :: o10 :: o11 :: o12 :: o13 :: o14 :: some d :: ρ) S ↔ ge (o0 :: o1 :: o2 :: o3 :: o4 :: o5 :: o6 :: o7 :: o8 :: o9 :: o10 :: o11 :: o12 :: o13 :: o14 :: some d :: ρ) S fun y S1 => r d y S1 fun z S2 => E.nx (o0 :: o1 :: o2 :: o3 :: o4 :: o5 :: o6 :: o7 :: o8 :: o9 :: o10 :: o11 :: o12 :: o13 :: o14 :: some z :: ρ) S2 := x_aug rfl
theorem x_aug16 {o0 o1 o2 o3 o4 o5 o6 o7 o8 o9 o10 o11 o12 o13 o14 o15 : Option D} : gAug 16 r ge E (o0 :: o1 :: o2 :: o3 :: o4 :: o5 :: o6 :: o7 :: o8 :: o9 :: o10 :: o11 :: o12 :: o13 :: o14 :: o15 :: some d :: ρ) S ↔ ge (o0 :: o1 :: o2 :: o3 :: o4 :: o5 :: o6 :: o7 :: o8 :: o9 :: o10 :: o11 :: o12 :: o13 :: o14 :: o15 :: some d :: ρ) S fun y S1 => r d y S1 fun z S2 => E.nx (o0 :: o1 :: o2 :: o3 :: o4 :: o5 :: o6 :: o7 :: o8 :: o9 :: o10 :: o11 :: o12 :: o13 :: o14 :: o15 :: some z :: ρ) S2 := x_aug rfl
theorem x_aug17 {o0 o1 o2 o3 o4 o5 o6 o7 o8 o9 o10 o11 o12 o13 o14 o15 o16 : Option D} : gAug 17 r ge E (o0 :: o1 :: o2 :: o3 :: o4 :: o5 :: o6 :: o7 :: o8 :: o9 :: o10 :: o11 :: o12 :: o13 :: o14 :: o15 :: o16 :: some d :: ρ) S ↔ ge (o0 :: o1 :: o2 :: o3 :: o4 :: o5 :: o6 :: o7 :: o8 :: o9 :: o10 :: o11 :: o12 :: o13 :: o14 :: o15 :: o16 :: some d :: ρ) S fun y S1 => r d y S1 fun z S2 => E.nx (o0 :: o1 :: o2 :: o3 :: o4 :: o5 :: o6 :: o7 :: o8 :: o9 :: o10 :: o11 :: o12 :: o13 :: o14 :: o15 :: o16 :: some z :: ρ) S2 := x_aug rfl
theorem x_aug18 {o0 o1 o2 o3 o4 o5 o6 o7 o8 o9 o10 o11 o12 o13 o14 o15 o16 o17 : Option D} : gAug 18 r ge E (o0 :: o1 :: o2 :: o3 :: o4 :: o5 :: o6 :: o7 :: o8 :: o9 :: o10 :: o11 :: o12 :: o13 :: o14 :: o15 :: o16 :: o17 :: some d :: ρ) S ↔ ge (o0 :: o1 :: o2 :: o3 :: o4 :: o5 :: o6 :: o7 :: o8 :: o9 :: o10 :: o11 :: o12 :: o13 :: o14 :: o15 :: o16 :: o17 :: some d :: ρ) S fun y S1 => r d y S1 fun z S2 => E.nx (o0 :: o1 :: o2 :: o3 :: o4 :: o5 :: o6 :: o7 :: o8 :: o9 :: o10 :: o11 :: o12 :: o13 :: o14 :: o15 :: o16 :: o17 :: some z :: ρ) S2 := x_aug rfl
theorem x_aug19 {o0 o1 o2 o3 o4 o5 o6 o7 o8 o9 o10 o11 o12 o13 o14 o15 o16 o17 o18 : Option D} : gAug 19 r ge E (o0 :: o1 :: o2 :: o3 :: o4 :: o5 :: o6 :: o7 :: o8 :: o9 :: o10 :: o11 :: o12 :: o13 :: o14 :: o15 :: o16 :: o17 :: o18 :: some d :: ρ) S ↔ ge (o0 :: o1 :: o2 :: o3 :: o4 :: o5 :: o6 :: o7 :: o8 :: o9 :: o10 :: o11 :: o12 :: o13 :: o14 :: o15 :: o16 :: o17 :: o18 :: some d :: ρ) S fun y S1 => r d y S1 fun z S2 => E.nx (o0 :: o1 :: o2 :: o3 :: o4 :: o5 :: o6 :: o7 :: o8 :: o9 :: o10 :: o11 :: o12 :: o13 :: o14 :: o15 :: o16 :: o17 :: o18 :: some z :: ρ) S2 := x_aug rfl
theorem x_aug20 {o0 o1 o2 o3 o4 o5 o6 o7 o8 o9 o10 o11 o12 o13 o14 o15 o16 o17 o18 o19 : Option D} : gAug 20 r ge E (o0 :: o1 :: o2 :: o3 :: o4 :: o5 :: o6 :: o7 :: o8 :: o9 :: o10 :: o11 :: o12 :: o13 :: o14 :: o15 :: o16 :: o17 :: o18 :: o19 :: some d :: ρ) S ↔ ge (o0 :: o1 :: o2 :: o3 :: o4 :: o5 :: o6 :: o7 :: o8 :: o9 :: o10 :: o11 :: o12 :: o13 :: o14 :: o15 :: o16 :: o17 :: o18 :: o19 :: some d :: ρ) S fun y S1 => r d y S1 fun z S2 => E.nx (o0 :: o1 :: o2 :: o3 :: o4 :: o5 :: o6 :: o7 :: o8 :: o9 :: o10 :: o11 :: o12 :: o13 :: o14 :: o15 :: o16 :: o17 :: o18 :: o19 :: some z :: ρ) S2 := x_aug rfl
theorem x_aug21 {o0 o1 o2 o3 o4 o5 o6 o7 o8 o9 o10 o11 o12 o13 o14 o15 o16 o17 o18 o19 o20 : Option D} : gAug 21 r ge E (o0 :: o1 :: o2 :: o3 :: o4 :: o5 :: o6 :: o7 :: o8 :: o9 :: o10 :: o11 :: o12 :: o13 :: o14 :: o15 :: o16 :: o17 :: o18 :: o19 :: o20 :: some d :: ρ) S ↔ ge (o0 :: o1 :: o2 :: o3 :: o4 :: o5 :: o6 :: o7 :: o8 :: o9 :: o10 :: o11 :: o12 :: o13 :: o14 :: o15 :: o16 :: o17 :: o18 :: o19 :: o20 :: some d :: ρ) S fun y S1 => r d y S1 fun z S2 => E.nx (o0 :: o1 :: o2 :: o3 :: o4 :: o5 :: o6 :: o7 :: o8 :: o9 :: o10 :: o11 :: o12 :: o13 :: o14 :: o15 :: o16 :: o17 :: o18 :: o19 :: o20 :: some z :: ρ) S2 := x_aug rfl
theorem x_aug22 {o0 o1 o2 o3 o4 o5 o6 o7 o8 o9 o10 o11 o12 o13 o14 o15 o16 o17 o18 o19 o20 o21 : Option D} : gAug 22 r ge E (o0 :: o1 :: o2 :: o3 :: o4 :: o5 :: o6 :: o7 :: o8 :: o9 :: o10 :: o11 :: o12 :: o13 :: o14 :: o15 :: o16 :: o17 :: o18 :: o19 :: o20 :: o21 :: some d :: ρ) S ↔ ge (o0 :: o1 :: o2 :: o3 :: o4 :: o5 :: o6 :: o7 :: o8 :: o9 :: o10 :: o11 :: o12 :: o13 :: o14 :: o15 :: o16 :: o17 :: o18 :: o19 :: o20 :: o21 :: some d :: ρ) S fun y S1 => r d y S1 fun z S2 => E.nx (o0 :: o1 :: o2 :: o3 :: o4 :: o5 :: o6 :: o7 :: o8 :: o9 :: o10 :: o11 :: o12 :: o13 :: o14 :: o15 :: o16 :: o17 :: o18 :: o19 :: o20 :: o21 :: some z :: ρ) S2 := x_aug rfl
theorem x_aug23 {o0 o1 o2 o3 o4 o5 o6 o7 o8 o9 o10 o11 o12 o13 o14 o15 o16 o17 o18 o19 o20 o21 o22 : Option D} : gAug 23 r ge E (o0 :: o1 :: o2 :: o3 :: o4 :: o5 :: o6 :: o7 :: o8 :: o9 :: o10 :: o11 :: o12 :: o13 :: o14 :: o15 :: o16 :: o17 :: o18 :: o19 :: o20 :: o21 :: o22 :: some d :: ρ) S ↔ ge (o0 :: o1 :: o2 :: o3 :: o4 :: o5 :: o6 :: o7 :: o8 :: o9 :: o10 :: o11 :: o12 :: o13 :: o14 :: o15 :: o16 :: o17 :: o18 :: o19 :: o20 :: o21 :: o22 :: some d :: ρ) S fun y S1 => r d y S1 fun z S2 => E.nx (o0 :: o1 :: o2 :: o3 :: o4 :: o5 :: o6 :: o7 :: o8 :: o9 :: o10 :: o11 :: o12 :: o13 :: o14 :: o15 :: o16 :: o17 :: o18 :: o19 :: o20 :: o21 :: o22 :: some z :: ρ) S2 := x_aug rfl
end
/-! ### fields, instances, methods -/
def aFld (K : PySem.W.Frag) (f : Str) (o : D) (S1 : Sto) (q : D → Sto → Prop) : Prop := ∃ C ks ds d, objOf S1 o = some (C, ks, ds) ∧ FldOk K C f ∧ fget f ks ds = some d ∧ q d S1
def aFset (K : PySem.W.Frag) (f : Str) (o y : D) (S2 : Sto) (c : Sto → Prop) : Prop := ∃ n C ks ds, o = .loc n ∧ S2[n]? = some (some (.obj C ks ds)) ∧ FldOk K C f ∧ ks.length < 1000 ∧ c (S2.set n (some (.obj C (putK f ks) (putX f y ks ds))))
def aMakeF (C : Addr) (n nk : Nat) (src : List Src) (dds : List D) (dsp : DSp) (as zs : List D) (S1 : Sto) (q : D → Sto → Prop) : Prop := as.length = n ∧ zs.length = nk ∧ (D.unders S1.length as = true → D.unders S1.length zs = true →
  dsp (gat src (.loc S1.length :: as) dds zs) (S1 ++ [some (.obj C [] [])]) fun v S2 => v = .non ∧ ∃ ks ds, S2 = S1 ++ [some (.obj C ks ds)] ∧ D.unders S1.length ds = true ∧ q (.obj C ks ds) S1)
def aMake (C : Addr) (n nk : Nat) (src : List Src) (dds : List D) (dsp : DSp) (as zs : List D) (S1 : Sto) (q : D → Sto → Prop) : Prop := as.length = n ∧ zs.length = nk ∧
  dsp (gat src (.loc S1.length :: as) dds zs) (S1 ++ [some (.obj C [] [])]) fun v S2 => v = .non ∧ q (.loc S1.length) S2
def aMeth (C : Addr) (m : Str) (o : D) (S1 : Sto) (c : Prop) : Prop := ∃ ks ds, objOf S1 o = some (C, ks, ds) ∧ ks.contains m = false ∧ c
section
variable {K : PySem.W.Frag} {f m : Str} {C C' : Addr} {go gv : G D} {ga : GA} {ρ : Env_} {S S0 : Sto} {q : D → Sto → Prop} {E : DE} {n nk : Nat} {src : List Src} {dds ds as zs : List D} {dsp : DSp} {ks : List Str} {d y : D} {cc : Sto → Prop} {c : Prop} {b : Bool}
theorem x_fld : gFld K f go ρ S q = go ρ S fun o S1 => aFld K f o S1 q := rfl
theorem x_fset : gFldSet K f go gv E ρ S = gv ρ S fun y S1 => go ρ S1 fun o S2 => aFset K f o y S2 (E.nx ρ) := rfl
theorem x_mkF : gMakeF C n nk src dds dsp ga ρ S q = ga ρ S fun as zs S1 => aMakeF C n nk src dds dsp as zs S1 q := rfl
theorem x_mk : gMake C n nk src dds dsp ga ρ S q = ga ρ S fun as zs S1 => aMake C n nk src dds dsp as zs S1 q := rfl
theorem x_meth : gMeth C m n nk src dds dsp go ga ρ S q = go ρ S fun o S1 => aMeth C m o S1 (ga ρ S1 fun as zs S2 => as.length = n ∧ zs.length = nk ∧ dsp (gat src (o :: as) dds zs) S2 q) := by
  unfold gMeth aMeth
  refine congrArg _ (funext fun o => funext fun S1 => propext ⟨fun ⟨ks, ds, h1, h2, h3⟩ => ⟨ks, ds, h1, h2, h3⟩, fun ⟨ks, ds, h1, h2, h3⟩ => ⟨ks, ds, h1, h2, h3⟩⟩)
theorem x_fldO (hf : FldOk K C f) : aFld K f (.obj C ks ds) S q ↔ ∃ d, fget f ks ds = some d ∧ q d S := by
  constructor
  · rintro ⟨_, _, _, d, e, _, h1, h2⟩; cases e; exact ⟨d, h1, h2⟩
  · rintro ⟨d, h1, h2⟩; exact ⟨C, ks, ds, d, rfl, hf, h1, h2⟩
theorem x_fldL {k : Nat} (hf : FldOk K C f) (hS : S[k]? = some (some (.obj C ks ds))) : aFld K f (.loc k) S q ↔ ∃ d, fget f ks ds = some d ∧ q d S := by
  have e0 : objOf S (.loc k) = some (C, ks, ds) := by simp only [objOf, hS]
  constructor
  · rintro ⟨_, _, _, d, e, _, h1, h2⟩; rw [e0] at e; cases e; exact ⟨d, h1, h2⟩
  · rintro ⟨d, h1, h2⟩; exact ⟨C, ks, ds, d, e0, hf, h1, h2⟩
theorem x_fsetL {k : Nat} (hf : FldOk K C f) (hS : S[k]? = some (some (.obj C ks ds))) (hl : ks.length < 1000) : aFset K f (.loc k) y S cc ↔ cc (S.set k (some (.obj C (putK f ks) (putX f y ks ds)))) := by
  constructor
  · rintro ⟨_, _, _, _, e, e1, _, _, h2⟩; cases e; rw [hS] at e1; cases e1; exact h2
  · exact fun h2 => ⟨k, C, ks, ds, rfl, hS, hf, hl, h2⟩
theorem snoc_get {o : Option MO} : (S0 ++ [o])[S0.length]? = some o := by simp
theorem snoc_set {o p : Option MO} : (S0 ++ [o]).set S0.length p = S0 ++ [p] := by simp
theorem x_fsetE (hf : FldOk K C f) : aFset K f (.loc S0.length) y (S0 ++ [some (.obj C ks ds)]) cc ↔ ks.length < 1000 ∧ cc (S0 ++ [some (.obj C (putK f ks) (putX f y ks ds))]) := by
  constructor
  · rintro ⟨_, _, _, _, e, e1, _, hl, h2⟩; cases e; rw [snoc_get] at e1; cases e1; rw [snoc_set] at h2; exact ⟨hl, h2⟩
  · rintro ⟨hl, h2⟩; exact ⟨S0.length, C, ks, ds, rfl, snoc_get, hf, hl, by rw [snoc_set]; exact h2⟩
theorem x_fldE (hf : FldOk K C f) : aFld K f (.loc S0.length) (S0 ++ [some (.obj C ks ds)]) q ↔ ∃ d, fget f ks ds = some d ∧ q d (S0 ++ [some (.obj C ks ds)]) := x_fldL hf snoc_get
theorem x_methO (h : ks.contains m = false) : aMeth C m (.obj C ks ds) S c ↔ c := by
  constructor
  · rintro ⟨_, _, _, _, h1⟩; exact h1
  · exact fun h1 => ⟨ks, ds, rfl, h, h1⟩
theorem x_methL {k : Nat} (hS : S[k]? = some (some (.obj C ks ds))) (h : ks.contains m = false) : aMeth C m (.loc k) S c ↔ c := by
  constructor
  · rintro ⟨_, _, _, _, h1⟩; exact h1
  · exact fun h1 => ⟨ks, ds, by simp only [objOf, hS], h, h1⟩
theorem x_isiCO (hi : IsC K C) (hk : KitC K C C' b) : aIsiC K (.obj C ks ds) (.ref C') S q ↔ q (.bl b) S := by
  constructor
  · rintro ⟨_, e, ⟨_, _, _, b', e1, _, hk', h1⟩ | ⟨_, e1, _⟩⟩
    · cases e; cases e1
      have := hk.is.symm.trans hk'.is
      cases this
      exact h1
    · cases e1
  · exact fun h1 => ⟨C', rfl, .inl ⟨C, ks, ds, b, rfl, hi, hk, h1⟩⟩
theorem x_isiCt {t : String} (h : tyN S d = some t) (hk : KitB K C') (hn : objOf S d = none) : aIsiC K d (.ref C') S q ↔ q (.bl false) S := by
  constructor
  · rintro ⟨_, e, ⟨_, _, _, _, e1, _⟩ | ⟨_, _, _, h1⟩⟩
    · rw [hn] at e1; cases e1
    · exact h1
  · exact fun h1 => ⟨C', rfl, .inr ⟨t, h, hk, h1⟩⟩
theorem x_isiCN (hk : KitB K C') : aIsiC K .non (.ref C') S q ↔ q (.bl false) S := x_isiCt (t := "NoneType") rfl hk rfl
theorem x_isiCT (hk : KitB K C') : aIsiC K (.tup ds) (.ref C') S q ↔ q (.bl false) S := x_isiCt (t := "tuple") rfl hk rfl
theorem x_isiCLi (hk : KitB K C') : aIsiC K (.lst ds) (.ref C') S q ↔ q (.bl false) S := x_isiCt (t := "list") rfl hk rfl
theorem x_isiCS {x : Str} (hk : KitB K C') : aIsiC K (.str x) (.ref C') S q ↔ q (.bl false) S := x_isiCt (t := "str") rfl hk rfl
theorem x_isiCI {i : Int} (hk : KitB K C') : aIsiC K (.int i) (.ref C') S q ↔ q (.bl false) S := x_isiCt (t := "int") rfl hk rfl
theorem x_own {ks' : List Str} {es : List D} : aOwn C dsp (.obj C ks ds) (.obj C ks' es) S q ↔ dsp [.obj C ks ds, .obj C ks' es] S fun d S' => (∃ k, d = .bl k) ∧ q d S' := by
  unfold aOwn
  exact ⟨fun ⟨_, _, h⟩ => h, fun h => ⟨⟨_, _, rfl⟩, ⟨_, _, rfl⟩, h⟩⟩
end
/-! ### == of sequences of ints -/
theorem eqv_ints : ∀ ns ms : List Int, PyData.eqvAll (ns.map PyData.int) (ms.map PyData.int) = decide (ns = ms)
  | [], [] => by simp [PyData.eqvAll]
  | [], m :: ms => by simp [PyData.eqvAll]
  | n :: ns, [] => by simp [PyData.eqvAll]
  | n :: ns, m :: ms => by
    simp only [List.map_cons, PyData.eqvAll, PyData.eqv, eqv_ints ns ms, List.cons.injEq]
    rw [show (n == m) = decide (n = m) from rfl, Bool.decide_and]
theorem sh_intT (ns : List Int) : SeqAt.shaped (.tuple (ns.map PyData.int)) = true := by
  simp [SeqAt.shaped, PyData.canLay0, PyData.depth, can_int, dep_int]
section
variable {S : Sto} {q : D → Sto → Prop} {ns ms : List Int} {a b c d e f g h : Int}
theorem x_eqLi : aEq (.lst (ns.map D.int)) (.lst (ms.map D.int)) S q ↔ q (.bl (decide (ns = ms))) S := by
  rw [x_eq (p := .list (ns.map PyData.int)) (p' := .list (ms.map PyData.int)) (by simp [toPyS, toPy, toPys_int]) (by simp [toPyS, toPy, toPys_int])]
  simp only [sh_ints, true_and, PyData.eqv, eqv_ints]
theorem x_neLi : aNe (.lst (ns.map D.int)) (.lst (ms.map D.int)) S q ↔ q (.bl (decide (ns ≠ ms))) S := by
  rw [x_ne (p := .list (ns.map PyData.int)) (p' := .list (ms.map PyData.int)) (by simp [toPyS, toPy, toPys_int]) (by simp [toPyS, toPy, toPys_int])]
  simp only [sh_ints, true_and, PyData.eqv, eqv_ints, ← decide_not, ne_eq]
theorem x_eqTi : aEq (.tup (ns.map D.int)) (.tup (ms.map D.int)) S q ↔ q (.bl (decide (ns = ms))) S := by
  rw [x_eq (p := .tuple (ns.map PyData.int)) (p' := .tuple (ms.map PyData.int)) (by simp [toPyS, toPy, toPys_int]) (by simp [toPyS, toPy, toPys_int])]
  simp only [sh_intT, true_and, PyData.eqv, eqv_ints]
theorem x_neTi : aNe (.tup (ns.map D.int)) (.tup (ms.map D.int)) S q ↔ q (.bl (decide (ns ≠ ms))) S := by
  rw [x_ne (p := .tuple (ns.map PyData.int)) (p' := .tuple (ms.map PyData.int)) (by simp [toPyS, toPy, toPys_int]) (by simp [toPyS, toPy, toPys_int])]
  simp only [sh_intT, true_and, PyData.eqv, eqv_ints, ← decide_not, ne_eq]
theorem x_eqT2 : aEq (.tup [.int a, .int b]) (.tup [.int c, .int d]) S q ↔ q (.bl (decide ([a, b] = [c, d]))) S := x_eqTi (ns := [a, b]) (ms := [c, d])
theorem x_neT2 : aNe (.tup [.int a, .int b]) (.tup [.int c, .int d]) S q ↔ q (.bl (decide ([a, b] ≠ [c, d]))) S := x_neTi (ns := [a, b]) (ms := [c, d])
theorem x_neL4 : aNe (.lst [.int a, .int b, .int c, .int d]) (.lst [.int e, .int f, .int g, .int h]) S q ↔ q (.bl (decide ([a, b, c, d] ≠ [e, f, g, h]))) S := x_neLi (ns := [a, b, c, d]) (ms := [e, f, g, h])
theorem x_eqLN : aEq (.lst (ns.map D.int)) (.lst []) S q ↔ q (.bl (decide (ns = []))) S := x_eqLi (ms := [])
end
theorem kit_same {K : PySem.W.Frag} {C : Addr} : PySem.W.kitOne K (.ref C) (.ref C) = some true := by
  unfold PySem.W.kitOne
  rw [if_pos]
  simp
theorem kit_mk {K : PySem.W.Frag} {C : Addr} {t : Value} {b : Bool} (h1 : PySem.W.isClsIn K C = true) (h2 : PySem.W.typeIn K (.ref C) = some (.type "type")) (h3 : PySem.W.subIn K t (.ref C) = some b) (h4 : (t == Value.ref C) = false) : PySem.W.kitOne K t (.ref C) = some b := by
  unfold PySem.W.kitOne PySem.W.kitCls
  rw [h4, if_neg Bool.false_ne_true]
  unfold PySem.W.isClsIn at h1
  dsimp only
  rw [h1, h2, if_pos, h3]
  decide
end Dl
/-! Dl over data: sorted, count; own len, own !=. -/
namespace Dl
open PySem L2
/-! ### sorted of data -/
def rSortedD (K : PySem.W.Frag) : List V → Hp → VK → Prop := fun vs H Q => ∃ (a : Addr) (xs : List V) (ps : List PyData), vs = [.ref a] ∧ SqL K H a xs ∧ DpAll K H xs ps ∧ PySem.W.AllAlike ps ∧ PySem.W.Sortable ps ∧ (∀ p ∈ ps, p.depth ≤ 60) ∧
  ∀ (zs : List (V × PyData)) (p : Addr), zs = (xs.zip ps).mergeSort (PySem.W.dataLe false Prod.snd) → H p = none → Q (.ref p) (upd H p (.lst (zs.map Prod.fst)))
theorem dpAll_len {K : PySem.W.Frag} {H : Hp} : ∀ {xs : List V} {ps : List PyData}, DpAll K H xs ps → xs.length = ps.length
  | _, _, .nil => rfl
  | _, _, .cons _ h => by rw [List.length_cons, List.length_cons, dpAll_len h]
theorem readsAll_each {h : Heap} : ∀ {us : List Value} {ps : List PyData} {as : List Addr}, ReadsAll h us ps as → ∀ (i : Nat) (u : Value) (p : PyData), us[i]? = some u → ps[i]? = some p → ∃ as, Reads h u p as
  | _, _, _, .nil, i, u, p, h1, _ => by simp at h1
  | _, _, _, .cons r rs, 0, u, p, h1, h2 => by
    rw [List.getElem?_cons_zero] at h1 h2
    cases h1; cases h2
    exact ⟨_, r⟩
  | _, _, _, .cons r rs, i + 1, u, p, h1, h2 => by
    rw [List.getElem?_cons_succ] at h1 h2
    exact readsAll_each rs i u p h1 h2
theorem vals_each : ∀ {xs : List V} {us : List Value}, Vals xs us → ∀ (i : Nat) (x : V) (u : Value), xs[i]? = some x → us[i]? = some u → RelV x u
  | _, _, .nil, i, x, u, h1, _ => by simp at h1
  | _, _, .cons r rs, 0, x, u, h1, h2 => by
    rw [List.getElem?_cons_zero] at h1 h2
    cases h1; cases h2
    exact r
  | _, _, .cons r rs, i + 1, x, u, h1, h2 => by
    rw [List.getElem?_cons_succ] at h1 h2
    exact vals_each rs i x u h1 h2
theorem each_of {A B : Type} {R : A → B → Prop} : ∀ {as : List A} {bs : List B}, as.length = bs.length → (∀ (i : Nat) a b, as[i]? = some a → bs[i]? = some b → R a b) → PySem.W.EachIs R as bs
  | [], [], _, _ => .nil
  | [], _ :: _, h, _ => by simp at h
  | _ :: _, [], h, _ => by simp at h
  | a :: as, b :: bs, h, k => .cons (k 0 a b rfl rfl) (each_of (by simpa using h) fun i x y h1 h2 => k (i + 1) x y (by rw [List.getElem?_cons_succ]; exact h1) (by rw [List.getElem?_cons_succ]; exact h2))
theorem each_vals {bs : List ((Value × V) × PyData)} : ∀ {out : List Value} {bs : List ((Value × V) × PyData)}, PySem.W.EachIs (fun v b => v = b.1.1 ∧ RelV b.1.2 v) out bs → Vals (bs.map fun b => b.1.2) out
  | _, _, .nil => .nil
  | _, _, .cons h t => .cons h.2 (each_vals (bs := bs) t)
theorem zip3_get {A B C : Type} {as : List A} {bs : List B} {cs : List C} {i : Nat} {z : (A × B) × C} (h : ((as.zip bs).zip cs)[i]? = some z) : as[i]? = some z.1.1 ∧ bs[i]? = some z.1.2 ∧ cs[i]? = some z.2 := by
  rw [List.getElem?_zip_eq_some, List.getElem?_zip_eq_some] at h
  exact ⟨h.1.1, h.1.2, h.2⟩
theorem ms_map {A B : Type} {f : A → B} {r : A → A → Bool} {s : B → B → Bool} (h : ∀ a b, r a b = s (f a) (f b)) (l : List A) : (l.mergeSort r).map f = (l.map f).mergeSort s := List.map_mergeSort fun a _ b _ => h a b
theorem cr_sortedD {X : Cx} (hu : X.A.units + 64 < cLine) : CallR X (.builtin "sorted") (rSortedD X.K) := by
  intro pins s σ H vs us Q I r h
  obtain ⟨a, xs, ps, rfl, hs, hp, hal, hso, hdep, q⟩ := h
  obtain ⟨its, rv, hl, hz⟩ := I.list hs
  obtain ⟨u, rfl, ru⟩ := vals1 r
  obtain rfl : u = Value.ref a := ru
  obtain ⟨as, rd⟩ := Dp.readsAll I ps xs its hp rv
  have l1 : its.length = xs.length := rv.length.symm
  have l2 : xs.length = ps.length := dpAll_len hp
  let bs : List ((Value × V) × PyData) := (its.zip xs).zip ps
  have hbl : bs.length = ps.length := by show ((its.zip xs).zip ps).length = _; simp; omega
  have hmap : bs.map Prod.snd = ps := by
    show ((its.zip xs).zip ps).map Prod.snd = ps
    exact List.map_snd_zip (by simp; omega)
  refine PySem.W.sorted_data (β := (Value × V) × PyData) (R := fun v b => v = b.1.1 ∧ RelV b.1.2 v) (bs := bs) (enc := Prod.snd) hl.isList ?_ ?_ (by rw [hmap]; exact hal) (by rw [hmap]; exact hso) (by rw [hbl, ← l2]; exact hz) ?_ fun out ho he => ?_
  · refine each_of (by omega) fun i v b h1 h2 => ?_
    obtain ⟨g1, g2, g3⟩ := zip3_get h2
    rw [h1] at g1
    have e := Option.some.inj g1
    exact ⟨e, vals_each rv i _ _ g2 h1⟩
  · refine each_of (by omega) fun i v b h1 h2 => ?_
    obtain ⟨g1, g2, g3⟩ := zip3_get h2
    exact readsAll_each rd i v b.2 h1 g3
  · intro b hb
    have : b.2 ∈ ps := by rw [← hmap]; exact List.mem_map_of_mem hb
    have := hdep _ this
    omega
  · obtain ⟨n, hn⟩ := PyProof.Rows.sortedAll_at s.heap its out.toArray
    have kp : ∀ b o, s.heap.get? b = some o → (PyProof.Rows.sortedAll s.heap its out.toArray).get? b = some o := fun b o e => PyProof.Rows.sortedAll_old e
    have hd : s.heap.objs.size ≤ s.heap.objs.size + 1 := Nat.le_succ _
    have hvals := each_vals (bs := bs) he
    have hzs : (bs.mergeSort (PySem.W.dataLe false Prod.snd)).map (fun b => (b.1.2, b.2)) = (xs.zip ps).mergeSort (PySem.W.dataLe false Prod.snd) := by
      refine Eq.trans (ms_map (f := fun b : (Value × V) × PyData => (b.1.2, b.2)) (r := PySem.W.dataLe false Prod.snd) (s := PySem.W.dataLe false Prod.snd) (fun a b => rfl) bs) ?_
      congr 1
      apply List.ext_getElem?
      intro i
      rw [List.getElem?_map]
      cases hx : bs[i]? with
      | none =>
        have : bs.length ≤ i := List.getElem?_eq_none_iff.mp hx
        exact (List.getElem?_eq_none_iff.mpr (by simp; omega)).symm
      | some z =>
        obtain ⟨g1, g2, g3⟩ := zip3_get hx
        exact (List.getElem?_zip_eq_some (z := (z.1.2, z.2)).mpr ⟨g2, g3⟩).symm
    have hfst : ((xs.zip ps).mergeSort (PySem.W.dataLe false Prod.snd)).map Prod.fst = (bs.mergeSort (PySem.W.dataLe false Prod.snd)).map fun b => b.1.2 := by
      rw [← hzs, List.map_map]; rfl
    have q' := q _ (s.heap.objs.size + 1) rfl (I.hok.fresh hd)
    rw [hfst] at q'
    refine ⟨.ref (s.heap.objs.size + 1), upd H (s.heap.objs.size + 1) (.lst ((bs.mergeSort (PySem.W.dataLe false Prod.snd)).map fun b => b.1.2)), I.laid (t' := s.toks) kp hd ⟨?_, out, n, hvals, hn⟩, rfl, q'⟩
    rw [List.length_map, List.length_mergeSort, hbl, ← l2]
    exact hz
def aSorted (fz : Bool) : R1D := fun d S q => ∃ ds ps, seqOf S d = some ds ∧ d.isTup = false ∧ toPys ds = some ps ∧ PySem.W.AllAlike ps ∧ PySem.W.Sortable ps ∧ (∀ p ∈ ps, p.depth ≤ 60) ∧ newL fz (((ds.zip ps).mergeSort (PySem.W.dataLe false Prod.snd)).map Prod.fst) S q
theorem reps_all {K : PySem.W.Frag} {m : Nat → Addr} {N : Nat} {Hv : Hp} {A : Type} {f : A → D} {g : A → V} : ∀ {l : List A}, (∀ t ∈ l, Rep K m N Hv (f t) (g t)) → Reps K m N Hv (l.map f) (l.map g)
  | [], _ => rfl
  | t :: l, h => Reps.cons (h t (List.mem_cons_self ..)) (reps_all fun u hu => h u (List.mem_cons_of_mem _ hu))
theorem toPys_len : ∀ {ds : List D} {ps : List PyData}, toPys ds = some ps → ps.length = ds.length
  | [], ps, h => by simp [toPys] at h; subst h; rfl
  | d :: ds, ps, h => by
    rw [toPys] at h
    cases h1 : toPy d with
    | none => rw [h1] at h; cases h
    | some p =>
      cases h2 : toPys ds with
      | none => rw [h1, h2] at h; cases h
      | some qs =>
        rw [h1, h2] at h
        cases h
        rw [List.length_cons, List.length_cons, toPys_len h2]
theorem vr_sorted {K : PySem.W.Frag} {fz : Bool} : VRN K (rSortedD K) (a1 (aSorted fz)) := vrn1 fun {_ m S Z H d v q Q} w r ⟨ds, ps, h1, h2, h3, h4, h5, h6, h7⟩ k => by
  obtain ⟨a, xs, e, hr, ht, hl⟩ := seqOf_rep w r h1
  refine ⟨a, xs, ps, by rw [e], hl h2, DpAll.sub vis_le (dps_of hr h3), h4, h5, h6, fun zs p hz hp => ?_⟩
  have l1 := Reps.len hr
  have l2 := toPys_len h3
  let ts : List ((D × V) × PyData) := (ds.zip xs).zip ps
  have m1 : ts.map (fun t => (t.1.1, t.2)) = ds.zip ps := by
    apply List.ext_getElem?
    intro i
    rw [List.getElem?_map]
    cases hx : ts[i]? with
    | none =>
      have : ts.length ≤ i := List.getElem?_eq_none_iff.mp hx
      have hlen : ts.length = ds.length := by show ((ds.zip xs).zip ps).length = _; simp; omega
      exact (List.getElem?_eq_none_iff.mpr (by simp; omega)).symm
    | some z =>
      obtain ⟨g1, g2, g3⟩ := zip3_get hx
      exact (List.getElem?_zip_eq_some (z := (z.1.1, z.2)).mpr ⟨g1, g3⟩).symm
  have m2 : ts.map (fun t => (t.1.2, t.2)) = xs.zip ps := by
    apply List.ext_getElem?
    intro i
    rw [List.getElem?_map]
    cases hx : ts[i]? with
    | none =>
      have : ts.length ≤ i := List.getElem?_eq_none_iff.mp hx
      have hlen : ts.length = ds.length := by show ((ds.zip xs).zip ps).length = _; simp; omega
      exact (List.getElem?_eq_none_iff.mpr (by simp; omega)).symm
    | some z =>
      obtain ⟨g1, g2, g3⟩ := zip3_get hx
      exact (List.getElem?_zip_eq_some (z := (z.1.2, z.2)).mpr ⟨g2, g3⟩).symm
  have s1 : (ts.mergeSort (PySem.W.dataLe false Prod.snd)).map (fun t => (t.1.1, t.2)) = (ds.zip ps).mergeSort (PySem.W.dataLe false Prod.snd) := by
    refine Eq.trans (ms_map (f := fun t : (D × V) × PyData => (t.1.1, t.2)) (r := PySem.W.dataLe false Prod.snd) (s := PySem.W.dataLe false Prod.snd) (fun a b => rfl) ts) ?_
    rw [m1]
  have s2 : (ts.mergeSort (PySem.W.dataLe false Prod.snd)).map (fun t => (t.1.2, t.2)) = (xs.zip ps).mergeSort (PySem.W.dataLe false Prod.snd) := by
    refine Eq.trans (ms_map (f := fun t : (D × V) × PyData => (t.1.2, t.2)) (r := PySem.W.dataLe false Prod.snd) (s := PySem.W.dataLe false Prod.snd) (fun a b => rfl) ts) ?_
    rw [m2]
  have hrep : Reps K m S.length (vis m S Z H) (((ds.zip ps).mergeSort (PySem.W.dataLe false Prod.snd)).map Prod.fst) (zs.map Prod.fst) := by
    rw [hz, ← s1, ← s2, List.map_map, List.map_map]
    refine reps_all fun t ht => ?_
    have ht' : t ∈ ts := (List.mergeSort_perm ts _).mem_iff.mp ht
    obtain ⟨i, hi⟩ := List.getElem?_of_mem ht'
    obtain ⟨g1, g2, g3⟩ := zip3_get hi
    obtain ⟨v', hv', rv'⟩ := Reps.get hr g1
    rw [g2] at hv'
    cases hv'
    exact rv'
  exact out_newL w hrep h7 k hp
end Dl
/-! Dl: own len, own !=, == of lists of own instances that are equal, count. -/
namespace Dl
open PySem L2 PySem.W
section
variable {X : Cx} {C : Addr} {m qual : Str} {st : Stmt} {dvs : List V} {k : Nat} {ps : List Str} {dsp : DSp} {sp : Sp}
/-- a def run somewhere below the running body -/
theorem run_at {A : Around} {f : Addr} {fd : FuncData} {n : Nat} {g : List Value → List Value → List Value} {gV : List V → List V → List V} {pins : List (Addr × Obj)} {σ : L2.St} {H : Hp} {s : Shared} {Q : VK} {us : List Value} {vs : List V} (F : FnG X.prog X.w X.K X.mg X.base CX0 k f fd ps sp) (sb : SubG X k A) (hb : KBn X.K fd ps n [] g gV)
    (I : L2.Inv X pins σ H s) (r : Vals vs us) (l1 : vs.length = n) (h : sp (gV vs []) H Q fun _ _ _ => False) : wpAny (model X.prog X.w) A (call (.ref f) us) (EP X pins σ Q) X.xe s := by
  have e0 : Env0 X.prog X.w X.K X.mg X.base A X.stack s H := by
    have e := I.env0
    exact ⟨by rw [sb.fr]; exact e.frames, e.mod, e.bs, e.bsz, e.funs, e.frf, e.hok, e.bare⟩
  have r2 := hb.rel r .nil
  refine wpAny_call (codeAny_mono (F.run A X.stack s H ⟨us, []⟩ (g us []) (gV vs []) Q _ sb.room e0 (hb.to s us [] I.kIn (r.length.symm.trans l1) rfl) r2 h) fun r s' hq => ?_)
  cases r with
  | error e => exact pass0 pins σ H s e s' I hq
  | ok fl =>
    cases fl with
    | ret u => exact I.after hq
    | next => exact False.elim hq
    | brk => exact False.elim hq
    | cont => exact False.elim hq
/-! ### len(own) -/
def rLenO (C : Addr) (sp : Sp) : List V → Hp → VK → Prop := fun vs H Q => ∃ a dx fs, vs = [.ref a] ∧ H a = some (.ins C dx fs) ∧ sp [.ref a] H (fun v H' => ∃ n : Int, v = .int n ∧ 0 ≤ n ∧ n < 2 ^ 63 ∧ Q (.int n) H') fun _ _ _ => False
def aLenO (C : Addr) (dsp : DSp) : R1D := fun a S q => (∃ ks ds, objOf S a = some (C, ks, ds)) ∧ dsp [a] S fun d S' => ∃ n : Int, d = .int n ∧ 0 ≤ n ∧ n < 2 ^ 63 ∧ q (.int n) S'
theorem or_lenO (F : MFn X.prog X.w X.K X.mg X.base C "__len__" qual st dvs k ps dsp) (hr : RoomG (k + 1) X.A) (b : Bnd "__len__" qual st ps 1 [] [.p 0] dvs.length) : CallR X (.builtin "len") (rLenO C (spOf X.K dsp)) := by
  intro pins s σ H vs us Q I r h
  obtain ⟨a, dx, fs, rfl, ha, hsp⟩ := h
  obtain ⟨u, rfl, ru⟩ := vals1 r
  obtain rfl : u = Value.ref a := ru
  obtain ⟨f, fd, FS, hm, FO⟩ := F.ex
  obtain ⟨its, KB⟩ := kbn_of FS b
  obtain ⟨mA, J, _⟩ := ins_get I.hok ha
  obtain ⟨od, J, _⟩ := J.look
  obtain ⟨mm, hF⟩ := I.fr
  refine PySem.W.len_K hF I.ok.mod.kin J hm.at_ hm.fn ?_
  have r2 : Vals [V.ref a] [Value.ref a] := .cons rfl .nil
  refine wpAny_mono (run_at FO ⟨hr.in1, rfl⟩ KB I r2 rfl (Q := fun v H' => ∃ n : Int, v = .int n ∧ 0 ≤ n ∧ n < 2 ^ 63 ∧ Q (.int n) H') (by simpa [gat, pick] using hsp)) (fun w' s' hq => ?_) fun _ _ z => z
  obtain ⟨z, H', I', rz, n, ez, h0, h1, q⟩ := hq
  subst ez
  obtain ⟨t, rfl⟩ := rz
  exact ⟨⟨h0, h1⟩, .int n, H', I'.tok _, ⟨_, rfl⟩, q⟩
theorem vr_lenO {K : PySem.W.Frag} : VRN K (rLenO C (spOf K dsp)) (a1 (aLenO C dsp)) := vrn1 fun {_ m S Z H d v q Q} w r ⟨⟨ks, ds, h1⟩, h2⟩ kk => by
  obtain ⟨x, dx, vs, ev, hx, _, _⟩ := objOf_rep w r h1
  subst ev
  refine ⟨x, dx, _, rfl, hx, m, S, Z, [d], _, w.w0, Reps.one r, h2, fun v1 H1 m1 d1 S1 e1 w1 rr ⟨n, en, h3, h4, hq⟩ => ?_⟩
  subst en
  have rr' := rr
  rw [rD, Rep] at rr'
  exact ⟨n, rr', h3, h4, kk.at e1 (w.on e1 w1.toWd0) rep_int hq⟩
/-! ### own != -/
theorem ifBound_B {M : Model} {A : Around} {E : Value → Shared → Prop} {s : Shared} {self : Value} {name : Str} {id : String} {args : List Value} {Q : Option Value → Shared → Prop} (sp : Looks M s.heap (specialOf self name) (some (.builtin id))) (hb : bindSpecial (.builtin id) self = pure (.builtin id, [self]))
    (hc : wpAny M A (call (.builtin id) (self :: args)) (fun v => Q (some v)) E s) : wpAny M A (callSpecialIfBound? self name args) Q E s := by
  simp only [callSpecialIfBound?, bindSpecialIfBound?]
  refine wpAny_holding (wpAny_bind (wpAny_bind (sp.here ?_)))
  simp only [hb]
  refine wpAny_bind (wpAny_askSetting (wpAny_ite ?_))
  have fin : wpAny M A (call (.builtin id) ([self] ++ args) >>= fun v => pure (some v)) Q E s := wpAny_bind (wpAny_mono hc (fun v s' h' => wpAny_pure h') fun _ _ h' => h')
  split
  · exact wpAny_bind (wpAny_pure (wpAny_pure fin))
  · exact wpAny_tryCatch (wpAny_bind (wpAny_pure (wpAny_pure fin)))
theorem rich_one {prog : Program} {w : World} {A : Around} {E : Value → Shared → Prop} {s : Shared} {K : PySem.W.Frag} {x C : Addr} {ox : Obj} {od : Option Obj} {b tb : Value} {op : CmpOp} {Q : Value → Shared → Prop} (hu : A.units < cLine) (X : K.In s.heap) (I : InstAt s.heap x ox C od) (hb : Looks (model prog w) s.heap (typeOf b) tb) (hn : notFirst K C tb = true)
    (one : wpAny (model prog w) A (tryCompare (.ref x) (cmpInfo op).2.1 b) (fun r s' => ∃ v, r = some v ∧ Q v s') E s) : wpAny (model prog w) A (richCompare op (.ref x) b) Q E s := by
  unfold richCompare
  simp only [oneThing_ref]
  refine wpAny_holding (wpAny_bind (wpAny_cRoomFor hu ?_))
  refine wpAny_bind (I.type.here (wpAny_bind (hb.here ?_)))
  split
  · rename_i q
    have e : subIn K tb (.ref C) = some false := by
      rcases Bool.or_eq_true_iff.mp hn with e | e
      · rw [beq_iff_eq.mp e] at q; simp at q
      · exact beq_iff_eq.mp e
    refine wpAny_bind ((looks_subIn X e).here ?_)
    simp only [Bool.false_eq_true, if_false]
    refine wpAny_bind (wpAny_mono one (fun r s' z => ?_) fun _ _ e => e)
    obtain ⟨v, rfl, hq⟩ := z
    exact wpAny_pure hq
  · refine wpAny_bind (wpAny_pure ?_)
    simp only [Bool.false_eq_true, if_false]
    refine wpAny_bind (wpAny_mono one (fun r s' z => ?_) fun _ _ e => e)
    obtain ⟨v, rfl, hq⟩ := z
    exact wpAny_pure hq
theorem objNe_K {prog : Program} {w : World} {A : Around} {E : Value → Shared → Prop} {s : Shared} {K : PySem.W.Frag} {x y C f : Addr} {ox : Obj} {od : Option Obj} {Q : Fin → Shared → Prop} (hu : A.units < cLine) (X : K.In s.heap) (I : InstAt s.heap x ox C od) (hs : findIn K (.ref C) "__eq__" = some (some (.ref f))) (hf : isFn K (.ref f) = true)
    (hcall : wpAny (model prog w) A (call (.ref f) [.ref x, .ref y]) (fun v s' => ∃ b, v = .bool b ∧ Q (.done (.ret (.bool (!b)))) s') E s) : wpAny (model prog w) A (Builtin.«object.__ne__» ⟨[.ref x, .ref y], []⟩) Q E s := by
  unfold Builtin.«object.__ne__»
  repeat (first
    | with_reducible refine wpAny_cRoomFor hu ?_
    | (refine wpAny_bind (m := callSpecialIfBound? (.ref x) (Str.ofString "__eq__") [.ref y])
        (ifBound_K X I hs hf (wpAny_mono hcall (fun r s' hr => by
          obtain ⟨b, rfl, hq⟩ := hr
          repeat (first | exact hq | exact wpAny_pure hq | exact wpAny_truthy_bool hq | (refine wpAny_bind (m := truthy (.bool _)) (wpAny_truthy_bool ?_)) | wp_step)) fun _ _ e => e)))
    | wp_step)
structure NoNe (K : PySem.W.Frag) (C : Addr) : Prop where
  ne : findIn K (.ref C) "__ne__" = some (some (.builtin "object.__ne__"))
  ob : mroIn K C (.type "object") = some true
def aOwnN (C : Addr) (dsp : DSp) : R2D := fun a b S q => (∃ ks ds, objOf S a = some (C, ks, ds)) ∧ (∃ ks ds, objOf S b = some (C, ks, ds)) ∧ dsp [a, b] S fun d S' => ∃ k, d = .bl k ∧ q (.bl (!k)) S'
def rOwnN (C : Addr) (sp : Sp) : R2 := fun x y H Q => ∃ a b dx dy fs gs, x = .ref a ∧ y = .ref b ∧ H a = some (.ins C dx fs) ∧ H b = some (.ins C dy gs) ∧ sp [x, y] H (fun v H' => ∃ k, v = .bl k ∧ Q (.bl (!k)) H') fun _ _ _ => False
theorem or_ownN (N : NoNe X.K C) (F : MFn X.prog X.w X.K X.mg X.base C "__eq__" qual st dvs k ps dsp) (hr : RoomG (k + 1) X.A) (b : Bnd "__eq__" qual st ps 2 [] [.p 0, .p 1] dvs.length) : OpR X (compareOp .NotEq) (rOwnN C (spOf X.K dsp)) := by
  intro pins s σ H x y v u Q I rx ry d
  obtain ⟨a, b', dx, dy, fs, gs, rfl, rfl, ha, hb', hsp⟩ := d
  cases rx
  cases ry
  obtain ⟨f, fd, FS, hm, FO⟩ := F.ex
  obtain ⟨its, KB⟩ := kbn_of FS b
  obtain ⟨mA, J, _⟩ := ins_get I.hok ha
  obtain ⟨mB, J', _⟩ := ins_get I.hok hb'
  obtain ⟨od, J, _⟩ := J.look
  obtain ⟨od', J', _⟩ := J'.look
  have KX := I.kIn
  show wpAny (model X.prog X.w) X.A (richCompare .NotEq (.ref a) (.ref b')) (EP X pins σ Q) X.xe s
  refine rich_one (op := .NotEq) (tb := .ref C) hr.units0 KX J J'.type (by simp [PySem.W.notFirst]) ?_
  have hin1 : X.A.in1.units < cLine := (hr.in1).units0
  simp only [tryCompare]
  have sp1 : Looks (model X.prog X.w) s.heap (specialOf (.ref a) (cmpInfo .NotEq).2.1) (some (.builtin "object.__ne__")) := J.type.andThen (looks_findIn KX N.ne)
  have inst : Looks (model X.prog X.w) s.heap (isInstance (.ref a) (.type "object")) true := J.type.andThen (looks_mroIn KX N.ob)
  refine wpAny_bind (ifBound_B sp1 (PySem.F.cmp_object.ne.bind _) ?_)
  refine wpAny_call (codeAny_call_builtin PySem.F.cmp_object.ne.plain PySem.F.cmpEntry_ne (@check_slot (model X.prog X.w) _ _ _ "object.__ne__" "object" "__ne__" (.ref a) [.ref b'] [] _ PySem.F.cmpKind_ne PySem.F.cmpSplit_ne inst (PySem.F.cmpArgs_ne _ _) ?_))
  refine objNe_K (A := X.A.in1) hin1 KX J hm.at_ hm.fn ?_
  have r2 : Vals [V.ref a, V.ref b'] [Value.ref a, Value.ref b'] := .cons rfl (.cons rfl .nil)
  refine wpAny_mono (run_at FO ⟨hr.in1, rfl⟩ KB I r2 rfl (Q := fun v H' => ∃ k, v = .bl k ∧ Q (.bl (!k)) H') (by simpa [gat, pick] using hsp)) (fun w' s' hq => ?_) fun _ _ z => z
  obtain ⟨z, H', I', rz, c, ez, q⟩ := hq
  subst ez
  cases rz
  exact ⟨c, rfl, wpAny_pure ⟨_, rfl, .bl (!c), H', I', rfl, q⟩⟩
theorem vr_ownN {K : PySem.W.Frag} : VR2 K (rOwnN C (spOf K dsp)) (aOwnN C dsp) := fun {_ m S Z H a b v u q Q} w r1 r2 ⟨⟨ks, ds, h1⟩, ⟨ks', ds', h2⟩, h3⟩ kk => by
  obtain ⟨x, dx, vs, ev, hx, _, _⟩ := objOf_rep w r1 h1
  obtain ⟨y, dy, us, eu, hy, _, _⟩ := objOf_rep w r2 h2
  refine ⟨x, y, dx, dy, _, _, ev, eu, hx, hy, m, S, Z, [a, b], _, w.w0, Reps.cons r1 (Reps.one r2), h3, fun v1 H1 m1 d1 S1 e1 w1 rr ⟨c, ec, hq⟩ => ?_⟩
  subst ec
  have rr' := rr
  rw [rD, Rep] at rr'
  exact ⟨c, rr', kk.at e1 (w.on e1 w1.toWd0) rep_bl hq⟩
end
end Dl
/-! == and != of two lists, item by item; xs[::-1]; three at once; count. -/
namespace GB
open PySem PySem.Calls PySem.Spec PyProof.Rows GQ
open PySem.SeqAt
open AutoSeq1 (wpAny_loadPart')
open MeetsSeq MeetsSeq2 MeetsSeq3 SeqRoads2
section
variable {prog : Program} {w : World} {A : Around} {R : Result → Shared → Prop}
/-- at each turn the two lists are read anew: N items each, the i-th two compared say rs i -/
def ListB (prog : Program) (w : World) (A : Around) (E : Value → Shared → Prop) (l b : Addr) (N : Nat) (rs : Nat → Bool) (I : Nat → Shared → Prop) : Prop :=
  ∀ i s, I i s → ∃ (items items2 : Array Value) (n n2 : Nat), s.heap.get? l = some { cls := .type "list", data := .seq items n } ∧ s.heap.get? b = some { cls := .type "list", data := .seq items2 n2 } ∧ items.size = N ∧ items2.size = N ∧
    ∀ (h1 : i < items.size) (h2 : i < items2.size), wpAny (model prog w) A.in1 (eqBool items[i] items2[i]) (fun r s' => r = rs i ∧ I (i + 1) s') E s
/-- code 2: ==; code 3: != -/
def okOf (c : Int) : Bool := c == 2
theorem loopB (c : Int) (hc : c = 2 ∨ c = 3) (l b : Addr) (N : Nat) (rs : Nat → Bool) (out : Bool) (h1 : (∀ j, j < N → rs j = true) → out = okOf c) (h2 : ∀ j, j < N → rs j = false → out = !okOf c) (I : Nat → Shared → Prop) (hl : ListB prog w A (fun e s' => R (.error e) s') l b N rs I)
    (fin : ∀ j s, I j s → R (.ok (.ret (.bool out))) s) (k : Nat) :
    ∀ i : Nat, N - i = k → i ≤ N → (∀ j, j < i → rs j = true) → ∀ s, I i s →
      wpAny (model prog w) A.in1 (Builtin.«list.__eq__.loop» ⟨[.ref l, .ref b, rawInt i, rawInt c], []⟩) (FinOf prog w A R) (fun e s' => R (.error e) s') s := by
  induction k with
  | zero =>
    intro i hk hi hall s h
    obtain ⟨items, items2, n, n2, hl1, hb1, hs1, hs2, _⟩ := hl _ _ h
    have hi' : i = N := by omega
    have hR : R (.ok (.ret (.bool out))) s := fin i s h
    rw [h1 (fun j hj => hall j (by omega))] at hR
    obtain ⟨hp, g, d, tk, os⟩ := s
    rcases hc with rfl | rfl
    · wp_walk using wpAny_loadPart' hl1, wpAny_loadPart' hb1
      have hi1 : items[((i : Nat) : Int).toNat]? = none := by simp; omega
      have hi2 : items2[((i : Nat) : Int).toNat]? = none := by simp; omega
      rw [hi1, hi2]
      wp_walk using wpAny_loadPart' hl1, wpAny_loadPart' hb1
      show R (.ok (.ret (.bool (items.size == items2.size)))) _
      rw [hs1, hs2]
      simpa [okOf] using hR
    · wp_walk using wpAny_loadPart' hl1, wpAny_loadPart' hb1
      have hi1 : items[((i : Nat) : Int).toNat]? = none := by simp; omega
      have hi2 : items2[((i : Nat) : Int).toNat]? = none := by simp; omega
      rw [hi1, hi2]
      wp_walk using wpAny_loadPart' hl1, wpAny_loadPart' hb1
      show R (.ok (.ret (.bool (items.size != items2.size)))) _
      rw [hs1, hs2]
      simpa [okOf] using hR
  | succ k ih =>
    intro i hk hi hall s h
    obtain ⟨items, items2, n, n2, hl1, hb1, hs1, hs2, turn⟩ := hl _ _ h
    have hlt : i < items.size := by omega
    have hlt2 : i < items2.size := by omega
    have ht := turn hlt hlt2
    have hi1 : items[((i : Nat) : Int).toNat]? = some items[i] := by simp [hlt]
    have hi2 : items2[((i : Nat) : Int).toNat]? = some items2[i] := by simp [hlt2]
    have hcc : ((i : Int) + 1) = ((i + 1 : Nat) : Int) := by omega
    cases hr : rs i with
    | true =>
      have step : ∀ s2, I (i + 1) s2 → wpAny (model prog w) A.in1 (Builtin.«list.__eq__.loop» ⟨[.ref l, .ref b, rawInt ((i + 1 : Nat) : Int), rawInt c], []⟩) (FinOf prog w A R) (fun e s' => R (.error e) s') s2 := fun s2 h2' => ih (i + 1) (by omega) (by omega) (fun j hj => by
        rcases Nat.lt_or_ge j i with q | q
        · exact hall j q
        · rw [show j = i by omega]; exact hr) s2 h2'
      obtain ⟨hp, g, d, tk, os⟩ := s
      rcases hc with rfl | rfl
      all_goals
        wp_walk using wpAny_loadPart' hl1, wpAny_loadPart' hb1
        rw [hi1, hi2]
        refine wpAny_bind (wpAny_mono ht (fun r s2 h2' => ?_) fun _ _ x => x)
        obtain ⟨hr', h2'⟩ := h2'
        rw [hr] at hr'
        subst hr'
        have hrec := step s2 h2'
        obtain ⟨hp2, g2, d2, tk2, os2⟩ := s2
        wp_walk
        rw [hcc]
        exact ⟨plainId_quiet plain_eq_loop _, codeAny_builtin entry_eq_loop (by
          rw [Around.under_plainId plain_eq_loop _]
          exact hrec)⟩
    | false =>
      have ho := h2 i (by omega) hr
      have last : ∀ s2, I (i + 1) s2 → ∃ (items items2 : Array Value) (n n2 : Nat), s2.heap.get? l = some { cls := .type "list", data := .seq items n } ∧ s2.heap.get? b = some { cls := .type "list", data := .seq items2 n2 } ∧ i < items.size ∧ i < items2.size ∧ R (.ok (.ret (.bool (!okOf c)))) s2 := fun s2 q => by
        obtain ⟨x1, x2, y1, y2, e1, e2, e3, e4, _⟩ := hl _ _ q
        exact ⟨x1, x2, y1, y2, e1, e2, by omega, by omega, ho ▸ fin _ s2 q⟩
      obtain ⟨hp, g, d, tk, os⟩ := s
      rcases hc with rfl | rfl
      all_goals
        wp_walk using wpAny_loadPart' hl1, wpAny_loadPart' hb1
        rw [hi1, hi2]
        refine wpAny_bind (wpAny_mono ht (fun r s2 h2' => ?_) fun _ _ x => x)
        obtain ⟨hr', h2'⟩ := h2'
        rw [hr] at hr'
        subst hr'
        obtain ⟨x1, x2, y1, y2, e1, e2, e3, e4, hR⟩ := last s2 h2'
        obtain ⟨hp2, g2, d2, tk2, os2⟩ := s2
        wp_walk using wpAny_loadPart' e1, wpAny_loadPart' e2
        have hj1 : x1[((i : Nat) : Int).toNat]? = some x1[i] := by simp [e3]
        have hj2 : x2[((i : Nat) : Int).toNat]? = some x2[i] := by simp [e4]
        rw [hj1, hj2]
        wp_walk
        simpa [okOf] using hR
theorem list_eqB (l b : Addr) (N : Nat) (rs : Nat → Bool) (out : Bool) (h1 : (∀ j, j < N → rs j = true) → out = true) (h2 : ∀ j, j < N → rs j = false → out = false) (I : Nat → Shared → Prop) (hl : ListB prog w A (fun e s' => R (.error e) s') l b N rs I)
    (fin : ∀ j s, I j s → R (.ok (.ret (.bool out))) s) {s : Shared} (h : I 0 s) :
    wpAny (model prog w) A.in1 (Builtin.«list.__eq__» ⟨[.ref l, .ref b], []⟩) (FinOf prog w A R) (fun e s' => R (.error e) s') s := by
  obtain ⟨items, items2, n, n2, hl1, hb1, hs1, hs2, _⟩ := hl _ _ h
  have hrec := loopB (A := A) (R := R) 2 (.inl rfl) l b N rs out h1 h2 I hl fin _ 0 rfl (Nat.zero_le _) (fun j hj => absurd hj (by omega)) s h
  obtain ⟨hp, g, d, tk, os⟩ := s
  have f3 := AutoSeq1.sub_list_list
  have hne : ¬ (items.size != items2.size) = true := by simp [hs1, hs2]
  wp_walk using wpAny_loadPart' hl1, wpAny_loadPart' hb1
  exact ⟨plainId_quiet plain_eq_loop _, codeAny_builtin entry_eq_loop (by
    rw [Around.under_plainId plain_eq_loop _]
    exact hrec)⟩
theorem list_neB (l b : Addr) (N : Nat) (rs : Nat → Bool) (out : Bool) (h1 : (∀ j, j < N → rs j = true) → out = false) (h2 : ∀ j, j < N → rs j = false → out = true) (I : Nat → Shared → Prop) (hl : ListB prog w A (fun e s' => R (.error e) s') l b N rs I)
    (fin : ∀ j s, I j s → R (.ok (.ret (.bool out))) s) {s : Shared} (h : I 0 s) :
    wpAny (model prog w) A.in1 (Builtin.«list.__ne__» ⟨[.ref l, .ref b], []⟩) (FinOf prog w A R) (fun e s' => R (.error e) s') s := by
  obtain ⟨items, items2, n, n2, hl1, hb1, hs1, hs2, _⟩ := hl _ _ h
  have hrec := loopB (A := A) (R := R) 3 (.inr rfl) l b N rs out h1 h2 I hl fin _ 0 rfl (Nat.zero_le _) (fun j hj => absurd hj (by omega)) s h
  obtain ⟨hp, g, d, tk, os⟩ := s
  have f3 := AutoSeq1.sub_list_list
  have hne : ¬ (items.size != items2.size) = true := by simp [hs1, hs2]
  wp_walk using wpAny_loadPart' hl1, wpAny_loadPart' hb1
  exact ⟨plainId_quiet plain_eq_loop _, codeAny_builtin entry_eq_loop (by
    rw [Around.under_plainId plain_eq_loop _]
    exact hrec)⟩
theorem list_eqD (l b : Addr) {items items2 : Array Value} {n n2 : Nat} {s : Shared} (hl1 : s.heap.get? l = some { cls := .type "list", data := .seq items n }) (hb1 : s.heap.get? b = some { cls := .type "list", data := .seq items2 n2 }) (hsz : items.size ≠ items2.size) (fin : R (.ok (.ret (.bool false))) s) :
    wpAny (model prog w) A.in1 (Builtin.«list.__eq__» ⟨[.ref l, .ref b], []⟩) (FinOf prog w A R) (fun e s' => R (.error e) s') s := by
  obtain ⟨hp, g, d, tk, os⟩ := s
  have f3 := AutoSeq1.sub_list_list
  have hne : (items.size != items2.size) = true := by simp [hsz]
  wp_walk using wpAny_loadPart' hl1, wpAny_loadPart' hb1
  exact fin
theorem list_neD (l b : Addr) {items items2 : Array Value} {n n2 : Nat} {s : Shared} (hl1 : s.heap.get? l = some { cls := .type "list", data := .seq items n }) (hb1 : s.heap.get? b = some { cls := .type "list", data := .seq items2 n2 }) (hsz : items.size ≠ items2.size) (fin : R (.ok (.ret (.bool true))) s) :
    wpAny (model prog w) A.in1 (Builtin.«list.__ne__» ⟨[.ref l, .ref b], []⟩) (FinOf prog w A R) (fun e s' => R (.error e) s') s := by
  obtain ⟨hp, g, d, tk, os⟩ := s
  have f3 := AutoSeq1.sub_list_list
  have hne : (items.size != items2.size) = true := by simp [hsz]
  wp_walk using wpAny_loadPart' hl1, wpAny_loadPart' hb1
  exact fin
end
section
variable {prog : Program} {w : World} {A : Around} {E : Value → Shared → Prop} {s : Shared}
theorem rc_eqB {l b : Addr} {N : Nat} {rs : Nat → Bool} {out : Bool} {Q : Value → Shared → Prop} (hu : A.units < cLine) (h1 : (∀ j, j < N → rs j = true) → out = true) (h2 : ∀ j, j < N → rs j = false → out = false) (I : Nat → Shared → Prop) (hl : ListB prog w A E l b N rs I)
    (fin : ∀ j s, I j s → Q (.bool out) s) (h : I 0 s) : wpAny (model prog w) A (richCompare .Eq (.ref l) (.ref b)) Q E s := by
  obtain ⟨items, items2, n, n2, hl1, hb1, _, _, _⟩ := hl _ _ h
  refine wpAny_richCompare_same_room (op := .Eq) ⟨_, hl1, rfl⟩ ⟨_, hb1, rfl⟩ F.slot_list_eq (call_here F.slot_list_eq ⟨_, hl1, rfl⟩ F.entry_list_eq (F.args_list_eq_2 _ _) ?_) hu
  exact list_eqB (R := wants (fun v s' => v ≠ .notImplemented ∧ Q v s') E) l b N rs out h1 h2 I hl (fun j s' q => ⟨(fun x => nomatch x), fin j s' q⟩) h
theorem rc_neB {l b : Addr} {N : Nat} {rs : Nat → Bool} {out : Bool} {Q : Value → Shared → Prop} (hu : A.units < cLine) (h1 : (∀ j, j < N → rs j = true) → out = false) (h2 : ∀ j, j < N → rs j = false → out = true) (I : Nat → Shared → Prop) (hl : ListB prog w A E l b N rs I)
    (fin : ∀ j s, I j s → Q (.bool out) s) (h : I 0 s) : wpAny (model prog w) A (richCompare .NotEq (.ref l) (.ref b)) Q E s := by
  obtain ⟨items, items2, n, n2, hl1, hb1, _, _, _⟩ := hl _ _ h
  refine wpAny_richCompare_same_room (op := .NotEq) ⟨_, hl1, rfl⟩ ⟨_, hb1, rfl⟩ F.slot_list_ne (call_here F.slot_list_ne ⟨_, hl1, rfl⟩ F.entry_list_ne (F.args_list_ne_2 _ _) ?_) hu
  exact list_neB (R := wants (fun v s' => v ≠ .notImplemented ∧ Q v s') E) l b N rs out h1 h2 I hl (fun j s' q => ⟨(fun x => nomatch x), fin j s' q⟩) h
theorem rc_eqD {l b : Addr} {items items2 : Array Value} {n n2 : Nat} {Q : Value → Shared → Prop} (hu : A.units < cLine) (hl1 : s.heap.get? l = some { cls := .type "list", data := .seq items n }) (hb1 : s.heap.get? b = some { cls := .type "list", data := .seq items2 n2 }) (hsz : items.size ≠ items2.size) (fin : Q (.bool false) s) :
    wpAny (model prog w) A (richCompare .Eq (.ref l) (.ref b)) Q E s := by
  refine wpAny_richCompare_same_room (op := .Eq) ⟨_, hl1, rfl⟩ ⟨_, hb1, rfl⟩ F.slot_list_eq (call_here F.slot_list_eq ⟨_, hl1, rfl⟩ F.entry_list_eq (F.args_list_eq_2 _ _) ?_) hu
  exact list_eqD (R := wants (fun v s' => v ≠ .notImplemented ∧ Q v s') E) l b hl1 hb1 hsz ⟨(fun x => nomatch x), fin⟩
theorem rc_neD {l b : Addr} {items items2 : Array Value} {n n2 : Nat} {Q : Value → Shared → Prop} (hu : A.units < cLine) (hl1 : s.heap.get? l = some { cls := .type "list", data := .seq items n }) (hb1 : s.heap.get? b = some { cls := .type "list", data := .seq items2 n2 }) (hsz : items.size ≠ items2.size) (fin : Q (.bool true) s) :
    wpAny (model prog w) A (richCompare .NotEq (.ref l) (.ref b)) Q E s := by
  refine wpAny_richCompare_same_room (op := .NotEq) ⟨_, hl1, rfl⟩ ⟨_, hb1, rfl⟩ F.slot_list_ne (call_here F.slot_list_ne ⟨_, hl1, rfl⟩ F.entry_list_ne (F.args_list_ne_2 _ _) ?_) hu
  exact list_neD (R := wants (fun v s' => v ≠ .notImplemented ∧ Q v s') E) l b hl1 hb1 hsz ⟨(fun x => nomatch x), fin⟩
end
end GB
/-! == and != of lists of own instances; xs[::-1]; three at once; count. -/
namespace Dl
open PySem L2
section
variable {K : PySem.W.Frag} {m : Nat → Addr} {S : Sto} {Z : Addr → Prop} {H H' : Hp}
theorem vis_grow (e : L2.Ext H H') : ∀ a o, vis m S Z H a = some o → vis m S Z H' a = some o := fun a o h => by
  obtain ⟨h1, h2⟩ := vis_not h
  exact vis_of (e _ _ (vis_sub h)) h1 h2
theorem Wd0.grow (w : Wd0 K m S Z H) (e : L2.Ext H H') : Wd0 K m S Z H' ∧ Ext m S Z H m S H' := by
  have hz : ∀ a, Z a → H' a = H a := fun a z => by
    obtain ⟨o, h⟩ := w.zh a z
    rw [h, e a o h]
  refine ⟨⟨w.inj, w.zz, fun a z => ?_, fun i o h => ?_⟩, ⟨Nat.le_refl _, fun _ _ => rfl, vis_grow e, hz⟩⟩
  · rw [hz a z]; exact w.zh a z
  · obtain ⟨u, hu⟩ := w.live ⟨o, h⟩
    exact (w.rep i o h).mono (fun _ _ => rfl) (Nat.le_refl _) (vis_grow e) (by rw [hu, e _ _ hu])
theorem Wd.grow (w : Wd K U m S Z H) (e : L2.Ext H H') : Wd K U m S Z H' ∧ Ext m S Z H m S H' := by
  obtain ⟨a, b⟩ := w.toWd0.grow e
  exact ⟨w.on b a, b⟩
/-- the whole store put out of sight -/
theorem Wd0.dark (w : Wd0 K m S Z H) : Wd0 K m (List.replicate S.length none) (fun a => Z a ∨ ∃ n, Live S n ∧ m n = a) H ∧ vis m (List.replicate S.length none) (fun a => Z a ∨ ∃ n, Live S n ∧ m n = a) H = vis m S Z H := by
  have nl : ∀ i, ¬ Live (List.replicate S.length none) i := fun i ⟨o, h⟩ => by
    rw [List.getElem?_replicate] at h
    split at h <;> cases h
  refine ⟨⟨fun i j l => absurd l (nl i), fun i l => absurd l (nl i), fun a z => ?_, fun i o h => absurd ⟨o, h⟩ (nl i)⟩, ?_⟩
  · rcases z with z | ⟨n, l, rfl⟩
    · exact w.zh a z
    · exact w.live l
  · funext a
    unfold vis
    by_cases q : Z a ∨ ∃ n, Live S n ∧ m n = a
    · rw [if_pos q, if_pos (.inl q)]
    · rw [if_neg q, if_neg]
      rintro (z | ⟨n, l, _⟩)
      · exact q z
      · exact nl n l
theorem Ext.all {m' : Nat → Addr} {n : Nat} {Zd : Addr → Prop} {S1 : Sto} (hS : S1 = List.replicate n none) (e : Ext m (List.replicate n none) Zd H m' S1 H') : L2.Ext H H' := fun a o h => by
  by_cases z : Zd a
  · rw [e.zed a z]; exact h
  · refine vis_sub (e.vis a o (vis_of h z fun i l => ?_))
    obtain ⟨u, hu⟩ := l
    rw [List.getElem?_replicate] at hu
    split at hu <;> cases hu
end
def D.flat : D → Bool
  | .non | .bl _ | .int _ | .str _ => true
  | _ => false
theorem flat_inj {K : PySem.W.Frag} {m : Nat → Addr} {N : Nat} {Hv : Hp} {d e : D} {v : V} (r : Rep K m N Hv d v) (r' : Rep K m N Hv e v) (hd : d.flat = true) (he : e.flat = true) : d = e := by
  cases d <;> cases e <;> first
    | (cases hd; done)
    | (cases he; done)
    | rfl
    | (simp only [Rep] at r r'; rw [r] at r'; cases r'; rfl)
    | (simp only [Rep] at r r'; rw [r] at r'; cases r'; done)
theorem flats_inj {K : PySem.W.Frag} {m : Nat → Addr} {N : Nat} {Hv : Hp} : ∀ {ds es : List D} {vs : List V}, Reps K m N Hv ds vs → Reps K m N Hv es vs → ds.all D.flat = true → es.all D.flat = true → ds = es
  | [], [], _, _, _, _, _ => rfl
  | [], e :: es, _, r, r', _, _ => by obtain ⟨v, q, h, _⟩ := r'; rw [show _ = [] from r] at h; cases h
  | d :: ds, [], _, r, r', _, _ => by obtain ⟨v, q, h, _⟩ := r; rw [show _ = [] from r'] at h; cases h
  | d :: ds, e :: es, _, r, r', hd, he => by
    obtain ⟨v, q, h, r1, r2⟩ := r
    obtain ⟨v', q', h', r1', r2'⟩ := r'
    rw [h] at h'
    cases h'
    rw [List.all_cons, Bool.and_eq_true] at hd he
    rw [flat_inj r1 r1' hd.1 he.1, flats_inj r2 r2' hd.2 he.2]
section
variable {X : Cx} {C : Addr} {qual : Str} {st : Stmt} {dvs : List V} {k : Nat} {ps : List Str} {dsp : DSp}
/-- what two items say -/
structure ItO (C : Addr) (dsp : DSp) (d e : D) (r : Bool) : Prop where
  ob : ∃ ks xs, d = .obj C ks xs ∧ xs.all D.flat = true
  ob' : ∃ ks xs, e = .obj C ks xs ∧ xs.all D.flat = true
  same : d = e → r = true
  say : ∀ S', dsp [d, e] S' fun u S'' => u = .bl r ∧ S'' = S'
theorem zip_inj {ks ks' : List Str} {vs vs' : List V} (h : ks.zip vs = ks'.zip vs') (h1 : ks.length = vs.length) (h2 : ks'.length = vs'.length) : ks = ks' ∧ vs = vs' := by
  have a := congrArg (List.map Prod.fst) h
  have b := congrArg (List.map Prod.snd) h
  rw [List.map_fst_zip (by omega), List.map_fst_zip (by omega)] at a
  rw [List.map_snd_zip (by omega), List.map_snd_zip (by omega)] at b
  exact ⟨a, b⟩
theorem ecmp_own (F : MFn X.prog X.w X.K X.mg X.base C "__eq__" qual st dvs k ps dsp) (b : Bnd "__eq__" qual st ps 2 [] [.p 0, .p 1] dvs.length) {A : Around} (sb : SubG X k A) {pins : List (Addr × Obj)} {σ : L2.St} {H : Hp} {s : Shared} {m : Nat → Addr} {S : Sto} {Z : Addr → Prop} {d e : D} {x y : V} {u v : Value} {r : Bool}
    (I : L2.Inv X pins σ H s) (w : Wd X.K U m S Z H) (r1 : Rep X.K m S.length (vis m S Z H) d x) (r2 : Rep X.K m S.length (vis m S Z H) e y) (rx : RelV x u) (ry : RelV y v) (hi : ItO C dsp d e r) :
    wpAny (model X.prog X.w) A (eqBool u v) (fun c s' => c = r ∧ ∃ H', L2.Inv X pins σ H' s' ∧ L2.Ext H H') X.xe s := by
  obtain ⟨ks, xs, ed, fx⟩ := hi.ob
  obtain ⟨ks', xs', ee, fx'⟩ := hi.ob'
  subst ed ee
  rw [Rep] at r1 r2
  obtain ⟨a, dx, vs, ex, hh1, l1, q1⟩ := r1
  obtain ⟨a', dx', vs', ey, hh2, l2, q2⟩ := r2
  subst ex ey
  cases rx
  cases ry
  by_cases hab : a = a'
  · subst hab
    rw [hh1] at hh2
    have ez := HO.ins.inj (Option.some.inj hh2)
    obtain ⟨ek, ev⟩ := zip_inj ez.2.2 l1 l2
    subst ek ev
    have := flats_inj q1 q2 fx fx'
    subst this
    rw [hi.same rfl]
    exact SeqAt.EqAt.same (A := A) (s := s) (.ref a) X.prog X.w X.xe _ ⟨rfl, H, I, fun _ _ z => z⟩
  · refine GQ.eqBool_refG hab ?_
    obtain ⟨f, fd, FS, hm, FO⟩ := F.ex
    obtain ⟨its, KB⟩ := kbn_of FS b
    obtain ⟨mA, J, _⟩ := ins_get I.hok (vis_sub hh1)
    obtain ⟨mB, J', _⟩ := ins_get I.hok (vis_sub hh2)
    obtain ⟨od, J, _⟩ := J.look
    obtain ⟨od', J', _⟩ := J'.look
    obtain ⟨mm, hF⟩ := I.fr
    refine PySem.W.cmp_K (op := .Eq) (tb := .ref C) sb.room.units0 hF I.ok.mod.kin J J'.type (by simp [PySem.W.notFirst]) hm.at_ hm.fn ?_
    have rr : Vals [V.ref a, V.ref a'] [Value.ref a, Value.ref a'] := .cons rfl (.cons rfl .nil)
    obtain ⟨wd, hv⟩ := w.toWd0.dark
    have hlen : (List.replicate S.length (none : Option MO)).length = S.length := by simp
    have p1 : Rep X.K m (List.replicate S.length (none : Option MO)).length (vis m (List.replicate S.length none) (fun a => Z a ∨ ∃ n, Live S n ∧ m n = a) H) (.obj C ks xs) (.ref a) := by
      rw [hv, hlen, Rep]; exact ⟨a, dx, vs, rfl, hh1, l1, q1⟩
    have p2 : Rep X.K m (List.replicate S.length (none : Option MO)).length (vis m (List.replicate S.length none) (fun a => Z a ∨ ∃ n, Live S n ∧ m n = a) H) (.obj C ks' xs') (.ref a') := by
      rw [hv, hlen, Rep]; exact ⟨a', dx', vs', rfl, hh2, l2, q2⟩
    have hsp : spOf X.K dsp [.ref a, .ref a'] H (fun v H' => v = .bl r ∧ L2.Ext H H') fun _ _ _ => False := by
      refine ⟨m, List.replicate S.length none, _, [.obj C ks xs, .obj C ks' xs'], _, wd.u0, Reps.cons p1 (Reps.one p2), hi.say _, fun v1 H1 m1 d1 S1 e1 w1 rr1 ⟨h1, h2⟩ => ?_⟩
      subst h1
      have rr1' := rr1
      rw [rD, Rep] at rr1'
      exact ⟨rr1', Ext.all h2 e1⟩
    refine wpAny_mono (run_at FO sb KB I rr rfl (by simpa [gat, pick] using hsp)) (fun w' s' hq => ?_) fun _ _ z => z
    obtain ⟨z, H', I', rz, ez, hE⟩ := hq
    subst ez
    cases rz
    exact ⟨r, rfl, rfl, H', I', hE⟩
def lstOf (S : Sto) : D → Option (List D)
  | .lst ds => some ds
  | .loc n => match S[n]? with
    | some (some (.lst ds)) => some ds
    | _ => none
  | _ => none
theorem lstOf_rep {K : PySem.W.Frag} {m : Nat → Addr} {S : Sto} {Z : Addr → Prop} {H : Hp} {d : D} {v : V} {ds : List D} (w : Wd K U m S Z H) (r : Rep K m S.length (vis m S Z H) d v) (h : lstOf S d = some ds) : ∃ a vs, v = .ref a ∧ H a = some (.lst vs) ∧ Reps K m S.length (vis m S Z H) ds vs := by
  cases d with
  | lst ds' => cases h; rw [Rep] at r; obtain ⟨a, vs, e, h1, h2⟩ := r; exact ⟨a, vs, e, vis_sub h1, h2⟩
  | loc n =>
    rw [Rep] at r
    rw [lstOf] at h
    split at h
    · rename_i q; cases h; obtain ⟨vs, h1, h2⟩ := w.rep n _ q; exact ⟨m n, vs, r.1, h1, h2⟩
    · cases h
  | non => cases h
  | bl _ => cases h
  | int _ => cases h
  | str _ => cases h
  | tup _ => cases h
  | ksq _ => cases h
  | obj _ _ _ => cases h
  | dic _ _ => cases h
  | ref _ => cases h
  | ty _ => cases h
  | exc _ _ _ => cases h
/-- xs == ys (neg: xs != ys), their items all own instances of C -/
def aEqLO (neg : Bool) (C : Addr) (dsp : DSp) : R2D := fun x y S q => ∃ ds es, lstOf S x = some ds ∧ lstOf S y = some es ∧
  ((ds.length ≠ es.length ∧ q (.bl neg) S) ∨ (ds.length = es.length ∧ ∃ rs : Nat → Bool, (∀ i d e, ds[i]? = some d → es[i]? = some e → ItO C dsp d e (rs i)) ∧ q (.bl (xor neg ((List.range ds.length).all rs))) S))
def rEqLO (X : Cx) (neg : Bool) (C : Addr) (dsp : DSp) : R2 := fun x y H Q => ∃ m S Z a b ds es vs us, Wd X.K U0 m S Z H ∧ x = .ref a ∧ y = .ref b ∧ H a = some (.lst vs) ∧ H b = some (.lst us) ∧ Reps X.K m S.length (vis m S Z H) ds vs ∧ Reps X.K m S.length (vis m S Z H) es us ∧
  ((ds.length ≠ es.length ∧ Q (.bl neg) H) ∨ (ds.length = es.length ∧ ∃ rs : Nat → Bool, (∀ i d e, ds[i]? = some d → es[i]? = some e → ItO C dsp d e (rs i)) ∧ ∀ H', L2.Ext H H' → Q (.bl (xor neg ((List.range ds.length).all rs))) H'))
theorem vr_eqLO {neg : Bool} : VR2 X.K (rEqLO X neg C dsp) (aEqLO neg C dsp) := fun {_ m S Z H a b v u q Q} w r1 r2 ⟨ds, es, h1, h2, h3⟩ kk => by
  obtain ⟨a1, vs, e1, hh1, q1⟩ := lstOf_rep w r1 h1
  obtain ⟨b1, us, e2, hh2, q2⟩ := lstOf_rep w r2 h2
  refine ⟨m, S, Z, a1, b1, ds, es, vs, us, w.w0, e1, e2, hh1, hh2, q1, q2, ?_⟩
  rcases h3 with ⟨h3, h4⟩ | ⟨h3, rs, h4, h5⟩
  · exact .inl ⟨h3, kk.now w rep_bl h4⟩
  · exact .inr ⟨h3, rs, h4, fun H' e => by
      obtain ⟨w', e'⟩ := w.grow e
      exact kk.at e' w' rep_bl h5⟩
theorem listB_own (F : MFn X.prog X.w X.K X.mg X.base C "__eq__" qual st dvs k ps dsp) (hr : RoomG (k + 1) X.A) (bn : Bnd "__eq__" qual st ps 2 [] [.p 0, .p 1] dvs.length) {pins : List (Addr × Obj)} {σ : L2.St} {H : Hp} {m : Nat → Addr} {S : Sto} {Z : Addr → Prop} {a b : Addr} {ds es : List D} {vs us : List V} {rs : Nat → Bool}
    (w : Wd X.K U m S Z H) (hh1 : H a = some (.lst vs)) (hh2 : H b = some (.lst us)) (q1 : Reps X.K m S.length (vis m S Z H) ds vs) (q2 : Reps X.K m S.length (vis m S Z H) es us) (hl : ds.length = es.length) (hi : ∀ i d e, ds[i]? = some d → es[i]? = some e → ItO C dsp d e (rs i)) :
    GB.ListB X.prog X.w X.A X.xe a b ds.length rs fun _ s => ∃ H', L2.Inv X pins σ H' s ∧ L2.Ext H H' := by
  rintro i s ⟨H', I', e'⟩
  obtain ⟨z1, its, n, rv, ra, hla⟩ := I'.lstM (e' _ _ hh1)
  obtain ⟨z2, its2, n2, rv2, rb, hlb⟩ := I'.lstM (e' _ _ hh2)
  have la := Reps.len q1
  have lb := Reps.len q2
  refine ⟨its.toArray, its2.toArray, n, n2, hla, hlb, by rw [List.size_toArray]; omega, by rw [List.size_toArray]; omega, fun h1 h2 => ?_⟩
  rw [List.size_toArray] at h1 h2
  obtain ⟨w', _⟩ := w.grow e'
  obtain ⟨d, hd⟩ : ∃ d, ds[i]? = some d := ⟨ds[i]'(by omega), by simp⟩
  obtain ⟨e, he⟩ : ∃ e, es[i]? = some e := ⟨es[i]'(by omega), by simp⟩
  obtain ⟨x, hx, rx⟩ := Reps.get q1 hd
  obtain ⟨y, hy, ry⟩ := Reps.get q2 he
  have gx : its[i]? = some its[i] := by simp
  have gy : its2[i]? = some its2[i] := by simp
  have rx' := Rep.mono (fun _ _ => rfl) (Nat.le_refl _) (vis_grow e') rx
  have ry' := Rep.mono (fun _ _ => rfl) (Nat.le_refl _) (vis_grow e') ry
  have key := ecmp_own F bn (A := X.A.in1) ⟨hr.in1, rfl⟩ I' w' rx' ry' (vals_each rv i _ _ hx gx) (vals_each rv2 i _ _ hy gy) (hi i d e hd he)
  refine wpAny_mono (by simpa using key) (fun r s' hq => ?_) fun _ _ z => z
  obtain ⟨h3, H'', I'', e''⟩ := hq
  exact ⟨h3, H'', I'', e'.trans e''⟩
theorem or_eqLO (F : MFn X.prog X.w X.K X.mg X.base C "__eq__" qual st dvs k ps dsp) (hr : RoomG (k + 1) X.A) (bn : Bnd "__eq__" qual st ps 2 [] [.p 0, .p 1] dvs.length) : OpR X (compareOp .Eq) (rEqLO X false C dsp) := by
  intro pins s σ H x y v u Q I rx ry ⟨m, S, Z, a, b, ds, es, vs, us, w, ex, ey, hh1, hh2, q1, q2, h⟩
  subst ex ey
  cases rx
  cases ry
  show wpAny (model X.prog X.w) X.A (richCompare .Eq (.ref a) (.ref b)) (EP X pins σ Q) X.xe s
  have la := Reps.len q1
  have lb := Reps.len q2
  rcases h with ⟨h1, h2⟩ | ⟨h1, rs, hi, h2⟩
  · obtain ⟨z1, its, n, rv, ra, hla⟩ := I.lstM hh1
    obtain ⟨z2, its2, n2, rv2, rb, hlb⟩ := I.lstM hh2
    exact GB.rc_eqD hr.units0 hla hlb (by rw [List.size_toArray, List.size_toArray]; omega) ⟨.bl false, H, I, rfl, h2⟩
  · refine GB.rc_eqB (N := ds.length) (rs := rs) (out := xor false ((List.range ds.length).all rs)) hr.units0 (fun hall => ?_) (fun j hj hf => ?_) _ (listB_own (pins := pins) (σ := σ) F hr bn w hh1 hh2 q1 q2 h1 hi) (fun j s' ⟨H', I', e'⟩ => ⟨.bl _, H', I', rfl, h2 H' e'⟩) ⟨H, I, fun _ _ z => z⟩
    · rw [Bool.false_xor, List.all_eq_true]
      exact fun j hj => hall j (List.mem_range.mp hj)
    · rw [Bool.false_xor, List.all_eq_false]
      exact ⟨j, List.mem_range.mpr hj, by rw [hf]; decide⟩
theorem or_neLO (F : MFn X.prog X.w X.K X.mg X.base C "__eq__" qual st dvs k ps dsp) (hr : RoomG (k + 1) X.A) (bn : Bnd "__eq__" qual st ps 2 [] [.p 0, .p 1] dvs.length) : OpR X (compareOp .NotEq) (rEqLO X true C dsp) := by
  intro pins s σ H x y v u Q I rx ry ⟨m, S, Z, a, b, ds, es, vs, us, w, ex, ey, hh1, hh2, q1, q2, h⟩
  subst ex ey
  cases rx
  cases ry
  show wpAny (model X.prog X.w) X.A (richCompare .NotEq (.ref a) (.ref b)) (EP X pins σ Q) X.xe s
  have la := Reps.len q1
  have lb := Reps.len q2
  rcases h with ⟨h1, h2⟩ | ⟨h1, rs, hi, h2⟩
  · obtain ⟨z1, its, n, rv, ra, hla⟩ := I.lstM hh1
    obtain ⟨z2, its2, n2, rv2, rb, hlb⟩ := I.lstM hh2
    exact GB.rc_neD hr.units0 hla hlb (by rw [List.size_toArray, List.size_toArray]; omega) ⟨.bl true, H, I, rfl, h2⟩
  · refine GB.rc_neB (N := ds.length) (rs := rs) (out := xor true ((List.range ds.length).all rs)) hr.units0 (fun hall => ?_) (fun j hj hf => ?_) _ (listB_own (pins := pins) (σ := σ) F hr bn w hh1 hh2 q1 q2 h1 hi) (fun j s' ⟨H', I', e'⟩ => ⟨.bl _, H', I', rfl, h2 H' e'⟩) ⟨H, I, fun _ _ z => z⟩
    · rw [Bool.true_xor, Bool.not_eq_false', List.all_eq_true]
      exact fun j hj => hall j (List.mem_range.mp hj)
    · rw [Bool.true_xor, Bool.not_eq_true', List.all_eq_false]
      exact ⟨j, List.mem_range.mpr hj, by rw [hf]; decide⟩
end
/-! ### xs[::-1] -/
def aRev (fz : Bool) : R1D := fun d S q => ∃ ds, seqOf S d = some ds ∧ d.isTup = false ∧ newL fz ds.reverse S q
def gRev (fz : Bool) (ge : G D) : G D := fun ρ S q => ge ρ S fun d S1 => aRev fz d S1 q
section
variable {X : Cx} {ge : G D} {e : Expr} {ga : G (List D)}
theorem d_revL {k : Nat} {p1 p2 p3 pos : Pos} (fz : Bool) (he : PE X e (tofE X.K U ge)) : PE X (.Subscript e (.Slice none none (some (.UnaryOp .USub (.Constant (.int 1) k p1) p2)) p3) pos) (tofE X.K U (gRev fz ge)) :=
  weakE (pe_revL he) fun σ H Q ⟨m, S, Z, ρ, q, w, rs, h, k⟩ => tof_in w rs h fun v1 H1 m1 d1 S1 e1 w1 r1 ⟨ds, h1, h2, h3⟩ => by
    obtain ⟨a, vs, ev, hr, ht, hl⟩ := seqOf_rep w1 r1 h1
    exact ⟨a, vs, ev, hl h2, fun p hp => out_newL w1 hr.rev h3 (k.ext e1) hp⟩
theorem d_par3 {i j l : Nat} {x y z : Str} {a b c : Expr} {px py pz pt pos : Pos} {kt k2 pt2} (hN : X.N.Nodup) (ha : PA X [a, b, c] (tofA X.K U ga)) (hc : X.calm = true := by rfl) (hi : X.N[i]? = some x := by rfl) (hj : X.N[j]? = some y := by rfl) (hl : X.N[l]? = some z := by rfl)
    (hij : i ≠ j := by decide) (hil : i ≠ l := by decide) (hjl : j ≠ l := by decide) (hx : X.env.scope.names.lookup x = some .local := by rfl) (hy : X.env.scope.names.lookup y = some .local := by rfl) (hz : X.env.scope.names.lookup z = some .local := by rfl)
    (hw : swappedStores [.Tuple [.Name x px, .Name y py, .Name z pz] kt pt] (.Tuple [a, b, c] k2 pt2) X.env = pure (some [x, y, z]) := by rfl)
    (hs : swapsWithSole [.Tuple [.Name x px, .Name y py, .Name z pz] kt pt] (.Tuple [a, b, c] k2 pt2) pos.line X.env = pure false := by rfl) :
    PS X (.Assign [.Tuple [.Name x px, .Name y py, .Name z pz] kt pt] (.Tuple [a, b, c] k2 pt2) pos) (tofS X.K U (gPar3 i j l ga)) :=
  weakS (ps_par3 hc hN hi hj hl hij hil hjl hx hy hz ha hw hs) fun E σ H ⟨m, S, Z, ρ, D, w, rs, h, k⟩ => tof_in w rs h fun v1 H1 m1 d1 S1 e1 w1 r1 ⟨v, u, z, ed, h1⟩ => by
    subst ed
    obtain ⟨v', t1, ev, rv, r2⟩ := r1
    obtain ⟨u', t2, eu, ru, r3⟩ := r2
    obtain ⟨z', t3, ez, rz, r4⟩ := r3
    subst ev eu ez
    rw [show t3 = [] from r4]
    exact ⟨v', u', z', rfl, k.nx.at e1 w1 ((((rs.ext e1).set rv).set ru).set rz) h1⟩
/-! ### count over data -/
def rCntD (K : PySem.W.Frag) : V → List V → Hp → VK → Prop := fun x xs H Q => ∃ (y : V) (d : PyData) (ds : List PyData), xs = [y] ∧ Dp K H x (.list ds) ∧ Dp K H y d ∧ SeqAt.shaped (.list ds) = true ∧ SeqAt.shaped d = true ∧ Q (.int ((ds.countP fun z => PyData.eqv z d : Nat) : Int)) H
theorem mt_countD {kk : Nat} (hr : RoomG kk X.A) : MtR X "list.count" (rCntD X.K) := by
  have hu : X.A.units + 70 < cLine := by have := hr.un; omega
  intro pins s σ H x xs v us Q I rx rxs h
  obtain ⟨y, d, ds, rfl, hx, hy, s1, s2, q⟩ := h
  obtain ⟨u, rfl, ru⟩ := rxs.one
  cases hx with
  | lst hs ha =>
    cases rx
    obtain ⟨its, rv, hpl, _⟩ := I.list hs
    obtain ⟨as, r1⟩ := Dp.readsAll I ds _ its ha rv
    obtain ⟨bs, r2⟩ := Dp.reads I d y u hy ru
    have d1 := SeqAt.depth_of_shaped s1
    have d2 := SeqAt.depth_of_shaped s2
    have p1 := SeqAt.canLay_of_shaped s1
    have p2 := PyData.plain_of_canLay0 _ (SeqAt.canLay_of_shaped s2)
    have p3 := PyData.plain_of_canLay0 _ p1
    refine SeqAt.count_list_data hpl.isList (by simpa using r1) r2 (by simpa [PyData.plain] using p3) p2 ?_ ⟨.int _, H, I.tok _, ⟨_, rfl⟩, q⟩
    have : min (PyData.depthAll ds) d.depth ≤ d.depth := Nat.min_le_right _ _
    omega
def aCount : D → RND := fun o as S q => ∃ y ps p, as = [y] ∧ toPyS S o = some (.list ps) ∧ toPyS S y = some p ∧ SeqAt.shaped (.list ps) = true ∧ SeqAt.shaped p = true ∧ q (.int ((ps.countP fun z => PyData.eqv z p : Nat) : Int)) S
theorem vm_count {K : PySem.W.Frag} : VRM K "list" (rCntD K) aCount := fun {_ m S Z H o u a v q Q} w r rs ⟨y, ps, p, e1, h1, h2, h3, h4, h5⟩ k => by
  subst e1
  obtain ⟨z, ez, rz⟩ := reps1 rs
  exact ⟨z, p, ps, ez, dpS_of w r h1, dpS_of w rz h2, h3, h4, k.now w rep_int h5⟩
end
def aPar3 (i j l : Nat) (ρ : Env_) (k : Env_ → Sto → Prop) (as : List D) (S1 : Sto) : Prop := ∃ v u z, as = [v, u, z] ∧ k (((ρ.set i (some v)).set j (some u)).set l (some z)) S1
theorem x_par3 {i j l : Nat} {ga : G (List D)} {E : DE} {ρ : Env_} {S : Sto} : gPar3 i j l ga E ρ S = ga ρ S fun as S1 => aPar3 i j l ρ E.nx as S1 := rfl
theorem x_par33 {i j l : Nat} {k : Env_ → Sto → Prop} {ρ : Env_} {S : Sto} {v u z : D} : aPar3 i j l ρ k [v, u, z] S ↔ k (((ρ.set i (some v)).set j (some u)).set l (some z)) S := by
  constructor
  · rintro ⟨_, _, _, e, h⟩; cases e; exact h
  · exact fun h => ⟨v, u, z, rfl, h⟩
/-! ### len(range(a, b)) -/
theorem rng_size (i j : Int) : Builtin.Range.rangeSize i j 1 = max 0 (j - i) := by
  unfold Builtin.Range.rangeSize
  rw [if_pos (by decide)]
  split
  · rw [Int.ediv_one]; omega
  · omega
section
variable {X : Cx} {ga : G (List D)} {a b : Expr}
theorem call_len_rng : CallR X (.builtin "len") (fun xs H Q => ∃ (p : Addr) (i j : Int), xs = [.ref p] ∧ H p = some (.rng i j) ∧ j - i < 2 ^ 62 ∧ Q (.int (max 0 (j - i))) H) := by
  intro pins s σ H xs us Q I r h
  obtain ⟨p, i, j, rfl, hp, hb, q⟩ := h
  obtain ⟨u, rfl, ru⟩ := vals1 r
  obtain rfl : u = Value.ref p := ru
  obtain ⟨t, u, v, ho⟩ := I.hok _ _ hp
  have hn : Builtin.Range.rangeSize i j 1 = (((max 0 (j - i)).toNat : Nat) : Int) := by rw [rng_size]; omega
  refine call_len_range (s := s) ho hn (by omega) ⟨.int (max 0 (j - i)), H, I.tok _, ⟨s.toks + 1, ?_⟩, q⟩
  rw [show (((max 0 (j - i)).toNat : Nat) : Int) = max 0 (j - i) by omega]
def aLenR : RND := fun as S1 q => ∃ i j : Int, as = [.int i, .int j] ∧ j - i < 2 ^ 62 ∧ q (.int (max 0 (j - i))) S1
def gLenR (ga : G (List D)) : G D := fun ρ S q => ga ρ S fun as S1 => ∃ i j : Int, as = [.int i, .int j] ∧ j - i < 2 ^ 62 ∧ q (.int (max 0 (j - i))) S1
theorem d_lenrng {p p2 pos pos2 : Pos} (hg : Gl X "len") (hm : X.mg "len" = none) (hg2 : Gl X "range") (hm2 : X.mg "range" = none) (ha : PA X [a, b] (tofA X.K U ga))
    (hs2 : starEach [a, b] X.env = (false, eval a X.env) :: starEach [b] X.env := by rfl) (hpl2 : (backTo pos2 (starEach [b] X.env)).any (·.1) = false := by rfl)
    (hs : starEach [.Call (.Name "range" p2) [a, b] [] pos2] X.env = (false, eval (.Call (.Name "range" p2) [a, b] [] pos2) X.env) :: starEach [] X.env := by rfl) (hpl : (backTo pos (starEach [] X.env)).any (·.1) = false := by rfl) :
    PE X (.Call (.Name "len" p) [.Call (.Name "range" p2) [a, b] [] pos2] [] pos) (tofE X.K U (gLenR ga)) :=
  weakE (pe_callB call_len_rng hg hm (by decide +kernel) (pa_cons (pe_callTy cr_range2 hg2 hm2 (by decide +kernel) ha (by decide) (by decide) hs2 hpl2) pa_nil hs) (by decide) (by decide) hs hpl) fun σ H Q ⟨m, S, Z, ρ, q, w, rs, h, k⟩ =>
    tof_in w rs h fun v1 H1 m1 d1 S1 e1 w1 r1 ⟨i, j, ed, hb, h1⟩ => by
      subst ed
      obtain ⟨x, y, ev, rx, ry⟩ := reps2 r1
      rw [Rep] at rx ry
      refine ⟨i, j, by rw [ev, rx, ry], fun pp hp => ?_⟩
      obtain ⟨w2, e2, _⟩ := w1.new (o := .rng i j) hp
      exact ⟨pp, i, j, rfl, upd_same, hb, k.at (e1.trans e2) w2 rep_int h1⟩
theorem x_lenrI {S : Sto} {q : D → Sto → Prop} {i j : Int} : aLenR [.int i, .int j] S q ↔ j - i < 2 ^ 62 ∧ q (.int (max 0 (j - i))) S := by
  constructor
  · rintro ⟨_, _, e, h⟩; cases e; exact h
  · exact fun h => ⟨i, j, rfl, h⟩
theorem x_lenr {ρ : Env_} {S : Sto} {q : D → Sto → Prop} : gLenR ga ρ S q = ga ρ S fun as S1 => aLenR as S1 q := rfl
end
end Dl
/-! the list made last; the end of a def; pairs of ints. -/
namespace Dl
open PySem L2
section
variable {S0 S T : Sto} {ds : List D} {q : D → Sto → Prop} {c : Sto → Prop} {d v : D} {k : QI} {i : Int} {n : Nat}
theorem x_ixE : aIx (.loc S0.length) (.int i) (S0 ++ [some (.lst ds)]) q ↔ ∃ e, atI ds i = some e ∧ q e (S0 ++ [some (.lst ds)]) := by
  unfold aIx
  have e0 : seqOf (S0 ++ [some (.lst ds)]) (.loc S0.length) = some ds := by simp [seqOf]
  constructor
  · rintro ⟨_, e1, xs, z, e2, e3, h⟩; cases e1; rw [e0] at e2; cases e2; exact ⟨z, e3, h⟩
  · rintro ⟨z, e3, h⟩; exact ⟨_, rfl, ds, z, e0, e3, h⟩
theorem ixN_last {n : Nat} (h : 0 < n) : ixN n (-1) = some (n - 1) := by
  unfold ixN
  rw [if_neg (by omega), if_pos (by omega)]
  exact congrArg some (by omega)
theorem at_last {A : Type} {xs : List A} : atI xs (-1) = xs.getLast? := by
  unfold atI
  rw [List.getLast?_eq_getElem?]
  by_cases h : 0 < xs.length
  · rw [ixN_last h]; rfl
  · have : xs = [] := List.eq_nil_of_length_eq_zero (by omega)
    subst this
    rfl
theorem x_setE (h : ixN ds.length i = some n) : aSetIx (.loc S0.length) (.int i) v (S0 ++ [some (.lst ds)]) c ↔ c (S0 ++ [some (.lst (ds.set n v))]) := by
  constructor
  · rintro ⟨_, _, _, _, e1, e2, e3, e4, h1⟩
    cases e1; cases e2
    rw [snoc_get] at e3
    cases e3
    rw [h] at e4
    cases e4
    rw [snoc_set] at h1
    exact h1
  · exact fun h1 => ⟨_, ds, i, n, rfl, rfl, snoc_get, h, by rw [snoc_set]; exact h1⟩
theorem x_setLE {l : D} (h : ds.getLast? = some l) : aSetIx (.loc S0.length) (.int (-1)) v (S0 ++ [some (.lst ds)]) c ↔ c (S0 ++ [some (.lst (ds.dropLast ++ [v]))]) := by
  obtain ⟨ys, rfl⟩ := List.getLast?_eq_some_iff.mp h
  rw [x_setE (n := ys.length) (by rw [ixN_last (by simp)]; simp), List.dropLast_concat]
  simp
theorem x_appE : aAppend (.loc S0.length) [d] (S0 ++ [some (.lst ds)]) q ↔ ds.length < sizeLine ∧ q .non (S0 ++ [some (.lst (ds ++ [d]))]) := by
  rw [x_app snoc_get, snoc_set]
theorem x_tyE : isTy "list" (S0 ++ [some (.lst ds)]) (.loc S0.length) = true := x_tyO snoc_get
theorem x_itE : aIt (.loc S0.length) (S0 ++ [some (.lst ds)]) k ↔ k ds (fun S' => seqOf S' (.loc S0.length) = some ds) (S0 ++ [some (.lst ds)]) := x_itO (by simp [seqOf])
theorem x_lenE : aLen (.loc S0.length) (S0 ++ [some (.lst ds)]) q ↔ q (.int ds.length) (S0 ++ [some (.lst ds)]) := x_lenL (by simp [seqOf])
theorem take_snoc : (S0 ++ T).take S0.length = S0 := by simp
/-- what a def gives back -/
theorem x_finE (hS : Sto.under S0.length S0 = true) : fin S0.length q (.loc S0.length) (S0 ++ [some (.lst ds)]) ↔ D.unders S0.length ds = true ∧ q (.lst ds) S0 := by
  unfold fin
  rw [take_snoc]
  simp [hS]
theorem x_finE2 {o : Option MO} (hS : Sto.under S0.length S0 = true) : fin S0.length q (.loc (S0 ++ [o]).length) (S0 ++ [o] ++ [some (.lst ds)]) ↔ D.unders S0.length ds = true ∧ q (.lst ds) S0 := by
  have e1 : (S0 ++ [o] ++ [some (MO.lst ds)]).take S0.length = S0 := by rw [List.append_assoc, List.take_left]
  have e2 : (S0 ++ [o] ++ [some (MO.lst ds)])[(S0 ++ [o]).length]? = some (some (.lst ds)) := by rw [List.getElem?_append_right (Nat.le_refl _), Nat.sub_self]; rfl
  have e3 : ¬ (S0 ++ [o]).length < S0.length := by rw [List.length_append]; omega
  unfold fin
  rw [e1]
  dsimp only
  rw [e2]
  simp only [e3, if_false, hS, true_and]
theorem x_finL (hS : Sto.under S0.length S0 = true) : fin S0.length q (.lst ds) (S0 ++ T) ↔ D.unders S0.length ds = true ∧ q (.lst ds) S0 := by
  unfold fin
  rw [take_snoc]
  simp [hS, D.under]
theorem x_finT (hS : Sto.under S0.length S0 = true) : fin S0.length q (.tup ds) (S0 ++ T) ↔ D.unders S0.length ds = true ∧ q (.tup ds) S0 := by
  unfold fin
  rw [take_snoc]
  simp [hS, D.under]
theorem x_finI (hS : Sto.under S0.length S0 = true) {i : Int} : fin S0.length q (.int i) (S0 ++ T) ↔ q (.int i) S0 := by
  unfold fin
  rw [take_snoc]
  simp [hS, D.under]
theorem x_finB (hS : Sto.under S0.length S0 = true) {b : Bool} : fin S0.length q (.bl b) (S0 ++ T) ↔ q (.bl b) S0 := by
  unfold fin
  rw [take_snoc]
  simp [hS, D.under]
theorem x_finS (hS : Sto.under S0.length S0 = true) {x : Str} : fin S0.length q (.str x) (S0 ++ T) ↔ q (.str x) S0 := by
  unfold fin
  rw [take_snoc]
  simp [hS, D.under]
theorem x_finN (hS : Sto.under S0.length S0 = true) : fin S0.length q .non (S0 ++ T) ↔ q .non S0 := by
  unfold fin
  rw [take_snoc]
  simp [hS, D.under]
end
/-! ### pairs of ints -/
abbrev Pr := Int × Int
abbrev pD (p : Pr) : D := .tup [.int p.1, .int p.2]
abbrev pY (p : Pr) : PyData := .tuple [.int p.1, .int p.2]
theorem toPys_pr : ∀ P : List Pr, toPys (P.map pD) = some (P.map pY)
  | [] => by simp [toPys]
  | p :: P => by simp [toPys, toPy, toPys_pr P]
theorem toPy_pr (P : List Pr) : toPy (.lst (P.map pD)) = some (.list (P.map pY)) := by rw [toPy, toPys_pr]; rfl
theorem can_pr : ∀ P : List Pr, PyData.canLayAll0 (P.map pY) = true
  | [] => by simp [PyData.canLayAll0]
  | p :: P => by simp [PyData.canLayAll0, PyData.canLay0, can_pr P]
theorem dep_pr : ∀ P : List Pr, PyData.depthAll (P.map pY) ≤ 1
  | [] => by simp [PyData.depthAll]
  | p :: P => by
    have := dep_pr P
    simp [PyData.depthAll, PyData.depth]
    omega
theorem sh_pr (P : List Pr) : SeqAt.shaped (.list (P.map pY)) = true := by
  have := dep_pr P
  simp [SeqAt.shaped, PyData.canLay0, PyData.depth, can_pr]
  omega
theorem eqv_pr : ∀ P R : List Pr, PyData.eqvAll (P.map pY) (R.map pY) = decide (P = R)
  | [], [] => by simp [PyData.eqvAll]
  | [], m :: ms => by simp [PyData.eqvAll]
  | n :: ns, [] => by simp [PyData.eqvAll]
  | n :: ns, m :: ms => by
    obtain ⟨a, b⟩ := n
    obtain ⟨c, d⟩ := m
    simp only [List.map_cons, PyData.eqvAll, PyData.eqv, eqv_pr ns ms, List.cons.injEq, Prod.mk.injEq, Bool.and_true]
    rw [show (a == c) = decide (a = c) from rfl, show (b == d) = decide (b = d) from rfl, ← Bool.decide_and, ← Bool.decide_and]
section
variable {S S0 : Sto} {q : D → Sto → Prop} {P R : List Pr}
theorem x_nePr : aNe (.lst (P.map pD)) (.lst (R.map pD)) S q ↔ q (.bl (decide (P ≠ R))) S := by
  rw [x_ne (p := .list (P.map pY)) (p' := .list (R.map pY)) (show toPyS S (.lst (P.map pD)) = _ from toPy_pr P) (show toPyS S (.lst (R.map pD)) = _ from toPy_pr R)]
  simp only [sh_pr, true_and, PyData.eqv, eqv_pr, ← decide_not, ne_eq]
theorem x_eqPr : aEq (.lst (P.map pD)) (.lst (R.map pD)) S q ↔ q (.bl (decide (P = R))) S := by
  rw [x_eq (p := .list (P.map pY)) (p' := .list (R.map pY)) (show toPyS S (.lst (P.map pD)) = _ from toPy_pr P) (show toPyS S (.lst (R.map pD)) = _ from toPy_pr R)]
  simp only [sh_pr, true_and, PyData.eqv, eqv_pr]
theorem x_neE : aNe (.loc S0.length) (.lst []) (S0 ++ [some (.lst (P.map pD))]) q ↔ q (.bl (decide (P ≠ []))) (S0 ++ [some (.lst (P.map pD))]) := by
  rw [x_ne (p := .list (P.map pY)) (p' := .list (([] : List Pr).map pY)) (by simp [toPyS, toPys_pr]) (by simp [toPyS, toPy, toPys])]
  simp only [sh_pr, true_and, PyData.eqv, eqv_pr, ← decide_not, ne_eq]
/-- sorted pairs -/
def leP (p q : Pr) : Bool := decide (p.1 < q.1 ∨ (p.1 = q.1 ∧ p.2 ≤ q.2))
def sortP (P : List Pr) : List Pr := P.mergeSort leP
theorem x_sortedP {fz : Bool} (h : newL fz ((sortP P).map pD) S q) : aSorted fz (.lst (P.map pD)) S q := by
  refine ⟨P.map pD, P.map pY, rfl, rfl, toPys_pr P, PySem.W.AllAlike.of fun b b' => rfl, .inl fun d hd => ?_, fun p hp => ?_, ?_⟩
  · obtain ⟨p, _, rfl⟩ := List.mem_map.mp hd
    exact ⟨_, _, rfl⟩
  · obtain ⟨p, _, rfl⟩ := List.mem_map.mp hp
    exact (by decide : (1 : Nat) ≤ 60)
  · have e1 : (P.map pD).zip (P.map pY) = P.map fun p => (pD p, pY p) := by
      rw [List.zip_map']
    have e2 : (P.mergeSort leP).map (fun p => (pD p, pY p)) = (P.map fun p => (pD p, pY p)).mergeSort (PySem.W.dataLe false Prod.snd) := by
      refine ms_map (f := fun p : Pr => (pD p, pY p)) (r := leP) (s := PySem.W.dataLe false Prod.snd) (fun a b => ?_) P
      have := congrFun (congrFun (PySem.W.dataLe_ii (β := Pr) Prod.fst Prod.snd) a) b
      exact this.symm
    rw [e1, ← e2, List.map_map]
    exact h
end
/-- a comprehension over a list known as a map -/
theorem lc_on {A : Type} {F : A → D} (g1 : A → Option D) {L : List A} {S : Sto} {chk : Sto → Prop} {ρ : Env_} {t : Tgt} {gt : G Bool} {ge : G D} {vs : List Nat} {fz : Bool} {q : D → Sto → Prop} (hchk : chk S) (hlen : L.length ≤ sizeLine)
    (step : ∀ x ∈ L, ∀ (acc : List D) (R : List D → Sto → Prop), acc.length < sizeLine → R (acc ++ (g1 x).toList) S →
      ∃ ρ', t.bind (F x) (wipeD ρ vs) = some ρ' ∧ gt ρ' S fun b S2 => if b = true then ge ρ' S2 fun y S3 => acc.length < sizeLine ∧ R (acc ++ [y]) S3 else R acc S2)
    (h : newL fz (L.filterMap g1) S q) : aLc fz t gt ge vs ρ (L.map F) chk S q := by
  refine ⟨fun i acc S' => S' = S ∧ acc = (L.take i).filterMap g1, ⟨rfl, by simp⟩, ?_, ?_⟩
  · rintro i d acc S' hd ⟨rfl, rfl⟩
    rw [List.getElem?_map] at hd
    obtain ⟨x, hx, rfl⟩ := Option.map_eq_some_iff.mp hd
    have hi : i < L.length := (List.getElem?_eq_some_iff.mp hx).1
    have htake : L.take (i + 1) = L.take i ++ [x] := by rw [List.take_add_one, hx]; rfl
    refine ⟨hchk, step x (List.mem_of_getElem? hx) _ (fun acc S'' => S'' = S' ∧ acc = (L.take (i + 1)).filterMap g1) ?_ ⟨rfl, ?_⟩⟩
    · have := List.length_filterMap_le g1 (L.take i)
      rw [List.length_take] at this
      omega
    · rw [htake, List.filterMap_append, List.filterMap_cons]
      cases g1 x <;> simp
  · rintro acc S' ⟨rfl, rfl⟩
    rw [List.length_map, List.take_length]
    exact ⟨hchk, h⟩
theorem fm_some {A B : Type} {g : A → B} {L : List A} : L.filterMap (fun a => some (g a)) = L.map g := by rw [List.filterMap_eq_map']
theorem fm_none {A B : Type} {L : List A} : L.filterMap (fun _ : A => (none : Option B)) = [] := by simp
theorem fm_if {A B : Type} {g : A → B} {p : A → Prop} [DecidablePred p] : ∀ {L : List A}, L.filterMap (fun a => if p a then some (g a) else none) = (L.filter fun a => decide (p a)).map g
  | [] => rfl
  | a :: L => by
    rw [List.filterMap_cons, fm_if (L := L)]
    by_cases h : p a
    · rw [if_pos h, List.filter_cons_of_pos (by simpa using h)]; rfl
    · rw [if_neg h, List.filter_cons_of_neg (by simpa using h)]
/-- ints, bools, pairs are below any n -/
theorem und_pr {n : Nat} : ∀ {P : List Pr}, D.unders n (P.map pD) = true
  | [] => rfl
  | p :: P => by
    rw [List.map_cons, D.unders, und_pr (P := P)]
    rfl
theorem und_bl {n : Nat} : ∀ {P : List Bool}, D.unders n (P.map D.bl) = true
  | [] => rfl
  | p :: P => by
    rw [List.map_cons, D.unders, und_bl (P := P)]
    rfl
theorem und_ob {n : Nat} {C : Addr} {ks : List Str} {f g : Pr → Int} : ∀ {P : List Pr}, D.unders n (P.map fun p => .obj C ks [.int (f p), .int (g p)]) = true
  | [] => rfl
  | p :: P => by
    rw [List.map_cons, D.unders, und_ob (P := P)]
    rfl
theorem x_b2 {ρ : Env_} {i j : Nat} {d e : D} : Tgt.bind (.tp [.nm i, .nm j]) (.tup [d, e]) ρ = some ((ρ.set i (some d)).set j (some e)) := by
  rw [x_btp, x_bc, x_bnm]
  show Tgt.binds [.nm j] [e] _ = _
  rw [x_bc, x_bnm]
  show Tgt.binds [] [] _ = _
  rw [x_bn]
theorem enum_get {ds : List D} {i : Nat} {d : D} (h : (enumD ds)[i]? = some d) : ∃ e, ds[i]? = some e ∧ d = .tup [.int (i : Nat), e] := by
  unfold enumD at h
  rw [List.getElem?_map, List.getElem?_zipIdx] at h
  cases hx : ds[i]? with
  | none => rw [hx] at h; cases h
  | some e =>
    rw [hx] at h
    refine ⟨e, rfl, ?_⟩
    have := Option.some.inj h
    rw [← this]
    simp
theorem enum_len {ds : List D} : (enumD ds).length = ds.length := by unfold enumD; simp
theorem x_addLL {fz : Bool} {S : Sto} {q : D → Sto → Prop} {xs ys : List D} : aAdd fz (.lst xs) (.lst ys) S q ↔ xs.length + ys.length ≤ sizeLine ∧ newL fz (xs ++ ys) S q := by
  constructor
  · rintro ⟨_, _, e1, e2, h⟩; cases e1; cases e2; exact h
  · exact fun h => ⟨xs, ys, rfl, rfl, h⟩
theorem rep_flat {d : D} : ∀ n : Nat, (List.replicate n [d]).flatten = List.replicate n d
  | 0 => rfl
  | n + 1 => by rw [List.replicate_succ, List.flatten_cons, rep_flat n]; rfl
theorem x_mulL1 {fz : Bool} {S : Sto} {q : D → Sto → Prop} {d : D} {n : Nat} (hn : n ≤ sizeLine) (h : newL fz (List.replicate n d) S q) : aMul fz (.lst [d]) (.int (n : Int)) S q := by
  have hs : sizeLine = 16777216 := sizeLine_eq
  refine ⟨[d], rfl, by omega, by omega, by simpa using hn, ?_⟩
  rw [Int.toNat_natCast, rep_flat]
  exact h
/-- a row of answers by its places -/
def byN (f : Nat → Bool) (n : Nat) : List D := (List.range n).map fun i => .bl (f i)
theorem byN_len {f : Nat → Bool} {n : Nat} : (byN f n).length = n := by simp [byN]
theorem byN_const {n : Nat} : List.replicate n (.bl false) = byN (fun _ => false) n := by
  unfold byN
  rw [List.map_const', List.length_range]
theorem byN_set {f : Nat → Bool} {n k : Nat} : (byN f n).set k (.bl true) = byN (fun i => f i || decide (i = k)) n := by
  apply List.ext_getElem?
  intro i
  unfold byN
  rw [List.getElem?_set, List.getElem?_map, List.getElem?_map]
  by_cases hk : k = i
  · subst hk
    by_cases hn : k < n
    · simp [hn]
    · simp [hn]
  · rw [if_neg hk]
    by_cases hn : i < n
    · simp [hn, Ne.symm hk]
    · simp [hn]
theorem byN_congr {f g : Nat → Bool} {n : Nat} (h : ∀ i, i < n → f i = g i) : byN f n = byN g n := by
  unfold byN
  exact List.map_congr_left fun i hi => by rw [h i (List.mem_range.mp hi)]
theorem toPys_bool : ∀ P : List Bool, toPys (P.map D.bl) = some (P.map PyData.bool)
  | [] => by simp [toPys]
  | p :: P => by simp [toPys, toPy, toPys_bool P]
theorem can_bool : ∀ P : List Bool, PyData.canLayAll0 (P.map PyData.bool) = true
  | [] => by simp [PyData.canLayAll0]
  | p :: P => by simp [PyData.canLayAll0, PyData.canLay0, can_bool P]
theorem dep_bool : ∀ P : List Bool, PyData.depthAll (P.map PyData.bool) = 0
  | [] => by simp [PyData.depthAll]
  | p :: P => by simp [PyData.depthAll, PyData.depth, dep_bool P]
theorem sh_bools (P : List Bool) : SeqAt.shaped (.list (P.map PyData.bool)) = true := by
  simp [SeqAt.shaped, PyData.canLay0, PyData.depth, can_bool, dep_bool]
theorem count_bools (P : List Bool) : (P.map PyData.bool).countP (fun z => PyData.eqv z (.bool true)) = P.count true := by
  rw [List.countP_map, List.count_eq_countP]
  first | rfl | (congr 1; funext b; show PyData.eqv (.bool b) (.bool true) = (b == true); rw [PyData.eqv])
theorem itS_of {d : D} {ds : List D} {S : Sto} {k : QI} (h : seqOf S d = some ds) (hk : k ds (fun S' => seqOf S' d = some ds) S) : aIt d S k := by
  unfold aIt
  cases d <;> first
    | exact ⟨_, h, hk⟩
    | (cases h; done)
end Dl
/-! Dl: a law's end over a def that wants to know that no repr is under way. -/
namespace Dl
open PySem L2 PyProof.Rows
theorem roomCaller {k : Nat} (h : Room k callerA) : RoomG k callerA := ⟨h, rfl⟩
section
variable {P : Program} {w : World} {K : PySem.W.Frag} {mg mb : Str → Option Value} {CX : CXT} {k : Nat} {fa a : Addr} {fd : FuncData} {x : Str} {sp : Sp} {s : Shared} {vs : List Value} {ns : List Int}
/-- the call of the law over an abstract heap that tracks at most the script -/
theorem law_over {H : Hp} (KX : K.In s.heap) (gl : s.heap.Ns mainGlobals mg) (bl : s.heap.Ns builtinsNs mb) (bb : ∀ y : Str, y ≠ "__name__" → mb y = bootBuiltins y) (lim : s.heap.NoLimit) (g0 : s.gens = #[])
    (ha : s.heap.get? a = some { cls := .type "list", data := .seq vs.toArray }) (room : Room k callerA) (F : ∀ base : Heap, K.In base → base.Ns mainGlobals mg → FnG P w K mg base CX k fa fd [x] sp) (bind : ∀ (s' : Shared) (u : Value), BindsTo s' fd ⟨[u], []⟩ [(x, u)])
    (hsp : sp [.ref a] H (fun v _ => v = .bl true) fun _ _ _ => False) (out : ∀ e s', CX [] H s (fun _ _ _ => False) e s' → False) (only : Only H) (ok : HOk P w H s.heap) (at_a : ∀ b, H b ≠ none → b = a) (own : H a ≠ none → K.lookup a = none) :
    codeAny (model P w) callerA (.call (.ref fa) ⟨[.ref a], []⟩) (fun r s' => r = .ok (.ret (.bool true)) ∧ OldK s.heap s'.heap ∧ s'.os = s.os ∧ AllBare s'.gens) s := by
  have free : ∀ {b : Addr} {o : Obj}, s.heap.get? b = some o → (∀ t, o ≠ { cls := .type "list", data := .seq t }) → H b = none := fun {b o} e n => by
    by_cases z : H b = none
    · exact z
    · rw [at_a b z, ha] at e
      exact absurd (Option.some.inj e).symm (n _)
  have ns_of : ∀ {b : Addr} {m : Str → Option Value}, s.heap.Ns b m → (hidT s.heap H).Ns b m := by
    rintro b m ⟨o, es, ep, e, d, r⟩
    refine ⟨o, es, ep, hidT_get e (free e fun t z => ?_), d, r⟩
    rw [z] at d
    cases d
  have kin : K.In (hidT s.heap H) := fun b o e => hidT_get (KX b o e) (by
    by_cases z : H b = none
    · exact z
    · have eb := at_a b z
      subst eb
      rw [own z] at e
      cases e)
  have lim' : (hidT s.heap H).NoLimit := by
    obtain ⟨mc, h1, h2⟩ := lim
    exact ⟨mc, ns_of h1, h2⟩
  have env : Env0 P w K mg (hidT s.heap H) callerA [] s H := {
    frames := rfl
    mod := ⟨kin, ns_of gl, ⟨mb, ns_of bl, bb⟩, lim'⟩
    bs := fun b o e => of_hidT e
    bsz := Nat.le_of_eq (hidT_size _ _)
    funs := trivial
    frf := fun b hb => by simp [frs] at hb
    hok := ok
    bare := .of_eq g0 }
  have run := (F _ kin (ns_of gl)).run callerA [] s H ⟨[.ref a], []⟩ [.ref a] [.ref a] _ _ (roomCaller room) env (bind s (.ref a)) (.cons rfl .nil) hsp
  refine codeAny_mono run fun r s' h => ?_
  match r, h with
  | .error e, h => exact (out e s' h).elim
  | .ok .next, h => exact h.elim
  | .ok .brk, h => exact h.elim
  | .ok .cont, h => exact h.elim
  | .ok (.ret u), ⟨v, H', os, bare, un, ok', rv, q⟩ =>
    have ev : v = .bl true := q
    subst ev
    have eu : u = Value.bool true := rv
    subst eu
    refine ⟨rfl, OldK.of_keep fun b o e => ?_, os, bare⟩
    rcases only b with z | ⟨ob, xs, z⟩
    · exact un.keep b o e z (by simp [frs]) (by simp)
    · obtain ⟨e1, _⟩ := ok b _ z
      obtain ⟨e2, _⟩ := ok' b _ (un.frzs b ob _ z)
      rw [e1] at e
      rw [e2, e]
theorem law_callG (KX : K.In s.heap) (gl : s.heap.Ns mainGlobals mg) (bl : s.heap.Ns builtinsNs mb) (bb : ∀ y : Str, y ≠ "__name__" → mb y = bootBuiltins y) (lim : s.heap.NoLimit) (g0 : s.gens = #[])
    (ha : s.heap.get? a = some { cls := .type "list", data := .seq vs.toArray }) (hi : IntsAre vs ns) (hl : ns.length ≤ sizeLine) (room : Room k callerA) (F : ∀ base : Heap, K.In base → base.Ns mainGlobals mg → FnG P w K mg base CX k fa fd [x] sp)
    (bind : ∀ (s' : Shared) (u : Value), BindsTo s' fd ⟨[u], []⟩ [(x, u)]) (hsp : ∀ H : Hp, Only H → SqL K H a (ns.map V.int) → sp [.ref a] H (fun v _ => v = .bl true) fun _ _ _ => False) (out : ∀ H e s', CX [] H s (fun _ _ _ => False) e s' → False) :
    codeAny (model P w) callerA (.call (.ref fa) ⟨[.ref a], []⟩) (fun r s' => r = .ok (.ret (.bool true)) ∧ OldK s.heap s'.heap ∧ s'.os = s.os ∧ AllBare s'.gens) s := by
  have rv := vals_ints hi
  have go := fun (H : Hp) (o : Only H) (q : SqL K H a (ns.map V.int)) => law_over (H := H) KX gl bl bb lim g0 ha room F bind (hsp H o q) (out H) o
  by_cases kn : K.lookup a = none
  · let Ha : Hp := fun b => if b = a then some (.frz { cls := .type "list", data := .seq vs.toArray } (.lst (ns.map V.int))) else none
    have h1 : Ha a = some (.frz { cls := .type "list", data := .seq vs.toArray } (.lst (ns.map V.int))) := if_pos rfl
    have h2 : ∀ b, b ≠ a → Ha b = none := fun b hb => if_neg hb
    refine go Ha (fun b => ?_) (.inl (.inr ⟨_, h1⟩)) (fun b u z => ?_) (fun b z => ?_) fun _ => kn
    · by_cases hb : b = a
      · rw [hb]; exact .inr ⟨_, _, h1⟩
      · exact .inl (h2 b hb)
    · by_cases hb : b = a
      · subst hb
        rw [h1] at z
        cases z
        exact ⟨ha, by rw [List.length_map]; exact hl, vs, _, rv, ha⟩
      · rw [h2 b hb] at z; cases z
    · by_cases hb : b = a
      · exact hb
      · exact absurd (h2 b hb) z
  · obtain ⟨o, hk⟩ := Option.ne_none_iff_exists'.mp kn
    have e := KX a o hk
    rw [ha] at e
    cases e
    refine go (fun _ => none) (fun _ => .inl rfl) (.inr ⟨_, vs.toArray, _, hk, rfl, rfl, rfl, ?_, ?_⟩) (fun b u z => by cases z) (fun b z => absurd rfl z) fun z => absurd rfl z
    · rw [List.size_toArray, hi.length]; exact hl
    · simpa using rv
end
theorem walk_ofG {l : PySem.W.OpenLaw} {n k : Nat} {q : Program} {loose : List Str} {XP : (Str → Option Value) → Heap → Prop} {YP : World → Heap → Prop} {d : DefRec} {K : Params → PySem.W.Frag} {CX : World → CXT} {sp : World → Sp} {x : Str}
    (hn : l.most = some n) (hn2 : n ≤ sizeLine) (hdf : d.params.defaults = []) (room : Room k callerA) (inY : ∀ (w : World) (h : Heap), YP w h → (K w.params).In h)
    (F : ∀ (w : World) (mg : Str → Option Value) (fa : Addr) (h : Heap), (K w.params).In h → h.Ns mainGlobals mg → mg d.name = some (.ref fa) →
      ∃ fd : FuncData, (∀ (s : Shared) (u : Value), BindsTo s fd ⟨[u], []⟩ [(x, u)]) ∧ ∀ base : Heap, (K w.params).In base → base.Ns mainGlobals mg → FnG l.prog w (K w.params) mg base (CX w) k fa fd [x] (sp w))
    (hsp : ∀ (w : World) (H : Hp) (a : Addr) (ns : List Int), ns.length ≤ n → Only H → SqL (K w.params) H a (ns.map V.int) → sp w [.ref a] H (fun v _ => v = .bl true) fun _ _ _ => False)
    (out : ∀ (w : World) (H : Hp) (s : Shared) (e : Value) (s' : Shared), CX w [] H s (fun _ _ _ => False) e s' → False) : PySem.W.WalkO q loose XP YP l.row.toRowW d [] (fun f vs => PySem.call f vs) := by
  refine Att.attach_call hn hdf fun w s₀ s₁ mg mb fa o pm cd doc a vs ns G Y ho hd hcd hmg hobj hints hlen hg => ?_
  have KX := inY w _ Y
  obtain ⟨fd, hb, hF⟩ := F w mg fa _ KX G.T.g hmg
  exact law_callG KX G.T.g G.T.b G.T.builtins G.T.nolimit hg hobj hints (Nat.le_trans hlen hn2) room hF hb (fun H o q => hsp w H a ns hlen o q) fun H => out w H s₁
end Dl
/-! Dl: repr of data. -/
namespace Dl
open PySem L2
/-- a depth that fits -/
def rRepr (K : PySem.W.Frag) : List V → Hp → VK → Prop := fun vs H Q => ∃ (x : V) (p : PyData), vs = [x] ∧ Dp K H x p ∧ p.showable = true ∧ p.hasDict = false ∧ p.depth ≤ 60 ∧ p.shown.length ≤ sizeLine ∧ Q (.str p.shown) H
theorem cr_repr {X : Cx} {k : Nat} (hr : RoomG k X.A) : CallR X (.builtin "repr") (rRepr X.K) := by
  intro pins s σ H vs us Q I r h
  obtain ⟨x, p, rfl, hp, hs, hd, hdep, hz, q⟩ := h
  obtain ⟨u, rfl, ru⟩ := vals1 r
  have un := hr.units
  cases hp with
  | non =>
    obtain rfl : u = Value.none := ru
    rw [PyData.shown] at q
    exact PySem.P.repr_of_none ⟨.str _, H, I.tok _, ⟨_, rfl⟩, q⟩
  | bl b =>
    obtain rfl : u = Value.bool b := ru
    rw [PyData.shown] at q
    exact PySem.P.repr_of_bool ⟨.str _, H, I.tok _, ⟨_, rfl⟩, q⟩
  | int i =>
    obtain ⟨t, rfl⟩ := ru
    rw [PyData.shown] at q
    rw [PyData.showable, decide_eq_true_eq] at hs
    exact PySem.P.repr_of_int hs ⟨.str _, H, I.tok _, ⟨_, rfl⟩, q⟩
  | str z =>
    obtain ⟨t, rfl⟩ := ru
    rw [PyData.shown] at q hz
    exact PySem.P.repr_of_str ⟨.str _, H, I.tok _, ⟨_, rfl⟩, q⟩ hz
  | lst h1 h2 =>
    rename_i a xs ps
    obtain ⟨as, rd⟩ := Dp.reads I _ _ _ (Dp.lst h1 h2) ru
    obtain rfl : u = Value.ref a := ru
    exact PySem.repr_of_reads' rd hs (PySem.PyData.noDict_hsm hd) hr.gd (by omega) (fun _ _ e => e) (fun h' u tk hk => ⟨.str _, H, I.kept hk, ⟨_, rfl⟩, q⟩) hz
  | tup h1 h2 =>
    rename_i a xs ps
    obtain ⟨as, rd⟩ := Dp.reads I _ _ _ (Dp.tup h1 h2) ru
    obtain rfl : u = Value.ref a := ru
    exact PySem.repr_of_reads' rd hs (PySem.PyData.noDict_hsm hd) hr.gd (by omega) (fun _ _ e => e) (fun h' u tk hk => ⟨.str _, H, I.kept hk, ⟨_, rfl⟩, q⟩) hz
def aRepr : R1D := fun d S q => ∃ p, toPyS S d = some p ∧ p.showable = true ∧ p.hasDict = false ∧ p.depth ≤ 60 ∧ p.shown.length ≤ sizeLine ∧ q (.str p.shown) S
theorem vr_repr {K : PySem.W.Frag} : VRN K (rRepr K) (a1 aRepr) := vrn1 fun {_ m S Z H d v q Q} w r ⟨p, h1, h2, h3, h4, h5, h6⟩ k => ⟨v, p, rfl, dpS_of w r h1, h2, h3, h4, h5, k.now w rep_str h6⟩
theorem x_repr {S : Sto} {q : D → Sto → Prop} {d : D} {p : PyData} (h : toPyS S d = some p) : aRepr d S q ↔ p.showable = true ∧ p.hasDict = false ∧ p.depth ≤ 60 ∧ p.shown.length ≤ sizeLine ∧ q (.str p.shown) S := by
  unfold aRepr
  rw [h]
  constructor
  · rintro ⟨_, e, r⟩; cases e; exact r
  · exact fun r => ⟨_, rfl, r⟩
/-! how long such a text is -/
theorem piled_le {M : Nat} : ∀ {ts : List Str}, (∀ t ∈ ts, t.length ≤ M) → piled ts ≤ (M + 2) * ts.length
  | [], _ => Nat.zero_le _
  | t :: r, h => by
    have h1 := h t (List.mem_cons_self ..)
    have h2 := piled_le (M := M) (ts := r) fun u hu => h u (List.mem_cons_of_mem _ hu)
    rw [piled_cons, List.length_cons, Nat.mul_add]
    omega
theorem listText_le (ts : List Str) : (listText ts).length ≤ piled ts + 2 := by
  cases ts with
  | nil => exact Nat.le_of_eq rfl
  | cons t r =>
    have h := textFrom_length_pos r 1 (("[" : Str) ++ (if (0 : Nat) > 0 then ", " else "" : String) ++ t) (Nat.succ_pos 0)
    have e1 : (listText (t :: r)).length = (textFrom 1 (("[" : Str) ++ (if (0 : Nat) > 0 then ", " else "" : String) ++ t) r).length + 1 := strLen_append _ _
    have e2 : ((("[" : Str) ++ (if (0 : Nat) > 0 then ", " else "" : String) ++ t)).length = 1 + t.length := by
      rw [strLen_append, strLen_append]
      exact congrArg (· + t.length) (show 1 + 0 = 1 from rfl)
    rw [e1, h, e2, piled_cons]
    omega
theorem tupleText_le (ts : List Str) : (tupleText ts).length ≤ piled ts + 3 := by
  unfold tupleText
  rw [strLen_append, strLen_append]
  have e1 : ((("(" : String) : Str)).length = 1 := rfl
  have e2 : (((if ts.length == 1 then ",)" else ")" : String) : Str)).length ≤ 2 := by split <;> decide
  rw [e1]
  by_cases h : ts = []
  · subst h
    have : (Str.join ", " []).length = 0 := rfl
    rw [this, piled_nil]
    omega
  · have := join_length_add ts h
    omega
theorem shownAll_map : ∀ ps : List PyData, PyData.shownAll ps = ps.map PyData.shown
  | [] => by rw [PyData.shownAll]; rfl
  | p :: ps => by rw [PyData.shownAll, shownAll_map ps]; rfl
theorem shown_list {ps : List PyData} {M : Nat} (h : ∀ p ∈ ps, p.shown.length ≤ M) : (PyData.list ps).shown.length ≤ (M + 2) * ps.length + 2 := by
  rw [PyData.shown, shownAll_map]
  refine Nat.le_trans (listText_le _) (Nat.add_le_add_right ?_ 2)
  have := piled_le (M := M) (ts := ps.map PyData.shown) fun t ht => by
    obtain ⟨p, hp, rfl⟩ := List.mem_map.mp ht
    exact h p hp
  rwa [List.length_map] at this
theorem shown_tuple {ps : List PyData} {M : Nat} (h : ∀ p ∈ ps, p.shown.length ≤ M) : (PyData.tuple ps).shown.length ≤ (M + 2) * ps.length + 3 := by
  rw [PyData.shown, shownAll_map]
  refine Nat.le_trans (tupleText_le _) (Nat.add_le_add_right ?_ 3)
  have := piled_le (M := M) (ts := ps.map PyData.shown) fun t ht => by
    obtain ⟨p, hp, rfl⟩ := List.mem_map.mp ht
    exact h p hp
  rwa [List.length_map] at this
theorem shown_non : PyData.none.shown.length = 4 := by rw [PyData.shown]; rfl
theorem shown_bool {b : Bool} : (PyData.bool b).shown.length ≤ 5 := by rw [PyData.shown]; cases b <;> decide
theorem shown_str {x : Str} {M : Nat} (h : PyData.strOk x = true) (hl : x.length ≤ M) : (PyData.str x).shown.length ≤ 10 * M + 2 := by
  rw [PyData.shown]
  refine Nat.le_trans (StrLaws.reprText_len x fun c hc => ?_) (by omega)
  unfold PyData.strOk at h
  rw [← Array.all_toList, List.all_eq_true] at h
  have h1 := h c hc
  simp only [decide_eq_true_eq] at h1
  exact Nat.lt_of_lt_of_le h1 (by decide)
/-- all that is shown: showable, no dict in it -/
theorem showAll_list {ps : List PyData} (h : ∀ p ∈ ps, p.showable = true) : PyData.showableAll ps = true := by
  induction ps with
  | nil => rw [PyData.showableAll]
  | cons p ps ih =>
    rw [PyData.showableAll, h p (List.mem_cons_self ..), ih fun q hq => h q (List.mem_cons_of_mem _ hq)]
    rfl
theorem noDict_list {ps : List PyData} (h : ∀ p ∈ ps, p.hasDict = false) : PyData.hasDictAll ps = false := by
  induction ps with
  | nil => rw [PyData.hasDictAll]
  | cons p ps ih =>
    rw [PyData.hasDictAll, h p (List.mem_cons_self ..), ih fun q hq => h q (List.mem_cons_of_mem _ hq)]
    rfl
end Dl
/-! Dl: a written dict from texts to texts, asked by get; int(x, 16); a try that runs through. -/
namespace Dl
open PySem L2
/-! ### a written dict -/
structure KTx (K : PySem.W.Frag) (w : World) (a : Addr) (kvs : List (Str × Str)) : Prop where
  ex : ∃ es n, K.lookup a = some ⟨.type "dict", none, .dict es n, #[]⟩ ∧ PySem.W.KeysLit w.params es.toList ∧ (∀ p ∈ kvs, ∃ t, PySem.W.nsIn K a p.1 = some (some (.str p.2 t))) ∧ ∀ z : Str, z ∉ kvs.map Prod.fst → PySem.W.nsIn K a z = some none
  low : (a == sysModules) = false
theorem miss_of {K : PySem.W.Frag} {a : Addr} {es : Array DictEntry} {n : Nat} {ks : List Str} (hl : K.lookup a = some ⟨.type "dict", none, .dict es n, #[]⟩) (hk : es.toList.all (fun e => ks.any fun k => e.key.isStr k) = true) (hr : es.toList.any (·.refKey) = false) {z : Str} (hz : z ∉ ks) : PySem.W.nsIn K a z = some none := by
  unfold PySem.W.nsIn
  rw [hl]
  have h : es.toList.find? (·.key.isStr z) = none := by
    rw [List.find?_eq_none]
    intro e he hs
    obtain ⟨k, hk1, hk2⟩ := List.any_eq_true.mp (List.all_eq_true.mp hk e he)
    cases hv : e.key with
    | str x t =>
      rw [hv] at hs hk2
      have e1 : x = z := by simpa [Value.isStr] using hs
      have e2 : x = k := by simpa [Value.isStr] using hk2
      exact hz (e1 ▸ e2 ▸ hk1)
    | _ => rw [hv] at hs; simp [Value.isStr] at hs
  dsimp only
  rw [h, hr]
  rfl
def kget : List (Str × Str) → Str → D
  | [], _ => .non
  | p :: r, z => if z = p.1 then .str p.2 else kget r z
def rKGet (K : PySem.W.Frag) (w : World) (a : Addr) : V → List V → Hp → VK → Prop := fun x xs H Q => ∃ z kvs, x = .ref a ∧ xs = [.str z] ∧ KTx K w a kvs ∧ ∀ v, (∀ m N Hv, Rep K m N Hv (kget kvs z) v) → Q v H
theorem kget_of {K : PySem.W.Frag} {w : World} {a : Addr} {kvs : List (Str × Str)} (T : KTx K w a kvs) (z : Str) : ∃ (o : Option Value) (v : V), PySem.W.nsIn K a z = some o ∧ RelV v (o.getD .none) ∧ ∀ m N Hv, Rep K m N Hv (kget kvs z) v := by
  obtain ⟨es, n, hl, hk, h1, h2⟩ := T.ex
  have go : ∀ l : List (Str × Str), (∀ p ∈ l, ∃ t, PySem.W.nsIn K a p.1 = some (some (.str p.2 t))) → (z ∉ l.map Prod.fst → PySem.W.nsIn K a z = some none) → ∃ (o : Option Value) (v : V), PySem.W.nsIn K a z = some o ∧ RelV v (o.getD .none) ∧ ∀ m N Hv, Rep K m N Hv (kget l z) v := by
    intro l
    induction l with
    | nil => exact fun _ h => ⟨none, .non, h (by simp), rfl, fun _ _ _ => rep_non⟩
    | cons p r ih =>
      intro h h'
      by_cases e : z = p.1
      · obtain ⟨t, q⟩ := h p (List.mem_cons_self ..)
        rw [← e] at q
        exact ⟨_, .str p.2, q, ⟨t, rfl⟩, fun _ _ _ => by rw [kget, if_pos e]; exact rep_str⟩
      · obtain ⟨o, v, g1, g2, g3⟩ := ih (fun q hq => h q (List.mem_cons_of_mem _ hq)) fun hn => h' (by rw [List.map_cons, List.mem_cons]; rintro (x | x); exact e x; exact hn x)
        exact ⟨o, v, g1, g2, fun m N Hv => by rw [kget, if_neg e]; exact g3 m N Hv⟩
  exact go kvs h1 (h2 z)
theorem mt_kget {X : Cx} {a : Addr} : MtR X "dict.get" (rKGet X.K X.w a) := by
  intro pins s σ H x xs v us Q I rx rs h
  obtain ⟨z, kvs, rfl, rfl, T, q⟩ := h
  obtain rfl : v = Value.ref a := rx
  obtain ⟨u, rfl, ru⟩ := vals1 rs
  obtain ⟨t, rfl⟩ := ru
  obtain ⟨o, v, g1, g2, g3⟩ := kget_of T z
  obtain ⟨es, n, hl, hk, _, _⟩ := T.ex
  have hm := PySem.W.mapOf_K (prog := X.prog) (w := X.w) I.kIn hl hk
  refine call_meetsIn PySem.F.slot_dict_get hm.typeIs PySem.F.entry_dict_get (PySem.F.args_dict_get_2 _ _) (meets_dict_get (strKind X.prog X.w) a (strKind_is X.prog X.w z t) T.low) ⟨_, hm, ?_⟩
  rw [PySem.W.find_K hl g1]
  exact ⟨v, H, I.tok _, g2, q v g3⟩
def aKGet (a : Addr) (kvs : List (Str × Str)) : D → RND := fun o as S q => ∃ z, o = .ref a ∧ as = [.str z] ∧ q (kget kvs z) S
def gKGet (a : Addr) (kvs : List (Str × Str)) (gs : G (List D)) : G D := fun ρ S q => gs ρ S fun as S1 => aKGet a kvs (.ref a) as S1 q
theorem x_kget {a : Addr} {kvs : List (Str × Str)} {z : Str} {S : Sto} {q : D → Sto → Prop} : aKGet a kvs (.ref a) [.str z] S q ↔ q (kget kvs z) S := ⟨fun ⟨_, _, e, h⟩ => by cases e; exact h, fun h => ⟨z, rfl, rfl, h⟩⟩
section
variable {X : Cx} {cpos apos p : Pos} {x : Str} {e : Expr} {es : List Expr} {gs : G (List D)} {a : Addr} {kvs : List (Str × Str)}
theorem d_kget (hg : Gl X x) (hm : X.mg x = some (.ref a)) (T : KTx X.K X.w a kvs) (ha : PA X (e :: es) (tofA X.K U gs)) (hd : (x == ("__debug__" : Str)) = false := by decide)
    (hbase : attributeBase (.Name x p) "get" X.env (eval (.Name x p) X.env) = eval (.Name x p) X.env := by rfl)
    (hfew : ((backTo cpos (starEach (e :: es) X.env)).all (fun x => !x.1) && (backToKw cpos (keywordEach [] X.env)).all (fun x => x.1.isSome)
      && decide ((e :: es).length + ([] : List Keyword).length + (if ([] : List Keyword).isEmpty then 0 else 1) < 30)) = true := by rfl)
    (hline : (apos.endLine == cpos.line) = true := by rfl) (hs : starEach (e :: es) X.env = (false, eval e X.env) :: starEach es X.env := by rfl) (hplain : (backTo cpos (starEach es X.env)).any (·.1) = false := by rfl) :
    PE X (.Call (.Attribute (.Name x p) "get" apos) (e :: es) [] cpos) (tofE X.K U (gKGet a kvs gs)) := by
  have L : ∀ {pins : List (Addr × Obj)} {s : Shared} {σ : L2.St} {H : Hp}, Inv X pins σ H s → s.TypeIs (.ref a) "dict" ∧ ∃ ob, s.heap.get? a = some ob ∧ ob.dict = none := by
    intro pins s σ H I
    obtain ⟨es', n, hl, hk, _, _⟩ := T.ex
    have hmm := PySem.W.mapOf_K (prog := X.prog) (w := X.w) I.kIn hl hk
    exact ⟨hmm.typeIs, _, I.kIn _ _ hl, rfl⟩
  refine ⟨fun pins s σ H Q I ⟨m, S, Z, ρ, q, w, rs, h, k⟩ => ?_⟩
  refine wpAny_Call_method hbase hfew hline PySem.F.plainAttrs_dict PySem.F.slot_dict_get PySem.F.type_dict_get (ld_glob I hg hm ?_ hd)
  obtain ⟨t1, ob, t2, t3⟩ := L I
  refine ⟨t1, fun b hb => by cases hb; exact ⟨ob, t2, t3⟩, ?_⟩
  have run := ha.run cpos pins s σ H (fun vs H1 => rKGet X.K X.w a (.ref a) vs H1 Q) I (tof_in w rs h fun vs H1 m1 ds S1 e1 w1 r1 ⟨z, _, e3, h1⟩ => ?_)
  rw [hs] at run ⊢
  refine Calls.callWith_builtin ?_ (Calls.evalArgs_plain (wpAny_mono run (fun us s1 hu => ?_) fun _ _ z => z))
  · show (false || (backTo cpos (starEach es X.env)).any (·.1)) = false
    rw [hplain]; rfl
  · obtain ⟨vs, H1, I1, rv, hq⟩ := hu
    exact mt_kget pins s1 σ H1 (.ref a) vs _ us Q I1 rfl rv hq
  · subst e3
    obtain ⟨v, ev, rv⟩ := reps1 r1
    rw [Rep] at rv
    exact ⟨z, kvs, rfl, by rw [ev, rv], T, fun v hv => k.at e1 w1 (hv _ _ _) h1⟩
end
/-! ### int(x, 16) -/
def aIntH : RND := fun as S q => ∃ l : List Nat, as = [.str ⟨l.toArray⟩, .int 16] ∧ l ≠ [] ∧ l.length ≤ 640 ∧ (∀ c ∈ l, Hx.IsHex c) ∧ q (.int ((Hx.hexNum l : Nat) : Int)) S
theorem vr_intH {K : PySem.W.Frag} : VRN K rIntHex aIntH := fun {_ m S Z H a v q Q} w rs ⟨l, e, h1, h2, h3, h4⟩ k => by
  subst e
  obtain ⟨x, y, ev, rx, ry⟩ := reps2 rs
  have rx' : x = .str _ := rx
  have ry' : y = .int _ := ry
  exact ⟨l, by rw [ev, rx', ry'], h1, h2, h3, k.now w rep_int h4⟩
/-! ### == of two texts -/
def aEqS : R2D := fun a b S q => ∃ x y, a = .str x ∧ b = .str y ∧ q (.bl (decide (x = y))) S
def aNeS : R2D := fun a b S q => ∃ x y, a = .str x ∧ b = .str y ∧ q (.bl (decide (x ≠ y))) S
theorem dec_str {x y : Str} : decide (V.str x = V.str y) = decide (x = y) := decide_eq_decide.mpr ⟨fun h => V.str.inj h, fun h => by rw [h]⟩
theorem vr_eqSS {K : PySem.W.Frag} : VR2 K L2.rEq aEqS := fun {_ m S Z H a b v u q Q} w r1 r2 ⟨x, y, e1, e2, h⟩ k => by
  subst e1 e2
  rw [Rep] at r1 r2
  subst r1 r2
  exact ⟨rfl, by rw [dec_str]; exact k.now w rep_bl h⟩
theorem vr_neSS {K : PySem.W.Frag} : VR2 K L2.rNe aNeS := fun {_ m S Z H a b v u q Q} w r1 r2 ⟨x, y, e1, e2, h⟩ k => by
  subst e1 e2
  rw [Rep] at r1 r2
  subst r1 r2
  refine ⟨rfl, ?_⟩
  have e : (!decide (V.str x = V.str y)) = decide (x ≠ y) := by rw [dec_str, decide_not]
  first
    | (rw [e]; exact k.now w rep_bl h)
    | (rw [decide_not, dec_str, ← decide_not]; exact k.now w rep_bl h)
theorem x_eqSS {x y : Str} {S : Sto} {q : D → Sto → Prop} : aEqS (.str x) (.str y) S q ↔ q (.bl (decide (x = y))) S := ⟨fun ⟨_, _, e1, e2, h⟩ => by cases e1; cases e2; exact h, fun h => ⟨_, _, rfl, rfl, h⟩⟩
theorem x_neSS {x y : Str} {S : Sto} {q : D → Sto → Prop} : aNeS (.str x) (.str y) S q ↔ q (.bl (decide (x ≠ y))) S := ⟨fun ⟨_, _, e1, e2, h⟩ => by cases e1; cases e2; exact h, fun h => ⟨_, _, rfl, rfl, h⟩⟩
/-! ### a try that runs through -/
theorem d_thru {X : Cx} {body : List Stmt} {h₀ : ExceptHandler} {hs : List ExceptHandler} {pos : Pos} {g : GS} (hb : PSs X.nox body (tofS X.K U g)) : PS X (.Try body (h₀ :: hs) [] [] pos) (tofS X.K U g) := ps_try_thru0 hb
end Dl
/-! dicts by data: made, stored in, read, their items sorted; max, min with default -/
namespace Dl
open PySem L2 PyProof.Rows
/-! ### worlds that grow -/
section
variable {K : PySem.W.Frag} {U : Wi} {m : Nat → Addr} {S : Sto} {Z : Addr → Prop} {H H' : Hp}
theorem Wd.growV (w : Wd K U m S Z H) (hk : ∀ b o, H b = some o → H' b = some o) : Wd K U m S Z H' ∧ Ext m S Z H m S H' ∧ ∀ a o, H a = none → H' a = some o → vis m S Z H' a = some o := by
  obtain ⟨a, b⟩ := w.grow hk
  refine ⟨a, b, fun p o h0 h1 => ?_⟩
  obtain ⟨nz, nl⟩ := w.toWd0.fresh h0
  exact vis_of h1 nz nl
end
/-! ### keys -/
def toKey : D → Option Key
  | .int i => some (.inl i)
  | .str x => some (.inr x)
  | _ => none
def kD : Key → D
  | .inl i => .int i
  | .inr x => .str x
theorem toKey_kD : ∀ k : Key, toKey (kD k) = some k
  | .inl _ => rfl
  | .inr _ => rfl
theorem rep_key {K : PySem.W.Frag} {m : Nat → Addr} {N : Nat} {Hv : Hp} {d : D} {v : V} {k : Key} (r : Rep K m N Hv d v) (h : toKey d = some k) : v = kV k := by
  cases d with
  | int i => cases h; rw [Rep] at r; exact r
  | str x => cases h; rw [Rep] at r; exact r
  | _ => cases h
theorem rep_kD {K : PySem.W.Frag} {m : Nat → Addr} {N : Nat} {Hv : Hp} (k : Key) : Rep K m N Hv (kD k) (kV k) := by
  cases k with
  | inl i => exact rep_int
  | inr x => exact rep_str
/-- keys and values, one put -/
def kput (k : Key) (ks : List Key) : List Key := if (ks.any fun j => decide (j = k)) = true then ks else ks ++ [k]
def dput {A : Type} (k : Key) (y : A) (ks : List Key) (ds : List A) : List A := if (ks.any fun j => decide (j = k)) = true then List.zipWith (fun j d => if j = k then y else d) ks ds else ds ++ [y]
def dget {A : Type} (k : Key) (ks : List Key) (ds : List A) : Option A := ((ks.zip ds).find? fun kv => decide (kv.1 = k)).map (·.2)
theorem zip_any {A : Type} (k : Key) : ∀ {ks : List Key} {vs : List A}, ks.length = vs.length → ((ks.zip vs).any fun kv => decide (kv.1 = k)) = ks.any fun j => decide (j = k)
  | [], [], _ => rfl
  | j :: ks, v :: vs, h => by rw [List.zip_cons_cons, List.any_cons, List.any_cons, zip_any k (by simpa using h)]
  | [], _ :: _, h => by simp at h
  | _ :: _, [], h => by simp at h
theorem zip_mapk {A : Type} (k : Key) (y : A) : ∀ {ks : List Key} {vs : List A}, (ks.zip vs).map (fun kv => if kv.1 = k then (kv.1, y) else kv) = ks.zip (List.zipWith (fun j d => if j = k then y else d) ks vs)
  | [], _ => rfl
  | _ :: _, [] => rfl
  | j :: ks, v :: vs => by
    rw [List.zip_cons_cons, List.map_cons, zip_mapk k y, List.zipWith_cons_cons, List.zip_cons_cons]
    by_cases e : j = k
    · simp [e]
    · simp [e]
theorem putK_zip {k : Key} {y : V} {ks : List Key} {vs : List V} (h : ks.length = vs.length) : L2.putK (ks.zip vs) k y = (kput k ks).zip (dput k y ks vs) := by
  unfold L2.putK kput dput
  rw [zip_any k h]
  by_cases e : (ks.any fun j => decide (j = k)) = true
  · rw [if_pos e, if_pos e, if_pos e, zip_mapk]
  · rw [if_neg e, if_neg e, if_neg e, List.zip_append h]
    rfl
theorem put_len {A : Type} {k : Key} {y : A} {ks : List Key} {vs : List A} (h : ks.length = vs.length) : (kput k ks).length = (dput k y ks vs).length := by
  unfold kput dput
  split
  · simp [h]
  · simp [h]
theorem reps_zipW {K : PySem.W.Frag} {m : Nat → Addr} {N : Nat} {Hv : Hp} {k : Key} {y : D} {v : V} (ry : Rep K m N Hv y v) : ∀ {ks : List Key} {ds : List D} {vs : List V}, Reps K m N Hv ds vs →
    Reps K m N Hv (List.zipWith (fun j d => if j = k then y else d) ks ds) (List.zipWith (fun j d => if j = k then v else d) ks vs)
  | [], _, _, _ => by simp only [List.zipWith_nil_left]; exact reps_nil
  | _ :: _, [], vs, r => by rw [Reps] at r; subst r; exact reps_nil
  | j :: ks, d :: ds, _, r => by
    rw [Reps] at r
    obtain ⟨u, us, rfl, r1, r2⟩ := r
    rw [List.zipWith_cons_cons, List.zipWith_cons_cons]
    refine Reps.cons ?_ (reps_zipW ry r2)
    by_cases e : j = k
    · rw [if_pos e, if_pos e]; exact ry
    · rw [if_neg e, if_neg e]; exact r1
theorem reps_put {K : PySem.W.Frag} {m : Nat → Addr} {N : Nat} {Hv : Hp} {k : Key} {y : D} {v : V} {ks : List Key} {ds : List D} {vs : List V} (ry : Rep K m N Hv y v) (r : Reps K m N Hv ds vs) : Reps K m N Hv (dput k y ks ds) (dput k v ks vs) := by
  unfold dput
  split
  · exact reps_zipW ry r
  · exact r.append (Reps.one ry)
theorem reps_dget {K : PySem.W.Frag} {m : Nat → Addr} {N : Nat} {Hv : Hp} {k : Key} : ∀ {ks : List Key} {ds : List D} {vs : List V}, Reps K m N Hv ds vs → (dget k ks ds = none ∧ valV (ks.zip vs) k = none) ∨ ∃ d v, dget k ks ds = some d ∧ valV (ks.zip vs) k = some v ∧ Rep K m N Hv d v
  | [], _, _, _ => .inl ⟨rfl, rfl⟩
  | _ :: _, [], vs, r => by rw [Reps] at r; subst r; exact .inl ⟨rfl, rfl⟩
  | j :: ks, d :: ds, _, r => by
    rw [Reps] at r
    obtain ⟨u, us, rfl, r1, r2⟩ := r
    by_cases e : j = k
    · exact .inr ⟨d, u, by simp [dget, e], by simp [valV, e], r1⟩
    · have h1 : dget k (j :: ks) (d :: ds) = dget k ks ds := by simp [dget, e]
      have h2 : valV ((j :: ks).zip (u :: us)) k = valV (ks.zip us) k := by simp [valV, e]
      rw [h1, h2]
      exact reps_dget r2
def dicOf (S : Sto) : D → Option (List Key × List D)
  | .dic ks ds => some (ks, ds)
  | .loc n => match S[n]? with
    | some (some (.dic ks ds)) => some (ks, ds)
    | _ => none
  | _ => none
theorem dicOf_rep {K : PySem.W.Frag} {U : Wi} {m : Nat → Addr} {S : Sto} {Z : Addr → Prop} {H : Hp} {d : D} {v : V} {ks : List Key} {ds : List D} (w : Wd K U m S Z H) (r : Rep K m S.length (vis m S Z H) d v) (h : dicOf S d = some (ks, ds)) :
    ∃ a vs, v = .ref a ∧ H a = some (.dK (ks.zip vs)) ∧ ks.length = vs.length ∧ Reps K m S.length (vis m S Z H) ds vs := by
  cases d with
  | dic ks' ds' =>
    cases h
    rw [Rep] at r
    obtain ⟨a, vs, e, h1, h2, h3⟩ := r
    exact ⟨a, vs, e, vis_sub h1, h2, h3⟩
  | loc n =>
    rw [Rep] at r
    rw [dicOf] at h
    cases hS : S[n]? with
    | none => rw [hS] at h; cases h
    | some o =>
      cases o with
      | none => rw [hS] at h; cases h
      | some o =>
        cases o with
        | dic ks' ds' =>
          rw [hS] at h
          cases h
          obtain ⟨vs, h1, h2, h3⟩ := w.rep n _ hS
          exact ⟨m n, vs, r.1, h1, h2, h3⟩
        | lst _ => rw [hS] at h; cases h
        | obj _ _ _ => rw [hS] at h; cases h
        | dicT _ _ => rw [hS] at h; cases h
  | _ => cases h
/-! ### made, stored in -/
section
variable {X : Cx} {pos p' : Pos} {U : Wi}
/-- {} -/
def gDNew (fz : Bool) : G D := fun _ S q => if fz = true then q (.dic [] []) S else q (.loc S.length) (S ++ [some (.dic [] [])])
theorem d_dnew (fz : Bool) : PE X (.Dict [] [] pos) (tofE X.K U (gDNew fz)) := weakE pe_dnewK fun σ H Q ⟨m, S, Z, ρ, q, w, rs, h, k⟩ p hp => by
  cases fz with
  | true =>
    obtain ⟨w1, e1, hv⟩ := w.new (o := .dK []) hp
    refine k.at e1 w1 (a := .dic [] []) ?_ h
    show Rep _ _ _ _ _ _
    rw [Rep]
    exact ⟨p, [], rfl, hv, rfl, reps_nil⟩
  | false =>
    obtain ⟨m', e0, w1, e1⟩ := w.add (o := .dK []) (mo := .dic [] []) hp fun m1 N1 Hv1 _ _ _ => ⟨[], upd_same, rfl, reps_nil⟩
    exact k.at e1 w1 (a := .loc S.length) (rep_loc e0 (by simp)) h
/-- {key: value} of two written things -/
theorem d_disp1 {e1 e2 : Expr} {k : Key} {i : Int} (h1 : PE X e1 (tofE X.K U (gC (kD k)))) (h2 : PE X e2 (tofE X.K U (gC (.int i)))) (hk : ∃ x, k = .inr x) (t1 : PE X e1 (fun _ H Q => Q (kV k) H)) (t2 : PE X e2 (fun _ H Q => Q (.int i) H)) :
    PE X (.Dict [some e1] [e2] pos) (tofE X.K U (gC (.dic [k] [.int i]))) := weakE (pe_disp (pps_cons t1 t2 pps_nil) (by rfl) (by rfl) (by simp) (by simp)) fun σ H Q ⟨m, S, Z, ρ, q, w, rs, h, kk⟩ p hp => by
  refine ⟨upd_same, [(k, .int i)], rfl, by simp, ?_⟩
  have em : L2.mergeK [] [(k, V.int i)] = [(k, .int i)] := rfl
  have e2 : L2.upd (L2.upd H p (.dK [])) p (.dK (L2.mergeK [] [(k, V.int i)])) = L2.upd H p (.dK ([k].zip [V.int i])) := by
    funext b
    by_cases hb : b = p
    · rw [hb, upd_same, upd_same]; rfl
    · rw [upd_ne hb, upd_ne hb, upd_ne hb]
  rw [e2]
  obtain ⟨w1, e1, hv⟩ := w.new (o := .dK ([k].zip [V.int i])) hp
  refine kk.at e1 w1 (a := .dic [k] [.int i]) ?_ h
  show Rep _ _ _ _ _ _
  rw [Rep]
  exact ⟨p, [.int i], rfl, hv, rfl, Reps.one rep_int⟩
/-- o[k] = v -/
def gDSet (go gi gv : G D) : GS := fun E ρ S => gv ρ S fun y S1 => go ρ S1 fun o S2 => gi ρ S2 fun x S3 => ∃ n ks ds k, o = .loc n ∧ S3[n]? = some (some (.dic ks ds)) ∧ toKey x = some k ∧ ks.length < sizeLine ∧ E.nx ρ (S3.set n (some (.dic (kput k ks) (dput k y ks ds))))
theorem d_dset {o i value : Expr} {go gi gv : G D} (ho : PE X o (tofE X.K U go)) (hi : PE X i (tofE X.K U gi)) (hv : PE X value (tofE X.K U gv)) (hu : X.A.units + 1 < cLine) (hs : swapsWith value (some (.Subscript o i p')) pos.line X.env = pure false := by rfl) :
    PS X (.Assign [.Subscript o i p'] value pos) (tofS X.K U (gDSet go gi gv)) :=
  weakS (ps_dput hu ho hi hv hs) fun De σ H ⟨m, S, Z, ρ, E, w, rs, h, k⟩ => tof_in w rs h fun v1 H1 m1 d1 S1 e1 w1 r1 h1 => tof_in w1 (rs.ext e1) h1 fun v2 H2 m2 d2 S2 e2 w2 r2 h2 => tof_in w2 ((rs.ext e1).ext e2) h2 fun v3 H3 m3 d3 S3 e3 w3 r3 ⟨n, ks, ds, kk, ed, hS, hk, hl, h3⟩ => by
    subst ed
    obtain ⟨vs, ha, hlen, hr⟩ := w3.rep n _ hS
    have r2' : Rep X.K m3 S3.length (vis m3 S3 Z H3) (.loc n) v2 := r2.ext e3
    rw [Rep] at r2'
    have ev3 := rep_key r3 hk
    subst ev3
    have hput : DPut H3 (m3 n) (kV kk) v1 (L2.upd H3 (m3 n) (.dK (L2.putK (ks.zip vs) kk v1))) := DPut.k ha (by rw [List.length_zip, ← hlen, Nat.min_self]; exact hl)
    refine ⟨m3 n, _, r2'.1, hput, ?_⟩
    rw [putK_zip hlen]
    obtain ⟨w4, e4, hv4⟩ := w3.upd (o := .dK ((kput kk ks).zip (dput kk v1 ks vs))) (mo := .dic (kput kk ks) (dput kk d1 ks ds)) ⟨_, hS⟩ ⟨_, upd_same, by rw [put_len hlen], reps_put ((Rep.ext (e2.trans e3) r1)) hr⟩
    exact k.nx _ _ m3 _ _ (((e1.trans e2).trans e3).trans e4) w4 (((rs.ext e1).ext e2).ext e3 |>.ext e4) h3
end
/-! ### the items sorted -/
section
open PyProof.Rows PySem.W PySem.Calls PySem.Spec
variable {X : Cx} {pins : List (Addr × Obj)} {σ : L2.St} {H : Hp} {s : Shared}
theorem items_laid0 {h' : Heap} {tk : Nat} {kvs : List (Key × V)} {vs : List (Key × Value)} {as : List Addr} {lo : Addr} (I : Inv X pins σ H s) (kv : KV kvs vs) (hk : ∀ b o, s.heap.get? b = some o → h'.get? b = some o) (hl : as.length = vs.length)
    (hG : PySem.W.KdxG (mixKind X.prog X.w) vs lo h' as) (hlo : s.heap.objs.size ≤ lo) :
    ∃ H' : Hp, (∀ b o, H b = some o → H' b = some o) ∧ (∀ t ∈ as, H t = none) ∧ as.Nodup ∧ Paired (fun (t : Addr) (q : Key × V) => H' t = some (.tup [kV q.1, q.2])) as kvs ∧ (∀ b, b ∉ as → H' b = H b) ∧ Inv X pins σ H' { s with heap := h', toks := tk } := by
  have lk : kvs.length = vs.length := Paired.length kv
  have nd : as.Nodup := List.Pairwise.imp (fun {a b} (h : a < b) => Nat.ne_of_lt h) hG.rise
  have above : ∀ b ∈ as, s.heap.objs.size ≤ b := fun b hb => Nat.le_of_lt (Nat.lt_of_le_of_lt hlo (hG.above b hb))
  have new : ∀ t ∈ as, H t = none := fun t ht => I.hok.fresh (above t ht)
  have atP := LiI.putT_at as kvs H (by omega) nd
  have off : ∀ b, b ∉ as → LiI.putT H as kvs b = H b := fun b h1 => LiI.putT_off as kvs _ h1
  have low : ∀ b o, s.heap.get? b = some o → b ∉ as := fun b o e z => absurd (Heap.lt_size e) (Nat.not_lt.mpr (above b z))
  have kp : ∀ b u, H b = some u → LiI.putT H as kvs b = some u := fun b u e => by
    rw [off b (fun z => by rw [new b z] at e; cases e)]
    exact e
  refine ⟨LiI.putT H as kvs, kp, new, nd, atP, off, ?_⟩
  refine I.call' (ch := []) rfl ⟨fun b o q _ _ _ => hk b o q, fun b o q _ _ _ => ⟨o.slots, hk b o q⟩, fun b o q n _ => ?_, fun b o q _ => ⟨o, hk b o q⟩, fun b xs q => kp b _ q, fun b o u q => kp b _ q, fun b ps q => ⟨#[], by rw [kp b _ q]; simp⟩⟩ (fun b u q => ?_) I.bare fun b z => by simp at z
  · rw [off b (low b o q)]
    exact n
  · by_cases hb : b ∈ as
    · obtain ⟨j, pk, e1, e2, e3⟩ := LiI.paired_ix atP hb
      rw [e3] at q
      cases q
      obtain ⟨key, k, x, f1, f2, f3⟩ := hG.pairs j b e1
      obtain ⟨qv, g1, g2, g3⟩ := LiI.paired_get kv e2
      rw [f1] at g1
      cases g1
      have rk : RelV (kV pk.1) key := by
        rw [g2]
        exact relV_key (show keyIs k key = true from f2)
      exact ⟨by show 2 ≤ sizeLine; decide, [key, x], .cons rk (.cons g3 .nil), ⟨_, f3, rfl, _, rfl⟩⟩
    · rw [off b hb] at q
      exact (I.hok b u q).stay (fun d v _ y => hk d v y) (fun d y => kp d _ y) fun d xs y => kp d _ y
/-- the pairs, by data -/
def itemsPy (ks : List Key) (ps : List PyData) : List PyData := List.zipWith (fun k p => PyData.tuple [match k with | .inl i => .int i | .inr x => .str x, p]) ks ps
def tSI (K : PySem.W.Frag) (te : TE) : TE := fun σ H Q => te σ H fun x H1 => ∃ (d : Addr) (kvs : List (Key × V)) (vps : List PyData), x = .ref d ∧ H1 d = some (.dK kvs) ∧ DpAll K H1 (kvs.map (·.2)) vps ∧
  PySem.W.AllAlike (itemsPy (kvs.map (·.1)) vps) ∧ PySem.W.Sortable (itemsPy (kvs.map (·.1)) vps) ∧ (∀ p ∈ itemsPy (kvs.map (·.1)) vps, p.depth ≤ 60) ∧
  ∀ (H' : Hp) (p : Addr) (ts : List Addr), (∀ b o, H1 b = some o → H' b = some o) → H1 p = none → (∀ t ∈ ts, H1 t = none) → Paired (fun (t : Addr) (q : Key × V) => H' t = some (.tup [kV q.1, q.2])) ts kvs →
    H' p = some (.lst ((((ts.map V.ref).zip (itemsPy (kvs.map (·.1)) vps)).mergeSort (PySem.W.dataLe false Prod.snd)).map Prod.fst)) → Q (.ref p) H'
theorem dp_items {K : PySem.W.Frag} {H : Hp} : ∀ {ts : List Addr} {kvs : List (Key × V)} {vps : List PyData}, Paired (fun (t : Addr) (q : Key × V) => H t = some (.tup [kV q.1, q.2])) ts kvs → DpAll K H (kvs.map (·.2)) vps → DpAll K H (ts.map V.ref) (itemsPy (kvs.map (·.1)) vps)
  | _, _, _, .nil, h => by
    cases h
    exact .nil
  | _, _, _, .cons (b := q) h t, hd => by
    rw [List.map_cons] at hd
    cases hd with
    | cons h1 h2 =>
      rw [List.map_cons, List.map_cons]
      refine .cons (.tup (SqT.of h) (.cons ?_ (.cons h1 .nil))) (dp_items t h2)
      obtain ⟨k, v⟩ := q
      cases k with
      | inl i => exact .int i
      | inr x => exact .str x
theorem each_reads {h h' : Heap} {vs : List Value} {ps : List PyData} {as : List Addr} (k : ∀ b o, h.get? b = some o → h'.get? b = some o) (hl : vs.length = ps.length) (rd : ReadsAll h vs ps as) : EachIs (fun v p => ∃ as, Reads h' v p as) vs ps :=
  each_of hl fun i v p h1 h2 => by
    obtain ⟨as, r⟩ := readsAll_each rd i v p h1 h2
    exact ⟨as, PyProof.Rows.Reads.keeps k r⟩
theorem sorted_items {r d : Addr} {kvs : List (Key × V)} {vps : List PyData} {Q : VK} (hc : X.calm = true) (hu : X.A.units + 64 < cLine) (I : Inv X pins σ H s) (hv : s.heap.get? r = some { cls := .type "dict_items", data := .fields #[.ref d] }) (hd : H d = some (.dK kvs))
    (hp : DpAll X.K H (kvs.map (·.2)) vps) (hal : PySem.W.AllAlike (itemsPy (kvs.map (·.1)) vps)) (hso : PySem.W.Sortable (itemsPy (kvs.map (·.1)) vps)) (hdep : ∀ p ∈ itemsPy (kvs.map (·.1)) vps, p.depth ≤ 60)
    (q : ∀ (H' : Hp) (p : Addr) (ts : List Addr), (∀ b o, H b = some o → H' b = some o) → H p = none → (∀ t ∈ ts, H t = none) → Paired (fun (t : Addr) (q : Key × V) => H' t = some (.tup [kV q.1, q.2])) ts kvs →
      H' p = some (.lst ((((ts.map V.ref).zip (itemsPy (kvs.map (·.1)) vps)).mergeSort (PySem.W.dataLe false Prod.snd)).map Prod.fst)) → Q (.ref p) H') :
    wpAny (model X.prog X.w) X.A (call (.builtin "sorted") [.ref r]) (EP X pins σ Q) X.xe s := by
  obtain ⟨hz, hs0, vs, kv, hdo⟩ := dk_of I.hok hd
  obtain ⟨ep, hat⟩ := hdo.dictAt
  have lk : kvs.length = vs.length := Paired.length kv
  refine call_function_entry kind_sorted plain_sorted entry_sorted (args_sorted1 _) ?_
  unfold Builtin.«sorted»
  refine wpAny_bind (m := checkCount "sorted" 1 1 _) (wpAny_pure ?_)
  refine wpAny_bind (PySem.W.kdx_collect (A := X.A.in1) (knd := mixKind X.prog X.w) (kvs := vs) (ep := ep) (I.ok.hd hc) ⟨_, hv, rfl, rfl⟩ hat (by omega) fun h' tk as hk hl hG => ?_)
  obtain ⟨H', kp, new, nd, atP, off, J⟩ := items_laid0 (tk := tk) I kv hk hl hG (Nat.le_refl _)
  have hz2 : (as.map Value.ref).length ≤ sizeLine := by rw [List.length_map]; omega
  refine wpAny_bind (wpAny_newList ?_ hz2)
  have hoL : (h'.push (seqObj "list" (as.map Value.ref).toArray 0)).get? h'.objs.size = some (seqObj "list" (as.map Value.ref).toArray 0) := Heap.get?_push_size _ rfl
  -- the data
  let xs : List V := as.map V.ref
  let its : List Value := as.map Value.ref
  have hxs : ∀ l : List Addr, Vals (l.map V.ref) (l.map Value.ref) := fun l => by
    induction l with
    | nil => exact .nil
    | cons a l ih => exact .cons rfl ih
  have rv : Vals xs its := hxs as
  let ps : List PyData := itemsPy (kvs.map (·.1)) vps
  have hpH : DpAll X.K H' (kvs.map (·.2)) vps := DpAll.sub kp hp
  have dps : DpAll X.K H' xs ps := dp_items atP hpH
  obtain ⟨ras, rd⟩ := Dp.readsAll J ps xs its dps rv
  have l1 : its.length = xs.length := rv.length.symm
  have l2 : xs.length = ps.length := dpAll_len dps
  let bs : List ((Value × V) × PyData) := (its.zip xs).zip ps
  have hbl : bs.length = ps.length := by show ((its.zip xs).zip ps).length = _; simp; omega
  have hmap : bs.map Prod.snd = ps := by
    show ((its.zip xs).zip ps).map Prod.snd = ps
    exact List.map_snd_zip (by simp; omega)
  have kS : ∀ b o, h'.get? b = some o → (sortingHeap (h'.push (seqObj "list" its.toArray 0)) h'.objs.size its).get? b = some o := fun b o e =>
    sortingHeap_old (Nat.ne_of_lt (Heap.lt_size e)) (Heap.get?_push_of_some _ e)
  have er : EachIs (fun v (b : (Value × V) × PyData) => ∃ as, Reads (sortingHeap (h'.push (seqObj "list" its.toArray 0)) h'.objs.size its) v b.2 as) its bs := each_of (by omega) fun i v b h1 h2 => by
    obtain ⟨g1, g2, g3⟩ := zip3_get h2
    obtain ⟨as', r'⟩ := readsAll_each rd i v b.2 h1 g3
    exact ⟨as', PyProof.Rows.Reads.keeps kS r'⟩
  have e0 : EachIs (fun v (b : (Value × V) × PyData) => v = b.1.1 ∧ RelV b.1.2 v) its bs := each_of (by omega) fun i v b h1 h2 => by
    obtain ⟨g1, g2, g3⟩ := zip3_get h2
    rw [h1] at g1
    have e := Option.some.inj g1
    exact ⟨e, vals_each rv i _ _ g2 h1⟩
  have hal' : AllAlike (bs.map Prod.snd) := by rw [hmap]; exact hal
  have hso' : Sortable (bs.map Prod.snd) := by rw [hmap]; exact hso
  have hub : ∀ b, b ∈ bs → (X.A.in1.in1).units + b.2.depth < cLine := fun b hb => by
    have : b.2 ∈ ps := by rw [← hmap]; exact List.mem_map_of_mem hb
    have := hdep _ this
    show X.A.units + 1 + 1 + b.2.depth < cLine
    omega
  refine wpAny_bind (wpAny_holding (wpAny_call_entry slot_list_sort ⟨_, hoL, rfl⟩ entry_list_sort (list_sort_vals hoL (SortsAt.data (s := { s with heap := sortingHeap (h'.push (seqObj "list" its.toArray 0)) h'.objs.size its, toks := tk }) (each_map (R := fun v d => ∃ as, Reads (sortingHeap (h'.push (seqObj "list" its.toArray 0)) h'.objs.size its) v d as) Prod.snd er) hal' hso' (bound_map hub)) hz2 ⟨_, rfl, ?_⟩) (args_list_sort _)))
  have he : EachIs (fun v (b : (Value × V) × PyData) => v = b.1.1 ∧ RelV b.1.2 v) (sortVals (dataKind (sortingHeap (h'.push (seqObj "list" its.toArray 0)) h'.objs.size its) (bs.map Prod.snd)) false its its) (bs.mergeSort (dataLe false Prod.snd)) := sortVals_data false e0 er hal'
  have hvals := each_vals (bs := bs) he
  obtain ⟨c, hcc⟩ := sortedHeap_at (vs := its) (out := (sortVals (dataKind (sortingHeap (h'.push (seqObj "list" its.toArray 0)) h'.objs.size its) (bs.map Prod.snd)) false its its).toArray) hoL
  have kp2 : ∀ b o, h'.get? b = some o → (sortedHeap (h'.push (seqObj "list" its.toArray 0)) h'.objs.size its (sortVals (dataKind (sortingHeap (h'.push (seqObj "list" its.toArray 0)) h'.objs.size its) (bs.map Prod.snd)) false its its).toArray).get? b = some o := fun b o e => by
    have hlt := Heap.lt_size e
    rw [sortedHeap_old (Nat.ne_of_lt hlt) (by rw [size_push']; exact Nat.lt_succ_of_lt hlt)]
    exact Heap.get?_push_of_some _ e
  have hzs : (bs.mergeSort (PySem.W.dataLe false Prod.snd)).map (fun b => (b.1.2, b.2)) = (xs.zip ps).mergeSort (PySem.W.dataLe false Prod.snd) := by
    refine Eq.trans (ms_map (f := fun b : (Value × V) × PyData => (b.1.2, b.2)) (r := PySem.W.dataLe false Prod.snd) (s := PySem.W.dataLe false Prod.snd) (fun a b => rfl) bs) ?_
    congr 1
    apply List.ext_getElem?
    intro i
    rw [List.getElem?_map]
    cases hx : bs[i]? with
    | none =>
      have : bs.length ≤ i := List.getElem?_eq_none_iff.mp hx
      exact (List.getElem?_eq_none_iff.mpr (by simp; omega)).symm
    | some z =>
      obtain ⟨g1, g2, g3⟩ := zip3_get hx
      exact (List.getElem?_zip_eq_some (z := (z.1.2, z.2)).mpr ⟨g2, g3⟩).symm
  have hfst : ((xs.zip ps).mergeSort (PySem.W.dataLe false Prod.snd)).map Prod.fst = (bs.mergeSort (PySem.W.dataLe false Prod.snd)).map fun b => b.1.2 := by
    rw [← hzs, List.map_map]; rfl
  have hnL : H' h'.objs.size = none := J.hok.fresh (Nat.le_refl _)
  have hnL0 : H h'.objs.size = none := by
    cases e : H h'.objs.size with
    | none => rfl
    | some o => rw [kp _ _ e] at hnL; cases hnL
  have nas : h'.objs.size ∉ as := fun z => Nat.lt_irrefl _ (hG.there z)
  have q' := q (upd H' h'.objs.size (.lst ((bs.mergeSort (PySem.W.dataLe false Prod.snd)).map fun b => b.1.2))) h'.objs.size as (fun b o e => by rw [upd_ne (ne_of_none (kp _ _ e) hnL)]; exact kp _ _ e) hnL0 new ?_ (by rw [upd_same]; rw [← hfst])
  · refine wpAny_pure ⟨_, rfl, .ref h'.objs.size, upd H' h'.objs.size (.lst ((bs.mergeSort (PySem.W.dataLe false Prod.snd)).map fun b => b.1.2)), J.laid (t' := tk) kp2 (Nat.le_refl _) ⟨?_, _, c, hvals, hcc⟩, rfl, q'⟩
    rw [List.length_map, List.length_mergeSort, hbl, ← l2, ← l1]
    exact hz2
  · have ht : ∀ t ∈ as, t ≠ h'.objs.size := fun t z e => nas (e ▸ z)
    have : ∀ {as : List Addr} {kvs : List (Key × V)}, (∀ t ∈ as, t ≠ h'.objs.size) → Paired (fun (t : Addr) (q : Key × V) => H' t = some (.tup [kV q.1, q.2])) as kvs →
        Paired (fun (t : Addr) (q : Key × V) => upd H' h'.objs.size (.lst ((bs.mergeSort (PySem.W.dataLe false Prod.snd)).map fun b => b.1.2)) t = some (.tup [kV q.1, q.2])) as kvs := by
      intro as kvs ht p
      induction p with
      | nil => exact .nil
      | cons h _ ih => exact .cons (by rw [upd_ne (ht _ List.mem_cons_self)]; exact h) (ih fun t z => ht t (List.mem_cons_of_mem _ z))
    exact this ht atP
end
section
open PyProof.Rows
variable {X : Cx} {e : Expr} {te : TE} {p apos cpos pos : Pos} {U : Wi}
theorem pe_sItems (hc : X.calm = true) (hu : X.A.units + 64 < cLine) (he : PE X e te) (hg : Gl X "sorted") (hm : X.mg "sorted" = none) (hv : bootBuiltins "sorted" = some (.builtin "sorted")) (hbase : attributeBase e "items" X.env (eval e X.env) = eval e X.env := by rfl) (hline : (apos.endLine == cpos.line) = true := by rfl)
    (hs : starEach [.Call (.Attribute e "items" apos) [] [] cpos] X.env = (false, eval (.Call (.Attribute e "items" apos) [] [] cpos) X.env) :: starEach [] X.env := by rfl) :
    PE X (.Call (.Name "sorted" p) [.Call (.Attribute e "items" apos) [] [] cpos] [] pos) (tSI X.K te) := by
  refine ⟨fun pins s σ H Q I hq => ?_⟩
  refine wpAny_Call_Name_kw (ld_blt I hg hm hv ?_)
  refine PyProof.Rows.callWith_builtin1 ?_ hs rfl
  rw [hs]
  show wpAny _ _ (spliced ((false, eval (.Call (.Attribute e "items" apos) [] [] cpos) X.env) :: backTo pos (starEach [] X.env))) _ _ s
  refine Calls.spliced_cons ?_
  refine wpAny_Call_method (T := "dict") (id := "dict.items") hbase rfl hline F.plainAttrs_dict F.slot_dict_items F.type_dict_items (thn (he.run pins s σ H _ I hq) fun u s1 ⟨x, H1, I1, rx, d, kvs, vps, ex, hd, hp, hal, hso, hdep, q⟩ => ?_)
  subst ex
  obtain rfl : u = Value.ref d := rx
  obtain ⟨hz, hs0, vs, kv, hdo⟩ := dk_of I1.hok hd
  have I2 : Inv X pins σ H1 { s1 with heap := s1.heap.push { cls := .type "dict_items", data := .fields #[.ref d] } } := I1.kept (t' := s1.toks) fun b ob q => Heap.get?_push_of_some _ q
  refine ⟨hdo.typeIs, hdo.mapOf.noDict, ?_⟩
  show wpAny _ _ (callWith cpos (.builtin "dict.items") [.ref d] [] []) _ X.xe s1
  refine method_meetsIn F.slot_dict_items F.entry_dict_items rfl (PySem.evalArgs_none ⟨rfl, hdo.typeIs, F.args_dict_items_1 _, _, meets_dict_items (mixKind X.prog X.w) d hs0, ⟨vs, hdo⟩, ?_⟩)
  refine Calls.spliced_nil ?_
  exact sorted_items hc hu I2 (Heap.get?_push_size _ rfl) hd hp hal hso hdep q
/-- sorted(o.items()) -/
def gSItems (go : G D) : G D := fun ρ S q => go ρ S fun o S1 => ∃ ks ds, dicOf S1 o = some (ks, ds) ∧ aSorted true (.lst (List.zipWith (fun k d => D.tup [kD k, d]) ks ds)) S1 q
theorem toPys_items : ∀ {ks : List Key} {ds : List D} {ps : List PyData}, ks.length = ds.length → toPys (List.zipWith (fun k d => D.tup [kD k, d]) ks ds) = some ps → ∃ vps, toPys ds = some vps ∧ ps = itemsPy ks vps
  | [], [], ps, _, h => by
    simp [toPys] at h
    subst h
    exact ⟨[], rfl, rfl⟩
  | k :: ks, d :: ds, ps, hl, h => by
    rw [List.zipWith_cons_cons, toPys] at h
    cases h1 : toPy (D.tup [kD k, d]) with
    | none => rw [h1] at h; cases h
    | some p =>
      cases h2 : toPys (List.zipWith (fun k d => D.tup [kD k, d]) ks ds) with
      | none => rw [h1, h2] at h; cases h
      | some qs =>
        rw [h1, h2] at h
        cases h
        obtain ⟨vps, e1, e2⟩ := toPys_items (by simpa using hl) h2
        cases h3 : toPy d with
        | none => cases k <;> simp [toPy, toPys, kD, h3] at h1
        | some z =>
          refine ⟨z :: vps, by rw [toPys, h3, e1], ?_⟩
          rw [e2]
          cases k <;> (simp [toPy, toPys, kD, h3] at h1; subst h1; rfl)
  | [], _ :: _, _, h, _ => by simp at h
  | _ :: _, [], _, h, _ => by simp at h
theorem reps_sorted {K : PySem.W.Frag} {m : Nat → Addr} {N : Nat} {Hv : Hp} {ds : List D} {xs : List V} {ps : List PyData} (hr : Reps K m N Hv ds xs) (l2 : ps.length = ds.length) :
    Reps K m N Hv (((ds.zip ps).mergeSort (PySem.W.dataLe false Prod.snd)).map Prod.fst) (((xs.zip ps).mergeSort (PySem.W.dataLe false Prod.snd)).map Prod.fst) := by
  have l1 := Reps.len hr
  let ts : List ((D × V) × PyData) := (ds.zip xs).zip ps
  have m1 : ts.map (fun t => (t.1.1, t.2)) = ds.zip ps := by
    apply List.ext_getElem?
    intro i
    rw [List.getElem?_map]
    cases hx : ts[i]? with
    | none =>
      have : ts.length ≤ i := List.getElem?_eq_none_iff.mp hx
      have hlen : ts.length = ds.length := by show ((ds.zip xs).zip ps).length = _; simp; omega
      exact (List.getElem?_eq_none_iff.mpr (by simp; omega)).symm
    | some z =>
      obtain ⟨g1, g2, g3⟩ := zip3_get hx
      exact (List.getElem?_zip_eq_some (z := (z.1.1, z.2)).mpr ⟨g1, g3⟩).symm
  have m2 : ts.map (fun t => (t.1.2, t.2)) = xs.zip ps := by
    apply List.ext_getElem?
    intro i
    rw [List.getElem?_map]
    cases hx : ts[i]? with
    | none =>
      have : ts.length ≤ i := List.getElem?_eq_none_iff.mp hx
      have hlen : ts.length = ds.length := by show ((ds.zip xs).zip ps).length = _; simp; omega
      exact (List.getElem?_eq_none_iff.mpr (by simp; omega)).symm
    | some z =>
      obtain ⟨g1, g2, g3⟩ := zip3_get hx
      exact (List.getElem?_zip_eq_some (z := (z.1.2, z.2)).mpr ⟨g2, g3⟩).symm
  have s1 : (ts.mergeSort (PySem.W.dataLe false Prod.snd)).map (fun t => (t.1.1, t.2)) = (ds.zip ps).mergeSort (PySem.W.dataLe false Prod.snd) := by
    refine Eq.trans (ms_map (f := fun t : (D × V) × PyData => (t.1.1, t.2)) (r := PySem.W.dataLe false Prod.snd) (s := PySem.W.dataLe false Prod.snd) (fun a b => rfl) ts) ?_
    rw [m1]
  have s2 : (ts.mergeSort (PySem.W.dataLe false Prod.snd)).map (fun t => (t.1.2, t.2)) = (xs.zip ps).mergeSort (PySem.W.dataLe false Prod.snd) := by
    refine Eq.trans (ms_map (f := fun t : (D × V) × PyData => (t.1.2, t.2)) (r := PySem.W.dataLe false Prod.snd) (s := PySem.W.dataLe false Prod.snd) (fun a b => rfl) ts) ?_
    rw [m2]
  rw [← s1, ← s2, List.map_map, List.map_map]
  refine reps_all fun t ht => ?_
  have ht' : t ∈ ts := (List.mergeSort_perm ts _).mem_iff.mp ht
  obtain ⟨i, hi⟩ := List.getElem?_of_mem ht'
  obtain ⟨g1, g2, g3⟩ := zip3_get hi
  obtain ⟨v', hv', rv'⟩ := Reps.get hr g1
  rw [g2] at hv'
  cases hv'
  exact rv'
theorem reps_items {K : PySem.W.Frag} {m : Nat → Addr} {N : Nat} {Hv H' : Hp} : ∀ {ts : List Addr} {ks : List Key} {ds : List D} {vs : List V}, (∀ t ∈ ts, ∀ o, H' t = some o → Hv t = some o) → ks.length = vs.length → Reps K m N Hv ds vs →
    Paired (fun (t : Addr) (q : Key × V) => H' t = some (.tup [kV q.1, q.2])) ts (ks.zip vs) → Reps K m N Hv (List.zipWith (fun k d => D.tup [kD k, d]) ks ds) (ts.map V.ref)
  | ts, [], _, _, _, _, _, p => by
    rw [List.zip_nil_left] at p
    cases p
    exact reps_nil
  | ts, k :: ks, [], vs, _, hl, r, p => by
    rw [Reps] at r
    subst r
    simp at hl
  | ts, k :: ks, d :: ds, _, hv, hl, r, p => by
    rw [Reps] at r
    obtain ⟨v, vs, rfl, r1, r2⟩ := r
    rw [List.zip_cons_cons] at p
    cases p with
    | cons h p =>
      rw [List.zipWith_cons_cons, List.map_cons]
      refine Reps.cons ?_ (reps_items (fun t ht => hv t (List.mem_cons_of_mem _ ht)) (by simpa using hl) r2 p)
      rw [Rep]
      exact ⟨_, _, rfl, SqT.of (hv _ List.mem_cons_self _ h), Reps.cons (rep_kD k) (Reps.one r1)⟩
theorem zip_fst {A B : Type} : ∀ {l : List A} {l' : List B}, l.length = l'.length → (l.zip l').map (·.1) = l
  | [], [], _ => rfl
  | _ :: _, _ :: _, h => by rw [List.zip_cons_cons, List.map_cons, zip_fst (by simpa using h)]
  | [], _ :: _, h => by simp at h
  | _ :: _, [], h => by simp at h
theorem zip_snd {A B : Type} : ∀ {l : List A} {l' : List B}, l.length = l'.length → (l.zip l').map (·.2) = l'
  | [], [], _ => rfl
  | _ :: _, _ :: _, h => by rw [List.zip_cons_cons, List.map_cons, zip_snd (by simpa using h)]
  | [], _ :: _, h => by simp at h
  | _ :: _, [], h => by simp at h
theorem d_sItems {go : G D} (hc : X.calm = true) (hu : X.A.units + 64 < cLine) (he : PE X e (tofE X.K U go)) (hg : Gl X "sorted") (hm : X.mg "sorted" = none) (hv : bootBuiltins "sorted" = some (.builtin "sorted")) (hbase : attributeBase e "items" X.env (eval e X.env) = eval e X.env := by rfl) (hline : (apos.endLine == cpos.line) = true := by rfl)
    (hs : starEach [.Call (.Attribute e "items" apos) [] [] cpos] X.env = (false, eval (.Call (.Attribute e "items" apos) [] [] cpos) X.env) :: starEach [] X.env := by rfl) :
    PE X (.Call (.Name "sorted" p) [.Call (.Attribute e "items" apos) [] [] cpos] [] pos) (tofE X.K U (gSItems go)) :=
  weakE (pe_sItems hc hu he hg hm hv hbase hline hs) fun σ H Q ⟨m, S, Z, ρ, q, w, rs, h, k⟩ => tof_in w rs h fun v1 H1 m1 d1 S1 e1 w1 r1 ⟨ks, ds, h1, ds', ps, h2, _, h3, h4, h5, h6, h7⟩ => by
    obtain ⟨a, vs, ev, ha, hl, hr⟩ := dicOf_rep w1 r1 h1
    rw [seqOf] at h2
    cases h2
    have ld := Reps.len hr
    obtain ⟨vps, hvp, rfl⟩ := toPys_items (by omega) h3
    have z1 := zip_fst hl
    have z2 := zip_snd hl
    refine ⟨a, ks.zip vs, vps, ev, ha, by rw [z2]; exact DpAll.sub vis_le (dps_of hr hvp), by rw [z1]; exact h4, by rw [z1]; exact h5, by rw [z1]; exact h6, fun H' p ts kp hp hts hpair hsort => ?_⟩
    rw [z1] at hsort
    obtain ⟨w2, e2, hvis⟩ := w1.growV kp
    have hrI := reps_items (K := X.K) (m := m1) (N := S1.length) (Hv := vis m1 S1 Z H') (H' := H') (fun t ht o ho => hvis t o (hts t ht) ho) hl (hr.ext e2) hpair
    have hrS := reps_sorted hrI (toPys_len h3)
    refine k.at (e1.trans e2) w2 (a := .lst _) ?_ h7
    show Rep _ _ _ _ _ _
    rw [Rep]
    exact ⟨p, _, rfl, hvis p _ hp hsort, hrS⟩
end
/-! ### max, min, with default -/
section
open PyProof.Rows PySem.W
variable {X : Cx}
def rMMDef (b : Bool) (K : PySem.W.Frag) : List V → List V → Hp → VK → Prop := fun xs zs H Q => ∃ (a : Addr) (vs : List V) (ps : List PyData) (d : V), xs = [.ref a] ∧ zs = [d] ∧ SqL K H a vs ∧ DpAll K H vs ps ∧ AlikeAll ps ∧ PyData.depthAll ps ≤ 60 ∧ (vs = [] → Q d H) ∧
  ∀ (y : PyData) (ys : List PyData) (i : Nat) (v : V), ps = y :: ys → vs[i]? = some v → ps[i]? = some (if b = true then maxD y ys else minD y ys) → Q v H
theorem vals_ix : ∀ {xs : List V} {us : List Value}, Vals xs us → ∀ (i : Nat) (u : Value), us[i]? = some u → ∃ x, xs[i]? = some x ∧ RelV x u
  | _, _, .nil, i, u, h => by simp at h
  | _, _, .cons r rs, 0, u, h => by
    rw [List.getElem?_cons_zero] at h
    cases h
    exact ⟨_, rfl, r⟩
  | _, _, .cons r rs, i + 1, u, h => by
    rw [List.getElem?_cons_succ] at h
    obtain ⟨x, h1, h2⟩ := vals_ix rs i u h
    exact ⟨x, by rw [List.getElem?_cons_succ]; exact h1, h2⟩
theorem getD_at {ps : List PyData} {i : Nat} {p : PyData} (h : i < ps.length) (e : ps.getD i .none = p) : ps[i]? = some p := by
  rw [List.getD_eq_getElem?_getD, List.getElem?_eq_getElem h] at e
  rw [List.getElem?_eq_getElem h]
  exact congrArg some e
theorem cr_maxDef (hc : X.calm = true) (hu : X.A.units + 64 < cLine) : CallRK X (.builtin "max") [Str.ofString "default"] (rMMDef true X.K) := by
  intro pins s σ H xs zs us ws Q I r rz ⟨a, vs, ps, d, ex, ez, hs, hp, hal, hd, h0, h1⟩
  subst ex
  subst ez
  obtain ⟨u, rfl, ru⟩ := vals1 r
  obtain rfl : u = Value.ref a := ru
  obtain ⟨u2, rfl, ru2⟩ := vals1 rz
  obtain ⟨its, rv, hl, hz⟩ := I.list hs
  obtain ⟨as, rd⟩ := Dp.readsAll I ps vs its hp rv
  have hn : its.length = ps.length := by rw [← rv.length, dpAll_len hp]
  show wpAny _ _ (call (.builtin "max") [.ref a] [(Str.ofString "default", u2)]) _ _ _
  refine call_max_walkD (iter_listW (A := X.A.in1) (I.ok.hd hc) hl.isList fun s₂ e W st hfp hw hk => ?_)
  refine ⟨_, _, _, _, _, _, _, s.heap, (fun i j => dataLt (ps.getD j .none) (ps.getD i .none)), rfl, W, st, hfp, hw, hk, fun hz' s' m => ?_, fun hpos => ⟨cmpIn_gt (A := X.A.in1) (vs := its.toArray) (by simpa using rd) hal (by show X.A.units + 1 + _ < _; omega), fun v s' hP m => ?_⟩⟩
  · obtain ⟨h', tk, rfl, hk'⟩ := moved_old e rfl m
    have hvs : vs = [] := List.eq_nil_of_length_eq_zero (by rw [rv.length]; simpa using hz')
    exact ⟨d, H, I.kept (t' := tk) hk', ru2, h0 hvs⟩
  · obtain ⟨h', tk, rfl, hk'⟩ := moved_old e rfl m
    cases ps with
    | nil => exact absurd hpos (by simp [hn])
    | cons y ys =>
      have e1 : its.toArray.size - 1 = ys.length := by simp [hn]
      have e2 := (argBest_fold (fun a b => dataLt b a) PyData.none y ys ys.length (Nat.le_refl _))
      rw [List.take_length] at e2
      rw [e1] at hP
      have hP' : its[argBest (fun i j => dataLt ((y :: ys).getD j .none) ((y :: ys).getD i .none)) ys.length]? = some v := by simpa using hP
      obtain ⟨x, hx, rx⟩ := vals_ix rv _ _ hP'
      have hlt : argBest (fun i j => dataLt ((y :: ys).getD j .none) ((y :: ys).getD i .none)) ys.length < (y :: ys).length := by
        have := (List.getElem?_eq_some_iff.mp hP').1
        omega
      refine ⟨x, H, I.kept (t' := tk) hk', rx, h1 y ys _ x rfl hx ?_⟩
      rw [if_pos rfl]
      exact getD_at hlt e2.2
theorem cr_minDef (hc : X.calm = true) (hu : X.A.units + 64 < cLine) : CallRK X (.builtin "min") [Str.ofString "default"] (rMMDef false X.K) := by
  intro pins s σ H xs zs us ws Q I r rz ⟨a, vs, ps, d, ex, ez, hs, hp, hal, hd, h0, h1⟩
  subst ex
  subst ez
  obtain ⟨u, rfl, ru⟩ := vals1 r
  obtain rfl : u = Value.ref a := ru
  obtain ⟨u2, rfl, ru2⟩ := vals1 rz
  obtain ⟨its, rv, hl, hz⟩ := I.list hs
  obtain ⟨as, rd⟩ := Dp.readsAll I ps vs its hp rv
  have hn : its.length = ps.length := by rw [← rv.length, dpAll_len hp]
  show wpAny _ _ (call (.builtin "min") [.ref a] [(Str.ofString "default", u2)]) _ _ _
  refine call_min_walkD (iter_listW (A := X.A.in1) (I.ok.hd hc) hl.isList fun s₂ e W st hfp hw hk => ?_)
  refine ⟨_, _, _, _, _, _, _, s.heap, (fun i j => dataLt (ps.getD i .none) (ps.getD j .none)), rfl, W, st, hfp, hw, hk, fun hz' s' m => ?_, fun hpos => ⟨cmpIn_lt (A := X.A.in1) (vs := its.toArray) (by simpa using rd) hal (by show X.A.units + 1 + _ < _; omega), fun v s' hP m => ?_⟩⟩
  · obtain ⟨h', tk, rfl, hk'⟩ := moved_old e rfl m
    have hvs : vs = [] := List.eq_nil_of_length_eq_zero (by rw [rv.length]; simpa using hz')
    exact ⟨d, H, I.kept (t' := tk) hk', ru2, h0 hvs⟩
  · obtain ⟨h', tk, rfl, hk'⟩ := moved_old e rfl m
    cases ps with
    | nil => exact absurd hpos (by simp [hn])
    | cons y ys =>
      have e1 : its.toArray.size - 1 = ys.length := by simp [hn]
      have e2 := (argBest_fold dataLt PyData.none y ys ys.length (Nat.le_refl _))
      rw [List.take_length] at e2
      rw [e1] at hP
      have hP' : its[argBest (fun i j => dataLt ((y :: ys).getD i .none) ((y :: ys).getD j .none)) ys.length]? = some v := by simpa using hP
      obtain ⟨x, hx, rx⟩ := vals_ix rv _ _ hP'
      have hlt : argBest (fun i j => dataLt ((y :: ys).getD i .none) ((y :: ys).getD j .none)) ys.length < (y :: ys).length := by
        have := (List.getElem?_eq_some_iff.mp hP').1
        omega
      refine ⟨x, H, I.kept (t' := tk) hk', rx, h1 y ys _ x rfl hx ?_⟩
      rw [if_neg (by decide)]
      exact getD_at hlt e2.2
end
/-- max(xs, default=d), min(..) -/
def aMMDef (b : Bool) : D → D → Sto → (D → Sto → Prop) → Prop := fun o d S q => ∃ ds ps, seqOf S o = some ds ∧ o.isTup = false ∧ toPys ds = some ps ∧ PySem.W.AlikeAll ps ∧ PyData.depthAll ps ≤ 60 ∧ (ds = [] → q d S) ∧
  ∀ (y : PyData) (ys : List PyData) (i : Nat) (x : D), ps = y :: ys → ds[i]? = some x → ps[i]? = some (if b = true then PySem.W.maxD y ys else PySem.W.minD y ys) → q x S
def gMMDef (b : Bool) (ga gk : G (List D)) : G D := fun ρ S q => ga ρ S fun as S1 => gk ρ S1 fun ks S2 => ∃ o d, as = [o] ∧ ks = [d] ∧ aMMDef b o d S2 q
section
variable {X : Cx} {U : Wi} {x : Str} {id : String} {p pos : Pos} {e : Expr} {es : List Expr} {kws : List Keyword} {ga gk : G (List D)}
theorem d_mmDef (b : Bool) (hcr : CallRK X (.builtin id) [Str.ofString "default"] (rMMDef b X.K)) (hg : Gl X x) (hm : X.mg x = none) (hv : bootBuiltins x = some (.builtin id)) (ha : PA X (e :: es) (tofA X.K U ga)) (hk : PK X kws (tofA X.K U gk)) (hn : x ≠ "__name__" := by decide) (hdb : (x == ("__debug__" : Str)) = false := by decide)
    (he : backTo pos (starEach (e :: es) X.env) = (false, eval e X.env) :: backTo pos (starEach es X.env) := by rfl) (hpl : (backTo pos (starEach (e :: es) X.env)).any (·.1) = false := by rfl)
    (hall : (backToKw pos (keywordEach kws X.env)).all (·.1.isSome) = true := by rfl) (hnone : (backToKw pos (keywordEach kws X.env)).any (·.1.isNone) = false := by rfl) (hks : (backToKw pos (keywordEach kws X.env)).filterMap (·.1) = [Str.ofString "default"] := by rfl) :
    PE X (.Call (.Name x p) (e :: es) kws pos) (tofE X.K U (gMMDef b ga gk)) :=
  weakE (pe_callBK hcr hg hm hv ha hk hn hdb he hpl hall hnone hks) fun σ H Q ⟨m, S, Z, ρ, q, w, rs, h, k⟩ => tof_in w rs h fun v1 H1 m1 d1 S1 e1 w1 r1 h1 => tof_in w1 (rs.ext e1) h1 fun v2 H2 m2 d2 S2 e2 w2 r2 ⟨o, d, eo, ed, ds, ps, h2, h3, h4, h5, h6, h7, h8⟩ => by
    subst eo
    subst ed
    have r1' : Reps X.K m2 S2.length (vis m2 S2 Z H2) [o] v1 := r1.ext e2
    have r2' : Reps X.K m2 S2.length (vis m2 S2 Z H2) [d] v2 := r2
    rw [Reps] at r1' r2'
    obtain ⟨vo, r0, ev1, ro, q0⟩ := r1'
    obtain ⟨vd, r00, ev2, rd, q00⟩ := r2'
    rw [Reps] at q0 q00
    subst q0
    subst q00
    subst ev1
    subst ev2
    obtain ⟨a, xs, eo, hr, ht, hl⟩ := seqOf_rep w2 ro h2
    subst eo
    refine ⟨a, xs, ps, vd, rfl, rfl, hl h3, DpAll.sub vis_le (dps_of hr h4), h5, h6, fun ex => ?_, fun y ys i v ey hv1 hp => ?_⟩
    · have l := Reps.len hr
      rw [ex] at l
      exact k.at (e1.trans e2) w2 rd (h7 (List.eq_nil_of_length_eq_zero (by simpa using l.symm)))
    · have hi : i < ds.length := by
        have := (List.getElem?_eq_some_iff.mp hv1).1
        rw [Reps.len hr] at this
        exact this
      obtain ⟨v', hv', rv'⟩ := Reps.get hr (List.getElem?_eq_getElem hi)
      rw [hv1] at hv'
      cases hv'
      exact k.at (e1.trans e2) w2 rv' (h8 y ys i _ ey (List.getElem?_eq_getElem hi) hp)
end
/-! ### a list unpacked -/
def gAsgL (ts : List Tgt) (ge : G D) : GS := fun E ρ S => ge ρ S fun d S1 => ∃ ds ρ', seqOf S1 d = some ds ∧ d.isTup = false ∧ Tgt.binds ts ds ρ = some ρ' ∧ E.nx ρ' S1
section
variable {X : Cx} {pos pt : Pos} {e : Expr} {es : List Expr} {ge : G D} {U : Wi} {kt : Nat}
theorem d_asgL {ts : List Tgt} (he : PE X e (tofE X.K U ge)) (hg : PGs X es (Tgt.gofs X.K ts)) (hel : es.length = ts.length) (hc : X.calm = true := by rfl) (hn : (assignEach es X.env).length = ts.length := by rfl) (hst : (assignEach es X.env).findIdx? (·.1) = none := by rfl)
    (hs : swapsWithSole [.Tuple es kt pt] e pos.line X.env = pure false := by rfl) (hw : swappedStores [.Tuple es kt pt] e X.env = pure none := by rfl)
    (h1 : (assignEach [.Tuple es kt pt] X.env).map (·.2) = [assign (.Tuple es kt pt) X.env] := by rfl) : PS X (.Assign [.Tuple es kt pt] e pos) (tofS X.K U (gAsgL ts ge)) :=
  weakS (ps_asg he (pg_lst (n := ts.length) hc hg hn hst) hs hw h1) fun E σ H ⟨m, S, Z, ρ, D, w, rs, h, k⟩ => tof_in w rs h fun v1 H1 m1 d1 S1 e1 w1 r1 ⟨ds, ρ', h2, h3, hb, h4⟩ => by
    obtain ⟨a, vs, ev, hr, _, hl⟩ := seqOf_rep w1 r1 h2
    exact ⟨a, vs, ev, hl h3, by rw [Reps.len hr, Tgt.binds_len (K := X.K) (m := m1) (N := 0) (Hv := H) (H := H) (vs := []) hb], Tgt.oks (K := X.K) (m := m1) (N := S1.length) (Hv := vis m1 S1 Z H1) (H := H1) (vs := []) vis_le hb hr (rs.ext e1) fun σ' rs' _ => k.nx.at e1 w1 rs' h4⟩
end
/-! ### read -/
theorem hu_of {k : Nat} {A : Around} (hr : RoomG k A) : A.units + 1 < cLine := by
  have := hr.units
  omega
section
variable {S : Sto} {q : D → Sto → Prop} {o d : D}
theorem toPys_ints : ∀ L : List Int, toPys (L.map D.int) = some (L.map PyData.int)
  | [] => rfl
  | i :: L => by rw [List.map_cons, toPys, toPys_ints L]; rfl
theorem depth_ints : ∀ L : List Int, PyData.depthAll (L.map PyData.int) ≤ 60
  | [] => by simp [PyData.depthAll]
  | i :: L => by
    have := depth_ints L
    rw [List.map_cons, PyData.depthAll]
    simp only [PyData.depth]
    omega
theorem alike_ints (L : List Int) : PySem.W.AlikeAll (L.map PyData.int) := by
  refine ⟨fun x hx y hy => ?_, fun x hx => ?_⟩
  · obtain ⟨i, _, rfl⟩ := List.mem_map.mp hx
    obtain ⟨j, _, rfl⟩ := List.mem_map.mp hy
    rfl
  · obtain ⟨i, _, rfl⟩ := List.mem_map.mp hx
    exact fun z => nomatch z
theorem foldl_max_mem : ∀ (L : List Int) (n : Int), L.foldl max n = n ∨ L.foldl max n ∈ L
  | [], n => .inl rfl
  | i :: L, n => by
    rw [List.foldl_cons]
    rcases foldl_max_mem L (max n i) with h | h
    · rw [h]
      rcases Int.le_total n i with z | z
      · exact .inr (by rw [Int.max_eq_right z]; exact List.mem_cons_self)
      · exact .inl (Int.max_eq_left z)
    · exact .inr (List.mem_cons_of_mem _ h)
theorem foldl_max_le : ∀ (L : List Int) (n : Int), n ≤ L.foldl max n ∧ ∀ y ∈ L, y ≤ L.foldl max n
  | [], n => ⟨Int.le_refl _, fun _ h => nomatch h⟩
  | i :: L, n => by
    rw [List.foldl_cons]
    obtain ⟨h1, h2⟩ := foldl_max_le L (max n i)
    refine ⟨by omega, fun y hy => ?_⟩
    rcases List.mem_cons.mp hy with e | hy
    · omega
    · exact h2 y hy
theorem foldl_min_mem : ∀ (L : List Int) (n : Int), L.foldl min n = n ∨ L.foldl min n ∈ L
  | [], n => .inl rfl
  | i :: L, n => by
    rw [List.foldl_cons]
    rcases foldl_min_mem L (min n i) with h | h
    · rw [h]
      rcases Int.le_total n i with z | z
      · exact .inl (Int.min_eq_left z)
      · exact .inr (by rw [Int.min_eq_right z]; exact List.mem_cons_self)
    · exact .inr (List.mem_cons_of_mem _ h)
theorem foldl_min_le : ∀ (L : List Int) (n : Int), L.foldl min n ≤ n ∧ ∀ y ∈ L, L.foldl min n ≤ y
  | [], n => ⟨Int.le_refl _, fun _ h => nomatch h⟩
  | i :: L, n => by
    rw [List.foldl_cons]
    obtain ⟨h1, h2⟩ := foldl_min_le L (min n i)
    refine ⟨by omega, fun y hy => ?_⟩
    rcases List.mem_cons.mp hy with e | hy
    · omega
    · exact h2 y hy
theorem x_mmI {b : Bool} {L : List Int} (h1 : seqOf S o = some (L.map D.int)) (h2 : o.isTup = false) (h3 : L = [] → q d S) (h4 : ∀ m, m ∈ L → (∀ y ∈ L, if b = true then y ≤ m else m ≤ y) → q (.int m) S) : aMMDef b o d S q := by
  refine ⟨_, _, h1, h2, toPys_ints L, alike_ints L, depth_ints L, fun e => h3 (List.map_eq_nil_iff.mp e), fun y ys i x ey hx hp => ?_⟩
  cases L with
  | nil => simp at hx
  | cons n L =>
    rw [List.map_cons] at ey
    obtain ⟨rfl, rfl⟩ := List.cons.inj ey
    have hxi : ∃ j, x = .int j ∧ (n :: L)[i]? = some j := by
      rw [List.getElem?_map] at hx
      cases e : (n :: L)[i]? with
      | none => rw [e] at hx; cases hx
      | some j => rw [e] at hx; cases hx; exact ⟨j, rfl, rfl⟩
    obtain ⟨j, rfl, hj⟩ := hxi
    have hp' : some (PyData.int j) = some (if b = true then PySem.W.maxD (.int n) (L.map .int) else PySem.W.minD (.int n) (L.map .int)) := by
      rw [← hp, List.getElem?_map, hj]
      rfl
    cases b with
    | true =>
      rw [if_pos rfl, PySem.W.maxD_ints] at hp'
      have e : j = L.foldl max n := by injection hp' with z; injection z
      refine h4 j (List.mem_of_getElem? hj) fun y hy => ?_
      rw [if_pos rfl, e]
      obtain ⟨z1, z2⟩ := foldl_max_le L n
      rcases List.mem_cons.mp hy with w | w
      · rw [w]; exact z1
      · exact z2 y w
    | false =>
      rw [if_neg (by decide), PySem.W.minD_ints] at hp'
      have e : j = L.foldl min n := by injection hp' with z; injection z
      refine h4 j (List.mem_of_getElem? hj) fun y hy => ?_
      rw [if_neg (by decide), e]
      obtain ⟨z1, z2⟩ := foldl_min_le L n
      rcases List.mem_cons.mp hy with w | w
      · rw [w]; exact z1
      · exact z2 y w
/-- pairs -/
def ltP (a y : Pr) : Bool := decide (a.1 < y.1 ∨ (a.1 = y.1 ∧ a.2 < y.2))
theorem lt_pY (a y : Pr) : PySem.W.dataLt (pY a) (pY y) = ltP a y := PySem.W.dataLt_ii _ _ _ _
theorem maxD_pr (p : Pr) : ∀ P : List Pr, PySem.W.maxD (pY p) (P.map pY) = pY (P.foldl (fun a y => if ltP a y = true then y else a) p) := by
  intro P
  induction P generalizing p with
  | nil => rfl
  | cons r P ih =>
    unfold PySem.W.maxD at ih ⊢
    rw [List.map_cons, List.foldl_cons, List.foldl_cons, lt_pY]
    by_cases h : ltP p r = true
    · rw [if_pos h, if_pos h]; exact ih r
    · rw [if_neg h, if_neg h]; exact ih p
theorem minD_pr (p : Pr) : ∀ P : List Pr, PySem.W.minD (pY p) (P.map pY) = pY (P.foldl (fun a y => if ltP y a = true then y else a) p) := by
  intro P
  induction P generalizing p with
  | nil => rfl
  | cons r P ih =>
    unfold PySem.W.minD at ih ⊢
    rw [List.map_cons, List.foldl_cons, List.foldl_cons, lt_pY]
    by_cases h : ltP r p = true
    · rw [if_pos h, if_pos h]; exact ih r
    · rw [if_neg h, if_neg h]; exact ih p
theorem pY_inj {a b : Pr} (h : pY a = pY b) : a = b := by
  obtain ⟨a1, a2⟩ := a
  obtain ⟨b1, b2⟩ := b
  simp [pY] at h
  rw [h.1, h.2]
theorem foldP_le (f : Pr → Pr → Bool) (hf : ∀ a y, f a y = true → leP a y = true) (hg : ∀ a y, ¬ f a y = true → leP y a = true) : ∀ (P : List Pr) (p : Pr), leP p (P.foldl (fun a y => if f a y = true then y else a) p) = true ∧ ∀ y ∈ P, leP y (P.foldl (fun a y => if f a y = true then y else a) p) = true := by
  have tr : ∀ a b c : Pr, leP a b = true → leP b c = true → leP a c = true := by
    intro a b c h1 h2
    simp only [leP, decide_eq_true_eq] at h1 h2 ⊢
    omega
  have rf : ∀ a : Pr, leP a a = true := by
    intro a
    simp [leP]
  intro P
  induction P with
  | nil => exact fun p => ⟨rf p, fun _ h => nomatch h⟩
  | cons r P ih =>
    intro p
    rw [List.foldl_cons]
    by_cases h : f p r = true
    · rw [if_pos h]
      obtain ⟨h1, h2⟩ := ih r
      refine ⟨tr _ _ _ (hf _ _ h) h1, fun y hy => ?_⟩
      rcases List.mem_cons.mp hy with e | hy
      · rw [e]; exact h1
      · exact h2 y hy
    · rw [if_neg h]
      obtain ⟨h1, h2⟩ := ih p
      refine ⟨h1, fun y hy => ?_⟩
      rcases List.mem_cons.mp hy with e | hy
      · rw [e]; exact tr _ _ _ (hg _ _ h) h1
      · exact h2 y hy
theorem toPys_prs (P : List Pr) : toPys (P.map pD) = some (P.map pY) := toPys_pr P
theorem alike_prs (P : List Pr) : PySem.W.AlikeAll (P.map pY) := by
  refine ⟨fun x hx y hy => ?_, fun x hx => ?_⟩
  · obtain ⟨i, _, rfl⟩ := List.mem_map.mp hx
    obtain ⟨j, _, rfl⟩ := List.mem_map.mp hy
    rfl
  · obtain ⟨i, _, rfl⟩ := List.mem_map.mp hx
    exact fun z => nomatch z
theorem x_maxP {P : List Pr} (h1 : seqOf S o = some (P.map pD)) (h2 : o.isTup = false) (h3 : P = [] → q d S) (h4 : ∀ p, p ∈ P → (∀ y ∈ P, leP y p = true) → q (pD p) S) : aMMDef true o d S q := by
  refine ⟨_, _, h1, h2, toPys_prs P, alike_prs P, Nat.le_trans (dep_pr P) (by decide), fun e => h3 (List.map_eq_nil_iff.mp e), fun y ys i x ey hx hp => ?_⟩
  cases P with
  | nil => simp at hx
  | cons n P =>
    rw [List.map_cons] at ey
    obtain ⟨rfl, rfl⟩ := List.cons.inj ey
    have hxi : ∃ j, x = pD j ∧ (n :: P)[i]? = some j := by
      rw [List.getElem?_map] at hx
      cases e : (n :: P)[i]? with
      | none => rw [e] at hx; cases hx
      | some j => rw [e] at hx; cases hx; exact ⟨j, rfl, rfl⟩
    obtain ⟨j, rfl, hj⟩ := hxi
    have hp' : some (pY j) = some (PySem.W.maxD (pY n) (P.map pY)) := by
      rw [if_pos rfl] at hp
      rw [← hp, List.getElem?_map, hj]
      rfl
    rw [maxD_pr] at hp'
    have e := pY_inj (Option.some.inj hp')
    refine h4 j (List.mem_of_getElem? hj) fun y hy => ?_
    rw [e]
    obtain ⟨z1, z2⟩ := foldP_le ltP (fun a y h => by simp only [ltP, leP, decide_eq_true_eq] at h ⊢; omega) (fun a y h => by simp only [ltP, leP, decide_eq_true_eq] at h ⊢; omega) P n
    rcases List.mem_cons.mp hy with w | w
    · rw [w]; exact z1
    · exact z2 y w
end
def leI (a b : Int) : Bool := decide (a ≤ b)
def sortI (L : List Int) : List Int := L.mergeSort leI
theorem x_sortedI {L : List Int} {fz : Bool} {S : Sto} {q : D → Sto → Prop} (h : newL fz ((sortI L).map D.int) S q) : aSorted fz (.lst (L.map D.int)) S q := by
  refine ⟨L.map D.int, L.map PyData.int, rfl, rfl, toPys_ints L, PySem.W.AllAlike.of fun b b' => rfl, .inr fun d hd => ?_, fun p hp => ?_, ?_⟩
  · obtain ⟨p, _, rfl⟩ := List.mem_map.mp hd
    exact ⟨fun z => (nomatch z), fun xs z => nomatch z⟩
  · obtain ⟨p, _, rfl⟩ := List.mem_map.mp hp
    exact (by decide : (0 : Nat) ≤ 60)
  · have e1 : (L.map D.int).zip (L.map PyData.int) = L.map fun p => (D.int p, PyData.int p) := by
      rw [List.zip_map']
    have e2 : (L.mergeSort leI).map (fun p => (D.int p, PyData.int p)) = (L.map fun p => (D.int p, PyData.int p)).mergeSort (PySem.W.dataLe false Prod.snd) := by
      refine ms_map (f := fun p : Int => (D.int p, PyData.int p)) (r := leI) (s := PySem.W.dataLe false Prod.snd) (fun a b => ?_) L
      have := congrFun (congrFun (PySem.W.dataLe_int (β := Int) id) a) b
      exact this.symm
    rw [e1, ← e2, List.map_map]
    exact h
theorem x_b3 {ρ : Env_} {i j l : Nat} {d e f : D} : Tgt.bind (.tp [.nm i, .nm j, .nm l]) (.tup [d, e, f]) ρ = some (((ρ.set i (some d)).set j (some e)).set l (some f)) := by
  simp [Tgt.bind, Tgt.binds]
theorem snoc_setN {S : Sto} {x y : Option MO} : (S ++ [x]).set S.length y = S ++ [y] := by simp
theorem snoc_getN {S : Sto} {x : Option MO} : (S ++ [x])[S.length]? = some x := by simp
section
variable {X : Cx} {ρ : Env_} {S : Sto} {q : D → Sto → Prop}
theorem x_dnT : gDNew true ρ S q ↔ q (.dic [] []) S := by simp [gDNew]
theorem x_dnF : gDNew false ρ S q ↔ q (.loc S.length) (S ++ [some (.dic [] [])]) := by simp [gDNew]
end
/-- d[k], there -/
def aDGet : R2D := fun o x S q => ∃ ks ds k d, dicOf S o = some (ks, ds) ∧ toKey x = some k ∧ dget k ks ds = some d ∧ q d S
end Dl
/-! loops and comprehensions over lists that are told, item by item; == of lists of texts with the empty one -/
namespace Dl
open PySem L2
def forJ (t : Tgt) (gb : GS) (E : DE) (chk : Sto → Prop) : List D → Env_ → Sto → Prop
  | [], ρ, S => chk S ∧ E.nx ρ S
  | d :: ds, ρ, S => chk S ∧ ∃ ρ', t.bind d ρ = some ρ' ∧ gb { nx := forJ t gb E chk ds, rt := E.rt, ct := forJ t gb E chk ds, bk := E.nx } ρ' S
theorem forJ_nil {t : Tgt} {gb : GS} {E : DE} {chk : Sto → Prop} {ρ : Env_} {S : Sto} : forJ t gb E chk [] ρ S ↔ chk S ∧ E.nx ρ S := Iff.rfl
theorem forJ_cons {t : Tgt} {gb : GS} {E : DE} {chk : Sto → Prop} {ρ : Env_} {S : Sto} {d : D} {ds : List D} : forJ t gb E chk (d :: ds) ρ S ↔ chk S ∧ ∃ ρ', t.bind d ρ = some ρ' ∧ gb { nx := fun ρ S => forJ t gb E chk ds ρ S, rt := E.rt, ct := fun ρ S => forJ t gb E chk ds ρ S, bk := E.nx } ρ' S := Iff.rfl
theorem drop_get {A : Type} {l : List A} {i : Nat} {x : A} (h : l[i]? = some x) : l.drop i = x :: l.drop (i + 1) := by
  obtain ⟨h1, h2⟩ := List.getElem?_eq_some_iff.mp h
  rw [List.drop_eq_getElem_cons h1, h2]
theorem for_un {t : Tgt} {gb : GS} {E : DE} {chk : Sto → Prop} {ρ : Env_} {S : Sto} {ds : List D} (h : forJ t gb E chk ds ρ S) : aFor t gb E ρ ds chk S := by
  refine ⟨fun i => forJ t gb E chk (ds.drop i), h, fun i d ρ S hd hi => ?_, fun ρ S hi => ?_⟩
  · dsimp only at hi
    rw [drop_get hd] at hi
    exact hi
  · dsimp only at hi
    rw [List.drop_length] at hi
    exact hi
def lcJ (fz : Bool) (t : Tgt) (gt : G Bool) (ge : G D) (vs : List Nat) (ρ : Env_) (chk : Sto → Prop) (q : D → Sto → Prop) : List D → List D → Sto → Prop
  | [], acc, S => chk S ∧ newL fz acc S q
  | d :: ds, acc, S => chk S ∧ ∃ ρ', t.bind d (wipeD ρ vs) = some ρ' ∧ gt ρ' S fun b S2 => if b = true then ge ρ' S2 fun y S3 => acc.length < sizeLine ∧ lcJ fz t gt ge vs ρ chk q ds (acc ++ [y]) S3 else lcJ fz t gt ge vs ρ chk q ds acc S2
theorem lc_un {ds : List D} {S : Sto} {chk : Sto → Prop} {ρ : Env_} {t : Tgt} {gt : G Bool} {ge : G D} {vs : List Nat} {fz : Bool} {q : D → Sto → Prop} (h : lcJ fz t gt ge vs ρ chk q ds [] S) : aLc fz t gt ge vs ρ ds chk S q := by
  refine ⟨fun i => lcJ fz t gt ge vs ρ chk q (ds.drop i), h, fun i d ρ S hd hi => ?_, fun ρ S hi => ?_⟩
  · dsimp only at hi
    rw [drop_get hd] at hi
    exact hi
  · dsimp only at hi
    rw [List.drop_length] at hi
    exact hi
/-- a comprehension with an invariant over the store, its results known by a relation -/
theorem lc_inv {ds : List D} {S : Sto} {chk : Sto → Prop} {ρ : Env_} {t : Tgt} {gt : G Bool} {ge : G D} {vs : List Nat} {fz : Bool} {q : D → Sto → Prop} (I : Nat → List D → Sto → Prop) (h0 : I 0 [] S)
    (step : ∀ i d acc S, ds[i]? = some d → I i acc S → chk S ∧ ∃ ρ', t.bind d (wipeD ρ vs) = some ρ' ∧ gt ρ' S fun b S2 => if b = true then ge ρ' S2 fun y S3 => acc.length < sizeLine ∧ I (i + 1) (acc ++ [y]) S3 else I (i + 1) acc S2)
    (h : ∀ acc S, I ds.length acc S → chk S ∧ newL fz acc S q) : aLc fz t gt ge vs ρ ds chk S q := ⟨I, h0, step, h⟩
/-! lists of texts -/
theorem toPys_str : ∀ xs : List Str, toPys (xs.map D.str) = some (xs.map PyData.str)
  | [] => by simp [toPys]
  | x :: xs => by simp [toPys, toPy, toPys_str xs]
theorem can_str : ∀ xs : List Str, (∀ x ∈ xs, PyData.strOk x = true) → PyData.canLayAll0 (xs.map PyData.str) = true
  | [], _ => by simp [PyData.canLayAll0]
  | x :: xs, h => by
    rw [List.map_cons, PyData.canLayAll0, can_str xs fun y hy => h y (List.mem_cons_of_mem _ hy), PyData.canLay0, h x List.mem_cons_self]; rfl
theorem dep_str : ∀ xs : List Str, PyData.depthAll (xs.map PyData.str) = 0
  | [] => by simp [PyData.depthAll]
  | x :: xs => by simp [PyData.depthAll, PyData.depth, dep_str xs]
theorem sh_strs {xs : List Str} (h : ∀ x ∈ xs, PyData.strOk x = true) : SeqAt.shaped (.list (xs.map PyData.str)) = true := by
  simp [SeqAt.shaped, PyData.canLay0, PyData.depth, can_str xs h, dep_str]
theorem eqv_strs : ∀ xs ys : List Str, PyData.eqvAll (xs.map PyData.str) (ys.map PyData.str) = decide (xs = ys)
  | [], [] => by simp [PyData.eqvAll]
  | [], _ :: _ => by simp [PyData.eqvAll]
  | _ :: _, [] => by simp [PyData.eqvAll]
  | x :: xs, y :: ys => by
    simp only [List.map_cons, PyData.eqvAll, eqv_strs xs ys, List.cons.injEq]
    rw [show PyData.eqv (.str x) (.str y) = decide (x = y) by unfold PyData.eqv; rfl, Bool.decide_and]
section
variable {S : Sto} {q : D → Sto → Prop} {xs ys : List Str}
theorem x_eqStrs (h1 : ∀ x ∈ xs, PyData.strOk x = true) (h2 : ∀ x ∈ ys, PyData.strOk x = true) : aEq (.lst (xs.map D.str)) (.lst (ys.map D.str)) S q ↔ q (.bl (decide (xs = ys))) S := by
  rw [x_eq (p := .list (xs.map PyData.str)) (p' := .list (ys.map PyData.str)) (by simp [toPyS, toPy, toPys_str]) (by simp [toPyS, toPy, toPys_str])]
  simp only [sh_strs h1, sh_strs h2, true_and, PyData.eqv, eqv_strs]
theorem x_neStrs (h1 : ∀ x ∈ xs, PyData.strOk x = true) (h2 : ∀ x ∈ ys, PyData.strOk x = true) : aNe (.lst (xs.map D.str)) (.lst (ys.map D.str)) S q ↔ q (.bl (decide (xs ≠ ys))) S := by
  rw [x_ne (p := .list (xs.map PyData.str)) (p' := .list (ys.map PyData.str)) (by simp [toPyS, toPy, toPys_str]) (by simp [toPyS, toPy, toPys_str])]
  simp only [sh_strs h1, sh_strs h2, true_and, PyData.eqv, eqv_strs, ← decide_not, ne_eq]
theorem x_neStr0 (h1 : ∀ x ∈ xs, PyData.strOk x = true) : aNe (.lst (xs.map D.str)) (.lst []) S q ↔ q (.bl (decide (xs ≠ []))) S := x_neStrs (ys := []) h1 (by simp)
end
/-- a text, sign by sign -/
theorem signs_map (x : Str) : signsD x = x.cps.toList.map fun c => D.str ⟨#[c]⟩ := rfl
/-! parts of a text, as lists of signs -/
theorem cut_from {x : Str} (k : Int) (i : Nat) (hk : k = (i : Int)) : (cutS x (some k) none).cps.toList = x.cps.toList.drop i := by
  subst hk
  have hl : x.cps.toList.length = x.length := Array.length_toList
  unfold cutS
  rw [List.toList_toArray, HT.sIx_nat, HT.sIx_none]
  by_cases h : i ≤ x.length
  · rw [Nat.min_eq_left h, List.take_of_length_le (by rw [List.length_drop, hl]; omega)]
  · rw [Nat.min_eq_right (by omega), List.drop_eq_nil_of_le (by omega), List.drop_eq_nil_of_le (by omega)]; simp
theorem cut_to {x : Str} (k : Int) (j : Nat) (hk : k = (j : Int)) : (cutS x none (some k)).cps.toList = x.cps.toList.take j := by
  subst hk
  have hl : x.cps.toList.length = x.length := Array.length_toList
  unfold cutS
  rw [List.toList_toArray, HT.sIx_nat, HT.sIx_none, List.drop_zero, Nat.sub_zero]
  by_cases h : j ≤ x.length
  · rw [Nat.min_eq_left h]
  · rw [Nat.min_eq_right (by omega), List.take_of_length_le (by omega), List.take_of_length_le (by omega)]
theorem cut_mid {x : Str} (k l : Int) (i j : Nat) (hk : k = (i : Int)) (hj : l = (j : Int)) : (cutS x (some k) (some l)).cps.toList = (x.cps.toList.drop i).take (j - i) := by
  subst hk hj
  have hl : x.cps.toList.length = x.length := Array.length_toList
  unfold cutS
  rw [List.toList_toArray, HT.sIx_nat, HT.sIx_nat]
  by_cases h : i ≤ x.length
  · rw [Nat.min_eq_left h]
    by_cases h2 : j ≤ x.length
    · rw [Nat.min_eq_left h2]
    · rw [Nat.min_eq_right (by omega), List.take_of_length_le (by rw [List.length_drop]; omega), List.take_of_length_le (by rw [List.length_drop]; omega)]
  · rw [Nat.min_eq_right (by omega : x.length ≤ i), List.drop_eq_nil_of_le (by omega), List.drop_eq_nil_of_le (by omega)]; simp
end Dl
namespace Dl
open PySem L2
/-! parts of a list -/
theorem cutD_from {ds : List D} (k : Int) (i : Nat) (hk : k = (i : Int)) : cutD ds (some k) none = ds.drop i := by
  subst hk
  unfold cutD
  rw [HT.sIx_nat, HT.sIx_none]
  by_cases h : i ≤ ds.length
  · rw [Nat.min_eq_left h, List.take_of_length_le (by rw [List.length_drop]; omega)]
  · rw [Nat.min_eq_right (by omega), List.drop_eq_nil_of_le (by omega), List.drop_eq_nil_of_le (by omega)]; simp
theorem cutD_to {ds : List D} (k : Int) (j : Nat) (hk : k = (j : Int)) : cutD ds none (some k) = ds.take j := by
  subst hk
  unfold cutD
  rw [HT.sIx_nat, HT.sIx_none, List.drop_zero, Nat.sub_zero]
  by_cases h : j ≤ ds.length
  · rw [Nat.min_eq_left h]
  · rw [Nat.min_eq_right (by omega), List.take_of_length_le (by omega), List.take_of_length_le (by omega)]
theorem x_popE {S : Sto} {q : D → Sto → Prop} {ds : List D} {y : D} (h : ds.getLast? = some y) : aPop (.loc S.length) [] (S ++ [some (.lst ds)]) q ↔ q y (S ++ [some (.lst ds.dropLast)]) := by
  have hl : ds[ds.length - 1]? = some y := by rw [← List.getLast?_eq_getElem?]; exact h
  constructor
  · rintro ⟨n, ds', y', e1, _, e3, e4, k⟩
    cases e1
    rw [show (S ++ [some (MO.lst ds)])[S.length]? = some (some (.lst ds)) by simp] at e3
    cases e3
    rw [hl] at e4
    cases e4
    rw [show (S ++ [some (MO.lst ds)]).set S.length (some (.lst ds.dropLast)) = S ++ [some (.lst ds.dropLast)] by simp] at k
    exact k
  · intro k
    refine ⟨S.length, ds, y, rfl, rfl, by simp, hl, ?_⟩
    rw [show (S ++ [some (MO.lst ds)]).set S.length (some (.lst ds.dropLast)) = S ++ [some (.lst ds.dropLast)] by simp]
    exact k
/-- a loop over data told by a list -/
theorem for_on {A : Type} {F : A → D} {L : List A} {t : Tgt} {gb : GS} {E : DE} {ρ : Env_} {S : Sto} {chk : Sto → Prop} (I : Nat → Env_ → Sto → Prop) (h0 : I 0 ρ S)
    (step : ∀ i x ρ S, L[i]? = some x → I i ρ S → chk S ∧ ∃ ρ', t.bind (F x) ρ = some ρ' ∧ gb { nx := I (i + 1), rt := E.rt, ct := I (i + 1), bk := E.nx } ρ' S) (h : ∀ ρ S, I L.length ρ S → chk S ∧ E.nx ρ S) : aFor t gb E ρ (L.map F) chk S := by
  refine ⟨I, h0, fun i d ρ S hd hi => ?_, by rw [List.length_map]; exact h⟩
  rw [List.getElem?_map] at hd
  obtain ⟨x, hx, rfl⟩ := Option.map_eq_some_iff.mp hd
  exact step i x ρ S hx hi
theorem take_next {A : Type} {L : List A} {i : Nat} {x : A} (h : L[i]? = some x) : L.take (i + 1) = L.take i ++ [x] := by rw [List.take_add_one, h]; rfl
theorem nodup_len {A : Type} [DecidableEq A] : ∀ {l m : List A}, l.Nodup → (∀ y ∈ l, y ∈ m) → l.length ≤ m.length
  | [], _, _, _ => Nat.zero_le _
  | x :: l, m, nd, h => by
    obtain ⟨h1, h2⟩ := List.nodup_cons.mp nd
    have hx := h x List.mem_cons_self
    have := nodup_len (m := m.erase x) h2 fun y hy => (List.mem_erase_of_ne (fun e => h1 (by rw [← e]; exact hy))).mpr (h y (List.mem_cons_of_mem _ hy))
    rw [List.length_erase_of_mem hx] at this
    have := List.length_pos_of_mem hx
    rw [List.length_cons]; omega
end Dl
/-! x in y, x not in y: signs, texts within texts, things in lists and tuples -/
namespace Dl
open PySem L2 PySem.SeqAt PyProof.Rows PySem.Spec
theorem or_or {X : Cx} {f : Value → Value → Sem Value} {r1 r2 : R2} (h1 : OpR X f r1) (h2 : OpR X f r2) : OpR X f (fun x y H Q => r1 x y H Q ∨ r2 x y H Q) := fun pins s σ H x y v u Q I rx ry h => by
  rcases h with h | h
  · exact h1 pins s σ H x y v u Q I rx ry h
  · exact h2 pins s σ H x y v u Q I rx ry h
def rInT (K : PySem.W.Frag) : R2 := fun x y H Q => ∃ d ds, Dp K H x d ∧ Dp K H y (.tuple ds) ∧ SeqAt.shaped d = true ∧ SeqAt.shaped (.list ds) = true ∧ Q (.bl (ds.any fun z => PyData.eqv z d)) H
def rNotInT (K : PySem.W.Frag) : R2 := fun x y H Q => ∃ d ds, Dp K H x d ∧ Dp K H y (.tuple ds) ∧ SeqAt.shaped d = true ∧ SeqAt.shaped (.list ds) = true ∧ Q (.bl (!ds.any fun z => PyData.eqv z d)) H
theorem op_inT {X : Cx} (hu : X.A.units + 65 < cLine) : OpR X (compareOp .In) (rInT X.K) := by
  intro pins s σ H x y v u Q I rx ry h
  obtain ⟨d, ds, hd, he, sd, se, q⟩ := h
  obtain ⟨as, r1⟩ := Dp.reads I d x v hd rx
  obtain ⟨bs, r2⟩ := Dp.reads I (.tuple ds) y u he ry
  exact SeqAt.in_tuple_reads r2 r1 (SeqAt.canLay_of_shaped se) (SeqAt.canLay_of_shaped sd) (room_in_shaped sd hu) ⟨.bl _, H, I, rfl, q⟩
theorem op_notInT {X : Cx} (hu : X.A.units + 65 < cLine) : OpR X (compareOp .NotIn) (rNotInT X.K) := by
  intro pins s σ H x y v u Q I rx ry h
  obtain ⟨d, ds, hd, he, sd, se, q⟩ := h
  obtain ⟨as, r1⟩ := Dp.reads I d x v hd rx
  obtain ⟨bs, r2⟩ := Dp.reads I (.tuple ds) y u he ry
  exact SeqAt.notIn_tuple_reads r2 r1 (SeqAt.canLay_of_shaped se) (SeqAt.canLay_of_shaped sd) (room_in_shaped sd hu) ⟨.bl _, H, I, rfl, q⟩
def rInAll (K : PySem.W.Frag) : R2 := fun x y H Q => (∃ (c : Nat) (z : Str), x = .str ⟨#[c]⟩ ∧ y = .str z ∧ Q (.bl (decide (c ∈ z.cps.toList))) H) ∨ (∃ i j, x = .str i ∧ y = .str j ∧ Q (.bl (!(Builtin.Str.occurrences j i 0 j.length 1).isEmpty)) H) ∨ rInD K x y H Q ∨ rInT K x y H Q
def rNotInAll (K : PySem.W.Frag) : R2 := fun x y H Q => (∃ (c : Nat) (z : Str), x = .str ⟨#[c]⟩ ∧ y = .str z ∧ Q (.bl (!decide (c ∈ z.cps.toList))) H) ∨ (∃ i j, x = .str i ∧ y = .str j ∧ Q (.bl (!(!(Builtin.Str.occurrences j i 0 j.length 1).isEmpty))) H) ∨ rNotInD K x y H Q ∨ rNotInT K x y H Q
theorem op_inAll {X : Cx} {k : Nat} (hr : RoomG k X.A) : OpR X (compareOp .In) (rInAll X.K) := by
  have hu : X.A.units + 65 < cLine := by have := hr.un; omega
  exact or_or op_in_sign (or_or op_in_str (or_or (op_inD hu) (op_inT hu)))
theorem op_notInAll {X : Cx} {k : Nat} (hr : RoomG k X.A) : OpR X (compareOp .NotIn) (rNotInAll X.K) := by
  have hu : X.A.units + 65 < cLine := by have := hr.un; omega
  exact or_or op_notIn_sign (or_or op_notIn_str (or_or (op_notInD hu) (op_notInT hu)))
/-- things in a list or a tuple -/
def inP (p : PyData) (ps : List PyData) : Bool := ps.any fun z => PyData.eqv z p
def hasT (x y : Str) : Bool := !(Builtin.Str.occurrences y x 0 y.length 1).isEmpty
def aInX (neg : Bool) : R2D := fun a b S q => (∃ (c : Nat) (z : Str), a = .str ⟨#[c]⟩ ∧ b = .str z ∧ q (.bl (neg ^^ decide (c ∈ z.cps.toList))) S) ∨ (∃ x y, a = .str x ∧ b = .str y ∧ x.length ≠ 1 ∧ q (.bl (neg ^^ hasT x y)) S) ∨
  ∃ p ps, toPyS S a = some p ∧ (toPyS S b = some (.list ps) ∨ toPyS S b = some (.tuple ps)) ∧ SeqAt.shaped p = true ∧ SeqAt.shaped (.list ps) = true ∧ q (.bl (neg ^^ inP p ps)) S
section
variable {K : PySem.W.Frag}
theorem vr_inX : VR2 K (rInAll K) (aInX false) := fun {_ m S Z H a b v u q Q} w r1 r2 h k => by
  rcases h with ⟨c, z, e1, e2, h⟩ | ⟨x, y, e1, e2, _, h⟩ | ⟨p, ps, h1, h2, h3, h4, h5⟩
  · subst e1 e2
    rw [Rep] at r1 r2
    rw [Bool.false_xor] at h
    exact .inl ⟨c, z, r1, r2, k.now w rep_bl h⟩
  · subst e1 e2
    rw [Rep] at r1 r2
    rw [Bool.false_xor] at h
    exact .inr (.inl ⟨x, y, r1, r2, k.now w rep_bl h⟩)
  · rw [Bool.false_xor] at h5
    rcases h2 with h2 | h2
    · exact .inr (.inr (.inl ⟨p, ps, dpS_of w r1 h1, dpS_of w r2 h2, h3, h4, k.now w rep_bl h5⟩))
    · exact .inr (.inr (.inr ⟨p, ps, dpS_of w r1 h1, dpS_of w r2 h2, h3, h4, k.now w rep_bl h5⟩))
theorem vr_notInX : VR2 K (rNotInAll K) (aInX true) := fun {_ m S Z H a b v u q Q} w r1 r2 h k => by
  rcases h with ⟨c, z, e1, e2, h⟩ | ⟨x, y, e1, e2, _, h⟩ | ⟨p, ps, h1, h2, h3, h4, h5⟩
  · subst e1 e2
    rw [Rep] at r1 r2
    rw [Bool.true_xor] at h
    exact .inl ⟨c, z, r1, r2, k.now w rep_bl h⟩
  · subst e1 e2
    rw [Rep] at r1 r2
    rw [Bool.true_xor] at h
    exact .inr (.inl ⟨x, y, r1, r2, k.now w rep_bl h⟩)
  · rw [Bool.true_xor] at h5
    rcases h2 with h2 | h2
    · exact .inr (.inr (.inl ⟨p, ps, dpS_of w r1 h1, dpS_of w r2 h2, h3, h4, k.now w rep_bl h5⟩))
    · exact .inr (.inr (.inr ⟨p, ps, dpS_of w r1 h1, dpS_of w r2 h2, h3, h4, k.now w rep_bl h5⟩))
end
section
variable {S : Sto} {q : D → Sto → Prop} {neg : Bool}
/-- a sign in a text -/
theorem x_inX1 {c : Nat} {y : Str} (h : q (.bl (neg ^^ decide (c ∈ y.cps.toList))) S) : aInX neg (.str ⟨#[c]⟩) (.str y) S q := .inl ⟨c, y, rfl, rfl, h⟩
theorem x_inXs {c : Nat} {y : Str} : aInX neg (.str ⟨#[c]⟩) (.str y) S q ↔ q (.bl (neg ^^ decide (c ∈ y.cps.toList))) S := by
  constructor
  · rintro (⟨c', z, e1, e2, h⟩ | ⟨x, y, e1, e2, hl, h⟩ | ⟨p, ps, h1, h2 | h2, _⟩)
    · cases e1; cases e2; exact h
    · cases e1; exact absurd rfl hl
    · simp [toPyS, toPy] at h2
    · simp [toPyS, toPy] at h2
  · exact x_inX1
/-- a text in a text -/
theorem x_inX2 {x y : Str} (h0 : x.length ≠ 1) (h : q (.bl (neg ^^ hasT x y)) S) : aInX neg (.str x) (.str y) S q := .inr (.inl ⟨x, y, rfl, rfl, h0, h⟩)
theorem inP_str (x : Str) (xs : List Str) : inP (.str x) (xs.map PyData.str) = decide (x ∈ xs) := by
  unfold inP
  rw [List.any_map]
  have e : ((fun z => PyData.eqv z (PyData.str x)) ∘ PyData.str) = fun z => decide (z = x) := funext fun z => by show PyData.eqv (.str z) (.str x) = _; unfold PyData.eqv; rfl
  rw [e]
  apply Bool.eq_iff_iff.mpr
  rw [List.any_eq_true, decide_eq_true_iff]
  constructor
  · rintro ⟨z, hz, e⟩; rw [decide_eq_true_iff] at e; exact e ▸ hz
  · exact fun h => ⟨x, h, decide_eq_true rfl⟩
theorem inP_int (x : Int) (xs : List Int) : inP (.int x) (xs.map PyData.int) = decide (x ∈ xs) := by
  unfold inP
  rw [List.any_map]
  have e : ((fun z => PyData.eqv z (PyData.int x)) ∘ PyData.int) = fun z => decide (z = x) := funext fun z => by show PyData.eqv (.int z) (.int x) = _; unfold PyData.eqv; rfl
  rw [e]
  apply Bool.eq_iff_iff.mpr
  rw [List.any_eq_true, decide_eq_true_iff]
  constructor
  · rintro ⟨z, hz, e⟩; rw [decide_eq_true_iff] at e; exact e ▸ hz
  · exact fun h => ⟨x, h, decide_eq_true rfl⟩
theorem sh_str1 {x : Str} (h : PyData.strOk x = true) : SeqAt.shaped (.str x) = true := sh_str h
/-- a text in a tuple, a list of texts -/
theorem x_inTs {x : Str} {xs : List Str} (h1 : PyData.strOk x = true) (h2 : ∀ y ∈ xs, PyData.strOk y = true) (h : q (.bl (neg ^^ decide (x ∈ xs))) S) : aInX neg (.str x) (.tup (xs.map D.str)) S q :=
  .inr (.inr ⟨.str x, xs.map PyData.str, rfl, .inr (by simp [toPyS, toPy, toPys_str]), sh_str h1, sh_strs h2, by rw [inP_str]; exact h⟩)
theorem x_inLs {x : Str} {xs : List Str} (h1 : PyData.strOk x = true) (h2 : ∀ y ∈ xs, PyData.strOk y = true) (h : q (.bl (neg ^^ decide (x ∈ xs))) S) : aInX neg (.str x) (.lst (xs.map D.str)) S q :=
  .inr (.inr ⟨.str x, xs.map PyData.str, rfl, .inl (by simp [toPyS, toPy, toPys_str]), sh_str h1, sh_strs h2, by rw [inP_str]; exact h⟩)
theorem x_inLi {x : Int} {xs : List Int} (h : q (.bl (neg ^^ decide (x ∈ xs))) S) : aInX neg (.int x) (.lst (xs.map D.int)) S q :=
  .inr (.inr ⟨.int x, xs.map PyData.int, rfl, .inl (by simp [toPyS, toPy, toPys_int]), sh_int, sh_ints _, by rw [inP_int]; exact h⟩)
theorem x_inTi {x : Int} {xs : List Int} (h : q (.bl (neg ^^ decide (x ∈ xs))) S) : aInX neg (.int x) (.tup (xs.map D.int)) S q :=
  .inr (.inr ⟨.int x, xs.map PyData.int, rfl, .inr (by simp [toPyS, toPy, toPys_int]), sh_int, sh_ints _, by rw [inP_int]; exact h⟩)
end
end Dl
/-! own exceptions over any built-in one: their fields stored, themselves made -/
namespace Dx
open PySem PySem.W PySem.Calls PyProof.Rows PySem.HandSPX
section
open Builtin Builtin.ObjectAttr
variable {prog : Program} {w : World} {A : Around} {R : Result → Shared → Prop} {hp : Heap} {g : Array GenState} {d : Drawn} {t : Nat} {os : OsState} {K : W.Frag} {f : Str} {tk : Tok} {v : Value} {x C : Addr} {fv : Array Value} {cd : ClassData}
/-- what a class must bear so that a field of its instance can be stored -/
structure Sto (K : W.Frag) (C : Addr) (cd : ClassData) : Prop where
  cls : W.clsIn K C = some cd
  ne : cd.mro.isEmpty = false
  ob : cd.mro.contains (.type "object") = true
  pass : ∀ self, refuseLoop self "__setattr__" cd.mro = pure ()
  dct : cd.hasDict = true
theorem sto_at {ox : Obj} {od : Option Obj} (inK : K.In hp) (at_ : W.InstAt hp x ox C od) (S : Sto K C cd) (no : W.findIn K (.ref C) f = some none)
    (go : wpAny (model prog w) A.in1 (storeInOwnDict (.ref x) (.ref C) (.str f tk) f v false)
      (fun fin s' => match fin with | .done z => R (.ok z) s' | .again c' => c'.quiet = true ∧ codeAny (model prog w) A c' R s') (fun e s' => R (.error e) s') ⟨hp, g, d, t, os⟩) :
    codeAny (model prog w) A (.call (.builtin "object.__setattr__") ⟨[.ref x, .str f tk, v], []⟩) R ⟨hp, g, d, t, os⟩ := by
  have ty := at_.type (M := model prog w)
  have isO : W.Looks (model prog w) hp (isInstance (.ref x) (.type "object")) true := by
    refine ty.andThen (W.looks_mroIn inK ?_)
    unfold W.mroIn
    rw [S.cls, Option.bind_some, if_neg (by rw [S.ne]; decide), S.ob]
  have mroL : W.Looks (model prog w) hp (mroOf (.ref C)) cd.mro := (W.looks_clsIn inK S.cls).andThen .now
  have taker : W.Looks (model prog w) hp (storeTaker? none) none := .now
  let SO := F.store_object
  refine codeAny_call_builtin SO.slot.plain SO.entry (@W.check_slot (model prog w) _ _ ⟨hp, g, d, t, os⟩ _ "object" _ (.ref x) [.str f tk, v] [] _ SO.kind SO.split isO (SO.args _ _ _) ?_)
  rw [W.osa_eq, refuse_eq]
  refine wpAny_bind (wpAny_bind (ty.at (wpAny_bind (mroL.at ?_))))
  rw [S.pass]
  exact wpAny_pure (wpAny_bind (ty.at (wpAny_bind ((W.looks_findIn inK no).at (wpAny_bind (taker.at go))))))
theorem sto_new (inK : K.In hp) (ho : hp.get? x = some { cls := .ref C, data := .fields fv }) (S : Sto K C cd) (no : W.findIn K (.ref C) f = some none)
    (q : ∀ h' tk' dx, (∀ b o, b ≠ x → hp.get? b = some o → h'.get? b = some o) → hp.objs.size ≤ dx → dx ≠ x → h'.get? x = some { cls := .ref C, dict := some dx, data := .fields fv } → h'.Ns1 dx (fun y => if y = f then some v else none) →
      R (.ok (.ret .none)) ⟨h', g, d, tk', os⟩) :
    codeAny (model prog w) A (.call (.builtin "object.__setattr__") ⟨[.ref x, .str f tk, v], []⟩) R ⟨hp, g, d, t, os⟩ := by
  have apart : x ≠ hp.objs.size := Nat.ne_of_lt (Heap.lt_size ho)
  refine sto_at inK (ox := { cls := .ref C, data := .fields fv }) (od := none) ⟨ho, rfl, rfl, trivial⟩ S no ?_
  have data : W.Looks (model prog w) hp (classData C) cd := W.looks_clsIn inK S.cls
  obtain ⟨cl, ne, ob, pass, dct⟩ := S
  obtain ⟨c1, c2, c3, c4, c5, c6, c7, c8, c9, c10, c11⟩ := cd
  dsimp only at dct
  subst dct
  unfold storeInOwnDict ownDictForStores
  repeat (first | with_reducible refine HandSPX.store_in_new ?_ ?_ | with_reducible refine wpAny_loadPart_at ho ?_ | with_reducible refine data.at ?_ | wp_step)
  · exact ⟨_, #[], _, (Heap.get?_update_ne _ _ _ _ apart.symm).trans (Heap.get?_push_at rfl rfl), rfl, (fun e he => by simp at he), fun _ => rfl⟩
  · intro h' tk' ns same
    have old : (hp.push { cls := .type "dict", data := .dict #[] }).get? x = some { cls := .ref C, data := .fields fv } := Heap.get?_push_of_some _ ho
    refine q h' tk' hp.objs.size (fun b o hb e => ?_) (Nat.le_refl _) apart.symm ((same.2 x apart).trans (Heap.get?_update_self _ old rfl)) ns
    rw [same.2 b (Nat.ne_of_lt (Heap.lt_size e)), Heap.get?_update_ne _ _ _ _ hb]
    exact Heap.get?_push_of_some _ e
theorem sto_old {dx : Addr} {m0 : Str → Option Value} {nl : List Str} (inK : K.In hp) (ho : hp.get? x = some { cls := .ref C, dict := some dx, data := .fields fv }) (ns : hp.Ns1 dx m0) (hw : Within m0 nl) (few : nl.length ≤ 1000) (S : Sto K C cd) (no : W.findIn K (.ref C) f = some none)
    (q : ∀ h' tk', (∀ b o, b ≠ dx → hp.get? b = some o → h'.get? b = some o) → h'.Ns1 dx (fun y => if y = f then some v else m0 y) → R (.ok (.ret .none)) ⟨h', g, d, tk', os⟩) :
    codeAny (model prog w) A (.call (.builtin "object.__setattr__") ⟨[.ref x, .str f tk, v], []⟩) R ⟨hp, g, d, t, os⟩ := by
  obtain ⟨oD, _, _, hoD, _, _⟩ := ns.count hw
  refine sto_at inK (ox := { cls := .ref C, dict := some dx, data := .fields fv }) (od := some oD) ⟨ho, rfl, rfl, hoD⟩ S no ?_
  have data : W.Looks (model prog w) hp (classData C) cd := W.looks_clsIn inK S.cls
  obtain ⟨cl, ne, ob, pass, dct⟩ := S
  obtain ⟨c1, c2, c3, c4, c5, c6, c7, c8, c9, c10, c11⟩ := cd
  dsimp only at dct
  subst dct
  unfold storeInOwnDict ownDictForStores
  repeat (first | with_reducible refine ESX.store_in_old ns hw few ?_ | with_reducible refine wpAny_loadPart_at ho ?_ | with_reducible refine data.at ?_ | wp_step)
  intro h' tk' ns' same
  exact q h' tk' (fun b o hb e => (same.2 b hb).trans e) ns'
end
end Dx
/-! own exceptions over any built-in one: what the walk asks -/
namespace Dl
open PySem L2 PyProof.Rows
/-- an exception's class of the text, straight over the built-in class B -/
structure ExT (K : PySem.W.Frag) (C : Addr) (B newId initId : String) (bm : List Value) : Prop where
  F : ExcBaseFacts B newId initId bm
  cls : ∃ nm q N bs sn sub ab col dd k0 k1 k2 k3 k5, K.lookup C = some (excClassObj nm q C N bs bm true sn sub ab col dd k0 k1 k2 k3 k5 newId)
  pass : ∀ self, refuseLoop self "__setattr__" bm = pure ()
  ob : bm.contains (.type "object") = true
  sa : PySem.W.findIn K (.ref C) "__setattr__" = some (some (.builtin "object.__setattr__"))
  exC : PySem.W.subIn K (.ref C) (.type "BaseException") = some true
  tyC : PySem.W.typeIn K (.ref C) = some (.type "type")
  kC : PySem.W.keepIn K (.ref C) = true
section
variable {X : Cx} {pins : List (Addr × Obj)} {σ : L2.St} {H : Hp} {s : Shared} {a C dx : Addr} {f : Str} {y : V} {u : Value} {fs : List (Str × V)} {Q : Unit → Shared → Prop} {E : Value → Shared → Prop} {A : Around} {B newId initId : String} {bm : List Value}
theorem ExT.sto (T : ExT X.K C B newId initId bm) : ∃ cd, Dx.Sto X.K C cd ∧ ∀ M h, X.K.In h → PySem.W.Looks M h (classData C) cd := by
  obtain ⟨nm, q, N, bs, sn, sub, ab, col, dd, k0, k1, k2, k3, k5, hC⟩ := T.cls
  let cd : ClassData := { name := nm, bases := bs, mro := .ref C :: bm, ns := N, qualname := q, hasDict := true, slotNames := sn, subclasses := sub, abstract := ab, collection := col, hasDel := false }
  have hcl : PySem.W.clsIn X.K C = some cd := by
    unfold PySem.W.clsIn
    rw [hC]
  refine ⟨cd, ⟨hcl, rfl, ?_, fun self => ?_, rfl⟩, fun M h k => PySem.W.looks_clsIn k hcl⟩
  · show (Value.ref C :: bm).contains (.type "object") = true
    rw [List.contains_cons, T.ob, Bool.or_true]
  · show refuseLoop self "__setattr__" (.ref C :: bm) = pure ()
    rw [refuseLoop_ref]
    exact T.pass self
theorem exs_new (T : ExT X.K C B newId initId bm) (I : Inv X pins σ H s) (e : H a = some (exo a C none)) (no : PySem.W.findIn X.K (.ref C) f = some none) (ry : RelV y u)
    (h : ∀ dx s', H dx = none → dx ≠ a → Inv X pins σ (L2.upd (L2.upd H dx (exd dx [(f, y)])) a (exo a C (some dx))) s' → Q () s') : wpAny (model X.prog X.w) A (setAttr (.ref a) f u) Q E s := by
  obtain ⟨cd, S, _⟩ := T.sto
  obtain ⟨t1, ho⟩ := exo_at I.hok e
  obtain ⟨hp, g, d, t, os⟩ := s
  refine PySem.W.set_plain I.kIn (ox := { cls := .ref C, dict := none, data := .fields #[.ref t1, .none, .none, .none, .bool false, .none] }) (od := none) ⟨ho, rfl, rfl, trivial⟩ T.sa ?_
  refine Dx.sto_new I.kIn ho S no fun h' tk' dx k dn dne hx hn => ?_
  have hnd : H dx = none := I.hok.fresh dn
  have ndx : ∀ {b : Addr} {o : Obj}, hp.get? b = some o → b ≠ dx := fun e => Nat.ne_of_lt (Nat.lt_of_lt_of_le (Heap.lt_size e) dn)
  have na : ∀ {b : Addr}, H b = none → b ≠ a := by
    rintro b n rfl
    rw [e] at n
    cases n
  have out : ∀ {b : Addr} {o : HO}, b ≠ a → b ≠ dx → H b = some o → L2.upd (L2.upd H dx (exd dx [(f, y)])) a (exo a C (some dx)) b = some o := fun h1 h2 h3 => by rw [upd_ne h1, upd_ne h2]; exact h3
  refine h dx _ hnd dne (I.un (t' := tk') { keep := ?_, slot := ?_, free := ?_, there := ?_, tups := ?_, frzs := ?_, tbls := ?_ } fun b o z => ?_)
  · exact fun b o z n _ _ => k b o (na n) z
  · exact fun b o z n _ _ => ⟨o.slots, k b o (na n) z⟩
  · intro b o z n _
    rw [upd_ne (na n), upd_ne (ndx z)]
    exact n
  · intro b o z _
    by_cases hb : b = a
    · exact ⟨_, hb ▸ hx⟩
    · exact ⟨o, k b o hb z⟩
  · exact fun b xs z => out (at_ne e z exo_tup) (ne_of_none z hnd) z
  · exact fun b o v z => out (at_ne e z exo_frz) (ne_of_none z hnd) z
  · exact fun b ps z => ⟨#[], by rw [out (at_ne e z exo_tbl) (ne_of_none z hnd) z]; simp⟩
  by_cases hb : b = a
  · rw [hb, upd_same] at z
    cases z
    rw [hb]
    exact exo_ok hx
  · rw [upd_ne hb] at z
    by_cases hd : b = dx
    · rw [hd, upd_same] at z
      cases z
      rw [hd]
      exact exd_ok hn (relO_put (fs := []) ry fun _ => trivial)
    · rw [upd_ne hd] at z
      refine (I.hok b o z).stay (fun c v hc zz => k c v ?_ zz) (fun c hc => out (at_ne e hc exo_own) (ne_of_none hc hnd) hc) fun c xs hc => out (at_ne e hc exo_tup) (ne_of_none hc hnd) hc
      rcases hc with hc | hc
      · rw [hc]; exact hb
      · exact at_ne e hc exo_own
theorem exs_old (T : ExT X.K C B newId initId bm) (I : Inv X pins σ H s) (e : H a = some (exo a C (some dx))) (ed : H dx = some (exd dx fs)) (few : fs.length ≤ 900) (no : PySem.W.findIn X.K (.ref C) f = some none) (ry : RelV y u)
    (h : ∀ s', Inv X pins σ (L2.upd H dx (exd dx ((f, y) :: fs))) s' → Q () s') : wpAny (model X.prog X.w) A (setAttr (.ref a) f u) Q E s := by
  obtain ⟨cd, S, _⟩ := T.sto
  obtain ⟨t1, ho⟩ := exo_at I.hok e
  obtain ⟨mA, hns, rel⟩ := exd_at I.hok ed
  have within := within_of rel
  obtain ⟨hp, g, d, t, os⟩ := s
  obtain ⟨oD, _, _, hoD, _, _⟩ := hns.count within
  refine PySem.W.set_plain I.kIn (ox := { cls := .ref C, dict := some dx, data := .fields #[.ref t1, .none, .none, .none, .bool false, .none] }) (od := some oD) ⟨ho, rfl, rfl, hoD⟩ T.sa ?_
  refine Dx.sto_old I.kIn ho hns within (by rw [List.length_map]; omega) S no fun h' tk' k hn => h _ ?_
  have there : ∃ o, h'.get? dx = some o := by
    obtain ⟨o, _, _, e', _⟩ := hn
    exact ⟨o, e'⟩
  exact I.write (t' := tk') (x := dx) (e := dx) (o := exd dx ((f, y) :: fs)) (by rw [ed]; trivial) (.inl rfl) k there (exd_ok hn (relO_put ry rel))
end
/-- self.f = e, self an exception in the making -/
def tXst (K : PySem.W.Frag) (f : Str) (to te : TE) : TS := fun D σ H => te σ H fun y H1 => to σ H1 fun x H2 => ∃ (a C : Addr) (B newId initId : String) (bm : List Value), x = .ref a ∧ ExT K C B newId initId bm ∧ PySem.W.findIn K (.ref C) f = some none ∧
  ((H2 a = some (exo a C none) ∧ ∀ dx, H2 dx = none → dx ≠ a → D.nx σ (L2.upd (L2.upd H2 dx (exd dx [(f, y)])) a (exo a C (some dx)))) ∨
    ∃ (dx : Addr) (fs : List (Str × V)), H2 a = some (exo a C (some dx)) ∧ H2 dx = some (exd dx fs) ∧ fs.length ≤ 900 ∧ D.nx σ (L2.upd H2 dx (exd dx ((f, y) :: fs))))
section
variable {X : Cx} {o e : Expr} {to te : TE} {f : Str} {p' pos : Pos}
theorem ps_xst (ho : PE X o to) (he : PE X e te) (hs : swapsWith e (some (.Attribute o f p')) pos.line X.env = pure false := by rfl) : PS X (.Assign [.Attribute o f p'] e pos) (tXst X.K f to te) := by
  refine ⟨fun pins s σ H D I h => plainObj_wpAny_Assign_Attribute (thn (he.run pins s σ H _ I h) fun v s1 ⟨y, H1, I1, r1, q1⟩ => thn (ho.run pins s1 σ H1 _ I1 q1) fun u s2 ⟨x, H2, I2, r2, a, C, B, i1, i2, bm, ex, T, no, q⟩ => ?_) hs⟩
  subst ex
  obtain rfl : u = Value.ref a := r2
  rcases q with ⟨ea, q⟩ | ⟨dx, fs, ea, ed, few, q⟩
  · exact exs_new T I2 ea no r1 fun dx s' n ne J => ⟨σ, _, J, q dx n ne⟩
  · exact exs_old T I2 ea ed few no r1 fun s' J => ⟨σ, _, J, q⟩
end
end Dl
/-! own exceptions made and raised, by data -/
namespace Dl
open PySem L2 PyProof.Rows
/-! ### __init__ that stores its parameters -/
/-- what __init__ leaves: the fields, the last stored one first -/
def spXI (K : PySem.W.Frag) (C : Addr) (flds : List Str) : Sp := fun vs H Q _ => ∃ (a : Addr) (ws : List V), vs = .ref a :: ws ∧ ws.length = flds.length ∧ H a = some (exo a C none) ∧
  ∀ d H2, H d = none → d ≠ a → H2 a = some (exo a C (some d)) → H2 d = some (exd d (flds.zip ws).reverse) → (∀ b, b ≠ a → b ≠ d → H2 b = H b) → Q .non H2
section
variable {X : Cx} {pos : Pos}
theorem xv (i : Nat) {x : Str} (hN : X.N[i]? = some x := by rfl) (hv : Vis X.env.scope x := by first | exact Or.inl rfl | exact Or.inr (Or.inl rfl) | exact Or.inr (Or.inr rfl)) (hd : (x == ("__debug__" : Str)) = false := by decide)
    (hcd : (x == ("__classdict__" : Str)) = false := by decide) : PE X (.Name x pos) (tVar i) := pe_var hN hv hd hcd
end
section
variable {P : Program} {w : World} {K : PySem.W.Frag} {mg : Str → Option Value} {base : Heap} {qual : Str} {st : Stmt} {dvs : List V} {f C : Addr} {fd : FuncData} {N ps : List Str} {B newId initId : String} {bm : List Value} {f1 f2 f3 : Str}
abbrev tI1 (K : PySem.W.Frag) (f1 : Str) : TS := tXst K f1 (tVar 0) (tVar 1)
abbrev tI2 (K : PySem.W.Frag) (f1 f2 : Str) : TS := tSeq (tXst K f1 (tVar 0) (tVar 1)) (tXst K f2 (tVar 0) (tVar 2))
abbrev tI3 (K : PySem.W.Frag) (f1 f2 f3 : Str) : TS := tSeq (tXst K f1 (tVar 0) (tVar 1)) (tSeq (tXst K f2 (tVar 0) (tVar 2)) (tXst K f3 (tVar 0) (tVar 3)))
theorem spXI_len {flds : List Str} (h : ps.length = flds.length + 1) : ∀ vs H Q E, spXI K C flds vs H Q E → vs.length = ps.length := by
  rintro vs H Q E ⟨a, ws, rfl, h1, _⟩
  rw [List.length_cons, h1, h]
theorem init1 (T : ExT K C B newId initId bm) (n1 : PySem.W.findIn K (.ref C) f1 = some none) (F : FunS K "__init__" qual st dvs f fd) (S : FnScope ps ps (defScope st)) (hp : ps.length = 2)
    (body : ∀ (cdv : Value) (A : Around) (outer : List Env) (s : Shared) (H : Hp) (E : XK), PSs (cxOf CX0 P w K mg base ps qual (defScope st) f cdv A outer s H E).nox (defBody st) (tI1 K f1)) : FnG P w K mg base CX0 1 f fd ps (spXI K C [f1]) := by
  refine FnG.by_body F S (spXI_len hp) fun cdv A outer s H vs Q E hr ⟨a, ws, ev, hl, ha, hq⟩ => ?_
  subst ev
  match ws, hl with
  | [y], _ =>
    refine ⟨_, (body cdv A outer s H E).nox, ?_⟩
    refine ⟨y, by simp [L2.start], .ref a, by simp [L2.start], a, C, B, newId, initId, bm, rfl, T, n1, .inl ⟨ha, fun dx nd ne => ?_⟩⟩
    refine hq dx _ nd ne upd_same ?_ fun b h1 h2 => by rw [upd_ne h1, upd_ne h2]
    rw [upd_ne ne, upd_same]
    rfl
theorem init2 (T : ExT K C B newId initId bm) (n1 : PySem.W.findIn K (.ref C) f1 = some none) (n2 : PySem.W.findIn K (.ref C) f2 = some none) (F : FunS K "__init__" qual st dvs f fd) (S : FnScope ps ps (defScope st)) (hp : ps.length = 3)
    (body : ∀ (cdv : Value) (A : Around) (outer : List Env) (s : Shared) (H : Hp) (E : XK), PSs (cxOf CX0 P w K mg base ps qual (defScope st) f cdv A outer s H E).nox (defBody st) (tI2 K f1 f2)) : FnG P w K mg base CX0 1 f fd ps (spXI K C [f1, f2]) := by
  refine FnG.by_body F S (spXI_len hp) fun cdv A outer s H vs Q E hr ⟨a, ws, ev, hl, ha, hq⟩ => ?_
  subst ev
  match ws, hl with
  | [y, z], _ =>
    refine ⟨_, (body cdv A outer s H E).nox, ?_⟩
    refine ⟨y, by simp [L2.start], .ref a, by simp [L2.start], a, C, B, newId, initId, bm, rfl, T, n1, .inl ⟨ha, fun dx nd ne => ?_⟩⟩
    refine ⟨z, by simp [L2.start], .ref a, by simp [L2.start], a, C, B, newId, initId, bm, rfl, T, n2, .inr ⟨dx, _, upd_same, by rw [upd_ne ne, upd_same], by simp, ?_⟩⟩
    refine hq dx _ nd ne (by rw [upd_ne ne.symm, upd_same]) upd_same fun b h1 h2 => by rw [upd_ne h2, upd_ne h1, upd_ne h2]
theorem init3 (T : ExT K C B newId initId bm) (n1 : PySem.W.findIn K (.ref C) f1 = some none) (n2 : PySem.W.findIn K (.ref C) f2 = some none) (n3 : PySem.W.findIn K (.ref C) f3 = some none) (F : FunS K "__init__" qual st dvs f fd) (S : FnScope ps ps (defScope st)) (hp : ps.length = 4)
    (body : ∀ (cdv : Value) (A : Around) (outer : List Env) (s : Shared) (H : Hp) (E : XK), PSs (cxOf CX0 P w K mg base ps qual (defScope st) f cdv A outer s H E).nox (defBody st) (tI3 K f1 f2 f3)) : FnG P w K mg base CX0 1 f fd ps (spXI K C [f1, f2, f3]) := by
  refine FnG.by_body F S (spXI_len hp) fun cdv A outer s H vs Q E hr ⟨a, ws, ev, hl, ha, hq⟩ => ?_
  subst ev
  match ws, hl with
  | [y, z, u], _ =>
    refine ⟨_, (body cdv A outer s H E).nox, ?_⟩
    refine ⟨y, by simp [L2.start], .ref a, by simp [L2.start], a, C, B, newId, initId, bm, rfl, T, n1, .inl ⟨ha, fun dx nd ne => ?_⟩⟩
    refine ⟨z, by simp [L2.start], .ref a, by simp [L2.start], a, C, B, newId, initId, bm, rfl, T, n2, .inr ⟨dx, _, upd_same, by rw [upd_ne ne, upd_same], by simp, ?_⟩⟩
    refine ⟨u, by simp [L2.start], .ref a, by simp [L2.start], a, C, B, newId, initId, bm, rfl, T, n3, .inr ⟨dx, _, by rw [upd_ne ne.symm, upd_same], upd_same, by simp, ?_⟩⟩
    refine hq dx _ nd ne (by rw [upd_ne ne.symm, upd_ne ne.symm, upd_same]) upd_same fun b h1 h2 => by rw [upd_ne h2, upd_ne h2, upd_ne h1, upd_ne h2]
end
/-! ### C(..) made -/
structure XCls (P : Program) (w : World) (K : PySem.W.Frag) (mg : Str → Option Value) (base : Heap) (x : Str) (C : Addr) (st : Stmt) (qual : Str) (ps flds : List Str) : Prop where
  mC : mg x = some (.ref C)
  ex : ∃ B newId initId bm, ExT K C B newId initId bm
  nm : ps.length = flds.length + 1
  fn : ∃ f fd, FunS K "__init__" qual st [] f fd ∧ PySem.W.findIn K (.ref C) "__init__" = some (some (.ref f)) ∧ PySem.W.typeIn K (.ref f) = some (.type "function") ∧ FnG P w K mg base CX0 1 f fd ps (spXI K C flds)
section
variable {X : Cx} {C : Addr} {x qual : Str} {st : Stmt} {ps flds : List Str} {p pos pos2 : Pos} {es : List Expr} {n : Nat} {src : List Src} {ga : GA}
theorem pmk_x (M : XCls X.prog X.w X.K X.mg X.base x C st qual ps flds) (hr : RoomG 2 X.A) (hg : Gl X x) (b : Bnd "__init__" qual st ps (n + 1) [] src 0) (ha : PArgs X es [] pos [] (tof2 X.K U ga)) (hdb : (x == ("__debug__" : Str)) = false := by decide) :
    PMk X (.Call (.Name x p) es [] pos) fun σ H Q => tof2 X.K U ga σ H fun vs zs H1 => vs.length = n ∧ zs.length = 0 ∧ vs.length ≤ 1000 ∧ ∀ d, H1 d = none → ∀ a, H1 a = none → ∃ ws, gat src (.ref a :: vs) [] ([] : List V) = .ref a :: ws ∧ ws.length = flds.length ∧ Q (.ref C) (some d) (L2.upd H1 d (.xd (flds.zip ws).reverse)) := by
  intro pins s σ H Q I h
  obtain ⟨B, newId, initId, bm, T⟩ := M.ex
  obtain ⟨f, fd, FS, iC, tI, F1⟩ := M.fn
  obtain ⟨nm, q, N, bs, sn, sub, ab, col, dd, k0, k1, k2, k3, k5, hC⟩ := T.cls
  obtain ⟨its, KB⟩ := kbn_of FS b
  refine wpAny_Call_Name_kw (ld_glob I hg M.mC ?_ hdb)
  refine ha.run pins s σ H _ (.ref C) [] _ I T.kC h fun us ws' vs zs s1 H1 I1 rv rz ⟨l1, l2, lz, hq⟩ => ?_
  have ez : zs = [] := List.eq_nil_of_length_eq_zero l2
  subst ez
  cases rz
  show wpAny _ _ (call (.ref C) us) _ _ _
  obtain ⟨hp, g, dr, tk, os⟩ := s1
  let a := hp.objs.size + 1
  have hsz : hp.objs.size ≤ a := Nat.le_succ _
  have hn : H1 a = none := I1.hok.fresh hsz
  have kk : ∀ b o, hp.get? b = some o → ((hp.push (PySem.W.kdv_tup us)).push (PySem.HandSPX.excO C hp.objs.size)).get? b = some o := fun b o e => Heap.get?_push_of_some _ (Heap.get?_push_of_some _ e)
  have hget : ((hp.push (PySem.W.kdv_tup us)).push (PySem.HandSPX.excO C hp.objs.size)).get? a = some (PySem.HandSPX.excO C hp.objs.size) := by show Heap.get? _ (hp.objs.size + 1) = _; heap_get
  have I2 : Inv X pins σ (L2.upd H1 a (exo a C none)) ⟨(hp.push (PySem.W.kdv_tup us)).push (PySem.HandSPX.excO C hp.objs.size), g, dr, tk, os⟩ :=
    I1.laid (t' := tk) (a := a) (o := exo a C none) (h' := (hp.push (PySem.W.kdv_tup us)).push (PySem.HandSPX.excO C hp.objs.size)) kk hsz (exo_ok hget)
  have r1 : Vals (V.ref a :: vs) (Value.ref a :: us) := .cons rfl rv
  have r2 := KB.rel r1 (.nil : Vals [] [])
  have b2 := KB.to _ (Value.ref a :: us) [] I2.kIn (r1.length.symm.trans (congrArg Nat.succ l1)) rfl
  have hus : us.length ≤ sizeLine := by
    rw [← Paired.length rv, sizeLine_eq]
    omega
  let Q2 : VK := fun v H2 => v = .non ∧ ∃ (d : Addr) (fs : List (Str × V)), H2 a = some (exo a C (some d)) ∧ H2 d = some (exd d fs) ∧ H1 d = none ∧ Q (.ref C) (some d) (L2.upd (L2.del H2 a) d (.xd fs))
  have hsp : spXI X.K C flds (gat src (.ref a :: vs) [] []) (L2.upd H1 a (exo a C none)) Q2 fun _ _ _ => False := by
    have hfresh : H1 (hp.objs.size + 2) = none := I1.hok.fresh (by show hp.objs.size ≤ hp.objs.size + 2; omega)
    obtain ⟨ws, e1, e2, _⟩ := hq (hp.objs.size + 2) hfresh a hn
    refine ⟨a, ws, e1, e2, upd_same, fun d H2 nd ne ha2 hd2 hb2 => ⟨rfl, d, _, ha2, hd2, ?_, ?_⟩⟩
    · rwa [upd_ne ne] at nd
    · have nd' : H1 d = none := by rwa [upd_ne ne] at nd
      obtain ⟨ws', e1', _, q⟩ := hq d nd' a hn
      rw [e1] at e1'
      cases e1'
      have : L2.upd (L2.del H2 a) d (.xd (flds.zip ws).reverse) = L2.upd H1 d (.xd (flds.zip ws).reverse) := by
        funext b
        by_cases hbd : b = d
        · rw [hbd, upd_same, upd_same]
        · rw [upd_ne hbd, upd_ne hbd]
          by_cases hba : b = a
          · rw [hba, del_same, hn]
          · rw [del_ne hba, hb2 b hba hbd, upd_ne hba]
      rw [this]
      exact q
  have run := F1.run _ X.stack _ _ ⟨Value.ref a :: us, []⟩ _ _ Q2 _ (hr.make C us []) (I2.env0.make C us []) b2 r2 hsp
  refine wpAny_call (PySem.HandSPX.call_own T.F (fun _ => rfl) (I1.kIn _ _ hC) (PySem.W.looks_findIn I1.kIn iC) (fun self => PySem.W.bind_fn I1.kIn self tI) hus (codeAny_mono run fun r s' hq' => ?_))
  cases r with
  | error er => exact (hq' : False).elim
  | ok fl =>
    cases fl with
    | ret u =>
      obtain ⟨v, H2, os2, bare2, un2, hok2, rv2, ev, d, fs, ea, ed, hd1, q2⟩ := hq'
      subst ev
      obtain ⟨h2, g2, d2, t2, os'⟩ := s'
      exact ⟨rv2, mk_end (raises_own T.exC T.tyC) I1 hsz kk un2 hok2 os2 bare2 ea ed hd1 q2⟩
    | next => exact hq'.elim
    | brk => exact hq'.elim
    | cont => exact hq'.elim
/-- raise C(..): by data, the fields the last one first -/
def gRaise (WD : XW) (C : Addr) (flds : List Str) (n : Nat) (src : List Src) (ga : GA) : GS := fun E ρ S => ga ρ S fun as zs S1 => as.length = n ∧ zs.length = 0 ∧ as.length ≤ 1000 ∧ ∃ ds, (∀ s : D, gat src (s :: as) [] [] = s :: ds) ∧ ds.length = flds.length ∧ WD (.own C) flds.reverse ds.reverse ρ S1
theorem zip_rev {A B' : Type} : ∀ {l : List A} {l' : List B'}, l.length = l'.length → (l.zip l').reverse = l.reverse.zip l'.reverse
  | [], [], _ => rfl
  | x :: l, y :: l', h => by
    have h' : l.length = l'.length := by simpa using h
    rw [List.zip_cons_cons, List.reverse_cons, List.reverse_cons, List.reverse_cons, zip_rev h', List.zip_append (by simpa using h')]
    rfl
  | [], _ :: _, h => by simp at h
  | _ :: _, [], h => by simp at h
theorem d_raise {U : Wi} (tk : Takes X U.W) (M : XCls X.prog X.w X.K X.mg X.base x C st qual ps flds) (hr : RoomG 2 X.A) (hg : Gl X x) (b : Bnd "__init__" qual st ps (n + 1) [] src 0) (ha : PArgs X es [] pos [] (tof2 X.K U ga)) (hc : X.calm = true := by rfl)
    (hdb : (x == ("__debug__" : Str)) = false := by decide) : PS X (.Raise (some (.Call (.Name x p) es [] pos)) none pos2) (tofS X.K U (gRaise U.D C flds n src ga)) :=
  weakS (ps_raise hc tk (pmk_x (p := p) M hr hg b ha hdb)) fun De σ H ⟨m, S, Z, ρ, E, w, rs, h, k⟩ => by
    refine ⟨m, S, Z, ρ, _, w, rs, h, fun vs zs H1 m1 as zd S1 e1 w1 r1 r2 ⟨h1, h2, h3, ds, h4, h5, h6⟩ => ?_⟩
    have l1 := Reps.len r1
    have l2 := Reps.len r2
    refine ⟨by omega, by omega, by omega, fun d hd a ha => ?_⟩
    have rr : Reps X.K m1 S1.length (vis m1 S1 Z H1) (gat src (.ref a :: as) [] []) (gat src (.ref a :: vs) [] []) := gat_reps (Reps.cons rep_ref r1) dfv_nil reps_nil
    rw [h4] at rr
    obtain ⟨v, ws, ev, rv, rw'⟩ := rr
    have ev0 : v = .ref a := rv
    subst ev0
    have lw := Reps.len rw'
    refine ⟨ws, ev, by omega, ?_⟩
    obtain ⟨w2, e2, hv⟩ := w1.new (o := .xd (flds.zip ws).reverse) hd
    have rs2 := rs.ext (e1.trans e2)
    refine w2.up _ _ _ σ ρ (.own C) (some d) flds.reverse ds.reverse ws.reverse Ext.refl w2.toWd0 rs2 ?_ (by simp; omega) (Reps.rev (rw'.ext e2)) h6
    show vis _ _ _ _ d = _
    rw [hv, zip_rev (by omega)]
end
end Dl
/-! defs that may raise, called; by data -/
namespace Dl
open PySem L2 PyProof.Rows
abbrev XE_ := XC → List Str → List D → Sto → Prop
/-- a promise: the arguments, the store, what is wanted of the answer, of an exception -/
abbrev XSp := List D → Sto → (D → Sto → Prop) → XE_ → Prop
def OutX (K : PySem.W.Frag) (m : Nat → Addr) (S : Sto) (Z : Addr → Prop) (H : Hp) (qx : XE_) (E : XK) : Prop :=
  ∀ (H' : Hp) (m' : Nat → Addr) (S' : Sto) (c : XC) (dd : Option Addr) (ks : List Str) (ds : List D) (vs : List V), Ext m S Z H m' S' H' → Wd0 K m' S' Z H' → Xd (vis m' S' Z H') dd (ks.zip vs) → ks.length = vs.length →
    Reps K m' S'.length (vis m' S' Z H') ds vs → qx c ks ds S' → E c.val dd H'
def spOfX (K : PySem.W.Frag) (dsp : XSp) : Sp := fun vs H Q E => ∃ m S Z ds q qx, Wd K U0 m S Z H ∧ Reps K m S.length (vis m S Z H) ds vs ∧ dsp ds S q qx ∧ Outs m S Z H K U0 (rD K) q Q ∧ OutX K m S Z H qx E
structure FncX (P : Program) (w : World) (K : PySem.W.Frag) (mg : Str → Option Value) (base : Heap) (x : Str) (st : Stmt) (dvs : List V) (k : Nat) (ps : List Str) (dsp : XSp) : Prop where
  ex : ∃ f fd, FunS K x x st dvs f fd ∧ mg x = some (.ref f) ∧ FnG P w K mg base (CX P w) k f fd ps (spOfX K dsp)
structure MFnX (P : Program) (w : World) (K : PySem.W.Frag) (mg : Str → Option Value) (base : Heap) (C : Addr) (m qual : Str) (st : Stmt) (dvs : List V) (k : Nat) (ps : List Str) (dsp : XSp) : Prop where
  cl : Cls K C
  ex : ∃ f fd, FunS K m qual st dvs f fd ∧ Meth K C m f ∧ FnG P w K mg base (CX P w) k f fd ps (spOfX K dsp)
structure CFnX (P : Program) (w : World) (K : PySem.W.Frag) (mg : Str → Option Value) (base : Heap) (x : Str) (C : Addr) (qual : Str) (st : Stmt) (dvs : List V) (k : Nat) (ps : List Str) (dsp : XSp) : Prop where
  mC : mg x = some (.ref C)
  ex : ∃ f fd, FunS K "__init__" qual st dvs f fd ∧ Mk K C f ∧ FnG P w K mg base (CX P w) k f fd ps (spOfX K dsp)
def gCallX (WD : XW) (n nk : Nat) (src : List Src) (dds : List D) (dsp : XSp) (ga : GA) : G D := fun ρ S q => ga ρ S fun as ks S1 => as.length = n ∧ ks.length = nk ∧ dsp (gat src as dds ks) S1 q fun c fs ds S2 => WD c fs ds ρ S2
def gMethX (WD : XW) (C : Addr) (m : Str) (n nk : Nat) (src : List Src) (dds : List D) (dsp : XSp) (go : G D) (ga : GA) : G D := fun ρ S q => go ρ S fun o S1 => ∃ ks ds, objOf S1 o = some (C, ks, ds) ∧ ks.contains m = false ∧
  ga ρ S1 fun as zs S2 => as.length = n ∧ zs.length = nk ∧ dsp (gat src (o :: as) dds zs) S2 q fun c fs ds S3 => WD c fs ds ρ S3
/-- C(..), its __init__ may raise; the new instance given up at once -/
def gMakeX (WD : XW) (C : Addr) (n nk : Nat) (src : List Src) (dds : List D) (dsp : XSp) (ga : GA) : G D := fun ρ S q => ga ρ S fun as zs S1 => as.length = n ∧ zs.length = nk ∧ (D.unders S1.length as = true → D.unders S1.length zs = true →
  dsp (gat src (.loc S1.length :: as) dds zs) (S1 ++ [some (.obj C [] [])]) (fun v S2 => v = .non ∧ ∃ ks ds, S2 = S1 ++ [some (.obj C ks ds)] ∧ D.unders S1.length ds = true ∧ q (.obj C ks ds) S1) fun c fs ds S2 => WD c fs ds ρ S2)
section
variable {X : Cx} {pos p apos : Pos} {x m qual : Str} {st : Stmt} {dvs : List V} {dds : List D} {k n : Nat} {ps ks : List Str} {dsp : XSp} {es : List Expr} {kws : List Keyword} {src : List Src} {ga : GA} {o : Expr} {go : G D} {C : Addr} {U : Wi}
theorem outX_of {m1 : Nat → Addr} {S1 : Sto} {Z : Addr → Prop} {H1 : Hp} {ρ : Env_} {σ : L2.St} {K : PySem.W.Frag} (w1 : Wd K U m1 S1 Z H1) (rs : RelS K m1 S1.length (vis m1 S1 Z H1) ρ σ) :
    OutX K m1 S1 Z H1 (fun c fs ds S2 => U.D c fs ds ρ S2) (WE U.W σ) := fun H' m' S' c dd ks ds vs e w0 xd l r h => w1.up H' m' S' σ ρ c dd ks ds vs e w0 (rs.ext e) xd l r h
theorem d_callX (tk : Takes X U.W) (F : FncX X.prog X.w X.K X.mg X.base x st dvs k ps dsp) (hr : RoomG k X.A) (hg : Gl X x) (b : Bnd x x st ps n ks src dvs.length) (hd : DfV dds dvs) (ha : PArgs X es kws pos ks (tof2 X.K U ga)) (hdb : (x == ("__debug__" : Str)) = false := by decide) :
    PE X (.Call (.Name x p) es kws pos) (tofE X.K U (gCallX U.D n ks.length src dds dsp ga)) := by
  refine ⟨fun pins s σ H Q I ⟨mm, S, Z, ρ, q, w, rs, h, kk⟩ => ?_⟩
  obtain ⟨f, fd, FS, hm, FO⟩ := F.ex
  obtain ⟨its, KB⟩ := kbn_of FS b
  refine wpAny_Call_Name_kw (ld_glob I hg hm ?_ hdb)
  refine ha.run pins s σ H (fun vs zs H1 => vs.length = n ∧ zs.length = ks.length ∧ spOfX X.K dsp (gat src vs dvs zs) H1 Q (WE U.W σ)) (.ref f) [] _ I FS.kp ⟨mm, S, Z, ρ, _, w, rs, h, fun vs zs H1 m1 as zd S1 e1 w1 r1 r2 h1 => ?_⟩ fun us ws vs zs s1 H1 I1 rv rz ⟨l1, l2, hs⟩ => ?_
  · exact ⟨by rw [Reps.len r1]; exact h1.1, by rw [Reps.len r2]; exact h1.2.1, m1, S1, Z, gat src as dds zd, q, _, w1.w0, gat_reps r1 hd r2, h1.2.2, (kk.ext e1).to0 w1, outX_of w1 (rs.ext e1)⟩
  · exact run_fnS' FO hr KB (passAt tk σ) I1 rv rz l1 l2 hs
theorem d_methX {pl : Sem Bool} (tk : Takes X U.W) (F : MFnX X.prog X.w X.K X.mg X.base C m qual st dvs k ps dsp) (hr : RoomG k X.A) (b : Bnd m qual st ps (n + 1) ks src dvs.length) (hd : DfV dds dvs) (ho : PE X o (tofE X.K U go)) (ha : PArgs X es kws pos ks (tof2 X.K U ga))
    (ht : eval (.Call (.Attribute o m apos) es kws pos) X.env = (do
      let ov ← eval o X.env
      standAt apos.atName
      let (f, first) ← holding [ov] (getMethod ov m pl)
      callWith pos f first (backTo pos (starEach es X.env)) (backToKw pos (keywordEach kws X.env))) := by rfl) :
    PE X (.Call (.Attribute o m apos) es kws pos) (tofE X.K U (gMethX U.D C m n ks.length src dds dsp go ga)) := by
  refine ⟨fun pins s σ H Q I ⟨mm, S, Z, ρ, q, w, rs, h, kk⟩ => ?_⟩
  obtain ⟨f, fd, FS, hm, FO⟩ := F.ex
  obtain ⟨its, KB⟩ := kbn_of FS b
  refine PySem.W.methodCall_KW (pl := pl) (thn (ho.run pins s σ H (fun x H1 => ∃ a dx fs, x = .ref a ∧ H1 a = some (.ins C dx fs) ∧ fs.lookup m = none ∧ tof2 X.K U ga σ H1 fun vs zs H2 => vs.length = n ∧ zs.length = ks.length ∧ spOfX X.K dsp (gat src (x :: vs) dvs zs) H2 Q (WE U.W σ)) I
    (tof_in w rs h fun v1 H1 m1 d1 S1 e1 w1 r1 ⟨kf, df, h1, h2, h3⟩ => ?_)) fun u s1 ⟨x, H1, I1, rx, a, dx, fs, ex, ea, l, q⟩ => ?_) ht
  · obtain ⟨a, dx, vs, ev, hha, hlen, hrr⟩ := objOf_rep w1 r1 h1
    refine ⟨a, dx, _, ev, hha, zip_lookup_none h2, m1, S1, Z, ρ, _, w1, rs.ext e1, h3, fun vs zs H2 m2 as zd S2 e2 w2 r2 r3 h4 => ?_⟩
    exact ⟨by rw [Reps.len r2]; exact h4.1, by rw [Reps.len r3]; exact h4.2.1, m2, S2, Z, gat src (d1 :: as) dds zd, _, _, w2.w0, gat_reps (Reps.cons (r1.ext e2) r2) hd r3, h4.2.2, (kk.ext (e1.trans e2)).to0 w2, outX_of w2 (rs.ext (e1.trans e2))⟩
  · subst ex
    obtain rfl : u = Value.ref a := rx
    refine getmeth_ok I1 ea F.cl hm l ?_
    refine ha.run pins s1 σ H1 _ (.ref f) [.ref a] _ I1 hm.kp q fun us ws vs zs s2 H2 I2 rv rz ⟨l1, l2, hs⟩ => ?_
    exact run_fnS' FO hr KB (passAt tk σ) I2 (us := .ref a :: us) (vs := .ref a :: vs) (.cons rfl rv) rz (congrArg Nat.succ l1) l2 hs
theorem spOfX_len {K : PySem.W.Frag} (hl : ∀ ds S q qx, dsp ds S q qx → ds.length = ps.length) : ∀ vs H Q E, spOfX K dsp vs H Q E → vs.length = ps.length := fun vs H Q E ⟨m, S, Z, ds, q, qx, w, r, h, k⟩ => by rw [Reps.len r]; exact hl ds S q qx h
theorem d_makeX (tk : Takes X U.W) (F : CFnX X.prog X.w X.K X.mg X.base x C qual st dvs k ps dsp) (hr : RoomG (k + 1) X.A) (hg : Gl X x) (b : Bnd "__init__" qual st ps (n + 1) ks src dvs.length) (hd : DfV dds dvs) (ha : PArgs X es kws pos ks (tof2 X.K U ga)) (hdb : (x == ("__debug__" : Str)) = false := by decide) :
    PE X (.Call (.Name x p) es kws pos) (tofE X.K U (gMakeX U.D C n ks.length src dds dsp ga)) := by
  refine ⟨fun pins s σ H Q I ⟨mm, S, Z, ρ, q, w, rs, h, kk⟩ => ?_⟩
  obtain ⟨f, fd, FS, MK, FO⟩ := F.ex
  obtain ⟨its, KB⟩ := kbn_of FS b
  refine wpAny_Call_Name_kw (ld_glob I hg F.mC ?_ hdb)
  refine ha.run pins s σ H (fun vs zs H2 => vs.length = n ∧ zs.length = ks.length ∧ ∀ x dx, H2 x = none → H2 dx = none → dx ≠ x → spOfX X.K dsp (gat src (.ref x :: vs) dvs zs) (L2.upd (L2.upd H2 dx (.own x)) x (.ins C dx [])) (fun v H3 => v = .non ∧ Q (.ref x) H3) (WE U.W σ)) (.ref C) [] _ I MK.kp
    ⟨mm, S, Z, ρ, _, w, rs, h, fun vs zs H2 m2 as zd S2 e2 w2 r2 r3 h4 => ?_⟩ fun us ws vs zs s1 H1 I1 rv rz ⟨l1, l2, hs⟩ => run_makeS MK FO hr KB (passAt tk σ) I1 rv rz l1 l2 hs
  refine ⟨by rw [Reps.len r2]; exact h4.1, by rw [Reps.len r3]; exact h4.2.1, fun a dx ha hdx hne => ?_⟩
  obtain ⟨m', e0, w3, e3⟩ := made_in (C := C) w2 ha hdx hne
  refine ⟨m', _, Z, gat src (.loc S2.length :: as) dds zd, _, _, w3.w0, gat_reps (Reps.cons (rep_loc e0 (by simp)) (r2.ext e3)) hd (r3.ext e3), h4.2.2 (Reps.below r2) (Reps.below r3), fun v H5 m5 d5 S5 e5 w5 r5 ⟨hv, kf, df, eS, hu, h5⟩ => ?_, outX_of w3 (rs.ext (e2.trans e3))⟩
  subst hv
  refine ⟨r5, ?_⟩
  subst eS
  have hN : (S2 ++ [some (MO.obj C kf df)])[S2.length]? = some (some (.obj C kf df)) := by simp
  have ht : (S2 ++ [some (MO.obj C kf df)]).take S2.length = S2 := by simp
  have hle : S2.length ≤ (S2 ++ [some (MO.obj C kf df)]).length := by simp
  have w6 := w5.toWd0.take (n := S2.length) hle (by rw [ht]; exact w2.under)
  have e6 := (e3.trans e5).take (n := S2.length) (Nat.le_refl _) hle
  have r6 := w5.frozen_obj hN
  rw [ht] at w6 e6
  have em : m5 S2.length = a := by rw [e5.loc _ (by simp), e0]
  have r7 : Rep X.K m5 S2.length (vis m5 S2 Z H5) (.obj C kf df) (.ref a) := by
    have z := Rep.cut (n := S2.length) (by rw [List.length_set]; exact hle) (Rep.mono (fun _ _ => rfl) (Nat.le_refl _) (fun a o z => vis_take (n := S2.length) z) r6) (by simpa [D.under] using hu)
    rw [take_setN (Nat.le_refl _), ht, em] at z
    exact z
  exact kk.at (e2.trans e6) (w2.on e6 w6) r7 h5
end
/-! ### bodies -/
/-- an exception that leaves: the store cut back -/
def finX (n : Nat) (qx : XE_) : XW := fun c fs ds _ S' => Sto.under n (S'.take n) = true ∧ D.unders n ds = true ∧ qx c fs ds (S'.take n)
section
variable {P : Program} {w : World} {K : PySem.W.Frag} {mg : Str → Option Value} {base : Heap} {x m qual : Str} {st : Stmt} {dvs : List V} {f : Addr} {fd : FuncData} {N ps : List Str} {k : Nat} {dsp : XSp} {C : Addr}
theorem up_fin {mm : Nat → Addr} {S : Sto} {Z : Addr → Prop} {H : Hp} {qx : XE_} {E : XK} (k : OutX K mm S Z H qx E) : Up K ⟨fun c d _ H' => E c d H', finX S.length qx⟩ mm S Z H := by
  intro H' m' S' σ' ρ' c dd ks ds vs e w0 rs xd l r ⟨h1, h2, h3⟩
  have e2 := e.take (n := S.length) (Nat.le_refl _) e.len
  have len : (S'.take S.length).length = S.length := by rw [List.length_take]; have := e.len; omega
  refine k H' m' (S'.take S.length) c dd ks ds vs e2 (w0.take e.len h1) (xd.sub fun a o z => vis_take z) l ?_ h3
  rw [len]
  exact Reps.cut e.len (Reps.mono (fun _ _ => rfl) (Nat.le_refl _) (fun a o z => vis_take z) r) h2
theorem fnx_body (F : FunS K x qual st dvs f fd) (S : FnScope N ps (defScope st)) (len : ∀ ds S q qx, dsp ds S q qx → ds.length = ps.length) (g : XW → GS)
    (hbody : ∀ (cdv : Value) (A : Around) (outer : List Env) (s : Shared) (H : Hp) (E : XK) (U : Wi), RoomG k (A.deeper (envOfC qual (defScope st) s.heap.objs.size f cdv)) → Takes (cxOf (CX P w) P w K mg base N qual (defScope st) f cdv A outer s H E) U.W →
      PSs (cxOf (CX P w) P w K mg base N qual (defScope st) f cdv A outer s H E) (defBody st) (tofS K U (g U.D)))
    (hread : ∀ ds S q qx, D.unders S.length ds = true → Sto.under S.length S = true → dsp ds S q qx → g (finX S.length qx) { nx := fun _ S' => fin S.length q .non S', rt := fin S.length q } (startD N ds) S) : FnG P w K mg base (CX P w) (k + 1) f fd ps (spOfX K dsp) := by
  refine FnG.by_body F S (spOfX_len len) fun cdv A outer s H vs Q E hr ⟨m, St', Z, ds, q, qx, wd, rd, hd, kk, kx⟩ => ?_
  let U : Wi := ⟨fun c d _ H' => E c d H', finX St'.length qx⟩
  have wu : Wd K U m St' Z H := ⟨wd.toWd0, up_fin kx⟩
  have k2 : Outs m St' Z H K U (rD K) q Q := fun b H' m' a S' e w1 r h => kk b H' m' a S' e w1.w0 r h
  refine ⟨_, hbody cdv A outer s H E U hr (takes_of rfl rfl rfl rfl), m, St', Z, startD N ds, _, wu, relS_start rd, hread ds St' q qx (Reps.below rd) wd.under hd, ⟨?_, out_fin wu k2, ?_, ?_⟩⟩
  · exact fun σ' H' m' ρ' S' e' w' _ h' => out_fin wu k2 .non H' m' .non S' e' w' rep_non h'
  · exact fun _ _ _ _ _ _ _ _ h => h.elim
  · exact fun _ _ _ _ _ _ _ _ h => h.elim
theorem fncX_of (B : FnB K mg x st dvs) (S : FnScope N ps (defScope st)) (len : ∀ ds S q qx, dsp ds S q qx → ds.length = ps.length) (g : XW → GS)
    (hbody : ∀ (f : Addr) (cdv : Value) (A : Around) (outer : List Env) (s : Shared) (H : Hp) (E : XK) (U : Wi), RoomG k (A.deeper (envOfC x (defScope st) s.heap.objs.size f cdv)) → Takes (cxOf (CX P w) P w K mg base N x (defScope st) f cdv A outer s H E) U.W →
      PSs (cxOf (CX P w) P w K mg base N x (defScope st) f cdv A outer s H E) (defBody st) (tofS K U (g U.D)))
    (hread : ∀ ds S q qx, D.unders S.length ds = true → Sto.under S.length S = true → dsp ds S q qx → g (finX S.length qx) { nx := fun _ S' => fin S.length q .non S', rt := fin S.length q } (startD N ds) S) : FncX P w K mg base x st dvs (k + 1) ps dsp := by
  obtain ⟨f, fd, F, hm⟩ := B.ex
  exact ⟨f, fd, F, hm, fnx_body F S len g (hbody f) hread⟩
theorem mfnX_of (c : Cls K C) (B : MtB K C m qual st dvs) (S : FnScope N ps (defScope st)) (len : ∀ ds S q qx, dsp ds S q qx → ds.length = ps.length) (g : XW → GS)
    (hbody : ∀ (f : Addr) (cdv : Value) (A : Around) (outer : List Env) (s : Shared) (H : Hp) (E : XK) (U : Wi), RoomG k (A.deeper (envOfC qual (defScope st) s.heap.objs.size f cdv)) → Takes (cxOf (CX P w) P w K mg base N qual (defScope st) f cdv A outer s H E) U.W →
      PSs (cxOf (CX P w) P w K mg base N qual (defScope st) f cdv A outer s H E) (defBody st) (tofS K U (g U.D)))
    (hread : ∀ ds S q qx, D.unders S.length ds = true → Sto.under S.length S = true → dsp ds S q qx → g (finX S.length qx) { nx := fun _ S' => fin S.length q .non S', rt := fin S.length q } (startD N ds) S) : MFnX P w K mg base C m qual st dvs (k + 1) ps dsp := by
  obtain ⟨f, fd, F, hm⟩ := B.ex
  exact ⟨c, f, fd, F, hm, fnx_body F S len g (hbody f) hread⟩
/-- nothing is cut back -/
theorem fnx_body0 (F : FunS K x qual st dvs f fd) (S : FnScope N ps (defScope st)) (len : ∀ ds S q qx, dsp ds S q qx → ds.length = ps.length) (g : XW → GS)
    (hbody : ∀ (cdv : Value) (A : Around) (outer : List Env) (s : Shared) (H : Hp) (E : XK) (U : Wi), RoomG k (A.deeper (envOfC qual (defScope st) s.heap.objs.size f cdv)) → Takes (cxOf (CX P w) P w K mg base N qual (defScope st) f cdv A outer s H E) U.W →
      PSs (cxOf (CX P w) P w K mg base N qual (defScope st) f cdv A outer s H E) (defBody st) (tofS K U (g U.D)))
    (hread : ∀ ds S q qx, D.unders S.length ds = true → Sto.under S.length S = true → dsp ds S q qx → g (fun c fs ds _ S' => qx c fs ds S') { nx := fun _ S' => q .non S', rt := q } (startD N ds) S) : FnG P w K mg base (CX P w) (k + 1) f fd ps (spOfX K dsp) := by
  refine FnG.by_body F S (spOfX_len len) fun cdv A outer s H vs Q E hr ⟨m, St', Z, ds, q, qx, wd, rd, hd, kk, kx⟩ => ?_
  let U : Wi := ⟨fun c d _ H' => E c d H', fun c fs ds _ S' => qx c fs ds S'⟩
  have wu : Wd K U m St' Z H := ⟨wd.toWd0, fun H' m' S' σ' ρ' c dd ks ds vs e w0 rs xd l r h => kx H' m' S' c dd ks ds vs e w0 xd l r h⟩
  have k2 : Outs m St' Z H K U (rD K) q Q := fun b H' m' a S' e w1 r h => kk b H' m' a S' e w1.w0 r h
  refine ⟨_, hbody cdv A outer s H E U hr (takes_of rfl rfl rfl rfl), m, St', Z, startD N ds, _, wu, relS_start rd, hread ds St' q qx (Reps.below rd) wd.under hd, ⟨?_, k2, ?_, ?_⟩⟩
  · exact fun σ' H' m' ρ' S' e' w' _ h' => k2 .non H' m' .non S' e' w' rep_non h'
  · exact fun _ _ _ _ _ _ _ _ h => h.elim
  · exact fun _ _ _ _ _ _ _ _ h => h.elim
theorem fncX_of0 (B : FnB K mg x st dvs) (S : FnScope N ps (defScope st)) (len : ∀ ds S q qx, dsp ds S q qx → ds.length = ps.length) (g : XW → GS)
    (hbody : ∀ (f : Addr) (cdv : Value) (A : Around) (outer : List Env) (s : Shared) (H : Hp) (E : XK) (U : Wi), RoomG k (A.deeper (envOfC x (defScope st) s.heap.objs.size f cdv)) → Takes (cxOf (CX P w) P w K mg base N x (defScope st) f cdv A outer s H E) U.W →
      PSs (cxOf (CX P w) P w K mg base N x (defScope st) f cdv A outer s H E) (defBody st) (tofS K U (g U.D)))
    (hread : ∀ ds S q qx, D.unders S.length ds = true → Sto.under S.length S = true → dsp ds S q qx → g (fun c fs ds _ S' => qx c fs ds S') { nx := fun _ S' => q .non S', rt := q } (startD N ds) S) : FncX P w K mg base x st dvs (k + 1) ps dsp := by
  obtain ⟨f, fd, F, hm⟩ := B.ex
  exact ⟨f, fd, F, hm, fnx_body0 F S len g (hbody f) hread⟩
theorem cfnX_of0 (mC : mg x = some (.ref C)) (B : MkB K C qual st dvs) (S : FnScope N ps (defScope st)) (len : ∀ ds S q qx, dsp ds S q qx → ds.length = ps.length) (g : XW → GS)
    (hbody : ∀ (f : Addr) (cdv : Value) (A : Around) (outer : List Env) (s : Shared) (H : Hp) (E : XK) (U : Wi), RoomG k (A.deeper (envOfC qual (defScope st) s.heap.objs.size f cdv)) → Takes (cxOf (CX P w) P w K mg base N qual (defScope st) f cdv A outer s H E) U.W →
      PSs (cxOf (CX P w) P w K mg base N qual (defScope st) f cdv A outer s H E) (defBody st) (tofS K U (g U.D)))
    (hread : ∀ ds S q qx, D.unders S.length ds = true → Sto.under S.length S = true → dsp ds S q qx → g (fun c fs ds _ S' => qx c fs ds S') { nx := fun _ S' => q .non S', rt := q } (startD N ds) S) : CFnX P w K mg base x C qual st dvs (k + 1) ps dsp := by
  obtain ⟨f, fd, F, hm⟩ := B.ex
  exact ⟨mC, f, fd, F, hm, fnx_body0 F S len g (hbody f) hread⟩
end
end Dl
/-! try .. except X as e, the exception kept; by data -/
namespace Dl
open PySem L2 PyProof.Rows
section
variable {X : Cx} {pins : List (Addr × Obj)} {σ : L2.St} {H : Hp} {s sI : Shared}
theorem excO_ok {P : Program} {w : World} {H : Hp} {h : Heap} {a : Addr} {cls : Value} {d : Option Addr} {oe : Obj} {vs : Array Value} (e : h.get? a = some oe) (z : Zc cls d oe) (hd : oe.data = .fields vs) : ObjOk P w H h a (excO cls d a) :=
  ⟨⟨oe, vs, e, z.1, z.2, hd⟩, ⟨oe, e⟩, fun _ _ ⟨o, v, q, r⟩ k => ⟨o, v, k o q, r⟩⟩
/-- an exception that came in is tracked from now on -/
theorem Inv.track (I : Inv X pins σ H s) (J : Inv X pins σ H sI) (hx : X.ex = []) {a : Addr} {φ : HO} (hn : sI.heap.get? a = none) (na : H a = none) (nL : a ≠ X.env.locals) (new : ObjOk X.prog X.w (upd H a φ) s.heap a φ) : Inv X pins σ (upd H a φ) s := by
  have n0 : X.s_0.heap.get? a = none := by
    cases e : X.s_0.heap.get? a with
    | none => rfl
    | some o =>
      obtain ⟨o', q⟩ := J.base.there a o e (by rw [hx]; exact fun z => nomatch z)
      rw [hn] at q
      cases q
  have ne0 : ∀ b o, X.s_0.heap.get? b = some o → b ≠ a := fun b o e z => by
    rw [z, n0] at e
    cases e
  have neH : ∀ {b : Addr} {o : HO}, H b = some o → b ≠ a := fun e => ne_of_none e na
  refine ⟨I.ok, I.os, I.bare, ⟨fun b o e n hb hq => I.base.keep b o e n hb hq, fun b o e n hb hq => I.base.slot b o e n hb hq, fun b o e n hq => ?_, fun b o e hq => I.base.there b o e hq, fun b xs e => ?_, fun b o u e => ?_, fun b ps e => ?_⟩, I.loc, I.cell, ?_, fun x c e => ?_, fun p hp => ?_, fun b u e => ?_, I.len⟩
  · rw [upd_ne (ne0 b o e)]
    exact I.base.free b o e n hq
  · have q := I.base.tups b xs e
    rw [upd_ne (neH q)]
    exact q
  · have q := I.base.frzs b o u e
    rw [upd_ne (neH q)]
    exact q
  · obtain ⟨m, q⟩ := I.base.tbls b ps e
    by_cases hb : b = a
    · rw [hb] at q
      rw [na] at q
      cases q
    · exact ⟨m, by rw [upd_ne hb]; exact q⟩
  · rw [upd_ne (Ne.symm nL)]
    exact I.free
  · obtain ⟨v, o, z, _⟩ := J.cell x c e
    have hc : c ≠ a := fun q => by
      rw [q, hn] at z
      cases z
    rw [upd_ne hc]
    exact I.freeC x c e
  · obtain ⟨e, n, ne, nf, d⟩ := I.pin p hp
    obtain ⟨e', _⟩ := J.pin p hp
    have hc : p.1 ≠ a := fun q => by
      rw [q, hn] at e'
      cases e'
    exact ⟨e, by rw [upd_ne hc]; exact n, ne, nf, d⟩
  · by_cases hb : b = a
    · subst hb
      rw [upd_same] at e
      cases e
      exact new
    · rw [upd_ne hb] at e
      exact (I.hok b u e).stay (fun c v _ q => q) (fun c q => by rw [upd_ne (neH q)]; exact q) fun c xs q => by rw [upd_ne (neH q)]; exact q
theorem Inv.suite0 (I : Inv X pins σ H s) (a : Addr) : Inv (X.suite a X.pn) pins σ H s := ⟨I.ok.suite _ _, I.os, I.bare, I.base, I.loc, I.cell, I.free, I.freeC, I.pin, I.hok, I.len⟩
theorem Inv.unsuite0 {a : Addr} (I : Inv (X.suite a X.pn) pins σ H s) (ok : X.Ok) : Inv X pins σ H s := ⟨ok, I.os, I.bare, I.base, I.loc, I.cell, I.free, I.freeC, I.pin, I.hok, I.len⟩
end
def wTrk (K : PySem.W.Frag) (c : Value) (i : Nat) (ts : TS) (Wout : WX) (D : Ends) : WX := fun cls d σ H =>
  ∃ b, PySem.W.exmOne K cls c = some b ∧ (b = true → ∀ a, H a = none → ts { nx := fun σ' H' => D.nx (σ'.set i none) H', rt := D.rt, bk := fun σ' H' => D.bk (σ'.set i none) H', ct := fun σ' H' => D.ct (σ'.set i none) H' } (σ.set i (some (.ref a))) (upd H a (excO cls d a))) ∧
    (b = false → Wout cls d σ H)
section
variable {X : Cx} {x n : Str} {c : Value} {i : Nat} {body suite : List Stmt} {b₀ : Stmt} {np pos pos' : Pos} {tb : WX → TS} {ts : TS} {Wout : WX}
theorem ps_try_trk (hs : X.stack = X.env :: X.outer) (hf : X.env.frame = some X.env.locals) (hx : X.ex = []) (hN : X.N.Nodup) (hi : X.N[i]? = some n) (hln : X.env.kindOf n = some .local) (hc : Names X x c) (tk : Takes X Wout)
    (hb : ∀ (W : WX) (pn : List (Addr × Obj)) (xe : Value → Shared → Prop), Takes (X.tr pn xe) W → PassesOwn (model X.prog X.w) X.A X.env xe → PSs (X.tr pn xe) body (tb W))
    (hsu : ∀ a : Addr, PSs (X.suite a X.pn) (b₀ :: suite) ts) :
    PS X (.Try body [.ExceptHandler (some (.Name x np)) (some n) (b₀ :: suite) pos'] [] [] pos) (fun D σ H => tb (wTrk X.K c i ts Wout D) D σ H) := by
  refine ⟨fun pins s σ H D I h => ?_⟩
  have ok := I.ok
  have hfr : X.A.frames = some (X.env :: X.outer) := by rw [ok.frames, hs]
  have hloc : Loc X.env.scope n := .inl hln
  refine wpAny_Try_except ?_
  refine wpAny_mono ((hb (wTrk X.K c i ts Wout D) (X.pn ++ pins) (fun e s₁ => wpAny (model X.prog X.w) X.A (noteFrame e X.env) (fun _ s₂ => wpAny (model X.prog X.w) X.A (setFlight e none) (fun _ s₃ =>
    wpAny (model X.prog X.w) X.A (handleBy e X.env [.ExceptHandler (some (.Name x np)) (some n) (b₀ :: suite) pos']) (SP X pins D) X.xe s₃) X.xe s₂) X.xe s₁) (fun u s' xx => ?_) PassesOwn.looking).run [] s σ H D (I.toTry _) h) (fun f s1 hsp => ?_) (fun e s1 he => he)
  · obtain ⟨a, B, sI, pins', σ', H', cls, d, rfl, J', nb, up, sky, na, os, ag, b, hb1, hyes, hno⟩ := xx
    have J : Inv X pins σ' H' sI := J'.ofTry ok
    have sky' : Sky B (X.env :: X.outer) a (Zc cls d) X.env.locals s'.heap := by rw [← hs]; exact sky
    show wpAny (model X.prog X.w) X.A (noteFrame (.ref a) X.env) _ _ _
    refine Sky.land Zc.steady hfr hf sky' fun h3 fl3 up3 => ?_
    have J3 : Inv X pins σ' H' { s' with heap := h3 } := J.landed nb fl3.1 (up.trans up3) os ag
    obtain ⟨oe3, vs3, he3, hz3, hd3⟩ := fl3.there
    have notFr : ∀ {h : Heap} {o : Obj} {vs : Array Value}, h.FunFrames B (X.env :: X.outer) → h.get? a = some o → o.data = .fields vs → a ∉ frs (X.env :: X.outer) := fun {h o vs} ff e dd hm => by
      obtain ⟨_, o', e', hnf⟩ := ff.mem hm
      rw [e] at e'; cases e'
      exact hnf _ dd
    have nfr := notFr fl3.2.2.1 he3 hd3
    have nL : a ≠ X.env.locals := fun z => nfr (List.mem_filterMap.mpr ⟨X.env, List.mem_cons_self, by rw [hf, z]⟩)
    have nF : a ∉ X.fs := fun hm => by
      obtain ⟨e, he, q⟩ := List.mem_filterMap.mp hm
      exact nfr (List.mem_filterMap.mpr ⟨e, List.mem_cons_of_mem _ he, q⟩)
    have hnI : sI.heap.get? a = none := by
      cases e : sI.heap.get? a with
      | none => rfl
      | some o =>
        have z := nb a o e (by rw [hs]; exact nfr)
        rw [fl3.2.1] at z
        cases z
    have S3 := J3.suite he3 hd3 na nL nF
    refine wpAny_handleBy_cons (codeAny_handlers_test ?_) (by intro q; cases q)
    have LT : PySem.W.Looks (model X.prog X.w) h3 (typeOf (.ref a)) cls := fun A Q E s k q => wpAny_typeOf_ref (k _ _ he3) (by rw [hz3.1]; exact q)
    have LM := PySem.W.exm_one (M := model X.prog X.w) (J3.kIn) LT hb1
    have test : ∀ {Q : Value → Shared → Prop} {E : Value → Shared → Prop}, Q c { s' with heap := h3 } → wpAny (model X.prog X.w) (X.A.mark (some (.ref a))) (eval (.Name x np) X.env) Q E { s' with heap := h3 } := fun {Q E} q => by
      obtain ⟨hg, hdbg, hm | ⟨hm, hv, hnn⟩⟩ := hc
      · exact ld_glob (X := X.suite a ((a, oe3) :: (X.pn ++ pins))) S3 hg hm q hdbg
      · exact ld_blt (X := X.suite a ((a, oe3) :: (X.pn ++ pins))) S3 hg hm hv q hnn hdbg
    refine test (LM.here ?_)
    cases b with
    | true =>
      refine codeAny_handlers_suite_as ?_
      refine HandSPX.lands_againZ fl3 fun h4 fl4 up4 => ?_
      have J4 : Inv X pins σ' H' { s' with heap := h4 } := J.landed nb fl4.1 ((up.trans up3).trans up4) os ag
      obtain ⟨oe4, vs4, he4, hz4, hd4⟩ := fl4.there
      have T4 : Inv X pins σ' (upd H' a (excO cls d a)) { s' with heap := h4 } := Dl.Inv.track J4 J hx hnI na nL (excO_ok he4 hz4 hd4)
      refine store_ok (X := X.suite a X.pn) (v := .ref a) (Inv.suite0 T4 a) hN hi hloc rfl (fun s5 S5 => ?_) (.inr hln)
      refine wpAny_mono ((hsu a).run pins s5 _ _ _ S5 (hyes rfl a na)) (fun f s6 hsp => ?_) (fun _ _ z => False.elim z)
      have end_ : ∀ {σ6 : L2.St} {H6 : Hp} {Q : Shared → Prop}, Inv (X.suite a X.pn) pins σ6 H6 s6 → (∀ s7, Inv X pins (σ6.set i none) H6 s7 → Q s7) →
          wpAny (model X.prog X.w) X.A (do bindName X.env n .none; unbindBehindTheSuite X.env n pos') (fun _ s7 => Q s7) X.xe s6 := fun {σ6 H6 Q} S6 hq => gone_ok (Inv.unsuite0 S6 ok) hN hi hln hq
      cases f with
      | next =>
        obtain ⟨σ6, H6, S6, q6⟩ := hsp
        exact end_ S6 fun s7 J7 => ⟨_, _, J7, q6⟩
      | brk =>
        obtain ⟨σ6, H6, S6, q6⟩ := hsp
        exact end_ S6 fun s7 J7 => ⟨_, _, J7, q6⟩
      | cont =>
        obtain ⟨σ6, H6, S6, q6⟩ := hsp
        exact end_ S6 fun s7 J7 => ⟨_, _, J7, q6⟩
      | ret u =>
        obtain ⟨v6, σ6, H6, S6, r6, q6⟩ := hsp
        exact end_ S6 fun s7 J7 => ⟨_, _, _, J7, r6, q6⟩
    | false =>
      show wpAny _ X.A (handleBy (.ref a) X.env []) _ _ _
      refine wpAny_handleBy_nil ?_
      obtain ⟨k1, k2, k3, oe, vs, T, oT, ts', he, hz, hd, h1, hr⟩ := id fl3
      unfold PySem.passOn
      refine wpAny_bind (wpAny_field he hd h1 ?_)
      rw [if_neg (show ¬ ((Value.ref T == Value.none) = true) from by simp)]
      have fin : wpAny (model X.prog X.w) X.A (setFlight (.ref a) X.env.frame) (fun _ s4 => wpAny (model X.prog X.w) X.A (throw (.ref a) : Sem Flow) (SP X pins D) X.xe s4) X.xe { s' with heap := h3 } := by
        rw [hf]
        refine HandSPX.setFlight_upZ fl3 fun h4 hh4 up4 => wpAny_throw (tk _ _ ?_)
        exact ⟨a, B, sI, pins, σ', H', cls, d, rfl, J, nb, (up.trans up3).trans up4, .inr (.inr (by rw [hs]; exact hh4)), na, os, ag, hno rfl⟩
      first
        | exact wpAny_bind (wpAny_pure (wpAny_bind fin))
        | exact wpAny_bind fin
  · cases f with
    | next =>
      obtain ⟨σ', H', J', q⟩ := hsp
      exact wpAny_execs_nil ⟨σ', H', J'.ofTry ok, q⟩
    | brk =>
      obtain ⟨σ', H', J', q⟩ := hsp
      exact ⟨σ', H', J'.ofTry ok, q⟩
    | cont =>
      obtain ⟨σ', H', J', q⟩ := hsp
      exact ⟨σ', H', J'.ofTry ok, q⟩
    | ret u =>
      obtain ⟨v, σ', H', J', r, q⟩ := hsp
      exact ⟨v, σ', H', J'.ofTry ok, r, q⟩
end
/-! ### by data -/
/-- which class a clause takes -/
structure Exm (K : PySem.W.Frag) (cc : Value) (c : XC) (b : Bool) : Prop where
  is : PySem.W.exmOne K c.val cc = some b
/-- try: gb / except cc as i: gs -/
def gTryAs (K : PySem.W.Frag) (WD : XW) (cc : Value) (i : Nat) (gb : XW → GS) (gs : GS) : GS := fun E ρ S =>
  gb (fun c fs ds ρ' S' => ∃ b, Exm K cc c b ∧ (b = true → gs { nx := fun ρ'' S'' => E.nx (ρ''.set i none) S'', rt := E.rt, bk := fun ρ'' S'' => E.bk (ρ''.set i none) S'', ct := fun ρ'' S'' => E.ct (ρ''.set i none) S'' } (ρ'.set i (some (.exc c fs ds))) S') ∧ (b = false → WD c fs ds ρ' S')) E ρ S
/-- try: gb / except cc: gs -/
def gTryO (K : PySem.W.Frag) (WD : XW) (cc : Value) (gb : XW → GS) (gs : GS) : GS := fun E ρ S =>
  gb (fun c fs ds ρ' S' => ∃ b, Exm K cc c b ∧ (b = true → gs E ρ' S') ∧ (b = false → WD c fs ds ρ' S')) E ρ S
section
variable {X : Cx} {x n : Str} {c : Value} {i : Nat} {body suite : List Stmt} {b₀ : Stmt} {np pos pos' : Pos} {U : Wi} {gb : XW → GS} {gs : GS}
theorem pss_ex {ι : Type} {X : Cx} {body : List Stmt} {t : ι → TS} (h : ∀ j, PSs X body (t j)) : PSs X body (fun D σ H => ∃ j, t j D σ H) := ⟨fun pins s σ H D I ⟨j, q⟩ => (h j).run pins s σ H D I q⟩
theorem RelS.setN {K : PySem.W.Frag} {m : Nat → Addr} {N : Nat} {Hv : Hp} {ρ : Env_} {σ : L2.St} {i : Nat} (r : RelS K m N Hv ρ σ) : RelS K m N Hv (ρ.set i none) (σ.set i none) := by
  refine ⟨by simpa using r.1, fun j d h => ?_⟩
  by_cases hj : j = i
  · subst hj
    by_cases hl : j < ρ.length
    · rw [List.getElem?_set_self hl] at h; cases h
    · rw [List.getElem?_eq_none (by simpa using hl)] at h; cases h
  · rw [List.getElem?_set_ne (Ne.symm hj)] at h
    obtain ⟨v, h1, h2⟩ := r.2 j d h
    exact ⟨v, by rw [List.getElem?_set_ne (Ne.symm hj)]; exact h1, h2⟩
theorem d_tryAs (tk : Takes X U.W) (hc : Names X x c) (hb : ∀ (U' : Wi) (pn : List (Addr × Obj)) (xe : Value → Shared → Prop), Takes (X.tr pn xe) U'.W → PassesOwn (model X.prog X.w) X.A X.env xe → PSs (X.tr pn xe) body (tofS X.K U' (gb U'.D)))
    (hsu : ∀ (a : Addr) (pn : List (Addr × Obj)), PSs (X.suite a pn) (b₀ :: suite) (tofS X.K U gs)) (hN : X.N.Nodup) (hs : X.stack = X.env :: X.outer := by rfl) (hf : X.env.frame = some X.env.locals := by rfl) (hx : X.ex = [] := by rfl) (hi : X.N[i]? = some n := by rfl) (hln : X.env.kindOf n = some .local := by rfl) :
    PS X (.Try body [.ExceptHandler (some (.Name x np)) (some n) (b₀ :: suite) pos'] [] [] pos) (tofS X.K U (gTryAs X.K U.D c i gb gs)) :=
  weakS (ps_try_trk (tb := fun W De σ H => ∃ WD' : XW, tofS X.K ⟨W, WD'⟩ (gb WD') De σ H) hs hf hx hN hi hln hc tk (fun W pn xe tk' pa => pss_ex fun WD' => hb ⟨W, WD'⟩ pn xe tk' pa) fun a => hsu a X.pn) fun De σ H ⟨m, S, Z, ρ, E, w, rs, h, k⟩ => by
    refine ⟨_, m, S, Z, ρ, E, ⟨w.toWd0, ?_⟩, rs, h, ⟨?_, ?_, ?_, ?_⟩⟩
    · intro H' m' S' σ' ρ' cx dd ks ds vs e w0 rs' xd l r ⟨b, h1, h2, h3⟩
      refine ⟨b, h1.is, fun hb a na => ?_, fun hb => w.up H' m' S' σ' ρ' cx dd ks ds vs e w0 rs' xd l r (h3 hb)⟩
      obtain ⟨w1, e1, hv⟩ := (w.on e w0).new (o := excO cx.val dd a) na
      refine ⟨m', S', Z, ρ'.set i (some (.exc cx ks ds)), _, w1, ?_, h2 hb, ⟨?_, ?_, ?_, ?_⟩⟩
      · refine RelS.set (rs'.ext e1) ?_
        rw [Rep]
        exact ⟨a, dd, vs, rfl, hv, Xd.sub e1.vis xd, l, r.ext e1⟩
      · exact fun σ2 H2 m2 ρ2 S2 e2 w2 r2 q => k.nx _ H2 m2 _ S2 ((e.trans e1).trans e2) w2 (RelS.setN r2) q
      · exact k.rt.ext (e.trans e1)
      · exact fun σ2 H2 m2 ρ2 S2 e2 w2 r2 q => k.bk _ H2 m2 _ S2 ((e.trans e1).trans e2) w2 (RelS.setN r2) q
      · exact fun σ2 H2 m2 ρ2 S2 e2 w2 r2 q => k.ct _ H2 m2 _ S2 ((e.trans e1).trans e2) w2 (RelS.setN r2) q
    · exact fun σ2 H2 m2 ρ2 S2 e2 w2 r2 q => k.nx _ H2 m2 _ S2 e2 (w.on e2 w2.toWd0) r2 q
    · exact fun σ2 H2 m2 ρ2 S2 e2 w2 r2 q => k.rt _ H2 m2 _ S2 e2 (w.on e2 w2.toWd0) r2 q
    · exact fun σ2 H2 m2 ρ2 S2 e2 w2 r2 q => k.bk _ H2 m2 _ S2 e2 (w.on e2 w2.toWd0) r2 q
    · exact fun σ2 H2 m2 ρ2 S2 e2 w2 r2 q => k.ct _ H2 m2 _ S2 e2 (w.on e2 w2.toWd0) r2 q
theorem d_tryO (tk : Takes X U.W) (hc : Names X x c) (hb : ∀ (U' : Wi) (pn : List (Addr × Obj)) (xe : Value → Shared → Prop), Takes (X.tr pn xe) U'.W → PassesOwn (model X.prog X.w) X.A X.env xe → PSs (X.tr pn xe) body (tofS X.K U' (gb U'.D)))
    (hsu : ∀ (a : Addr) (pn : List (Addr × Obj)), PSs (X.suite a pn) (b₀ :: suite) (tofS X.K U gs)) (hs : X.stack = X.env :: X.outer := by rfl) (hf : X.env.frame = some X.env.locals := by rfl) :
    PS X (.Try body [.ExceptHandler (some (.Name x np)) none (b₀ :: suite) pos'] [] [] pos) (tofS X.K U (gTryO X.K U.D c gb gs)) :=
  weakS (ps_try_only (tb := fun W De σ H => ∃ WD' : XW, tofS X.K ⟨W, WD'⟩ (gb WD') De σ H) (ts := fun _ _ _ => tofS X.K U gs) hs hf hc tk (fun W pn xe tk' pa => pss_ex fun WD' => hb ⟨W, WD'⟩ pn xe tk' pa) fun a oe cls d pn _ _ => hsu a ((a, oe) :: pn)) fun De σ H ⟨m, S, Z, ρ, E, w, rs, h, k⟩ => by
    refine ⟨_, m, S, Z, ρ, E, ⟨w.toWd0, ?_⟩, rs, h, ⟨?_, ?_, ?_, ?_⟩⟩
    · intro H' m' S' σ' ρ' cx dd ks ds vs e w0 rs' xd l r ⟨b, h1, h2, h3⟩
      refine ⟨b, h1.is, fun hb a na => ?_, fun hb => w.up H' m' S' σ' ρ' cx dd ks ds vs e w0 rs' xd l r (h3 hb)⟩
      exact ⟨m', S', Z, ρ', _, w.on e w0, rs', h2 hb, k.ext e⟩
    · exact fun σ2 H2 m2 ρ2 S2 e2 w2 r2 q => k.nx _ H2 m2 _ S2 e2 (w.on e2 w2.toWd0) r2 q
    · exact fun σ2 H2 m2 ρ2 S2 e2 w2 r2 q => k.rt _ H2 m2 _ S2 e2 (w.on e2 w2.toWd0) r2 q
    · exact fun σ2 H2 m2 ρ2 S2 e2 w2 r2 q => k.bk _ H2 m2 _ S2 e2 (w.on e2 w2.toWd0) r2 q
    · exact fun σ2 H2 m2 ρ2 S2 e2 w2 r2 q => k.ct _ H2 m2 _ S2 e2 (w.on e2 w2.toWd0) r2 q
end
/-! ### its fields, its class -/
/-- what an exception's class must bear so that its instances are looked at -/
structure XLk (K : PySem.W.Frag) (C : Addr) : Prop where
  ga : PySem.W.findIn K (.ref C) "__getattribute__" = some (some (.builtin "BaseException.__getattribute__"))
  gg : PySem.W.findIn K (.ref C) "__getattr__" = some none
  exC : PySem.W.subIn K (.ref C) (.type "BaseException") = some true
  hdC : PySem.W.hasDictIn K C = true
  ha : PySem.W.findIn K (.ref C) "__class__" = some (some (.builtin "object.__class__"))
  hn : PySem.W.specialIn K (.builtin "object.__class__") "__get__" = some (some (.builtin "getset_descriptor.__get__"))
  ht : PySem.W.takesIn K (.builtin "object.__class__") = some true
  hm : PySem.W.mroIn K C (.type "object") = some true
structure XFd (K : PySem.W.Frag) (C : Addr) (f : Str) : Prop where
  lk : XLk K C
  no : PySem.W.findIn K (.ref C) f = some none
/-- the object of a tracked exception, as the looks ask -/
theorem exc_inst {P : Program} {w : World} {H : Hp} {h : Heap} {a C : Addr} {d : Option Addr} {fs : List (Str × V)} (hok : HOk P w H h) (ea : H a = some (excO (.ref C) d a)) (xd : Xd H d fs) :
    ∃ ox od, PySem.W.InstAt h a ox C od ∧ ∀ f v, fs.lookup f = some v → ∃ u oo, od = some oo ∧ RelV v u ∧ PySem.W.lookIn f oo = some (some u) := by
  obtain ⟨⟨oe, vs, e, h1, h2, h3⟩, _⟩ := hok a _ ea
  cases d with
  | none =>
    refine ⟨oe, none, ⟨e, h1, by unfold PySem.W.notCls; rw [h3] <;> rfl, by rw [h2]; trivial⟩, fun f v q => ?_⟩
    have z : fs = [] := xd
    rw [z] at q
    cases q
  | some dd =>
    have hx : ObjOk P w H h dd (.xd fs) := hok dd _ xd
    obtain ⟨mA, hns, hr⟩ := hx
    obtain ⟨od, ho, hl⟩ := lookIn_ns hns
    refine ⟨oe, some od, ⟨e, h1, by unfold PySem.W.notCls; rw [h3] <;> rfl, by rw [h2]; exact ho⟩, fun f v q => ?_⟩
    obtain ⟨u, hu, ru⟩ := RelO.some_of (v := v) (o := mA f) (by rw [← q]; exact hr f)
    exact ⟨u, od, rfl, ru, by rw [hl, hu]⟩
def tXfT (K : PySem.W.Frag) (f : Str) (te : TE) : TE := fun σ H Q => te σ H fun x H1 => ∃ a C d fs v, x = .ref a ∧ H1 a = some (excO (.ref C) d a) ∧ Xd H1 d fs ∧ XFd K C f ∧ fs.lookup f = some v ∧ Q v H1
theorem pe_xfT {X : Cx} {e : Expr} {te : TE} {pos : Pos} {n : Str} (he : PE X e te) (hb : attributeBase e n X.env (eval e X.env) = eval e X.env := by rfl) : PE X (.Attribute e n pos) (tXfT X.K n te) := by
  refine ⟨fun pins s σ H Q I h => ?_⟩
  refine attr_of hb (thn (he.run pins s σ H _ I h) fun u s1 hh => ?_)
  obtain ⟨x, H1, I1, rx, a, C, d, fs, v, ex, ea, xd, F, l, q⟩ := hh
  subst ex
  obtain rfl : u = Value.ref a := rx
  obtain ⟨ox, od, J, hl⟩ := exc_inst I1.hok ea xd
  obtain ⟨u, oo, rfl, ru, hu⟩ := hl _ _ l
  exact HandSPX.exc_get I1.kIn J F.lk.ga F.lk.gg F.lk.exC (PySem.W.findObj_own F.lk.hdC F.no rfl hu) (handed_of ru) ⟨v, H1, I1.tok _, ru, q⟩
def gFldX (K : PySem.W.Frag) (f : Str) (go : G D) : G D := fun ρ S q => go ρ S fun o S1 => ∃ C ks ds d, o = .exc (.own C) ks ds ∧ XFd K C f ∧ fget f ks ds = some d ∧ q d S1
theorem d_fldX {X : Cx} {e : Expr} {pos : Pos} {f : Str} {go : G D} {U : Wi} (he : PE X e (tofE X.K U go)) (hb : attributeBase e f X.env (eval e X.env) = eval e X.env := by rfl) : PE X (.Attribute e f pos) (tofE X.K U (gFldX X.K f go)) :=
  weakE (pe_xfT he hb) fun σ H Q ⟨m, S, Z, ρ, q, w, rs, h, k⟩ => tof_in w rs h fun v1 H1 m1 d1 S1 e1 w1 r1 ⟨C, ks, ds, d, h1, h2, h3, h4⟩ => by
    subst h1
    have r1' : Rep X.K m1 S1.length (vis m1 S1 Z H1) (.exc (.own C) ks ds) v1 := r1
    rw [Rep] at r1'
    obtain ⟨a, dd, vs, ev, ha, xd, hl, hr⟩ := r1'
    obtain ⟨v, hv, rv⟩ := reps_fget hr h3
    exact ⟨a, C, dd, _, v, ev, vis_sub ha, Xd.sub (fun _ _ => vis_sub) xd, h2, hv, k.at e1 w1 rv h4⟩
/-! isinstance -/
def rIsX (K : PySem.W.Frag) : List V → Hp → VK → Prop := fun xs H Q => ∃ (a C : Addr) (d : Option Addr) (fs : List (Str × V)) (c : V) (b : Bool), xs = [.ref a, c] ∧ H a = some (excO (.ref C) d a) ∧ Xd H d fs ∧ XLk K C ∧ Q (.bl b) H ∧
  ((∃ u, ClsV c u ∧ PySem.W.kitOne K (.ref C) u = some b) ∨ ∃ tp cs us, c = .ref tp ∧ SqT K H tp cs ∧ Paired ClsV cs us ∧ PySem.W.kitAny K (.ref C) us = some b)
theorem call_isX {X : Cx} : CallR X (.builtin "isinstance") (rIsX X.K) := by
  intro pins s σ H xs us Q I r h
  obtain ⟨a, C, d, fs, c, b, rfl, ea, xd, L, q, h⟩ := h
  obtain ⟨u1, u2, rfl, r1, r2⟩ := vals2 r
  obtain rfl : u1 = Value.ref a := r1
  obtain ⟨ox, od, J, _⟩ := exc_inst I.hok ea xd
  have hcl : (PySem.W.clsIn X.K C).isSome = true := by
    obtain ⟨cd, hc, _⟩ := PySem.W.any_some L.hdC
    rw [hc]
    rfl
  have Z := PySem.W.kitx_exc (K := X.K) (x := a) (ox := ox) (od := od) hcl L.ga L.gg L.exC L.ha L.hn L.ht L.hm
  rcases h with ⟨u, k, e⟩ | ⟨tp, cs, ws, ec, hT, k, e⟩
  · have e2 := k.eq r2
    subst e2
    exact PySem.W.kia_one Z I.kIn J e (fun z => nomatch z) fun tk => ⟨.bl b, H, I.tok tk, rfl, q⟩
  · subst ec
    cases (show u2 = Value.ref tp from r2)
    obtain ⟨its, rv, ⟨o, hget, h2, n, h3⟩, _⟩ := I.tuple hT
    have e3 := ClsV.all k rv
    subst e3
    obtain ⟨oc, od', dt, sl⟩ := o
    dsimp only at h2 h3
    subst h2
    subst h3
    exact PySem.W.kia_tup Z I.kIn J hget e (fun z => nomatch z) fun tk => ⟨.bl b, H, I.tok tk, rfl, q⟩
def clsD : D → Option Value
  | .ref C => some (.ref C)
  | .ty n => some (.type n)
  | _ => none
structure KitX (K : PySem.W.Frag) (C : Addr) (u : Value) (b : Bool) : Prop where
  is : PySem.W.kitOne K (.ref C) u = some b
def isXs (K : PySem.W.Frag) (C : Addr) : List D → (Bool → Prop) → Prop
  | [], q => q false
  | d :: r, q => ∃ u b, clsD d = some u ∧ KitX K C u b ∧ (b = true → q true) ∧ (b = false → isXs K C r q)
theorem isXs_of {K : PySem.W.Frag} {C : Addr} {m : Nat → Addr} {N : Nat} {Hv : Hp} : ∀ {ds : List D} {vs : List V} {q : Bool → Prop}, Reps K m N Hv ds vs → isXs K C ds q → True
  | _, _, _, _, _ => trivial
theorem clsD_of {K : PySem.W.Frag} {m : Nat → Addr} {N : Nat} {Hv : Hp} {d : D} {v : V} {u : Value} (r : Rep K m N Hv d v) (h : clsD d = some u) : ClsV v u := by
  cases d with
  | ref C => cases h; rw [Rep] at r; subst r; exact .own C
  | ty n => cases h; rw [Rep] at r; subst r; exact .ty n
  | _ => cases h
def aIsX (K : PySem.W.Frag) : R2D := fun d c S q => ∃ C ks ds, d = .exc (.own C) ks ds ∧ XLk K C ∧ match c with
  | .tup cs => (∀ x ∈ cs, (clsD x).isSome = true) ∧ isXs K C cs fun b => q (.bl b) S
  | c => isXs K C [c] fun b => q (.bl b) S
theorem cls_all {K : PySem.W.Frag} {m : Nat → Addr} {N : Nat} {Hv : Hp} {C : Addr} : ∀ {ds : List D} {vs : List V} {q : Bool → Prop}, Reps K m N Hv ds vs → (∀ x ∈ ds, (clsD x).isSome = true) → isXs K C ds q → (∀ x ∈ ds, ∃ u b, clsD x = some u ∧ KitX K C u b ∨ True) → ∃ us, Paired ClsV vs us ∧ us = ds.filterMap clsD
  | [], _, _, r, _, _, _ => by
    rw [Reps] at r
    subst r
    exact ⟨[], .nil, rfl⟩
  | d :: ds, _, q, r, a, h, _ => by
    rw [Reps] at r
    obtain ⟨v, vs, rfl, r1, r2⟩ := r
    obtain ⟨u, hu⟩ := Option.isSome_iff_exists.mp (a d List.mem_cons_self)
    have rest : ∀ {ds : List D} {vs : List V}, Reps K m N Hv ds vs → (∀ x ∈ ds, (clsD x).isSome = true) → Paired ClsV vs (ds.filterMap clsD) := by
      intro ds
      induction ds with
      | nil => intro vs r _; rw [Reps] at r; subst r; exact .nil
      | cons d ds ih =>
        intro vs r a
        rw [Reps] at r
        obtain ⟨v, vs, rfl, r1, r2⟩ := r
        obtain ⟨u, hu⟩ := Option.isSome_iff_exists.mp (a d List.mem_cons_self)
        rw [List.filterMap_cons, hu]
        exact .cons (clsD_of r1 hu) (ih r2 fun x hx => a x (List.mem_cons_of_mem _ hx))
    refine ⟨_, ?_, rfl⟩
    rw [List.filterMap_cons, hu]
    exact .cons (clsD_of r1 hu) (rest r2 fun x hx => a x (List.mem_cons_of_mem _ hx))
theorem isXs_any {K : PySem.W.Frag} {C : Addr} : ∀ {ds : List D} {q : Bool → Prop}, isXs K C ds q → ∃ b, PySem.W.kitAny K (.ref C) (ds.filterMap clsD) = some b ∧ q b
  | [], q, h => ⟨false, rfl, h⟩
  | d :: r, q, ⟨u, b, e, k, h1, h2⟩ => by
    rw [List.filterMap_cons, e]
    cases b with
    | true => exact ⟨true, kitAny_cons k.is (fun z => nomatch z) fun _ => rfl, h1 rfl⟩
    | false =>
      obtain ⟨b', i1, i2⟩ := isXs_any (h2 rfl)
      exact ⟨b', kitAny_cons k.is (fun _ => i1) fun z => (nomatch z), i2⟩
theorem vr_isX {K : PySem.W.Frag} : VRN K (rIsX K) (a2 (aIsX K)) := vrn2 fun {_ m S Z H d c v u q Q} w r1 r2 ⟨C, ks, ds, e1, L, h⟩ k => by
  subst e1
  rw [Rep] at r1
  obtain ⟨a, dd, vs, ev, ha, xd, hl, hr⟩ := r1
  have ha' := vis_sub ha
  have xd' := Xd.sub (fun _ _ => vis_sub) xd
  have one : ∀ {c : D}, Rep K m S.length (vis m S Z H) c u → (isXs K C [c] fun b => q (.bl b) S) → rIsX K [v, u] H Q := fun {c} r2 ⟨u', b, e, kx, h1, h2⟩ => by
    refine ⟨a, C, dd, _, u, b, by rw [ev], ha', xd', L, ?_, .inl ⟨u', clsD_of r2 e, kx.is⟩⟩
    cases b with
    | true => exact k.now w rep_bl (h1 rfl)
    | false => exact k.now w rep_bl (h2 rfl)
  cases c with
  | tup cs =>
    obtain ⟨hall, h⟩ := h
    rw [Rep] at r2
    obtain ⟨tp, ws, eu, hT, rr⟩ := r2
    obtain ⟨b, hb, hq⟩ := isXs_any h
    obtain ⟨us, hp, rfl⟩ := cls_all rr hall h fun x _ => ⟨.none, true, .inr trivial⟩
    have hT' : SqT K H tp ws := by
      rcases hT with (z | ⟨o, z⟩) | z
      · exact .inl (.inl (vis_sub z))
      · exact .inl (.inr ⟨o, vis_sub z⟩)
      · exact .inr z
    exact ⟨a, C, dd, _, u, b, by rw [ev], ha', xd', L, k.now w rep_bl hq, .inr ⟨tp, ws, _, eu, hT', hp, hb⟩⟩
  | _ => exact one r2 h
end Dl
/-! exceptions: facts of their classes, as a text gives them; readings -/
namespace Dl
open PySem L2 PyProof.Rows
structure XIn (K : PySem.W.Frag) (C : Addr) (qual : Str) (st : Stmt) : Prop where
  ex : ∃ f fd, FunS K "__init__" qual st [] f fd ∧ PySem.W.findIn K (.ref C) "__init__" = some (some (.ref f)) ∧ PySem.W.typeIn K (.ref f) = some (.type "function")
section
variable {P : Program} {w : World} {K : PySem.W.Frag} {mg : Str → Option Value} {base : Heap} {x qual : Str} {C : Addr} {st : Stmt} {ps : List Str} {B newId initId : String} {bm : List Value} {f1 f2 f3 : Str}
theorem xcls1 (mC : mg x = some (.ref C)) (T : ExT K C B newId initId bm) (I : XIn K C qual st) (S : FnScope ps ps (defScope st)) (hp : ps.length = 2) (n1 : PySem.W.findIn K (.ref C) f1 = some none)
    (body : ∀ (f : Addr) (cdv : Value) (A : Around) (outer : List Env) (s : Shared) (H : Hp) (E : XK), PSs (cxOf CX0 P w K mg base ps qual (defScope st) f cdv A outer s H E).nox (defBody st) (tI1 K f1)) : XCls P w K mg base x C st qual ps [f1] := by
  obtain ⟨f, fd, F, h1, h2⟩ := I.ex
  exact ⟨mC, ⟨B, newId, initId, bm, T⟩, hp, f, fd, F, h1, h2, init1 T n1 F S hp (body f)⟩
theorem xcls2 (mC : mg x = some (.ref C)) (T : ExT K C B newId initId bm) (I : XIn K C qual st) (S : FnScope ps ps (defScope st)) (hp : ps.length = 3) (n1 : PySem.W.findIn K (.ref C) f1 = some none) (n2 : PySem.W.findIn K (.ref C) f2 = some none)
    (body : ∀ (f : Addr) (cdv : Value) (A : Around) (outer : List Env) (s : Shared) (H : Hp) (E : XK), PSs (cxOf CX0 P w K mg base ps qual (defScope st) f cdv A outer s H E).nox (defBody st) (tI2 K f1 f2)) : XCls P w K mg base x C st qual ps [f1, f2] := by
  obtain ⟨f, fd, F, h1, h2⟩ := I.ex
  exact ⟨mC, ⟨B, newId, initId, bm, T⟩, hp, f, fd, F, h1, h2, init2 T n1 n2 F S hp (body f)⟩
theorem xcls3 (mC : mg x = some (.ref C)) (T : ExT K C B newId initId bm) (I : XIn K C qual st) (S : FnScope ps ps (defScope st)) (hp : ps.length = 4) (n1 : PySem.W.findIn K (.ref C) f1 = some none) (n2 : PySem.W.findIn K (.ref C) f2 = some none) (n3 : PySem.W.findIn K (.ref C) f3 = some none)
    (body : ∀ (f : Addr) (cdv : Value) (A : Around) (outer : List Env) (s : Shared) (H : Hp) (E : XK), PSs (cxOf CX0 P w K mg base ps qual (defScope st) f cdv A outer s H E).nox (defBody st) (tI3 K f1 f2 f3)) : XCls P w K mg base x C st qual ps [f1, f2, f3] := by
  obtain ⟨f, fd, F, h1, h2⟩ := I.ex
  exact ⟨mC, ⟨B, newId, initId, bm, T⟩, hp, f, fd, F, h1, h2, init3 T n1 n2 n3 F S hp (body f)⟩
end
theorem tk0 {X : Cx} : Takes X U0.W := takes0
theorem names_own {X : Cx} {x : Str} {c : Value} (hg : Gl X x) (hm : X.mg x = some c) (hd : (x == ("__debug__" : Str)) = false := by decide) : Names X x c := ⟨hg, hd, .inl hm⟩
section
variable {P : Program} {w : World} {K : PySem.W.Frag} {mg : Str → Option Value} {base : Heap} {m qual : Str} {st : Stmt} {dvs : List V} {N ps : List Str} {k : Nat} {dsp : XSp} {C : Addr}
theorem mfnX_of0 (c : Cls K C) (B : MtB K C m qual st dvs) (S : FnScope N ps (defScope st)) (len : ∀ ds S q qx, dsp ds S q qx → ds.length = ps.length) (g : XW → GS)
    (hbody : ∀ (f : Addr) (cdv : Value) (A : Around) (outer : List Env) (s : Shared) (H : Hp) (E : XK) (U : Wi), RoomG k (A.deeper (envOfC qual (defScope st) s.heap.objs.size f cdv)) → Takes (cxOf (CX P w) P w K mg base N qual (defScope st) f cdv A outer s H E) U.W →
      PSs (cxOf (CX P w) P w K mg base N qual (defScope st) f cdv A outer s H E) (defBody st) (tofS K U (g U.D)))
    (hread : ∀ ds S q qx, D.unders S.length ds = true → Sto.under S.length S = true → dsp ds S q qx → g (fun c fs ds _ S' => qx c fs ds S') { nx := fun _ S' => q .non S', rt := q } (startD N ds) S) : MFnX P w K mg base C m qual st dvs (k + 1) ps dsp := by
  obtain ⟨f, fd, F, hm⟩ := B.ex
  exact ⟨c, f, fd, F, hm, fnx_body0 F S len g (hbody f) hread⟩
end
/-! ### readings -/
section
variable {K : PySem.W.Frag} {S : Sto} {q : D → Sto → Prop}
theorem x_exm {cc : Value} {c : XC} {b : Bool} {P1 P2 : Prop} (h : Exm K cc c b) : (∃ b', Exm K cc c b' ∧ (b' = true → P1) ∧ (b' = false → P2)) ↔ if b = true then P1 else P2 := by
  constructor
  · rintro ⟨b', h', h1, h2⟩
    have e : b' = b := by
      have := h'.is.symm.trans h.is
      exact Option.some.inj this
    subst e
    cases b' with
    | true => exact h1 rfl
    | false => exact h2 rfl
  · intro z
    refine ⟨b, h, fun e => ?_, fun e => ?_⟩
    · rwa [if_pos e] at z
    · rwa [if_neg (by rw [e]; decide)] at z
theorem x_isX1 {C : Addr} {ks : List Str} {ds : List D} {c : D} {u : Value} {b : Bool} (L : XLk K C) (hc : clsD c = some u) (hk : KitX K C u b) (h : q (.bl b) S) : aIsX K (.exc (.own C) ks ds) c S q := by
  refine ⟨C, ks, ds, rfl, L, ?_⟩
  have one : isXs K C [c] fun b => q (.bl b) S := ⟨u, b, hc, hk, fun e => by rw [e] at h; exact h, fun e => by rw [e] at h; exact h⟩
  cases c with
  | tup cs => cases hc
  | _ => exact one
/-- none of these classes -/
theorem x_isXT {C : Addr} {ks : List Str} {ds cs : List D} (L : XLk K C) (h : ∀ c ∈ cs, ∃ u, clsD c = some u ∧ KitX K C u false) (hq : q (.bl false) S) : aIsX K (.exc (.own C) ks ds) (.tup cs) S q := by
  refine ⟨C, ks, ds, rfl, L, fun x hx => ?_, ?_⟩
  · obtain ⟨u, e, _⟩ := h x hx
    rw [e]; rfl
  · clear L
    induction cs with
    | nil => exact hq
    | cons c cs ih =>
      obtain ⟨u, e, k⟩ := h c List.mem_cons_self
      exact ⟨u, false, e, k, fun z => (nomatch z), fun _ => ih fun x hx => h x (List.mem_cons_of_mem _ hx)⟩
theorem kitt {C : Addr} {T : String} {b : Bool} (h : PySem.W.subIn K (.ref C) (.type T) = some b) (hm : PySem.W.kitMeta T = true) : PySem.W.kitOne K (.ref C) (.type T) = some b := by
  unfold PySem.W.kitOne PySem.W.kitCls
  rw [if_neg (show ¬ ((Value.ref C == Value.type T) = true) from by simp)]
  dsimp only
  rw [if_pos hm]
  exact h
theorem kitx_ty {C : Addr} {n : String} {b : Bool} (h : PySem.W.kitOne K (.ref C) (.type n) = some b) : KitX K C (.type n) b := ⟨h⟩
end
end Dl
/-! or, and as values, of any plain thing -/
namespace Dl
open PySem L2
def truD : D → Option Bool
  | .non => some false
  | .bl b => some b
  | .int i => some (i != 0)
  | .str x => if x.length ≤ sizeLine then some ((x.length : Int) != 0) else none
  | _ => none
theorem truD_of {K : PySem.W.Frag} {m : Nat → Addr} {N : Nat} {Hv H : Hp} {d : D} {v : V} {k : Bool} (r : Rep K m N Hv d v) (h : truD d = some k) : TruV K v H k := by
  cases d with
  | non => cases h; rw [Rep] at r; subst r; exact rfl
  | bl b => cases h; rw [Rep] at r; subst r; exact rfl
  | int i => cases h; rw [Rep] at r; subst r; rfl
  | str x =>
    rw [Rep] at r; subst r
    have h' : (if x.length ≤ sizeLine then some ((x.length : Int) != 0) else none) = some k := h
    show x.length ≤ sizeLine ∧ k = ((x.length : Int) != 0)
    by_cases hl : x.length ≤ sizeLine
    · rw [if_pos hl] at h'; exact ⟨hl, (Option.some.inj h').symm⟩
    · rw [if_neg hl] at h'; cases h'
  | _ => cases h
def gOrT (ga gb : G D) : G D := fun ρ S q => ga ρ S fun d S1 => ∃ k, truD d = some k ∧ if k = true then q d S1 else gb ρ S1 q
def gAndT (ga gb : G D) : G D := fun ρ S q => ga ρ S fun d S1 => ∃ k, truD d = some k ∧ if k = true then gb ρ S1 q else q d S1
section
variable {X : Cx} {U : Wi} {pos : Pos} {a b : Expr} {rest : List Expr} {ga gb : G D}
theorem d_orT (ha : PE X a (tofE X.K U ga)) (hb : PE X (.BoolOp .Or (b :: rest) pos) (tofE X.K U gb)) : PE X (.BoolOp .Or (a :: b :: rest) pos) (tofE X.K U (gOrT ga gb)) :=
  weakE (pe_orT ha hb) fun σ H Q ⟨m, S, Z, ρ, q, w, rs, h, k⟩ => tof_in w rs h fun v1 H1 m1 d1 S1 e1 w1 r1 ⟨c, hc, h1⟩ => by
    refine ⟨c, truD_of r1 hc, ?_⟩
    cases c with
    | true =>
      rw [if_pos rfl] at h1
      rw [if_pos rfl]
      exact k.at e1 w1 r1 h1
    | false =>
      rw [if_neg (by decide)] at h1
      rw [if_neg (by decide)]
      exact tof_in w1 (rs.ext e1) h1 (k.ext e1)
theorem d_andT (ha : PE X a (tofE X.K U ga)) (hb : PE X (.BoolOp .And (b :: rest) pos) (tofE X.K U gb)) : PE X (.BoolOp .And (a :: b :: rest) pos) (tofE X.K U (gAndT ga gb)) :=
  weakE (pe_andT ha hb) fun σ H Q ⟨m, S, Z, ρ, q, w, rs, h, k⟩ => tof_in w rs h fun v1 H1 m1 d1 S1 e1 w1 r1 ⟨c, hc, h1⟩ => by
    refine ⟨c, truD_of r1 hc, ?_⟩
    cases c with
    | true =>
      rw [if_pos rfl] at h1
      rw [if_pos rfl]
      exact tof_in w1 (rs.ext e1) h1 (k.ext e1)
    | false =>
      rw [if_neg (by decide)] at h1
      rw [if_neg (by decide)]
      exact k.at e1 w1 r1 h1
end
end Dl
/-! defs that call themselves, methods of several classes: promises that nobody asks, one of two readings; a or b of lists -/
namespace Dl
open PySem L2
def gOr2 (g1 g2 : G D) : G D := fun ρ S q => g1 ρ S q ∨ g2 ρ S q
theorem d_or2 {X : Cx} {U : Wi} {e : Expr} {g1 g2 : G D} (h1 : PE X e (tofE X.K U g1)) (h2 : PE X e (tofE X.K U g2)) : PE X e (tofE X.K U (gOr2 g1 g2)) :=
  ⟨fun pins s σ H Q I ⟨m, S, Z, ρ, q, w, rs, h, k⟩ => by
    rcases h with h | h
    · exact h1.run pins s σ H Q I ⟨m, S, Z, ρ, q, w, rs, h, k⟩
    · exact h2.run pins s σ H Q I ⟨m, S, Z, ρ, q, w, rs, h, k⟩⟩
/-- a promise that nobody asks for -/
def noSp : DSp := fun _ _ _ => False
section
variable {P : Program} {w : World} {K : PySem.W.Frag} {mg : Str → Option Value} {base : Heap} {x m qual : Str} {st : Stmt} {dvs : List V} {ps : List Str} {k : Nat} {dsp : DSp} {C : Addr}
theorem spOf_no (h : ∀ ds S q, ¬ dsp ds S q) {vs : List V} {H : Hp} {Q : VK} {E : XK} : ¬ spOf K dsp vs H Q E := by
  rintro ⟨m, S, Z, ds, q, _, _, hh, _⟩
  exact h _ _ _ hh
theorem fnc_no (B : FnB K mg x st dvs) (h : ∀ ds S q, ¬ dsp ds S q) : Fnc P w K mg base x st dvs k ps dsp := by
  obtain ⟨f, fd, F, hm⟩ := B.ex
  exact ⟨f, fd, F, hm, fun vs H Q E z => absurd z (spOf_no h), fun A outer s H args us vs Q E _ _ _ _ z => absurd z (spOf_no h)⟩
theorem mfn_no (L : Cls K C) (B : MtB K C m qual st dvs) (h : ∀ ds S q, ¬ dsp ds S q) : MFn P w K mg base C m qual st dvs k ps dsp := by
  obtain ⟨f, fd, F, hm⟩ := B.ex
  exact ⟨L, f, fd, F, hm, fun vs H Q E z => absurd z (spOf_no h), fun A outer s H args us vs Q E _ _ _ _ z => absurd z (spOf_no h)⟩
end
/-! truth of anything -/
def truS (S : Sto) : D → Option Bool
  | .tup ds => some (!ds.isEmpty)
  | .lst ds => some (!ds.isEmpty)
  | .ksq ds => some (!ds.isEmpty)
  | .dic ks _ => some (!ks.isEmpty)
  | .loc n => match S[n]? with
    | some (some (.lst ds)) => some (!ds.isEmpty)
    | some (some (.dic ks _)) => some (!ks.isEmpty)
    | _ => none
  | d => truD d
theorem emp_reps {K : PySem.W.Frag} {m : Nat → Addr} {N : Nat} {Hv : Hp} {ds : List D} {vs : List V} (r : Reps K m N Hv ds vs) : ds.isEmpty = vs.isEmpty := by
  have := Reps.len r
  cases ds <;> cases vs <;> simp at this <;> rfl
theorem emp_zip {ks : List Key} {vs : List V} (h : ks.length = vs.length) : ks.isEmpty = (ks.zip vs).isEmpty := by
  cases ks <;> cases vs <;> simp at h <;> rfl
theorem truS_of {K : PySem.W.Frag} {U : Wi} {m : Nat → Addr} {S : Sto} {Z : Addr → Prop} {H : Hp} {d : D} {v : V} {k : Bool} (w : Wd K U m S Z H) (r : Rep K m S.length (vis m S Z H) d v) (h : truS S d = some k) : TruV K v H k := by
  cases d with
  | tup ds =>
    rw [Rep] at r
    obtain ⟨a, vs, rfl, s, q⟩ := r
    refine .inr (.inl ⟨vs, SqT.sub (fun a o h => vis_sub h) s, ?_⟩)
    rw [← emp_reps q]; exact (Option.some.inj h).symm
  | lst ds =>
    rw [Rep] at r
    obtain ⟨a, vs, rfl, s, q⟩ := r
    refine .inl ⟨vs, .inl (.inl (vis_sub s)), ?_⟩
    rw [← emp_reps q]; exact (Option.some.inj h).symm
  | ksq ds =>
    rw [Rep] at r
    obtain ⟨a, vs, rfl, s, q⟩ := r
    refine .inl ⟨vs, SqL.sub (fun a o h => vis_sub h) s, ?_⟩
    rw [← emp_reps q]; exact (Option.some.inj h).symm
  | dic ks ds =>
    rw [Rep] at r
    obtain ⟨a, vs, rfl, s, l, q⟩ := r
    refine .inr (.inr ⟨_, vis_sub s, ?_⟩)
    rw [← emp_zip l]; exact (Option.some.inj h).symm
  | loc n =>
    rw [Rep] at r
    obtain ⟨rfl, hn⟩ := r
    replace h : (match S[n]? with | some (some (.lst ds)) => some (!ds.isEmpty) | some (some (.dic ks _)) => some (!ks.isEmpty) | _ => none) = some k := h
    cases hS : S[n]? with
    | none => rw [hS] at h; cases h
    | some o =>
      cases o with
      | none => rw [hS] at h; cases h
      | some o =>
        have hr := w.rep n o hS
        cases o with
        | lst ds =>
          rw [hS] at h
          obtain ⟨vs, e, q⟩ := hr
          refine .inl ⟨vs, .inl (.inl e), ?_⟩
          rw [← emp_reps q]; exact (Option.some.inj h).symm
        | dic ks ds =>
          rw [hS] at h
          obtain ⟨vs, e, l, q⟩ := hr
          refine .inr (.inr ⟨_, e, ?_⟩)
          rw [← emp_zip l]; exact (Option.some.inj h).symm
        | obj C ks ds => rw [hS] at h; cases h
        | dicT ks ds => rw [hS] at h; cases h
  | non => exact truD_of r h
  | bl b => exact truD_of r h
  | int b => exact truD_of r h
  | str b => exact truD_of r h
  | obj C ks ds => cases h
  | ref a => cases h
  | ty a => cases h
  | exc c ks ds => cases h
def gOrS (ga gb : G D) : G D := fun ρ S q => ga ρ S fun d S1 => ∃ k, truS S1 d = some k ∧ if k = true then q d S1 else gb ρ S1 q
section
variable {X : Cx} {U : Wi} {pos : Pos} {a b : Expr} {rest : List Expr} {ga gb : G D}
theorem d_orS (ha : PE X a (tofE X.K U ga)) (hb : PE X (.BoolOp .Or (b :: rest) pos) (tofE X.K U gb)) : PE X (.BoolOp .Or (a :: b :: rest) pos) (tofE X.K U (gOrS ga gb)) :=
  weakE (pe_orT ha hb) fun σ H Q ⟨m, S, Z, ρ, q, w, rs, h, k⟩ => tof_in w rs h fun v1 H1 m1 d1 S1 e1 w1 r1 ⟨c, hc, h1⟩ => by
    refine ⟨c, truS_of w1 r1 hc, ?_⟩
    cases c with
    | true =>
      rw [if_pos rfl] at h1
      rw [if_pos rfl]
      exact k.at e1 w1 r1 h1
    | false =>
      rw [if_neg (by decide)] at h1
      rw [if_neg (by decide)]
      exact tof_in w1 (rs.ext e1) h1 (k.ext e1)
end
end Dl
/-! ==, !=, in, index, count of frozen data with own instances in it, of unlike kinds too. -/
namespace Dl
open PySem L2 PySem.Calls PySem.Spec PyProof.Rows
open PySem.SeqAt
open AutoSeq1 (wpAny_loadPart')
open MeetsSeq
/-- facts of a class whose == is own, against the built-in kinds -/
structure EqC0 (K : PySem.W.Frag) (C : Addr) : Prop where
  nf : ∀ t ∈ "NoneType" :: basicT, PySem.W.subIn K (.type t) (.ref C) = some false
  nb : ∀ t ∈ "NoneType" :: basicT, PySem.W.subIn K (.ref C) (.type t) = some false
/-! ### a built-in kind's == declines an own instance -/
theorem int_dec_b (b : Bool) (l C dx : Addr) : Meets (Builtin.«int.__eq__» ⟨[.bool b, .ref l], []⟩) (fun _ R s => s.heap.get? l = some (PySem.W.instObj C dx) ∧ R (.ok (.ret .notImplemented)) s) :=
  .of_wp fun prog w A R s h => by obtain ⟨hp, g, d, tk, os⟩ := s; obtain ⟨hl, h⟩ := h; unfold PySem.W.instObj at hl; wp_walk using wpAny_loadPart' hl, wpAny_load hl; exact ⟨_, rfl, h⟩
theorem int_dec_i (b : Int) (u : Tok) (l C dx : Addr) : Meets (Builtin.«int.__eq__» ⟨[.int b u, .ref l], []⟩) (fun _ R s => s.heap.get? l = some (PySem.W.instObj C dx) ∧ R (.ok (.ret .notImplemented)) s) :=
  .of_wp fun prog w A R s h => by obtain ⟨hp, g, d, tk, os⟩ := s; obtain ⟨hl, h⟩ := h; unfold PySem.W.instObj at hl; wp_walk using wpAny_loadPart' hl, wpAny_load hl; exact ⟨_, rfl, h⟩
theorem str_dec (b : Str) (u : Tok) (l C dx : Addr) : Meets (Builtin.«str.__eq__» ⟨[.str b u, .ref l], []⟩) (fun _ R s => s.heap.get? l = some (PySem.W.instObj C dx) ∧ R (.ok (.ret .notImplemented)) s) :=
  .of_wp fun prog w A R s h => by obtain ⟨hp, g, d, tk, os⟩ := s; obtain ⟨hl, h⟩ := h; unfold PySem.W.instObj at hl; wp_walk using wpAny_loadPart' hl, wpAny_load hl; exact ⟨_, rfl, h⟩
section
variable {prog : Program} {w : World} {A : Around} {E : Value → Shared → Prop} {s : Shared} {K : PySem.W.Frag}
theorem list_dec {a b C dx : Addr} {its : Array Value} {n : Nat} {R : Result → Shared → Prop} (hl : s.heap.get? a = some { cls := .type "list", data := .seq its n }) (hb : s.heap.get? b = some (PySem.W.instObj C dx)) (X : K.In s.heap) (hm : PySem.W.subIn K (.ref C) (.type "list") = some false)
    (h : R (.ok (.ret .notImplemented)) s) :
    wpAny (model prog w) A.in1 (Builtin.«list.__eq__» ⟨[.ref a, .ref b], []⟩) (GQ.FinOf prog w A R) (fun e s' => R (.error e) s') s := by
  obtain ⟨hp, g, d, tk, os⟩ := s
  have L := PySem.W.looks_subIn (M := model prog w) X hm
  unfold PySem.W.instObj at hb
  wp_walk using wpAny_loadPart' hl, wpAny_loadPart' hb, wpAny_load hb
  refine L.here ?_
  wp_walk
  exact h
theorem tup_dec {a b C dx : Addr} {its : Array Value} {n : Nat} {dd : Option Addr} {sl : Array (Option Value)} {R : Result → Shared → Prop} (hl : s.heap.get? a = some { cls := .type "tuple", dict := dd, data := .seq its n, slots := sl }) (hb : s.heap.get? b = some (PySem.W.instObj C dx)) (X : K.In s.heap) (hm : PySem.W.subIn K (.ref C) (.type "tuple") = some false)
    (h : R (.ok (.ret .notImplemented)) s) :
    wpAny (model prog w) A.in1 (Builtin.«tuple.__eq__» ⟨[.ref a, .ref b], []⟩) (GQ.FinOf prog w A R) (fun e s' => R (.error e) s') s := by
  obtain ⟨hp, g, d, tk, os⟩ := s
  have L := PySem.W.looks_subIn (M := model prog w) X hm
  unfold PySem.W.instObj at hb
  wp_walk using wpAny_loadPart' hl, wpAny_loadPart' hb, wpAny_load hb
  refine L.here ?_
  wp_walk
  exact h
theorem dict_dec {a b C dx : Addr} {o : Obj} {es : Array DictEntry} {n : Nat} {R : Result → Shared → Prop} (hl : s.heap.get? a = some o) (hc : o.cls = .type "dict") (hd : o.data = .dict es n) (hb : s.heap.get? b = some (PySem.W.instObj C dx)) (X : K.In s.heap) (hm : PySem.W.subIn K (.ref C) (.type "dict") = some false)
    (h : R (.ok (.ret .notImplemented)) s) :
    wpAny (model prog w) A.in1 (Builtin.«dict.__eq__» ⟨[.ref a, .ref b], []⟩) (GQ.FinOf prog w A R) (fun e s' => R (.error e) s') s := by
  obtain ⟨hp, g, d, tk, os⟩ := s
  obtain ⟨oc, od, ot, osl⟩ := o
  simp only at hc hd
  subst hc hd
  have L := PySem.W.looks_subIn (M := model prog w) X hm
  unfold PySem.W.instObj at hb
  wp_walk using wpAny_loadPart' hl, wpAny_load hl, wpAny_loadPart' hb, wpAny_load hb
  refine L.here ?_
  wp_walk
  exact h
end

/-! ### kinds -/
section
variable {X : Cx} {pins : List (Addr × Obj)} {σ : L2.St} {H : Hp} {s : Shared}
inductive BV (K : PySem.W.Frag) (H : Hp) : V → String → Prop where
  | non : BV K H .non "NoneType"
  | bl {b : Bool} : BV K H (.bl b) "bool"
  | int {i : Int} : BV K H (.int i) "int"
  | str {x : Str} : BV K H (.str x) "str"
  | lst {a : Addr} {vs : List V} (h : H a = some (.lst vs)) : BV K H (.ref a) "list"
  | dK {a : Addr} {kvs : List (Key × V)} (h : H a = some (.dK kvs)) : BV K H (.ref a) "dict"
  | tup {a : Addr} {vs : List V} (h : SqT K H a vs) : BV K H (.ref a) "tuple"
theorem BV.mem {K : PySem.W.Frag} {x : V} {t : String} (b : BV K H x t) : t ∈ "NoneType" :: basicT := by
  cases b <;> decide
theorem decl_own {A : Around} {E : Value → Shared → Prop} {x : V} {t : String} {u : Value} {b C dx : Addr} {fs : List (Str × V)} (I : L2.Inv X pins σ H s) (bv : BV X.K H x t) (rx : RelV x u) (hb : H b = some (.ins C dx fs)) (f : EqC0 X.K C) :
    s.TypeIs u t ∧ u ≠ .ref b ∧ ∃ id, Slot t (cmpInfo .Eq).2.1 id ∧ ∀ (Q' : Value → Shared → Prop), Q' .notImplemented s → wpAny (model X.prog X.w) A (call (.builtin id) [u, .ref b]) Q' E s := by
  obtain ⟨mA, J, _⟩ := ins_get I.hok hb
  have jb := J.obj
  cases bv with
  | non => cases rx; exact ⟨rfl, (fun z => nomatch z), _, F.slot_NoneType_eq, fun Q' h => call_gives F.slot_NoneType_eq rfl F.entry_NoneType_eq (F.args_NoneType_eq_2 _ _) (NoneType___eq___none_ref_0 b) h⟩
  | bl => cases rx; exact ⟨rfl, (fun z => nomatch z), _, F.slot_bool_eq, fun Q' h => call_meets F.slot_bool_eq rfl F.entry_int_eq (F.args_int_eq_2 _ _) (int_dec_b _ b C dx) ⟨jb, h⟩⟩
  | int => obtain ⟨t, rfl⟩ := rx; exact ⟨rfl, (fun z => nomatch z), _, F.slot_int_eq, fun Q' h => call_meets F.slot_int_eq rfl F.entry_int_eq (F.args_int_eq_2 _ _) (int_dec_i _ t b C dx) ⟨jb, h⟩⟩
  | str => obtain ⟨t, rfl⟩ := rx; exact ⟨rfl, (fun z => nomatch z), _, F.slot_str_eq, fun Q' h => call_meets F.slot_str_eq rfl F.entry_str_eq (F.args_str_eq_2 _ _) (str_dec _ t b C dx) ⟨jb, h⟩⟩
  | @lst a vs ha =>
    cases rx
    obtain ⟨_, its, n, _, _, hl⟩ := I.lstM ha
    refine ⟨⟨_, hl, rfl⟩, fun z => ?_, _, F.slot_list_eq, fun Q' h => GQ.call_here F.slot_list_eq ⟨_, hl, rfl⟩ F.entry_list_eq (F.args_list_eq_2 _ _) (list_dec (K := X.K) (C := C) (dx := dx) hl jb I.kIn (f.nb "list" (by decide)) h)⟩
    cases z; rw [ha] at hb; cases hb
  | @dK a kvs ha =>
    cases rx
    obtain ⟨_, _, vs, _, o, es, ep, h1, h2, h3, _⟩ := (show ObjOk X.prog X.w H s.heap a (.dK kvs) from I.hok a _ ha)
    refine ⟨⟨_, h1, h2.1⟩, fun z => ?_, _, F.slot_dict_eq, fun Q' h => GQ.call_here F.slot_dict_eq ⟨_, h1, h2.1⟩ F.entry_dict_eq (F.args_dict_eq_2 _ _) (dict_dec (K := X.K) (C := C) (dx := dx) h1 h2.1 h3 jb I.kIn (f.nb "dict" (by decide)) h)⟩
    cases z; rw [ha] at hb; cases hb
  | @tup a vs ha =>
    cases rx
    obtain ⟨its, _, hT, _⟩ := I.tuple ha
    obtain ⟨o, ho, hc, n, hd⟩ := hT
    obtain ⟨oc, od, ot, osl⟩ := o
    simp only at hc hd
    subst hc hd
    refine ⟨⟨_, ho, rfl⟩, fun z => ?_, _, F.slot_tuple_eq, fun Q' h => GQ.call_here F.slot_tuple_eq ⟨_, ho, rfl⟩ F.entry_tuple_eq (F.args_tuple_eq_2 _ _) (tup_dec (K := X.K) (C := C) (dx := dx) ho jb I.kIn (f.nb "tuple" (by decide)) h)⟩
    cases z; rw [ho] at jb; cases jb
end
section
variable {prog : Program} {w : World} {A : Around} {E : Value → Shared → Prop} {s : Shared} {K : PySem.W.Frag}
/-- a built-in kind on the left, an own instance on the right -/
theorem rich_rev {u : Value} {t id : String} {b C f : Addr} {ob : Obj} {od : Option Obj} {Q : Value → Shared → Prop} (hu : A.units < cLine) (X : K.In s.heap) (ha : s.TypeIs u t) (J : PySem.W.InstAt s.heap b ob C od) (hsub : PySem.W.subIn K (.ref C) (.type t) = some false)
    (slot : Slot t (cmpInfo .Eq).2.1 id) (dec : ∀ Q' : Value → Shared → Prop, Q' .notImplemented s → wpAny (model prog w) A (call (.builtin id) [u, .ref b]) Q' E s)
    (hs : PySem.W.findIn K (.ref C) "__eq__" = some (some (.ref f))) (hf : PySem.W.isFn K (.ref f) = true)
    (hcall : wpAny (model prog w) A (call (.ref f) [.ref b, u]) (fun v s' => ∃ k, v = .bool k ∧ Q (.bool k) s') E s) : wpAny (model prog w) A (richCompare .Eq u (.ref b)) Q E s := by
  unfold richCompare
  simp only [ha.oneThing_none]
  refine wpAny_holding (wpAny_bind (wpAny_cRoomFor hu ?_))
  refine wpAny_bind (wpAny_typeOf ha (wpAny_bind (J.type.here ?_)))
  have hne : (Value.type t != Value.ref C) = true := by simp
  simp only [hne, if_true]
  refine wpAny_bind ((PySem.W.looks_subIn X hsub).here ?_)
  simp only [Bool.false_eq_true, if_false, Bool.not_false, if_true]
  refine wpAny_bind (m := tryCompare u _ (.ref b)) (wpAny_tryCompare_declines ha slot (dec _ ⟨rfl, ?_⟩))
  refine wpAny_bind (m := tryCompare (.ref b) _ u) ?_
  unfold tryCompare
  refine wpAny_bind (PySem.W.ifBound_K X J hs hf (wpAny_mono hcall (fun v s' hv => ?_) fun _ _ e => e))
  obtain ⟨k, rfl, hq⟩ := hv
  exact wpAny_pure (wpAny_pure hq)
end

/-! ### the relation -/
def D.bk : D → Option String
  | .non => some "NoneType"
  | .bl _ => some "bool"
  | .int _ => some "int"
  | .str _ => some "str"
  | .tup _ => some "tuple"
  | .lst _ => some "list"
  | .dic _ _ => some "dict"
  | _ => none
def D.fv : D → V
  | .bl b => .bl b
  | .int i => .int i
  | .str x => .str x
  | _ => .non
structure EqE where
  C : Addr
  k : Nat
  dsp : DSp
structure EqOk (X : Cx) (c : EqE) : Prop where
  z : EqC0 X.K c.C
  n : NoNe X.K c.C
  f : ∃ (qual : Str) (st : Stmt) (dvs : List V) (ps : List Str), MFn X.prog X.w X.K X.mg X.base c.C "__eq__" qual st dvs c.k ps c.dsp ∧ Bnd "__eq__" qual st ps 2 [] [.p 0, .p 1] dvs.length
def EqsOk (X : Cx) (cs : List EqE) : Prop := ∀ c ∈ cs, EqOk X c
theorem eqs_nil {X : Cx} : EqsOk X [] := fun c h => by cases h
theorem eqs_cons {X : Cx} {c : EqE} {cs : List EqE} (h : EqOk X c) (hs : EqsOk X cs) : EqsOk X (c :: cs) := fun d hd => by
  rcases List.mem_cons.mp hd with rfl | hd
  · exact h
  · exact hs d hd
/-- what may stand at the right of an own instance of C -/
def SideK (K : PySem.W.Frag) (C : Addr) (e : D) : Prop := (∃ t, e.bk = some t) ∨ ∃ C' ks xs, e = .obj C' ks xs ∧ (C' = C ∨ PySem.W.subIn K (.ref C') (.ref C) = some false)
def Say (dsp : DSp) (d e : D) (r : Bool) : Prop := ∀ S', dsp [d, e] S' fun u S'' => u = .bl r ∧ S'' = S'
def NotSame (d e : D) : Prop := ∀ (K : PySem.W.Frag) (m : Nat → Addr) (N : Nat) (Hv : Hp) (v : V), (∀ a vs us, SqT K Hv a vs → SqT K Hv a us → vs = us) → Rep K m N Hv d v → Rep K m N Hv e v → False
inductive EqJ (K : PySem.W.Frag) (cs : List EqE) : Nat → D → D → Bool → Prop where
  | flat {n : Nat} {d e : D} {r : Bool} (hd : d.flat = true) (he : e.flat = true) (h : eqV d.fv e.fv = r) : EqJ K cs n d e r
  | own {n : Nat} {c : EqE} {ks : List Str} {xs : List D} {e : D} {r : Bool} (hc : c ∈ cs) (hk : c.k ≤ n) (he : SideK K c.C e) (say : Say c.dsp (.obj c.C ks xs) e r) (same : r = true ∨ (∃ t, e.bk = some t) ∨ NotSame (.obj c.C ks xs) e) : EqJ K cs n (.obj c.C ks xs) e r
  | rev {n : Nat} {c : EqE} {ks : List Str} {xs : List D} {d : D} {t : String} {r : Bool} (hc : c ∈ cs) (hk : c.k ≤ n) (hd : d.bk = some t) (say : Say c.dsp (.obj c.C ks xs) d r) : EqJ K cs n d (.obj c.C ks xs) r
  | tup {n : Nat} {ds es : List D} (rs : Nat → Bool) (hl : ds.length = es.length) (h : ∀ i d e, ds[i]? = some d → es[i]? = some e → EqJ K cs n d e (rs i)) : EqJ K cs (n + 1) (.tup ds) (.tup es) ((List.range ds.length).all rs)
  | tupN {n : Nat} {ds es : List D} (rs : Nat → Bool) (hl : ds.length ≠ es.length) (h : ∀ i d e, ds[i]? = some d → es[i]? = some e → EqJ K cs n d e (rs i)) : EqJ K cs (n + 1) (.tup ds) (.tup es) false
  | lst {n : Nat} {ds es : List D} (rs : Nat → Bool) (hl : ds.length = es.length) (h : ∀ i d e, ds[i]? = some d → es[i]? = some e → EqJ K cs n d e (rs i)) : EqJ K cs (n + 1) (.lst ds) (.lst es) ((List.range ds.length).all rs)
  | lstN {n : Nat} {ds es : List D} (hl : ds.length ≠ es.length) : EqJ K cs n (.lst ds) (.lst es) false
theorem bv_ins {X : Cx} {pins : List (Addr × Obj)} {σ : L2.St} {H : Hp} {s : Shared} {a C dx : Addr} {fs : List (Str × V)} {t : String} (I : L2.Inv X pins σ H s) (b : BV X.K H (.ref a) t) (h : H a = some (.ins C dx fs)) : False := by
  obtain ⟨mA, J, _⟩ := ins_get I.hok h
  have jb := J.obj
  cases b with
  | lst ha => rw [ha] at h; cases h
  | dK ha => rw [ha] at h; cases h
  | tup ha =>
    obtain ⟨its, _, ⟨o, ho, hc, n, hd⟩, _⟩ := I.tuple ha
    rw [jb] at ho
    cases ho
    cases hc
theorem flat_fv {K : PySem.W.Frag} {m : Nat → Addr} {N : Nat} {Hv : Hp} {d : D} {v : V} (h : d.flat = true) (r : Rep K m N Hv d v) : v = d.fv ∧ flatV v = true := by
  cases d <;> first | (cases h; done) | (rw [Rep] at r; subst r; exact ⟨rfl, rfl⟩)
theorem bk_bv {K : PySem.W.Frag} {m : Nat → Addr} {S : Sto} {Z : Addr → Prop} {H : Hp} {d : D} {v : V} {t : String} (h : d.bk = some t) (r : Rep K m S.length (vis m S Z H) d v) : BV K H v t := by
  cases d <;> first | (cases h; done) | skip
  · cases h; rw [Rep] at r; subst r; exact .non
  · cases h; rw [Rep] at r; subst r; exact .bl
  · cases h; rw [Rep] at r; subst r; exact .int
  · cases h; rw [Rep] at r; subst r; exact .str
  · cases h; rw [Rep] at r; obtain ⟨a, vs, rfl, h1, _⟩ := r; exact .tup (SqT.sub (fun a o z => vis_sub z) h1)
  · cases h; rw [Rep] at r; obtain ⟨a, vs, rfl, h1, _⟩ := r; exact .lst (vis_sub h1)
  · cases h; rw [Rep] at r; obtain ⟨a, vs, rfl, h1, _⟩ := r; exact .dK (vis_sub h1)
section
variable {X : Cx} {pins : List (Addr × Obj)} {σ : L2.St} {H : Hp} {s : Shared} {cs : List EqE} {m : Nat → Addr} {S : Sto} {Z : Addr → Prop}
theorem eqV_refl {d : D} (h : d.flat = true) : eqV d.fv d.fv = true := by
  cases d <;> first | (cases h; done) | simp [D.fv, eqV]
/-- at one place, the same -/
theorem eqj_same (I : L2.Inv X pins σ H s) {n : Nat} {d e : D} {r : Bool} (h : EqJ X.K cs n d e r) : ∀ v, Rep X.K m S.length (vis m S Z H) d v → Rep X.K m S.length (vis m S Z H) e v → r = true := by
  have inj : ∀ a vs us, SqT X.K (vis m S Z H) a vs → SqT X.K (vis m S Z H) a us → vs = us := fun a vs us h1 h2 => I.tuple_inj (SqT.sub (fun a o z => vis_sub z) h1) (SqT.sub (fun a o z => vis_sub z) h2)
  have items : ∀ {n : Nat} {ds es : List D} {rs : Nat → Bool} {vs : List V}, (∀ i d e, ds[i]? = some d → es[i]? = some e → ∀ v, Rep X.K m S.length (vis m S Z H) d v → Rep X.K m S.length (vis m S Z H) e v → rs i = true) → Reps X.K m S.length (vis m S Z H) ds vs → Reps X.K m S.length (vis m S Z H) es vs → ds.length = es.length → (List.range ds.length).all rs = true := by
    intro n ds es rs vs h r1 r2 hl
    rw [List.all_eq_true]
    intro i hi
    rw [List.mem_range] at hi
    obtain ⟨v, hv, rv⟩ := Reps.get r1 (List.getElem?_eq_getElem hi)
    obtain ⟨v', hv', rv'⟩ := Reps.get r2 (List.getElem?_eq_getElem (by omega : i < es.length))
    rw [hv] at hv'
    cases hv'
    exact h i _ _ (List.getElem?_eq_getElem hi) (List.getElem?_eq_getElem (by omega : i < es.length)) v rv rv'
  induction h with
  | flat hd he h =>
    intro v r1 r2
    have := flat_inj r1 r2 hd he
    subst this
    rw [← h]
    exact eqV_refl hd
  | own hc hk he say same =>
    intro v r1 r2
    rcases same with h | ⟨t, ht⟩ | h
    · exact h
    · have b := bk_bv ht r2
      rw [Rep] at r1
      obtain ⟨a, dx, vs, rfl, h1, _⟩ := r1
      exact (bv_ins I b (vis_sub h1)).elim
    · exact (h _ _ _ _ v inj r1 r2).elim
  | @rev n c ks xs d t r hc hk hd say =>
    intro v r1 r2
    have b := bk_bv hd r1
    rw [Rep] at r2
    obtain ⟨a, dx, vs, rfl, h1, _⟩ := r2
    exact (bv_ins I b (vis_sub h1)).elim
  | tup rs hl h ih =>
    intro v r1 r2
    rw [Rep] at r1 r2
    obtain ⟨a, vs, rfl, h1, q1⟩ := r1
    obtain ⟨a', us, e, h2, q2⟩ := r2
    cases e
    have := inj _ _ _ h1 h2
    subst this
    exact items (n := 0) ih q1 q2 hl
  | tupN rs hl h ih =>
    intro v r1 r2
    rw [Rep] at r1 r2
    obtain ⟨a, vs, rfl, h1, q1⟩ := r1
    obtain ⟨a', us, e, h2, q2⟩ := r2
    cases e
    have := inj _ _ _ h1 h2
    subst this
    exact absurd ((Reps.len q1).symm.trans (Reps.len q2)) hl
  | lst rs hl h ih =>
    intro v r1 r2
    rw [Rep] at r1 r2
    obtain ⟨a, vs, rfl, h1, q1⟩ := r1
    obtain ⟨a', us, e, h2, q2⟩ := r2
    cases e
    rw [h1] at h2
    cases h2
    exact items (n := 0) ih q1 q2 hl
  | lstN hl =>
    intro v r1 r2
    rw [Rep] at r1 r2
    obtain ⟨a, vs, rfl, h1, q1⟩ := r1
    obtain ⟨a', us, e, h2, q2⟩ := r2
    cases e
    rw [h1] at h2
    cases h2
    exact absurd ((Reps.len q1).symm.trans (Reps.len q2)) hl
end

/-! ### a tuple's loop, both answers -/
section
variable {prog : Program} {w : World} {A : Around} {R : Result → Shared → Prop}
theorem tuple_eqB (l b : Addr) (items items2 : Array Value) (n n2 : Nat) (dd dd2 : Option Addr) (sl sl2 : Array (Option Value)) (rs : Nat → Bool) (out : Bool) (I : Nat → Shared → Prop)
    (h1 : items.size = items2.size → (∀ j, j < items.size → rs j = true) → out = true) (h2 : ∀ j, j < min items.size items2.size → rs j = false → out = false) (h3 : items.size ≠ items2.size → out = false)
    (turn : ∀ i (h1 : i < items.size) (h2 : i < items2.size) s, I i s → wpAny (model prog w) A.in1 (eqBool items[i] items2[i]) (fun r s' => r = rs i ∧ I (i + 1) s') (fun e s' => R (.error e) s') s)
    (fin : ∀ j s, I j s → R (.ok (.ret (.bool out))) s) {s : Shared} (hl1 : s.heap.get? l = some { cls := .type "tuple", dict := dd, data := .seq items n, slots := sl }) (hb1 : s.heap.get? b = some { cls := .type "tuple", dict := dd2, data := .seq items2 n2, slots := sl2 }) (h : I 0 s) :
    wpAny (model prog w) A.in1 (Builtin.«tuple.__eq__» ⟨[.ref l, .ref b], []⟩) (GQ.FinOf prog w A R) (fun e s' => R (.error e) s') s := by
  have f2 := AutoSeq1.sub_tuple_tuple
  have hZ : (items.toList.zip items2.toList).length = min items.size items2.size := by simp
  have h0 := h
  obtain ⟨hp, g, d, tk, os⟩ := s
  wp_walk using wpAny_loadPart' hl1, wpAny_loadPart' hb1, wpAny_forIn_list _ (fun rest b s' => b.1 = none ∧ ∃ i, rest = (items.toList.zip items2.toList).drop i ∧ (∀ j, j < i → rs j = true) ∧ I i s') _
  case turn =>
    rintro ⟨y, x⟩ rest b s' ⟨hb', i, hz, hi, hI⟩
    have hlt : i < (items.toList.zip items2.toList).length := by
      rcases Nat.lt_or_ge i (items.toList.zip items2.toList).length with h' | h'
      · exact h'
      · rw [List.drop_of_length_le h'] at hz; cases hz
    have hm : i < min items.size items2.size := hZ ▸ hlt
    have g1 : i < items.size := Nat.lt_of_lt_of_le hm (Nat.min_le_left _ _)
    have g2 : i < items2.size := Nat.lt_of_lt_of_le hm (Nat.min_le_right _ _)
    rw [List.drop_eq_getElem_cons hlt] at hz
    injection hz with hyx hrest
    have hy : y = items[i] := by have := congrArg Prod.fst hyx; simpa using this
    have hx : x = items2[i] := by have := congrArg Prod.snd hyx; simpa using this
    subst hy hx
    refine wpAny_bind (wpAny_mono (turn i g1 g2 s' hI) (fun r s2 q2 => ?_) fun _ _ x => x)
    obtain ⟨hr, q2⟩ := q2
    cases hri : rs i with
    | true =>
      rw [hri] at hr
      subst hr
      wp_walk
      refine ⟨rfl, i + 1, hrest, fun j hj => ?_, q2⟩
      rcases Nat.lt_or_ge j i with q | q
      · exact hi j q
      · rw [show j = i by omega]; exact hri
    | false =>
      rw [hri] at hr
      subst hr
      have hR : R (.ok (.ret (.bool out))) s2 := fin _ s2 q2
      rw [h2 i hm hri] at hR
      wp_walk
      exact hR
  case fin =>
    rintro ⟨b1, b2⟩ s' ⟨hb', i, hz, hi, hI⟩
    simp only at hb'
    subst hb'
    have hge : min items.size items2.size ≤ i := by
      rcases Nat.lt_or_ge i (items.toList.zip items2.toList).length with h' | h'
      · rw [List.drop_eq_getElem_cons h'] at hz; cases hz
      · exact hZ ▸ h'
    have hR : R (.ok (.ret (.bool out))) s' := fin i s' hI
    have ho : out = (items.size == items2.size) := by
      by_cases e : items.size = items2.size
      · rw [h1 e fun j hj => hi j (by omega), beq_iff_eq.mpr e]
      · rw [h3 e, beq_eq_false_iff_ne.mpr e]
    wp_walk
    simpa [Builtin.Tuple.tupleCompareSizes, ho] using hR
  case h =>
    exact ⟨rfl, 0, rfl, fun j hj => absurd hj (Nat.not_lt_zero j), h0⟩
end
section
variable {prog : Program} {w : World} {A : Around} {E : Value → Shared → Prop} {s : Shared}
theorem rc_tupB {l b : Addr} {items items2 : Array Value} {rs : Nat → Bool} {out : Bool} {Q : Value → Shared → Prop} (hu : A.units < cLine) (I : Nat → Shared → Prop)
    (h1 : items.size = items2.size → (∀ j, j < items.size → rs j = true) → out = true) (h2 : ∀ j, j < min items.size items2.size → rs j = false → out = false) (h3 : items.size ≠ items2.size → out = false)
    (hl : s.heap.IsTuple l items) (hb : s.heap.IsTuple b items2)
    (turn : ∀ i (h1 : i < items.size) (h2 : i < items2.size) s, I i s → wpAny (model prog w) A.in1 (eqBool items[i] items2[i]) (fun r s' => r = rs i ∧ I (i + 1) s') E s)
    (fin : ∀ j s, I j s → Q (.bool out) s) (h : I 0 s) : wpAny (model prog w) A (richCompare .Eq (.ref l) (.ref b)) Q E s := by
  obtain ⟨⟨cls, dd, data, sl⟩, ho, hc, n, hd⟩ := id hl
  obtain ⟨⟨cls2, dd2, data2, sl2⟩, ho2, hc2, n2, hd2⟩ := id hb
  simp only at hc hd hc2 hd2
  subst hc hd hc2 hd2
  refine wpAny_richCompare_same_room (op := .Eq) ⟨_, ho, rfl⟩ ⟨_, ho2, rfl⟩ F.slot_tuple_eq (GQ.call_here F.slot_tuple_eq ⟨_, ho, rfl⟩ F.entry_tuple_eq (F.args_tuple_eq_2 _ _) ?_) hu
  exact tuple_eqB (R := wants (fun v s' => v ≠ .notImplemented ∧ Q v s') E) l b items items2 n n2 dd dd2 sl sl2 rs out I h1 h2 h3 turn (fun j s' q => ⟨(fun x => nomatch x), fin j s' q⟩) ho ho2 h
theorem eqBool_of {u v : Value} {r : Bool} {Q : Shared → Prop} (nf : ∀ x t, u ≠ .float x t) (hs : u = v → r = true ∧ Q s) (h : wpAny (model prog w) A (richCompare .Eq u v) (fun c s' => c = .bool r ∧ Q s') E s) : wpAny (model prog w) A (eqBool u v) (fun c s' => c = r ∧ Q s') E s := by
  unfold eqBool
  refine wpAny_holding ?_
  refine wpAny_ite_split (fun hab => ?_) (fun _ => ?_)
  · obtain ⟨h1, h2⟩ := hs (eq_of_beq hab)
    exact wpAny_bind (wpAny_rule (wpAny_pure ⟨h1.symm, h2⟩))
  · have last : wpAny (model prog w) A (do truthOfDropped (← richCompare .Eq u v)) (fun c s' => c = r ∧ Q s') E s := by
      refine wpAny_bind (wpAny_mono h (fun c s' hc => ?_) fun _ _ x => x)
      obtain ⟨rfl, q⟩ := hc
      exact wpAny_truthy_bool ⟨rfl, q⟩
    cases u <;> first | exact last | exact absurd rfl (nf _ _)
end
section
variable {X : Cx} {cs : List EqE}
def RunR (X : Cx) (n : Nat) (d e : D) (r : Bool) : Prop := ∀ (A : Around) (pins : List (Addr × Obj)) (s : Shared) (σ : L2.St) (H : Hp) (m : Nat → Addr) (S : Sto) (Z : Addr → Prop) (x y : V) (u v : Value), SubG X n A → L2.Inv X pins σ H s → Wd0 X.K m S Z H → Rep X.K m S.length (vis m S Z H) d x → Rep X.K m S.length (vis m S Z H) e y → RelV x u → RelV y v →
  wpAny (model X.prog X.w) A (richCompare .Eq u v) (fun c s' => c = .bool r ∧ ∃ H', L2.Inv X pins σ H' s' ∧ L2.Ext H H') X.xe s
def RunB (X : Cx) (n : Nat) (d e : D) (r : Bool) : Prop := ∀ (A : Around) (pins : List (Addr × Obj)) (s : Shared) (σ : L2.St) (H : Hp) (m : Nat → Addr) (S : Sto) (Z : Addr → Prop) (x y : V) (u v : Value), SubG X n A → L2.Inv X pins σ H s → Wd0 X.K m S Z H → Rep X.K m S.length (vis m S Z H) d x → Rep X.K m S.length (vis m S Z H) e y → RelV x u → RelV y v →
  wpAny (model X.prog X.w) A (eqBool u v) (fun c s' => c = r ∧ ∃ H', L2.Inv X pins σ H' s' ∧ L2.Ext H H') X.xe s
theorem rep_nofl {m : Nat → Addr} {N : Nat} {Hv : Hp} {d : D} {x : V} {u : Value} (r : Rep X.K m N Hv d x) (rx : RelV x u) : ∀ z t, u ≠ .float z t := by
  intro z t e
  subst e
  cases x with
  | flt b => cases d <;> rw [Rep] at r <;> first | (cases r; done) | (obtain ⟨_, _, h, _⟩ := r; cases h; done) | (obtain ⟨_, _, _, h, _⟩ := r; cases h; done) | (obtain ⟨h, _⟩ := r; cases h; done)
  | int i => obtain ⟨_, h⟩ := rx; cases h
  | str i => obtain ⟨_, h⟩ := rx; cases h
  | byt i => obtain ⟨_, h⟩ := rx; cases h
  | non => cases rx
  | bl _ => cases rx
  | ref _ => cases rx
  | ty _ => cases rx
theorem runB_of {n : Nat} {d e : D} {r : Bool} (j : EqJ X.K cs n d e r) (h : RunR X n d e r) : RunB X n d e r := by
  intro A pins s σ H m S Z x y u v sb I w r1 r2 rx ry
  refine eqBool_of (rep_nofl r1 rx) (fun e' => ?_) (h A pins s σ H m S Z x y u v sb I w r1 r2 rx ry)
  subst e'
  have := rx.abs.symm.trans ry.abs
  cases this
  exact ⟨eqj_same I j x r1 r2, H, I, fun _ _ z => z⟩
theorem wd0_dark {m : Nat → Addr} {S : Sto} {Z : Addr → Prop} {H : Hp} (w : Wd0 X.K m S Z H) {d : D} {x : V} (r : Rep X.K m S.length (vis m S Z H) d x) : Rep X.K m (List.replicate S.length (none : Option MO)).length (vis m (List.replicate S.length none) (fun a => Z a ∨ ∃ n, Live S n ∧ m n = a) H) d x := by
  obtain ⟨_, hv⟩ := w.dark
  rw [hv, List.length_replicate]
  exact r
/-- an own == called -/
theorem run_say {c : EqE} {qual : Str} {st : Stmt} {dvs : List V} {ps : List Str} (b : Bnd "__eq__" qual st ps 2 [] [.p 0, .p 1] dvs.length) {f : Addr} {fd : FuncData} (FS : FunS X.K "__eq__" qual st dvs f fd) (FO : FnG X.prog X.w X.K X.mg X.base CX0 c.k f fd ps (spOf X.K c.dsp))
    {A : Around} (sb : SubG X c.k A) {pins : List (Addr × Obj)} {σ : L2.St} {H : Hp} {s : Shared} {m : Nat → Addr} {S : Sto} {Z : Addr → Prop} {d e : D} {x y : V} {u v : Value} {r : Bool}
    (I : L2.Inv X pins σ H s) (w : Wd0 X.K m S Z H) (r1 : Rep X.K m S.length (vis m S Z H) d x) (r2 : Rep X.K m S.length (vis m S Z H) e y) (rx : RelV x u) (ry : RelV y v) (hi : Say c.dsp d e r) :
    wpAny (model X.prog X.w) A (call (.ref f) [u, v]) (fun c s' => c = .bool r ∧ ∃ H', L2.Inv X pins σ H' s' ∧ L2.Ext H H') X.xe s := by
  obtain ⟨its, KB⟩ := kbn_of FS b
  have rr : Vals [x, y] [u, v] := .cons rx (.cons ry .nil)
  obtain ⟨wd, hv⟩ := w.dark
  have hsp : spOf X.K c.dsp [x, y] H (fun v H' => v = .bl r ∧ L2.Ext H H') fun _ _ _ => False := by
    refine ⟨m, List.replicate S.length none, _, [d, e], _, wd.u0, Reps.cons (wd0_dark w r1) (Reps.one (wd0_dark w r2)), hi _, fun v1 H1 m1 d1 S1 e1 w1 rr1 ⟨h1, h2⟩ => ?_⟩
    subst h1
    have rr1' := rr1
    rw [rD, Rep] at rr1'
    exact ⟨rr1', Ext.all h2 e1⟩
  refine wpAny_mono (run_at FO sb KB I rr rfl (by simpa [gat, pick] using hsp)) (fun w' s' hq => ?_) fun _ _ z => z
  obtain ⟨z, H', I', rz, ez, hE⟩ := hq
  subst ez
  cases rz
  exact ⟨rfl, H', I', hE⟩
theorem bv_ty {pins : List (Addr × Obj)} {σ : L2.St} {H : Hp} {s : Shared} {x : V} {t : String} {u : Value} (I : L2.Inv X pins σ H s) (bv : BV X.K H x t) (rx : RelV x u) : s.TypeIs u t := by
  cases bv with
  | non => cases rx; rfl
  | bl => cases rx; rfl
  | int => obtain ⟨t, rfl⟩ := rx; rfl
  | str => obtain ⟨t, rfl⟩ := rx; rfl
  | @lst a vs ha =>
    cases rx
    obtain ⟨_, its, n, _, _, hl⟩ := I.lstM ha
    exact ⟨_, hl, rfl⟩
  | @dK a kvs ha =>
    cases rx
    obtain ⟨_, _, vs, _, o, es, ep, h1, h2, h3, _⟩ := (show ObjOk X.prog X.w H s.heap a (.dK kvs) from I.hok a _ ha)
    exact ⟨_, h1, h2.1⟩
  | @tup a vs ha =>
    cases rx
    obtain ⟨its, _, hT, _⟩ := I.tuple ha
    obtain ⟨o, ho, hc, n, hd⟩ := hT
    exact ⟨_, ho, hc⟩
theorem ty_looks {s : Shared} {u : Value} {t : String} (h : s.TypeIs u t) : PySem.W.Looks (model X.prog X.w) s.heap (typeOf u) (.type t) := fun A Q E s' k q => by
  refine wpAny_typeOf ?_ q
  cases u with
  | ref a => obtain ⟨o, h1, h2⟩ := h; exact ⟨o, k _ _ h1, h2⟩
  | _ => exact h
theorem tyX_looks {pins : List (Addr × Obj)} {σ : L2.St} {H : Hp} {s : Shared} {m : Nat → Addr} {S : Sto} {Z : Addr → Prop} {C : Addr} {e : D} {y : V} {v : Value} (I : L2.Inv X pins σ H s) (z : EqC0 X.K C) (he : SideK X.K C e) (r : Rep X.K m S.length (vis m S Z H) e y) (ry : RelV y v) :
    ∃ tb, PySem.W.Looks (model X.prog X.w) s.heap (typeOf v) tb ∧ PySem.W.notFirst X.K C tb = true := by
  rcases he with ⟨t, he⟩ | ⟨C', ks, xs, rfl, hc⟩
  · have b := bk_bv he r
    exact ⟨.type t, ty_looks (bv_ty I b ry), by unfold PySem.W.notFirst; rw [z.nf t b.mem]; simp⟩
  · rw [Rep] at r
    obtain ⟨a, dx, vs, rfl, h1, _⟩ := r
    cases ry
    obtain ⟨mA, J, _⟩ := ins_get I.hok (vis_sub h1)
    obtain ⟨od, J, _⟩ := J.look
    refine ⟨.ref C', J.type, ?_⟩
    unfold PySem.W.notFirst
    rcases hc with rfl | hc
    · simp
    · rw [hc]; simp
theorem rc_V {A : Around} {s : Shared} {y x : V} {u v : Value} (ry : RelV y u) (rx : RelV x v) (fy : flatV y = true) (fx : flatV x = true) : RcAt A s u v (eqV y x) := by
  cases y with
  | non =>
    cases ry
    cases x with
    | non => cases rx; exact RcAt.none_none
    | bl b => cases rx; exact RcAt.none_bool b
    | int b => obtain ⟨t, rfl⟩ := rx; exact RcAt.none_int b t
    | str b => obtain ⟨t, rfl⟩ := rx; exact RcAt.none_str b t
    | _ => exact absurd (show false = true from fx) Bool.false_ne_true
  | bl a =>
    cases ry
    cases x with
    | non => cases rx; exact RcAt.bool_none a
    | bl b => cases rx; exact RcAt.bool_bool a b
    | int b => obtain ⟨t, rfl⟩ := rx; exact RcAt.bool_int a b t
    | str b => obtain ⟨t, rfl⟩ := rx; exact RcAt.bool_str a b t
    | _ => exact absurd (show false = true from fx) Bool.false_ne_true
  | int a =>
    obtain ⟨t', rfl⟩ := ry
    cases x with
    | non => cases rx; exact RcAt.int_none a t'
    | bl b => cases rx; exact RcAt.int_bool a t' b
    | int b => obtain ⟨t, rfl⟩ := rx; exact RcAt.int_int a t' b t
    | str b => obtain ⟨t, rfl⟩ := rx; exact RcAt.int_str a t' b t
    | _ => exact absurd (show false = true from fx) Bool.false_ne_true
  | str a =>
    obtain ⟨t', rfl⟩ := ry
    cases x with
    | non => cases rx; exact RcAt.str_none a t'
    | bl b => cases rx; exact RcAt.str_bool a t' b
    | int b => obtain ⟨t, rfl⟩ := rx; exact RcAt.str_int a t' b t
    | str b => obtain ⟨t, rfl⟩ := rx; exact RcAt.str_str a t' b t
    | _ => exact absurd (show false = true from fx) Bool.false_ne_true
  | _ => exact absurd (show false = true from fy) Bool.false_ne_true
/-- one turn of a loop -/
theorem turnA {n : Nat} {ds es : List D} {rs : Nat → Bool} (h : ∀ i d e, ds[i]? = some d → es[i]? = some e → RunB X n d e (rs i)) {A : Around} (sb : SubG X (n + 1) A) {pins : List (Addr × Obj)} {σ : L2.St} {H : Hp} {m : Nat → Addr} {S : Sto} {Z : Addr → Prop} (w : Wd0 X.K m S Z H)
    {vs us : List V} (q1 : Reps X.K m S.length (vis m S Z H) ds vs) (q2 : Reps X.K m S.length (vis m S Z H) es us) {its its2 : List Value} (r : Vals vs its) (r2 : Vals us its2)
    (i : Nat) (h1 : i < its.toArray.size) (h2 : i < its2.toArray.size) (s' : Shared) (l : ∃ H', L2.Inv X pins σ H' s' ∧ L2.Ext H H') :
    wpAny (model X.prog X.w) A.in1 (eqBool its.toArray[i] its2.toArray[i]) (fun c s2 => c = rs i ∧ ∃ H', L2.Inv X pins σ H' s2 ∧ L2.Ext H H') X.xe s' := by
  obtain ⟨H1, I1, e1⟩ := l
  rw [List.size_toArray] at h1 h2
  have lr := r.length
  have lr2 := r2.length
  have la := Reps.len q1
  have lb := Reps.len q2
  obtain ⟨d, hd⟩ : ∃ d, ds[i]? = some d := ⟨ds[i]'(by omega), by simp⟩
  obtain ⟨e, he⟩ : ∃ e, es[i]? = some e := ⟨es[i]'(by omega), by simp⟩
  obtain ⟨x, hx, rx⟩ := Reps.get q1 hd
  obtain ⟨y, hy, ry⟩ := Reps.get q2 he
  have gx : its[i]? = some its[i] := by simp
  have gy : its2[i]? = some its2[i] := by simp
  obtain ⟨w', _⟩ := w.grow e1
  have rx' := Rep.mono (fun _ _ => rfl) (Nat.le_refl _) (vis_grow e1) rx
  have ry' := Rep.mono (fun _ _ => rfl) (Nat.le_refl _) (vis_grow e1) ry
  have key := h i d e hd he A.in1 pins s' σ H1 m S Z x y its[i] its2[i] sb.in1 I1 w' rx' ry' (vals_each r i _ _ hx gx) (vals_each r2 i _ _ hy gy)
  refine wpAny_mono (by simpa using key) (fun c s2 hq => ?_) fun _ _ z => z
  obtain ⟨hc, H2, I2, e2⟩ := hq
  exact ⟨hc, H2, I2, e1.trans e2⟩
theorem eqj_run (hcs : EqsOk X cs) {n : Nat} {d e : D} {r : Bool} (j : EqJ X.K cs n d e r) : RunR X n d e r := by
  induction j with
  | @flat n d e r hd he h =>
    intro A pins s σ H m S Z x y u v sb I w r1 r2 rx ry
    obtain ⟨ex, fx⟩ := flat_fv hd r1
    obtain ⟨ey, fy⟩ := flat_fv he r2
    subst ex ey
    refine rc_V rx ry fx fy X.prog X.w X.xe _ ?_
    rw [h]
    exact ⟨rfl, H, I, fun _ _ z => z⟩
  | @own n c ks xs e r hc hk he say same =>
    intro A pins s σ H m S Z x y u v sb I w r1 r2 rx ry
    obtain ⟨z, _, qual, st, dvs, ps, F, b⟩ := hcs c hc
    obtain ⟨f, fd, FS, hm, FO⟩ := F.ex
    obtain ⟨tb, hb, hn⟩ := tyX_looks I z he r2 ry
    have r1' := r1
    rw [Rep] at r1'
    obtain ⟨a, dx, vs, rfl, h1, _⟩ := r1'
    cases rx
    obtain ⟨mA, J, _⟩ := ins_get I.hok (vis_sub h1)
    obtain ⟨od, J, _⟩ := J.look
    obtain ⟨mm, hF⟩ := I.fr
    refine PySem.W.cmp_K (op := .Eq) (tb := tb) sb.room.units0 hF I.ok.mod.kin J hb hn hm.at_ hm.fn ?_
    refine wpAny_mono (run_say b FS FO (sb.mono hk) I w r1 r2 rfl ry say) (fun c s' hc => ?_) fun _ _ z => z
    obtain ⟨rfl, q⟩ := hc
    exact ⟨rfl, q⟩
  | @rev n c ks xs d t r hc hk hd say =>
    intro A pins s σ H m S Z x y u v sb I w r1 r2 rx ry
    obtain ⟨z, _, qual, st, dvs, ps, F, b⟩ := hcs c hc
    obtain ⟨f, fd, FS, hm, FO⟩ := F.ex
    have bx := bk_bv hd r1
    have r2' := r2
    rw [Rep] at r2'
    obtain ⟨a, dx, vs, rfl, h1, _⟩ := r2'
    cases ry
    obtain ⟨mA, J, _⟩ := ins_get I.hok (vis_sub h1)
    obtain ⟨od, J, _⟩ := J.look
    obtain ⟨hT, _, id, slot, dec⟩ := decl_own (A := A) (E := X.xe) I bx rx (vis_sub h1) z
    refine rich_rev sb.room.units0 I.kIn hT J (z.nb t bx.mem) slot dec hm.at_ hm.fn ?_
    refine wpAny_mono (run_say b FS FO (sb.mono hk) I w r2 r1 rfl rx say) (fun c s' hc => ?_) fun _ _ z => z
    obtain ⟨rfl, q⟩ := hc
    exact ⟨r, rfl, rfl, q⟩
  | @tup n ds es rs hl h ih =>
    intro A pins s σ H m S Z x y u v sb I w r1 r2 rx ry
    rw [Rep] at r1 r2
    obtain ⟨a, vs, rfl, h1, q1⟩ := r1
    obtain ⟨a', us, rfl, h2, q2⟩ := r2
    cases rx
    cases ry
    have la := Reps.len q1
    have lb := Reps.len q2
    obtain ⟨its, rv, t1, z1⟩ := I.tuple (SqT.sub (fun a o z => vis_sub z) h1)
    obtain ⟨its2, rv2, t2, z2⟩ := I.tuple (SqT.sub (fun a o z => vis_sub z) h2)
    have l1 := rv.length
    have l2 := rv2.length
    refine rc_tupB (rs := rs) (out := (List.range ds.length).all rs) sb.room.units0 (fun _ s' => ∃ H', L2.Inv X pins σ H' s' ∧ L2.Ext H H') (fun _ hall => ?_) (fun j hj hf => ?_) (fun hne => ?_) t1 t2
      (fun i h1 h2 s' q => turnA (fun i d e hd he => runB_of (h i d e hd he) (ih i d e hd he)) sb w q1 q2 rv rv2 i h1 h2 s' q) (fun j s' q => ⟨rfl, q⟩) ⟨H, I, fun _ _ z => z⟩
    · rw [List.all_eq_true]
      exact fun j hj => hall j (by rw [List.size_toArray]; have := List.mem_range.mp hj; omega)
    · rw [List.size_toArray, List.size_toArray] at hj
      rw [List.all_eq_false]
      exact ⟨j, List.mem_range.mpr (by omega), by rw [hf]; decide⟩
    · rw [List.size_toArray, List.size_toArray] at hne
      omega
  | @tupN n ds es rs hl h ih =>
    intro A pins s σ H m S Z x y u v sb I w r1 r2 rx ry
    rw [Rep] at r1 r2
    obtain ⟨a, vs, rfl, h1, q1⟩ := r1
    obtain ⟨a', us, rfl, h2, q2⟩ := r2
    cases rx
    cases ry
    have la := Reps.len q1
    have lb := Reps.len q2
    obtain ⟨its, rv, t1, z1⟩ := I.tuple (SqT.sub (fun a o z => vis_sub z) h1)
    obtain ⟨its2, rv2, t2, z2⟩ := I.tuple (SqT.sub (fun a o z => vis_sub z) h2)
    have l1 := rv.length
    have l2 := rv2.length
    refine rc_tupB (rs := rs) (out := false) sb.room.units0 (fun _ s' => ∃ H', L2.Inv X pins σ H' s' ∧ L2.Ext H H') (fun he hall => ?_) (fun j hj hf => rfl) (fun hne => rfl) t1 t2
      (fun i h1 h2 s' q => turnA (fun i d e hd he => runB_of (h i d e hd he) (ih i d e hd he)) sb w q1 q2 rv rv2 i h1 h2 s' q) (fun j s' q => ⟨rfl, q⟩) ⟨H, I, fun _ _ z => z⟩
    rw [List.size_toArray, List.size_toArray] at he
    omega
  | @lst n ds es rs hl h ih =>
    intro A pins s σ H m S Z x y u v sb I w r1 r2 rx ry
    rw [Rep] at r1 r2
    obtain ⟨a, vs, rfl, h1, q1⟩ := r1
    obtain ⟨a', us, rfl, h2, q2⟩ := r2
    cases rx
    cases ry
    have la := Reps.len q1
    have lb := Reps.len q2
    refine GB.rc_eqB (N := ds.length) (rs := rs) (out := (List.range ds.length).all rs) sb.room.units0 (fun hall => ?_) (fun j hj hf => ?_) (fun _ s' => ∃ H', L2.Inv X pins σ H' s' ∧ L2.Ext H H') ?_ (fun j s' q => ⟨rfl, q⟩) ⟨H, I, fun _ _ z => z⟩
    · rw [List.all_eq_true]
      exact fun j hj => hall j (List.mem_range.mp hj)
    · rw [List.all_eq_false]
      exact ⟨j, List.mem_range.mpr hj, by rw [hf]; decide⟩
    · rintro i s' q
      obtain ⟨H', I', e'⟩ := id q
      obtain ⟨z1, its, n, rv, ra, hla⟩ := I'.lstM (e' _ _ (vis_sub h1))
      obtain ⟨z2, its2, n2, rv2, rb, hlb⟩ := I'.lstM (e' _ _ (vis_sub h2))
      exact ⟨its.toArray, its2.toArray, n, n2, hla, hlb, by rw [List.size_toArray]; omega, by rw [List.size_toArray]; omega, fun h1 h2 => turnA (fun i d e hd he => runB_of (h i d e hd he) (ih i d e hd he)) sb w q1 q2 rv rv2 i h1 h2 s' q⟩
  | @lstN n ds es hl =>
    intro A pins s σ H m S Z x y u v sb I w r1 r2 rx ry
    rw [Rep] at r1 r2
    obtain ⟨a, vs, rfl, h1, q1⟩ := r1
    obtain ⟨a', us, rfl, h2, q2⟩ := r2
    cases rx
    cases ry
    have la := Reps.len q1
    have lb := Reps.len q2
    obtain ⟨z1, its, n, rv, ra, hla⟩ := I.lstM (vis_sub h1)
    obtain ⟨z2, its2, n2, rv2, rb, hlb⟩ := I.lstM (vis_sub h2)
    exact GB.rc_eqD sb.room.units0 hla hlb (by rw [List.size_toArray, List.size_toArray]; omega) ⟨rfl, H, I, fun _ _ z => z⟩
end
end Dl
/-! in, index, count by own ==; the rules of DEqA by data -/
namespace Dl
open PySem L2 PySem.Calls PySem.Spec PyProof.Rows
open PySem.SeqAt
open AutoSeq1 (wpAny_loadPart')
open MeetsSeq MeetsSeq2 SeqRoads2
section
variable {prog : Program} {w : World} {A : Around} {R : Result → Shared → Prop}
/-- at each turn the list is read anew: N items, the i-th against x says rs i -/
def ListX (prog : Program) (w : World) (A : Around) (E : Value → Shared → Prop) (l : Addr) (x : Value) (N : Nat) (rs : Nat → Bool) (I : Shared → Prop) : Prop :=
  ∀ i s, I s → ∃ (items : Array Value) (n : Nat), s.heap.get? l = some { cls := .type "list", data := .seq items n } ∧ items.size = N ∧ ∀ (h1 : i < items.size), wpAny (model prog w) A.in1 (eqBool items[i] x) (fun r s' => r = rs i ∧ I s') E s
theorem contB (l : Addr) (x : Value) (N : Nat) (rs : Nat → Bool) (out : Bool) (I : Shared → Prop) (hl : ListX prog w A (fun e s' => R (.error e) s') l x N rs I)
    (h1 : ∀ j, j < N → rs j = true → out = true) (h2 : (∀ j, j < N → rs j = false) → out = false) (fin : ∀ s, I s → R (.ok (.ret (.bool out))) s) (k : Nat) :
    ∀ i : Nat, N - i = k → i ≤ N → (∀ j, j < i → rs j = false) → ∀ s, I s → wpAny (model prog w) A.in1 (Builtin.«list.__contains__.loop» ⟨[.ref l, x, rawInt i], []⟩) (GQ.FinOf prog w A R) (fun e s' => R (.error e) s') s := by
  induction k with
  | zero =>
    intro i hk hi hno s h
    obtain ⟨items, n, hl1, hs, _⟩ := hl i _ h
    have hR : R (.ok (.ret (.bool out))) s := fin s h
    rw [h2 fun j hj => hno j (by omega)] at hR
    obtain ⟨hp, g, d, tk, os⟩ := s
    wp_walk using wpAny_loadPart' hl1
    have hi1 : items[((i : Nat) : Int).toNat]? = none := by simp; omega
    rw [hi1]
    wp_walk
    exact hR
  | succ k ih =>
    intro i hk hi hno s h
    obtain ⟨items, n, hl1, hs, turn⟩ := hl i _ h
    have hlt : i < items.size := by omega
    have ht := turn hlt
    have hi1 : items[((i : Nat) : Int).toNat]? = some items[i] := by simp [hlt]
    have hc : ((i : Int) + 1) = ((i + 1 : Nat) : Int) := by omega
    obtain ⟨hp, g, d, tk, os⟩ := s
    wp_walk using wpAny_loadPart' hl1
    rw [hi1]
    refine wpAny_bind (wpAny_mono ht (fun r s2 h2' => ?_) fun _ _ x => x)
    obtain ⟨hr, h2'⟩ := h2'
    cases hri : rs i with
    | true =>
      rw [hri] at hr
      subst hr
      have hR : R (.ok (.ret (.bool out))) s2 := fin s2 h2'
      rw [h1 i (by omega) hri] at hR
      wp_walk
      exact hR
    | false =>
      rw [hri] at hr
      subst hr
      have hrec := ih (i + 1) (by omega) (by omega) (fun j hj => by
        rcases Nat.lt_or_ge j i with q | q
        · exact hno j q
        · rw [show j = i by omega]; exact hri) s2 h2'
      obtain ⟨hp2, g2, d2, tk2, os2⟩ := s2
      wp_walk
      rw [hc]
      exact ⟨plainId_quiet plain_contains_loop _, codeAny_builtin entry_contains_loop (by
        rw [Around.under_plainId plain_contains_loop _]
        exact hrec)⟩
theorem list_contB (l : Addr) (x : Value) (N : Nat) (rs : Nat → Bool) (out : Bool) (I : Shared → Prop) (hl : ListX prog w A (fun e s' => R (.error e) s') l x N rs I)
    (h1 : ∀ j, j < N → rs j = true → out = true) (h2 : (∀ j, j < N → rs j = false) → out = false) (fin : ∀ s, I s → R (.ok (.ret (.bool out))) s) {s : Shared} (h : I s) :
    wpAny (model prog w) A.in1 (Builtin.«list.__contains__» ⟨[.ref l, x], []⟩) (GQ.FinOf prog w A R) (fun e s' => R (.error e) s') s := by
  obtain ⟨items, n, hl1, hs, _⟩ := hl 0 _ h
  have hrec := contB l x N rs out I hl h1 h2 fin _ 0 rfl (Nat.zero_le _) (fun j hj => absurd hj (by omega)) s h
  obtain ⟨hp, g, d, tk, os⟩ := s
  wp_walk using wpAny_loadPart' hl1
  exact ⟨plainId_quiet plain_contains_loop _, codeAny_builtin entry_contains_loop (by
    rw [Around.under_plainId plain_contains_loop _]
    exact hrec)⟩
theorem cntB (l : Addr) (x : Value) (N : Nat) (rs : Nat → Bool) (out : Int) (I : Shared → Prop) (hl : ListX prog w A (fun e s' => R (.error e) s') l x N rs I)
    (fin : ∀ s, I s → R (.ok (.ret (.int out s.toks))) { s with toks := s.toks + 1 }) (k : Nat) :
    ∀ (i : Nat) (found : Int), N - i = k → i ≤ N → found + (((List.range N).drop i).countP rs : Nat) = out → ∀ s, I s → wpAny (model prog w) A.in1 (Builtin.«list.count.loop» ⟨[.ref l, x, rawInt i, rawInt found], []⟩) (GQ.FinOf prog w A R) (fun e s' => R (.error e) s') s := by
  induction k with
  | zero =>
    intro i found hk hi ho s h
    obtain ⟨items, n, hl1, hs, _⟩ := hl i _ h
    have hR := fin s h
    have hd : (List.range N).drop i = [] := by simp; omega
    rw [hd, List.countP_nil] at ho
    have ho : out = found := by omega
    subst ho
    obtain ⟨hp, g, d, tk, os⟩ := s
    wp_walk using wpAny_loadPart' hl1
    have hi1 : items[((i : Nat) : Int).toNat]? = none := by simp; omega
    rw [hi1]
    wp_walk
    exact hR
  | succ k ih =>
    intro i found hk hi ho s h
    obtain ⟨items, n, hl1, hs, turn⟩ := hl i _ h
    have hlt : i < items.size := by omega
    have ht := turn hlt
    have hi1 : items[((i : Nat) : Int).toNat]? = some items[i] := by simp [hlt]
    have hc : ((i : Int) + 1) = ((i + 1 : Nat) : Int) := by omega
    have hN : i < N := by omega
    have hd : (List.range N).drop i = i :: (List.range N).drop (i + 1) := by simp [List.drop_eq_getElem_cons, hN]
    rw [hd, List.countP_cons] at ho
    obtain ⟨hp, g, d, tk, os⟩ := s
    wp_walk using wpAny_loadPart' hl1
    rw [hi1]
    refine wpAny_bind (wpAny_mono ht (fun r s2 h2' => ?_) fun _ _ x => x)
    obtain ⟨hr, h2'⟩ := h2'
    subst hr
    have hrec := ih (i + 1) (if rs i = true then found + 1 else found) (by omega) (by omega) (by
      cases hb : rs i with
      | true => simp only [hb, if_true] at ho ⊢; omega
      | false => simp only [hb, Bool.false_eq_true, if_false] at ho ⊢; omega) s2 h2'
    obtain ⟨hp2, g2, d2, tk2, os2⟩ := s2
    wp_walk
    rw [hc]
    exact ⟨plainId_quiet plain_count_loop _, codeAny_builtin entry_count_loop (by
      rw [Around.under_plainId plain_count_loop _]
      exact hrec)⟩
theorem list_cntB (l : Addr) (x : Value) (N : Nat) (rs : Nat → Bool) (I : Shared → Prop) (hl : ListX prog w A (fun e s' => R (.error e) s') l x N rs I)
    (fin : ∀ s, I s → R (.ok (.ret (.int ((List.range N).countP rs : Nat) s.toks))) { s with toks := s.toks + 1 }) {s : Shared} (h : I s) :
    wpAny (model prog w) A.in1 (Builtin.«list.count» ⟨[.ref l, x], []⟩) (GQ.FinOf prog w A R) (fun e s' => R (.error e) s') s := by
  obtain ⟨items, n, hl1, hs, _⟩ := hl 0 _ h
  have hrec := cntB l x N rs _ I hl fin _ 0 0 rfl (Nat.zero_le _) (by simp) s h
  obtain ⟨hp, g, d, tk, os⟩ := s
  wp_walk using wpAny_loadPart' hl1
  exact ⟨plainId_quiet plain_count_loop _, codeAny_builtin entry_count_loop (by
    rw [Around.under_plainId plain_count_loop _]
    exact hrec)⟩
theorem idxB (l : Addr) (x : Value) (N : Nat) (rs : Nat → Bool) (upto : Int) (j : Nat) (hj : j < N) (hupto : (j : Int) < upto) (hit : rs j = true) (hno : ∀ i, i < j → rs i = false) (I : Shared → Prop) (hl : ListX prog w A (fun e s' => R (.error e) s') l x N rs I)
    (fin : ∀ s, I s → R (.ok (.ret (.int j s.toks))) { s with toks := s.toks + 1 }) (k : Nat) :
    ∀ i : Nat, j - i = k → i ≤ j → ∀ s, I s → wpAny (model prog w) A.in1 (Builtin.«list.index.loop» ⟨[.ref l, x, rawInt i, rawInt upto], []⟩) (GQ.FinOf prog w A R) (fun e s' => R (.error e) s') s := by
  induction k with
  | zero =>
    intro i hk hij s h
    obtain ⟨items, n, hl1, hs, turn⟩ := hl i _ h
    have hij' : i = j := by omega
    subst hij'
    have hlt : i < items.size := by omega
    have ht := turn hlt
    obtain ⟨hp, g, d, tk, os⟩ := s
    wp_walk using wpAny_loadPart' hl1
    have hi : (if (i : Int) < upto then items[((i : Nat) : Int).toNat]? else none) = some items[i] := by simp [hupto, hlt]
    rw [hi]
    refine wpAny_bind (wpAny_mono ht (fun r s2 h2' => ?_) fun _ _ x => x)
    obtain ⟨hr, h2'⟩ := h2'
    rw [hit] at hr
    subst hr
    have hR := fin s2 h2'
    obtain ⟨hp2, g2, d2, tk2, os2⟩ := s2
    wp_walk
    exact hR
  | succ k ih =>
    intro i hk hij s h
    obtain ⟨items, n, hl1, hs, turn⟩ := hl i _ h
    have hlt : i < items.size := by omega
    have hst : (i : Int) < upto := by omega
    have ht := turn hlt
    have hc : ((i : Int) + 1) = ((i + 1 : Nat) : Int) := by omega
    obtain ⟨hp, g, d, tk, os⟩ := s
    wp_walk using wpAny_loadPart' hl1
    have hi : (if (i : Int) < upto then items[((i : Nat) : Int).toNat]? else none) = some items[i] := by simp [hst, hlt]
    rw [hi]
    refine wpAny_bind (wpAny_mono ht (fun r s2 h2' => ?_) fun _ _ x => x)
    obtain ⟨hr, h2'⟩ := h2'
    rw [hno i (by omega)] at hr
    subst hr
    have hrec := ih (i + 1) (by omega) (by omega) s2 h2'
    obtain ⟨hp2, g2, d2, tk2, os2⟩ := s2
    wp_walk
    rw [hc]
    exact ⟨plainId_quiet plain_index_loop _, codeAny_builtin entry_index_loop (by
      rw [Around.under_plainId plain_index_loop _]
      exact hrec)⟩
theorem list_idxB (l : Addr) (x : Value) (N : Nat) (rs : Nat → Bool) (j : Nat) (hj : j < N) (hN : (N : Int) < 2 ^ 62) (hit : rs j = true) (hno : ∀ i, i < j → rs i = false) (I : Shared → Prop) (hl : ListX prog w A (fun e s' => R (.error e) s') l x N rs I)
    (fin : ∀ s, I s → R (.ok (.ret (.int j s.toks))) { s with toks := s.toks + 1 }) {s : Shared} (h : I s) :
    wpAny (model prog w) A.in1 (Builtin.«list.index» ⟨[.ref l, x], []⟩) (GQ.FinOf prog w A R) (fun e s' => R (.error e) s') s := by
  obtain ⟨items, n, hl1, hs, _⟩ := hl 0 _ h
  have hrec := idxB l x N rs (2 ^ 63 - 1) j hj (by omega) hit hno I hl fin _ 0 rfl (Nat.zero_le _) s h
  obtain ⟨hp, g, d, tk, os⟩ := s
  wp_walk using wpAny_loadPart' hl1
  have a1 : ((fun i : Int => if i < 0 then max 0 (i + (items.size : Int)) else i) ((none : Option Int).getD 0)) = ((0 : Nat) : Int) := by simp
  have a2 : ((fun i : Int => if i < 0 then max 0 (i + (items.size : Int)) else i) ((none : Option Int).getD (2 ^ 63 - 1))) = 2 ^ 63 - 1 := by simp
  rw [a1, a2]
  exact ⟨plainId_quiet plain_index_loop _, codeAny_builtin entry_index_loop (by
    rw [Around.under_plainId plain_index_loop _]
    exact hrec)⟩
end
section
variable {X : Cx} {cs : List EqE} {n : Nat}
/-! ### == by data -/
def aEqA (K : PySem.W.Frag) (cs : List EqE) (n : Nat) : R2D := fun x y S q => ∃ r, EqJ K cs n x y r ∧ q (.bl r) S
def rEqA (X : Cx) (cs : List EqE) (n : Nat) : R2 := fun x y H Q => ∃ m S Z d e r, Wd0 X.K m S Z H ∧ Rep X.K m S.length (vis m S Z H) d x ∧ Rep X.K m S.length (vis m S Z H) e y ∧ EqJ X.K cs n d e r ∧ ∀ H', L2.Ext H H' → Q (.bl r) H'
theorem vr_eqA : VR2 X.K (rEqA X cs n) (aEqA X.K cs n) := fun {_ m S Z H a b v u q Q} w r1 r2 ⟨r, j, h⟩ kk =>
  ⟨m, S, Z, a, b, r, w.toWd0, r1, r2, j, fun H' e => by
    obtain ⟨w', e'⟩ := w.grow e
    exact kk.at e' w' rep_bl h⟩
theorem or_eqA (hcs : EqsOk X cs) (hr : RoomG n X.A) : OpR X (compareOp .Eq) (rEqA X cs n) := by
  intro pins s σ H x y v u Q I rx ry ⟨m, S, Z, d, e, r, w, r1, r2, j, h⟩
  show wpAny (model X.prog X.w) X.A (richCompare .Eq v u) (EP X pins σ Q) X.xe s
  refine wpAny_mono (eqj_run hcs j X.A pins s σ H m S Z x y v u ⟨hr, rfl⟩ I w r1 r2 rx ry) (fun c s' hq => ?_) fun _ _ z => z
  obtain ⟨rfl, H', I', e'⟩ := hq
  exact ⟨.bl r, H', I', rfl, h H' e'⟩
/-! ### !=, an own instance at the left -/
def aNeA (K : PySem.W.Frag) (cs : List EqE) (n : Nat) : R2D := fun x y S q => ∃ c ks xs r, c ∈ cs ∧ c.k ≤ n ∧ x = .obj c.C ks xs ∧ SideK K c.C y ∧ Say c.dsp x y r ∧ q (.bl (!r)) S
def rNeA (X : Cx) (cs : List EqE) (n : Nat) : R2 := fun x y H Q => ∃ m S Z d e r c ks xs, Wd0 X.K m S Z H ∧ Rep X.K m S.length (vis m S Z H) d x ∧ Rep X.K m S.length (vis m S Z H) e y ∧ c ∈ cs ∧ c.k ≤ n ∧ d = .obj c.C ks xs ∧ SideK X.K c.C e ∧ Say c.dsp d e r ∧ ∀ H', L2.Ext H H' → Q (.bl (!r)) H'
theorem vr_neA : VR2 X.K (rNeA X cs n) (aNeA X.K cs n) := fun {_ m S Z H a b v u q Q} w r1 r2 ⟨c, ks, xs, r, h1, h2, h3, h4, h5, h⟩ kk =>
  ⟨m, S, Z, a, b, r, c, ks, xs, w.toWd0, r1, r2, h1, h2, h3, h4, h5, fun H' e => by
    obtain ⟨w', e'⟩ := w.grow e
    exact kk.at e' w' rep_bl h⟩
theorem objNe_V {prog : Program} {w : World} {A : Around} {E : Value → Shared → Prop} {s : Shared} {K : PySem.W.Frag} {x C f : Addr} {v : Value} {ox : Obj} {od : Option Obj} {Q : Fin → Shared → Prop} (hu : A.units < cLine) (X : K.In s.heap) (I : PySem.W.InstAt s.heap x ox C od) (hs : PySem.W.findIn K (.ref C) "__eq__" = some (some (.ref f))) (hf : PySem.W.isFn K (.ref f) = true)
    (hcall : wpAny (model prog w) A (call (.ref f) [.ref x, v]) (fun v s' => ∃ b, v = .bool b ∧ Q (.done (.ret (.bool (!b)))) s') E s) : wpAny (model prog w) A (Builtin.«object.__ne__» ⟨[.ref x, v], []⟩) Q E s := by
  unfold Builtin.«object.__ne__»
  repeat (first
    | with_reducible refine wpAny_cRoomFor hu ?_
    | (refine wpAny_bind (m := callSpecialIfBound? (.ref x) (Str.ofString "__eq__") [v])
        (PySem.W.ifBound_K X I hs hf (wpAny_mono hcall (fun r s' hr => by
          obtain ⟨b, rfl, hq⟩ := hr
          repeat (first | exact hq | exact wpAny_pure hq | exact wpAny_truthy_bool hq | (refine wpAny_bind (m := truthy (.bool _)) (wpAny_truthy_bool ?_)) | wp_step)) fun _ _ e => e)))
    | wp_step)
theorem or_neA (hcs : EqsOk X cs) (hr : RoomG (n + 1) X.A) : OpR X (compareOp .NotEq) (rNeA X cs n) := by
  intro pins s σ H x y v u Q I rx ry ⟨m, S, Z, d, e, r, c, ks, xs, w, r1, r2, hc, hk, ed, he, say, h⟩
  subst ed
  obtain ⟨z, N, qual, st, dvs, ps, F, b⟩ := hcs c hc
  obtain ⟨f, fd, FS, hm, FO⟩ := F.ex
  obtain ⟨tb, hb, hn⟩ := tyX_looks I z he r2 ry
  have r1' := r1
  rw [Rep] at r1'
  obtain ⟨a, dx, vs, rfl, h1, _⟩ := r1'
  cases rx
  obtain ⟨mA, J, _⟩ := ins_get I.hok (vis_sub h1)
  obtain ⟨od, J, _⟩ := J.look
  have KX := I.kIn
  show wpAny (model X.prog X.w) X.A (richCompare .NotEq (.ref a) u) (EP X pins σ Q) X.xe s
  refine rich_one (op := .NotEq) (tb := tb) hr.units0 KX J hb hn ?_
  have hin1 : X.A.in1.units < cLine := (hr.in1).units0
  simp only [tryCompare]
  have sp1 : PySem.W.Looks (model X.prog X.w) s.heap (specialOf (.ref a) (cmpInfo .NotEq).2.1) (some (.builtin "object.__ne__")) := J.type.andThen (PySem.W.looks_findIn KX N.ne)
  have inst : PySem.W.Looks (model X.prog X.w) s.heap (isInstance (.ref a) (.type "object")) true := J.type.andThen (PySem.W.looks_mroIn KX N.ob)
  refine wpAny_bind (ifBound_B sp1 (PySem.F.cmp_object.ne.bind _) ?_)
  refine wpAny_call (codeAny_call_builtin PySem.F.cmp_object.ne.plain PySem.F.cmpEntry_ne (@PySem.W.check_slot (model X.prog X.w) _ _ _ "object.__ne__" "object" "__ne__" (.ref a) [u] [] _ PySem.F.cmpKind_ne PySem.F.cmpSplit_ne inst (PySem.F.cmpArgs_ne _ _) ?_))
  refine objNe_V (A := X.A.in1) hin1 KX J hm.at_ hm.fn ?_
  refine wpAny_mono (run_say b FS FO ((⟨hr.in1, rfl⟩ : SubG X n X.A.in1).mono hk) I w r1 r2 rfl ry say) (fun c s' hq => ?_) fun _ _ z => z
  obtain ⟨rfl, H', I', e'⟩ := hq
  exact ⟨r, rfl, wpAny_pure ⟨_, rfl, .bl (!r), H', I', rfl, h H' e'⟩⟩
/-! ### in, index, count -/
theorem listX_of (hcs : EqsOk X cs) {A : Around} (sb : SubG X (n + 1) A) {pins : List (Addr × Obj)} {σ : L2.St} {H : Hp} {m : Nat → Addr} {S : Sto} {Z : Addr → Prop} (w : Wd0 X.K m S Z H) {l : Addr} {ds : List D} {e : D} {rs : Nat → Bool} {vs : List V} {y : V} {u : Value}
    (hl : H l = some (.lst vs)) (q1 : Reps X.K m S.length (vis m S Z H) ds vs) (r2 : Rep X.K m S.length (vis m S Z H) e y) (ry : RelV y u) (h : ∀ i d, ds[i]? = some d → EqJ X.K cs n d e (rs i)) :
    ListX X.prog X.w A X.xe l u ds.length rs fun s' => ∃ H', L2.Inv X pins σ H' s' ∧ L2.Ext H H' := by
  rintro i s' ⟨H1, I1, e1⟩
  obtain ⟨z1, its, n', rv, ra, hla⟩ := I1.lstM (e1 _ _ hl)
  have la := Reps.len q1
  refine ⟨its.toArray, n', hla, by rw [List.size_toArray]; omega, fun h1 => ?_⟩
  rw [List.size_toArray] at h1
  obtain ⟨d, hd⟩ : ∃ d, ds[i]? = some d := ⟨ds[i]'(by omega), by simp⟩
  obtain ⟨x, hx, rx⟩ := Reps.get q1 hd
  have gx : its[i]? = some its[i] := by simp
  obtain ⟨w', _⟩ := w.grow e1
  have rx' := Rep.mono (fun _ _ => rfl) (Nat.le_refl _) (vis_grow e1) rx
  have ry' := Rep.mono (fun _ _ => rfl) (Nat.le_refl _) (vis_grow e1) r2
  have key := runB_of (h i d hd) (eqj_run hcs (h i d hd)) A.in1 pins s' σ H1 m S Z x y its[i] u sb.in1 I1 w' rx' ry' (vals_each rv i _ _ hx gx) ry
  refine wpAny_mono (by simpa using key) (fun c s2 hq => ?_) fun _ _ z => z
  obtain ⟨hc, H2, I2, e2⟩ := hq
  exact ⟨hc, H2, I2, e1.trans e2⟩
/-- the list, by data: what its items say against x -/
def ItsA (K : PySem.W.Frag) (cs : List EqE) (n : Nat) (S : Sto) (l x : D) (ds : List D) (rs : Nat → Bool) : Prop := lstOf S l = some ds ∧ ∀ i d, ds[i]? = some d → EqJ K cs n d x (rs i)
def rItsA (X : Cx) (cs : List EqE) (n : Nat) (l : V) (x : V) (H : Hp) (N : Nat) (rs : Nat → Bool) : Prop := ∃ m S Z a ds e vs, Wd0 X.K m S Z H ∧ l = .ref a ∧ H a = some (.lst vs) ∧ Reps X.K m S.length (vis m S Z H) ds vs ∧ Rep X.K m S.length (vis m S Z H) e x ∧ ds.length = N ∧ ∀ i d, ds[i]? = some d → EqJ X.K cs n d e (rs i)
theorem its_rep {m : Nat → Addr} {S : Sto} {Z : Addr → Prop} {H : Hp} {l x : D} {ds : List D} {rs : Nat → Bool} {v u : V} {U : Wi} (w : Wd X.K U m S Z H) (r1 : Rep X.K m S.length (vis m S Z H) l v) (r2 : Rep X.K m S.length (vis m S Z H) x u) (h : ItsA X.K cs n S l x ds rs) : rItsA X cs n v u H ds.length rs := by
  obtain ⟨a, vs, e, hh, q⟩ := lstOf_rep w r1 h.1
  exact ⟨m, S, Z, a, ds, x, vs, w.toWd0, e, hh, q, r2, rfl, h.2⟩
def aInA (K : PySem.W.Frag) (cs : List EqE) (n : Nat) (neg : Bool) : R2D := fun x l S q => ∃ ds rs, ItsA K cs n S l x ds rs ∧ q (.bl (neg ^^ (List.range ds.length).any rs)) S
def rInA (X : Cx) (cs : List EqE) (n : Nat) (neg : Bool) : R2 := fun x l H Q => ∃ N rs, rItsA X cs n l x H N rs ∧ ∀ H', L2.Ext H H' → Q (.bl (neg ^^ (List.range N).any rs)) H'
theorem vr_inA {neg : Bool} : VR2 X.K (rInA X cs n neg) (aInA X.K cs n neg) := fun {_ m S Z H a b v u q Q} w r1 r2 ⟨ds, rs, h1, h⟩ kk =>
  ⟨_, rs, its_rep w r2 r1 h1, fun H' e => by
    obtain ⟨w', e'⟩ := w.grow e
    exact kk.at e' w' rep_bl h⟩
theorem any_of {N : Nat} {rs : Nat → Bool} : (∀ j, j < N → rs j = true → (List.range N).any rs = true) ∧ ((∀ j, j < N → rs j = false) → (List.range N).any rs = false) := by
  refine ⟨fun j hj h => List.any_eq_true.mpr ⟨j, List.mem_range.mpr hj, h⟩, fun h => ?_⟩
  rw [List.any_eq_false]
  intro j hj
  rw [h j (List.mem_range.mp hj)]
  decide
theorem or_inA (hcs : EqsOk X cs) (hr : RoomG (n + 1) X.A) : OpR X (compareOp .In) (rInA X cs n false) := by
  intro pins s σ H x y v u Q I rx ry ⟨N, rs, ⟨m, S, Z, a, ds, e, vs, w, el, hl, q1, r2, hN, hj⟩, h⟩
  subst el hN
  cases ry
  obtain ⟨_, its, n', _, _, hla⟩ := I.lstM hl
  show wpAny (model X.prog X.w) X.A (do return .bool (← contains (.ref a) v)) (EP X pins σ Q) X.xe s
  refine wpAny_bind (wpAny_contains_slot ⟨_, hla, rfl⟩ F.slot_list_contains (wpAny_mono (GQ.call_here F.slot_list_contains ⟨_, hla, rfl⟩ F.entry_list_contains (F.args_list_contains_2 _ _)
    (list_contB (R := wants (fun v s' => v = .bool ((List.range ds.length).any rs) ∧ ∃ H', L2.Inv X pins σ H' s' ∧ L2.Ext H H') X.xe) a v ds.length rs _ _ (listX_of hcs (⟨hr, rfl⟩ : SubG X (n + 1) X.A) w hl q1 r2 rx hj) any_of.1 any_of.2 (fun s' q => ⟨rfl, q⟩) ⟨H, I, fun _ _ z => z⟩)) (fun c s' hv => ?_) fun _ _ z => z))
  obtain ⟨rfl, H', I', e'⟩ := hv
  have := h H' e'
  rw [Bool.false_xor] at this
  exact wpAny_truthy_bool (wpAny_pure ⟨.bl _, H', I', rfl, this⟩)
theorem or_notInA (hcs : EqsOk X cs) (hr : RoomG (n + 1) X.A) : OpR X (compareOp .NotIn) (rInA X cs n true) := by
  intro pins s σ H x y v u Q I rx ry ⟨N, rs, ⟨m, S, Z, a, ds, e, vs, w, el, hl, q1, r2, hN, hj⟩, h⟩
  subst el hN
  cases ry
  obtain ⟨_, its, n', _, _, hla⟩ := I.lstM hl
  show wpAny (model X.prog X.w) X.A (do return .bool (!(← contains (.ref a) v))) (EP X pins σ Q) X.xe s
  refine wpAny_bind (wpAny_contains_slot ⟨_, hla, rfl⟩ F.slot_list_contains (wpAny_mono (GQ.call_here F.slot_list_contains ⟨_, hla, rfl⟩ F.entry_list_contains (F.args_list_contains_2 _ _)
    (list_contB (R := wants (fun v s' => v = .bool ((List.range ds.length).any rs) ∧ ∃ H', L2.Inv X pins σ H' s' ∧ L2.Ext H H') X.xe) a v ds.length rs _ _ (listX_of hcs (⟨hr, rfl⟩ : SubG X (n + 1) X.A) w hl q1 r2 rx hj) any_of.1 any_of.2 (fun s' q => ⟨rfl, q⟩) ⟨H, I, fun _ _ z => z⟩)) (fun c s' hv => ?_) fun _ _ z => z))
  obtain ⟨rfl, H', I', e'⟩ := hv
  have := h H' e'
  rw [Bool.true_xor] at this
  exact wpAny_truthy_bool (wpAny_pure ⟨.bl _, H', I', rfl, this⟩)
def rCntA (X : Cx) (cs : List EqE) (n : Nat) : V → List V → Hp → VK → Prop := fun l xs H Q => ∃ x N rs, xs = [x] ∧ rItsA X cs n l x H N rs ∧ ∀ H', L2.Ext H H' → Q (.int ((List.range N).countP rs : Nat)) H'
def aCntA (K : PySem.W.Frag) (cs : List EqE) (n : Nat) : D → RND := fun l as S q => ∃ x ds rs, as = [x] ∧ ItsA K cs n S l x ds rs ∧ q (.int ((List.range ds.length).countP rs : Nat)) S
theorem vm_cntA : VRM X.K "list" (rCntA X cs n) (aCntA X.K cs n) := fun {_ m S Z H o u a v q Q} w r rs ⟨x, ds, rs', e1, h1, h⟩ k => by
  subst e1
  obtain ⟨z, ez, rz⟩ := reps1 rs
  exact ⟨z, _, rs', ez, its_rep w r rz h1, fun H' e => by
    obtain ⟨w', e'⟩ := w.grow e
    exact k.at e' w' rep_int h⟩
theorem mt_cntA (hcs : EqsOk X cs) (hr : RoomG (n + 1) X.A) : MtR X "list.count" (rCntA X cs n) := by
  intro pins s σ H x xs v us Q I rx rxs ⟨y, N, rs, e1, ⟨m, S, Z, a, ds, e, vs, w, el, hl, q1, r2, hN, hj⟩, h⟩
  subst e1 el hN
  cases rx
  obtain ⟨u, rfl, ru⟩ := rxs.one
  obtain ⟨_, its, n', _, _, hla⟩ := I.lstM hl
  refine GQ.call_here F.slot_list_count ⟨_, hla, rfl⟩ F.entry_list_count (F.args_list_count_2 _ _)
    (list_cntB (R := wants (EP X pins σ Q) X.xe) a u ds.length rs _ (listX_of hcs (⟨hr, rfl⟩ : SubG X (n + 1) X.A) w hl q1 r2 ru hj) (fun s' q => ?_) ⟨H, I, fun _ _ z => z⟩)
  obtain ⟨H', I', e'⟩ := q
  exact ⟨.int _, H', I'.tok _, ⟨_, rfl⟩, h H' e'⟩
def rIdxA (X : Cx) (cs : List EqE) (n : Nat) : V → List V → Hp → VK → Prop := fun l xs H Q => ∃ x N rs j, xs = [x] ∧ rItsA X cs n l x H N rs ∧ j < N ∧ (N : Int) < 2 ^ 62 ∧ rs j = true ∧ (∀ i, i < j → rs i = false) ∧ ∀ H', L2.Ext H H' → Q (.int (j : Nat)) H'
def aIdxA (K : PySem.W.Frag) (cs : List EqE) (n : Nat) : D → RND := fun l as S q => ∃ x ds rs j, as = [x] ∧ ItsA K cs n S l x ds rs ∧ j < ds.length ∧ (ds.length : Int) < 2 ^ 62 ∧ rs j = true ∧ (∀ i, i < j → rs i = false) ∧ q (.int (j : Nat)) S
theorem vm_idxA : VRM X.K "list" (rIdxA X cs n) (aIdxA X.K cs n) := fun {_ m S Z H o u a v q Q} w r rs ⟨x, ds, rs', j, e1, h1, h2, h3, h4, h5, h⟩ k => by
  subst e1
  obtain ⟨z, ez, rz⟩ := reps1 rs
  exact ⟨z, _, rs', j, ez, its_rep w r rz h1, h2, h3, h4, h5, fun H' e => by
    obtain ⟨w', e'⟩ := w.grow e
    exact k.at e' w' rep_int h⟩
theorem mt_idxA (hcs : EqsOk X cs) (hr : RoomG (n + 1) X.A) : MtR X "list.index" (rIdxA X cs n) := by
  intro pins s σ H x xs v us Q I rx rxs ⟨y, N, rs, j, e1, ⟨m, S, Z, a, ds, e, vs, w, el, hl, q1, r2, hN, hj⟩, h2, h3, h4, h5, h⟩
  subst e1 el hN
  cases rx
  obtain ⟨u, rfl, ru⟩ := rxs.one
  obtain ⟨_, its, n', _, _, hla⟩ := I.lstM hl
  refine GQ.call_here F.slot_list_index ⟨_, hla, rfl⟩ F.entry_list_index (F.args_list_index_2 _ _)
    (list_idxB (R := wants (EP X pins σ Q) X.xe) a u ds.length rs j h2 h3 h4 h5 _ (listX_of hcs (⟨hr, rfl⟩ : SubG X (n + 1) X.A) w hl q1 r2 ru hj) (fun s' q => ?_) ⟨H, I, fun _ _ z => z⟩)
  obtain ⟨H', I', e'⟩ := q
  exact ⟨.int _, H', I'.tok _, ⟨_, rfl⟩, h H' e'⟩
end
end Dl
/-! str(own), repr(own), f"{own}", f"{text!r}", bool(own by len) -/
namespace Dl
open PySem L2 PySem.Calls PySem.Spec PyProof.Rows
structure StOk (X : Cx) (nm : Str) (c : EqE) : Prop where
  f : ∃ (qual : Str) (st : Stmt) (dvs : List V) (ps : List Str), MFn X.prog X.w X.K X.mg X.base c.C nm qual st dvs c.k ps c.dsp ∧ Bnd nm qual st ps 1 [] [.p 0] dvs.length
def StsOk (X : Cx) (nm : Str) (cs : List EqE) : Prop := ∀ c ∈ cs, StOk X nm c
theorem sts_nil {X : Cx} {nm : Str} : StsOk X nm [] := fun c h => by cases h
theorem sts_cons {X : Cx} {nm : Str} {c : EqE} {cs : List EqE} (h : StOk X nm c) (hs : StsOk X nm cs) : StsOk X nm (c :: cs) := fun d hd => by
  rcases List.mem_cons.mp hd with rfl | hd
  · exact h
  · exact hs d hd
structure FmO (K : PySem.W.Frag) (C : Addr) : Prop where
  fm : PySem.W.findIn K (.ref C) "__format__" = some (some (.builtin "object.__format__"))
  ob : PySem.W.mroIn K C (.type "object") = some true
section
variable {X : Cx} {cs : List EqE} {n : Nat} {nm : Str}
def aStA (cs : List EqE) (n : Nat) : R1D := fun a S q => ∃ c ks ds, c ∈ cs ∧ c.k ≤ n ∧ objOf S a = some (c.C, ks, ds) ∧ c.dsp [a] S fun d S' => ∃ x, d = .str x ∧ q (.str x) S'
def rStA (X : Cx) (cs : List EqE) (n : Nat) : List V → Hp → VK → Prop := fun vs H Q => ∃ c a dx fs, c ∈ cs ∧ c.k ≤ n ∧ vs = [.ref a] ∧ H a = some (.ins c.C dx fs) ∧ spOf X.K c.dsp [.ref a] H (fun v H' => ∃ x, v = .str x ∧ Q (.str x) H') fun _ _ _ => False
theorem vr_stA : VRN X.K (rStA X cs n) (a1 (aStA cs n)) := vrn1 fun {_ m S Z H d v q Q} w r ⟨c, ks, ds, hc, hk, h1, h2⟩ kk => by
  obtain ⟨x, dx, vs, ev, hx, _, _⟩ := objOf_rep w r h1
  subst ev
  refine ⟨c, x, dx, _, hc, hk, rfl, hx, m, S, Z, [d], _, w.w0, Reps.one r, h2, fun v1 H1 m1 d1 S1 e1 w1 rr ⟨y, en, hq⟩ => ?_⟩
  subst en
  have rr' := rr
  rw [rD, Rep] at rr'
  exact ⟨y, rr', kk.at e1 (w.on e1 w1.toWd0) rep_str hq⟩
/-- the method run, below the running body -/
theorem st_run (hcs : StsOk X nm cs) {c : EqE} (hc : c ∈ cs) (hk : c.k ≤ n) {A : Around} (sb : SubG X n A) {pins : List (Addr × Obj)} {σ : L2.St} {H : Hp} {s : Shared} {a dx : Addr} {fs : List (Str × V)} {Q : VK} (I : L2.Inv X pins σ H s) (hx : H a = some (.ins c.C dx fs))
    (h : spOf X.K c.dsp [.ref a] H (fun v H' => ∃ x, v = .str x ∧ Q (.str x) H') fun _ _ _ => False) :
    ∃ ox od f, PySem.W.InstAt s.heap a ox c.C od ∧ PySem.W.findIn X.K (.ref c.C) nm = some (some (.ref f)) ∧ PySem.W.isFn X.K (.ref f) = true ∧
      ∀ s2, L2.Inv X pins σ H s2 → wpAny (model X.prog X.w) A (call (.ref f) [.ref a]) (PySem.W.StrBack (EP X pins σ Q)) X.xe s2 := by
  obtain ⟨qual, st, dvs, ps, F, b⟩ := (hcs c hc).f
  obtain ⟨f, fd, FS, hm, FO⟩ := F.ex
  obtain ⟨its, KB⟩ := kbn_of FS b
  obtain ⟨mA, J, _⟩ := ins_get I.hok hx
  obtain ⟨od, J, _⟩ := J.look
  have r2 : Vals [V.ref a] [Value.ref a] := .cons rfl .nil
  refine ⟨_, _, f, J, hm.at_, hm.fn, fun s2 I2 => ?_⟩
  refine wpAny_mono (run_at FO (sb.mono hk) KB I2 r2 rfl (Q := fun v H' => ∃ x, v = .str x ∧ Q (.str x) H') (by simpa [gat, pick] using h)) (fun w' s' hq => ?_) fun _ _ z => z
  obtain ⟨z, H', I', rz, y, ez, q⟩ := hq
  subst ez
  obtain ⟨t, rfl⟩ := rz
  exact ⟨.str y, H', I', ⟨t, rfl⟩, q⟩
theorem cr_strA (hcs : StsOk X "__str__" cs) (hr : RoomG (n + 2) X.A) : CallR X (.type "str") (rStA X cs n) := by
  intro pins s σ H vs us Q I r ⟨c, a, dx, fs, hc, hk, e, hx, h⟩
  subst e
  obtain ⟨u, rfl, ru⟩ := vals1 r
  obtain rfl : u = Value.ref a := ru
  obtain ⟨ox, od, f, J, hs, hf, run⟩ := st_run hcs hc hk (⟨hr.in1.in1, rfl⟩ : SubG X n X.A.in1.in1) I hx h
  exact PySem.W.kso_call hr.in1.in1.units0 I.kIn J hs hf (run s I)
theorem cr_reprA (hcs : StsOk X "__repr__" cs) (hr : RoomG (n + 1) X.A) : CallR X (.builtin "repr") (rStA X cs n) := by
  intro pins s σ H vs us Q I r ⟨c, a, dx, fs, hc, hk, e, hx, h⟩
  subst e
  obtain ⟨u, rfl, ru⟩ := vals1 r
  obtain rfl : u = Value.ref a := ru
  obtain ⟨ox, od, f, J, hs, hf, run⟩ := st_run hcs hc hk (⟨hr.in1, rfl⟩ : SubG X n X.A.in1) I hx h
  obtain ⟨mm, hF⟩ := I.fr
  exact PySem.W.repr_K hr.in1.units0 hF I.ok.mod.kin J hs hf (run s I)
/-- f"{own}" -/
def gFmtA (cs : List EqE) (n : Nat) (ge : G D) : G D := fun ρ S q => ge ρ S fun d S1 => aStA cs n d S1 q
theorem d_fmtA {e : Expr} {pos : Pos} {ge : G D} (hcs : StsOk X "__str__" cs) (hfm : ∀ c ∈ cs, FmO X.K c.C) (hr : RoomG (n + 1) X.A) (he : PE X e (tofE X.K U ge)) : PE X (.FormattedValue e (-1) none pos) (tofE X.K U (gFmtA cs n ge)) := by
  refine ⟨fun pins s σ H Q I ⟨m, S, Z, ρ, q, w, rs, h, k⟩ => ?_⟩
  refine wpAny_FormattedValue_plain (thn (he.run pins s σ H (fun v H1 => ∃ c a dx fs, c ∈ cs ∧ c.k ≤ n ∧ v = .ref a ∧ H1 a = some (.ins c.C dx fs) ∧ spOf X.K c.dsp [.ref a] H1 (fun v H' => ∃ x, v = .str x ∧ Q (.str x) H') fun _ _ _ => False) I ?_) fun v s1 hv => ?_)
  · refine tof_in w rs h fun v1 H1 m1 d1 S1 e1 w1 r1 ⟨c, ks, ds, hc, hk, h1, h2⟩ => ?_
    obtain ⟨x, dx, vs, ev, hx, _, _⟩ := objOf_rep w1 r1 h1
    subst ev
    refine ⟨c, x, dx, _, hc, hk, rfl, hx, m1, S1, Z, [d1], _, w1.w0, Reps.one r1, h2, fun v2 H2 m2 d2 S2 e2 w2 rr ⟨y, en, hq⟩ => ?_⟩
    subst en
    have rr' := rr
    rw [rD, Rep] at rr'
    exact ⟨y, rr', k.at (e1.trans e2) (w1.on e2 w2.toWd0) rep_str hq⟩
  · obtain ⟨x, H1, I1, r1, c, a, dx, fs, hc, hk, ex, hx, hsp⟩ := hv
    subst ex
    cases r1
    obtain ⟨ox, od, f, J, hs, hf, run⟩ := st_run hcs hc hk (⟨hr.in1, rfl⟩ : SubG X n X.A.in1) I1 hx hsp
    exact PySem.W.kfo_fieldS hr.in1.units0 I1.kIn J (hfm c hc).fm (hfm c hc).ob hs hf (run _ (I1.tok _))
/-- f"{text!r}" -/
def gFmtR (ge : G D) : G D := fun ρ S q => ge ρ S fun d S1 => match d with
  | .str y => (reprText y).length ≤ sizeLine ∧ q (.str (reprText y)) S1
  | .int i => i.natAbs.log2 < 1920 ∧ q (.str (showI i)) S1
  | _ => False
theorem d_fmtR {e : Expr} {pos : Pos} {ge : G D} (he : PE X e (tofE X.K U ge)) : PE X (.FormattedValue e 114 none pos) (tofE X.K U (gFmtR ge)) :=
  weakE (pe_fmtR he) fun σ H Q ⟨m, S, Z, ρ, q, w, rs, h, k⟩ => tof_in w rs h fun u1 H1 m1 d1 S1 e1 w1 r1 h1 => by
    cases d1 <;> first
      | exact False.elim h1
      | (rw [rD, Rep] at r1; exact .inl ⟨_, r1, h1.1, k.at e1 w1 rep_str h1.2⟩)
      | (rw [rD, Rep] at r1; exact .inr ⟨_, r1, h1.1, k.at e1 w1 rep_str h1.2⟩)
end
/-! ### the truth of an own instance by its len -/
structure NoBool (K : PySem.W.Frag) (C : Addr) : Prop where
  nb : PySem.W.findIn K (.ref C) "__bool__" = some none
section
variable {prog : Program} {w : World} {A : Around} {E : Value → Shared → Prop} {s : Shared} {K : PySem.W.Frag}
theorem truthy_len {x C f : Addr} {ox : Obj} {od : Option Obj} {Q : Bool → Shared → Prop} (X : K.In s.heap) (I : PySem.W.InstAt s.heap x ox C od) (hb : PySem.W.findIn K (.ref C) "__bool__" = some none) (hs : PySem.W.findIn K (.ref C) "__len__" = some (some (.ref f))) (hf : PySem.W.isFn K (.ref f) = true)
    (h : wpAny (model prog w) A.in1 (call (.ref f) [.ref x]) (PySem.W.LenBack fun v s' => ∃ (n : Int) (t : Tok), v = .int n t ∧ Q (n != 0) s') E s) : wpAny (model prog w) A (truthy (.ref x)) Q E s := by
  unfold truthy
  refine wpAny_bind (m := callSpecial? (.ref x) (Str.ofString "__bool__")) (wpAny_bind (wpAny_bind (I.type.here ((PySem.W.looks_findIn X hb).here (wpAny_pure ?_)))))
  refine wpAny_bind (wpAny_bind (I.type.here ((PySem.W.looks_findIn X hs).here ?_)))
  have key : wpAny (model prog w) A (runValue (.builtin "len" ⟨[.ref x], []⟩)) (fun v s' => ∃ (n : Int) (t : Tok), v = .int n t ∧ Q (n != 0) s') E s := by
    refine wpAny_runValue (codeAny_builtin PySem.entry_len ?_)
    rw [Around.under_plainId PySem.plain_len _]
    unfold Builtin.«len»
    refine wpAny_bind (m := oneArg "len" _) (wpAny_pure ?_)
    refine wpAny_bind (m := callSpecial? (.ref x) (Str.ofString "__len__")) (PySem.W.special_fn X I hs (beq_iff_eq.mp hf) (wpAny_mono h (fun r s' hr => ?_) fun _ _ y => y))
    cases r <;> first | exact hr.elim | skip
    rename_i n u
    obtain ⟨⟨h0, h1⟩, hq⟩ := hr
    refine wpAny_bind (wpAny_holding (wpAny_pure ?_))
    refine wpAny_bind (wpAny_letGo ?_)
    show wpAny _ _ (if n < 0 then _ else _) _ _ _
    rw [if_neg (by omega)]
    show wpAny _ _ (if n ≥ 2 ^ 63 then _ else _) _ _ _
    rw [if_neg (by omega)]
    obtain ⟨m, tt, e, hq⟩ := hq
    cases e
    exact wpAny_bind (wpAny_mkInt (wpAny_pure ⟨_, _, rfl, hq⟩))
  refine wpAny_bind (wpAny_mono key (fun v s' hv => ?_) fun _ _ e => e)
  obtain ⟨n, t, rfl, hq⟩ := hv
  exact wpAny_pure hq
theorem meets_bool (x : Value) : MeetsIn prog w (Builtin.«bool.__new__» ⟨[.type "bool", x], []⟩) (fun A R s => wpAny (model prog w) A.in1 (truthy x) (fun b s' => R (.ok (.ret (.bool b))) s') (fun e s' => R (.error e) s') s) :=
  .of_wp fun A R s hs => by
    obtain ⟨hp, g, d, tk, os⟩ := s
    have f1 := F.conv_sub_bool
    wp_walk
    exact wpAny_mono hs (fun b s' h => wpAny_pure ⟨_, rfl, h⟩) fun _ _ e => e
end
section
variable {X : Cx} {C : Addr} {qual : Str} {st : Stmt} {dvs : List V} {k : Nat} {ps : List Str} {dsp : DSp}
def rBoO (C : Addr) (sp : Sp) : List V → Hp → VK → Prop := fun vs H Q => ∃ a dx fs, vs = [.ref a] ∧ H a = some (.ins C dx fs) ∧ sp [.ref a] H (fun v H' => ∃ n : Int, v = .int n ∧ 0 ≤ n ∧ n < 2 ^ 63 ∧ Q (.bl (n != 0)) H') fun _ _ _ => False
def aBoO (C : Addr) (dsp : DSp) : R1D := fun a S q => (∃ ks ds, objOf S a = some (C, ks, ds)) ∧ dsp [a] S fun d S' => ∃ n : Int, d = .int n ∧ 0 ≤ n ∧ n < 2 ^ 63 ∧ q (.bl (n != 0)) S'
theorem vr_boO {K : PySem.W.Frag} : VRN K (rBoO C (spOf K dsp)) (a1 (aBoO C dsp)) := vrn1 fun {_ m S Z H d v q Q} w r ⟨⟨ks, ds, h1⟩, h2⟩ kk => by
  obtain ⟨x, dx, vs, ev, hx, _, _⟩ := objOf_rep w r h1
  subst ev
  refine ⟨x, dx, _, rfl, hx, m, S, Z, [d], _, w.w0, Reps.one r, h2, fun v1 H1 m1 d1 S1 e1 w1 rr ⟨n, en, h3, h4, hq⟩ => ?_⟩
  subst en
  have rr' := rr
  rw [rD, Rep] at rr'
  exact ⟨n, rr', h3, h4, kk.at e1 (w.on e1 w1.toWd0) rep_bl hq⟩
/-- the truth, somewhere below the running body -/
theorem truth_own (N : NoBool X.K C) (F : MFn X.prog X.w X.K X.mg X.base C "__len__" qual st dvs k ps dsp) (b : Bnd "__len__" qual st ps 1 [] [.p 0] dvs.length) {A : Around} (sb : SubG X (k + 1) A) {pins : List (Addr × Obj)} {σ : L2.St} {H : Hp} {s : Shared} {Q : Bool → Hp → Prop} {a dx : Addr} {fs : List (Str × V)} (I : L2.Inv X pins σ H s) (ha : H a = some (.ins C dx fs))
    (h : spOf X.K dsp [.ref a] H (fun v H' => ∃ n : Int, v = .int n ∧ 0 ≤ n ∧ n < 2 ^ 63 ∧ Q (n != 0) H') fun _ _ _ => False) : wpAny (model X.prog X.w) A (truthy (.ref a)) (fun b s' => ∃ H', L2.Inv X pins σ H' s' ∧ Q b H') X.xe s := by
  obtain ⟨f, fd, FS, hm, FO⟩ := F.ex
  obtain ⟨its, KB⟩ := kbn_of FS b
  obtain ⟨mA, J, _⟩ := ins_get I.hok ha
  obtain ⟨od, J, _⟩ := J.look
  refine truthy_len I.kIn J N.nb hm.at_ hm.fn ?_
  have r2 : Vals [V.ref a] [Value.ref a] := .cons rfl .nil
  refine wpAny_mono (run_at FO sb.in1 KB I r2 rfl (Q := fun v H' => ∃ n : Int, v = .int n ∧ 0 ≤ n ∧ n < 2 ^ 63 ∧ Q (n != 0) H') (by simpa [gat, pick] using h)) (fun w' s' hq => ?_) fun _ _ z => z
  obtain ⟨z, H', I', rz, n, ez, h0, h1, q⟩ := hq
  subst ez
  obtain ⟨t, rfl⟩ := rz
  exact ⟨⟨h0, h1⟩, n, _, rfl, H', I'.tok _, q⟩
theorem cr_boO (N : NoBool X.K C) (F : MFn X.prog X.w X.K X.mg X.base C "__len__" qual st dvs k ps dsp) (hr : RoomG (k + 3) X.A) (b : Bnd "__len__" qual st ps 1 [] [.p 0] dvs.length) : CallR X (.type "bool") (rBoO C (spOf X.K dsp)) := by
  intro pins s σ H vs us Q I r h
  obtain ⟨a, dx, fs, rfl, ha, hsp⟩ := h
  obtain ⟨u, rfl, ru⟩ := vals1 r
  obtain rfl : u = Value.ref a := ru
  refine callType_newIn PySem.F.called_bool PySem.F.newNe_bool (PySem.F.typeCall_bool_1 _) (PySem.F.newCall_bool_1 _) (fun obj => PySem.F.args_object_init_2 obj _) PySem.F.entry_bool_new (meets_bool _) ?_
  refine wpAny_mono (truth_own (Q := fun b H' => Q (.bl b) H') N F b (⟨hr.in1.in1, rfl⟩ : SubG X (k + 1) X.A.in1.in1) I ha (by
    obtain ⟨m, S, Z, ds, q, w, rr, hd, kk⟩ := hsp
    exact ⟨m, S, Z, ds, q, w, rr, hd, kk⟩)) (fun b s' hq => ?_) fun _ _ z => z
  obtain ⟨H', I', q⟩ := hq
  exact ⟨rfl, .bl b, H', I', rfl, q⟩
end
/-! ### readings -/
def aFmtR : R1D := fun d S1 q => match d with
  | .str y => (reprText y).length ≤ sizeLine ∧ q (.str (reprText y)) S1
  | .int i => i.natAbs.log2 < 1920 ∧ q (.str (showI i)) S1
  | _ => False
theorem x_fmtRS {ge : G D} {ρ : Env_} {S : Sto} {q : D → Sto → Prop} : gFmtR ge ρ S q = ge ρ S fun d S1 => aFmtR d S1 q := rfl
theorem x_afRS {x : Str} {S : Sto} {q : D → Sto → Prop} : aFmtR (.str x) S q ↔ (reprText x).length ≤ sizeLine ∧ q (.str (reprText x)) S := Iff.rfl
theorem x_afRI {i : Int} {S : Sto} {q : D → Sto → Prop} : aFmtR (.int i) S q ↔ i.natAbs.log2 < 1920 ∧ q (.str (showI i)) S := Iff.rfl
/-- str(own), one class -/
theorem x_stO {C : Addr} {k n : Nat} {dsp : DSp} {ks : List Str} {ds : List D} {S : Sto} {q : D → Sto → Prop} : aStA [⟨C, k, dsp⟩] n (.obj C ks ds) S q ↔ k ≤ n ∧ dsp [.obj C ks ds] S fun d S' => ∃ x, d = .str x ∧ q (.str x) S' := by
  constructor
  · rintro ⟨c, ks', ds', hc, hk, e, h⟩
    rw [List.mem_singleton] at hc
    subst hc
    exact ⟨hk, h⟩
  · exact fun ⟨hk, h⟩ => ⟨_, ks, ds, List.mem_singleton.mpr rfl, hk, rfl, h⟩
end Dl
/-! plain laws of clock texts -/
namespace Mt
open PySem L2 Dl
/-- two figures of a number -/
def tw (n : Nat) : Str := ⟨#[48 + n / 10, 48 + n % 10]⟩
theorem tw_zfill : ∀ n, n < 60 → Txt.zfill (showI (n : Nat)) 2 = tw n := by decide +kernel
theorem tw_two : ∀ n, n < 60 → cutS (showI (100 + (n : Nat))) (some 1) none = tw n := by decide +kernel
theorem tw_int : ∀ n, n < 60 → PySem.intText? (tw n) = some (n : Int) := by decide +kernel
def figs (x : Str) : Bool := !(x == Str.empty) && x.cps.toList.all fun c => decide (48 ≤ c) && decide (c ≤ 57)
theorem day_figs : ∀ n, n < 700 → figs (showI (n : Nat)) = true := by decide +kernel
theorem day_int : ∀ n, n < 700 → PySem.intText? (showI (n : Nat)) = some (n : Int) := by decide +kernel
theorem day_len : ∀ n, n < 700 → (showI (n : Nat)).length ≤ 3 ∧ 0 < (showI (n : Nat)).length := by decide +kernel

/-! ### the last place of one sign -/
theorem rpart_none {a : List Nat} {c : Nat} (h : c ∉ a) : rpartS ⟨a.toArray⟩ ⟨#[c]⟩ = (Str.empty, Str.empty, ⟨a.toArray⟩) := by
  unfold rpartS
  rcases StrLaws.last_spec ⟨a.toArray⟩ ⟨#[c]⟩ with ⟨e, _⟩ | ⟨i, e, hA, _⟩
  · rw [e]
  · have h1 := (StrLaws.subAt_one ⟨a.toArray⟩ c i).mp hA
    exact absurd (List.mem_of_getElem? h1) h
theorem rpart_one {a b : List Nat} {c : Nat} (h : c ∉ b) : rpartS ⟨(a ++ c :: b).toArray⟩ ⟨#[c]⟩ = (⟨a.toArray⟩, ⟨#[c]⟩, ⟨b.toArray⟩) := by
  have key : Builtin.Str.lastOccurrence ⟨(a ++ c :: b).toArray⟩ ⟨#[c]⟩ 0 (⟨(a ++ c :: b).toArray⟩ : Str).length = some a.length := by
    have h0 : StrLaws.At ⟨(a ++ c :: b).toArray⟩ ⟨#[c]⟩ (⟨(a ++ c :: b).toArray⟩ : Str).length a.length := (StrLaws.subAt_one _ c _).mpr (by simp)
    rcases StrLaws.last_spec ⟨(a ++ c :: b).toArray⟩ ⟨#[c]⟩ with ⟨e, hn⟩ | ⟨i, e, hA, hl⟩
    · exact absurd h0 (hn _)
    · rw [e]
      have h1 := (StrLaws.subAt_one _ c i).mp hA
      rcases Nat.lt_trichotomy i a.length with hi | hi | hi
      · exact absurd h0 (hl _ hi)
      · rw [hi]
      · refine absurd ?_ h
        simp only [List.getElem?_append_right (Nat.le_of_lt hi)] at h1
        obtain ⟨j, hj⟩ : ∃ j, i - a.length = j + 1 := ⟨i - a.length - 1, by omega⟩
        rw [hj, List.getElem?_cons_succ] at h1
        exact List.mem_of_getElem? h1
  unfold rpartS
  rw [key]
  have e1 : (⟨#[c]⟩ : Str).length = 1 := rfl
  have e2 : (⟨(a ++ c :: b).toArray⟩ : Str).length = a.length + (b.length + 1) := by show (a ++ c :: b).toArray.size = _; simp
  refine Prod.ext ?_ (Prod.ext rfl ?_)
  · show Builtin.Str.strSub _ 0 a.length = _
    refine congrArg Str.mk ?_
    apply Array.toList_inj.mp
    have := StrLaws.strSub_toList ⟨(a ++ c :: b).toArray⟩ 0 a.length
    rw [show (Builtin.Str.strSub ⟨(a ++ c :: b).toArray⟩ 0 a.length).cps = (a ++ c :: b).toArray.extract 0 a.length from rfl] at this
    rw [this]; simp
  · show Builtin.Str.strSub _ (a.length + _) _ = _
    rw [e1, e2]
    refine congrArg Str.mk ?_
    apply Array.toList_inj.mp
    have := StrLaws.strSub_toList ⟨(a ++ c :: b).toArray⟩ (a.length + 1) (a.length + (b.length + 1))
    rw [show (Builtin.Str.strSub ⟨(a ++ c :: b).toArray⟩ (a.length + 1) (a.length + (b.length + 1))).cps = (a ++ c :: b).toArray.extract (a.length + 1) (a.length + (b.length + 1)) from rfl] at this
    rw [this]; simp
    exact List.take_of_length_le (by omega)
/-! ### hh:mm -/
def hm (h m : Nat) : Str := ⟨#[48 + h / 10, 48 + h % 10, 58, 48 + m / 10, 48 + m % 10]⟩
theorem hm_eq (h m : Nat) : tw h ++ ((":" : String) : Str) ++ tw m = hm h m := rfl
def plus : Str := (("+" : String) : Str)
def colon : Str := ((":" : String) : Str)
/-- a minute as the text shows it -/
def T (w : Nat) : Str := if w < 1440 then hm (w / 60) (w % 60) else hm (w % 1440 / 60) (w % 60) ++ (plus ++ showI (w / 1440 : Nat))
theorem plus_eq : plus = ⟨#[43]⟩ := by decide +kernel
theorem hm_free {h m : Nat} (h1 : h < 60) (h2 : m < 60) : 43 ∉ [48 + h / 10, 48 + h % 10, 58, 48 + m / 10, 48 + m % 10] := by
  simp only [List.mem_cons, List.not_mem_nil, or_false]; omega
theorem rp_hm {h m : Nat} (h1 : h < 60) (h2 : m < 60) : rpartS (hm h m) plus = (Str.empty, Str.empty, hm h m) := by
  rw [plus_eq]; exact rpart_none (hm_free h1 h2)
theorem figs_free {x : Str} {c : Nat} (h : figs x = true) (hc : c < 48) : c ∉ x.cps.toList := fun hm => by
  unfold figs at h
  rw [Bool.and_eq_true, List.all_eq_true] at h
  have := h.2 c hm
  simp at this; omega
theorem rp_day {h m d : Nat} (hd : d < 700) : rpartS (hm h m ++ (plus ++ showI (d : Nat))) plus = (hm h m, plus, showI (d : Nat)) := by
  have e : hm h m ++ (plus ++ showI (d : Nat)) = ⟨([48 + h / 10, 48 + h % 10, 58, 48 + m / 10, 48 + m % 10] ++ 43 :: (showI (d : Nat)).cps.toList).toArray⟩ := by
    rw [plus_eq]
    refine congrArg Str.mk ?_
    apply Array.toList_inj.mp
    show ((#[48 + h / 10, 48 + h % 10, 58, 48 + m / 10, 48 + m % 10] : Array Nat) ++ (#[43] ++ (showI (d : Nat)).cps)).toList = _
    simp
  rw [e, plus_eq, rpart_one (figs_free (day_figs d hd) (by decide))]
  rfl
theorem T_len {w : Nat} (h : w ≤ 1000000) : (T w).length ≤ 10 := by
  unfold T
  split
  · exact Nat.le_trans (show (5 : Nat) ≤ 10 by decide) (Nat.le_refl _)
  · have := (day_len (w / 1440) (by omega)).1
    show ((hm (w % 1440 / 60) (w % 60)).cps ++ (plus.cps ++ (showI (w / 1440 : Nat)).cps)).size ≤ 10
    have e : (plus.cps).size = 1 := by decide +kernel
    have e2 : (hm (w % 1440 / 60) (w % 60)).cps.size = 5 := rfl
    have e3 : (showI (w / 1440 : Nat)).cps.size ≤ 3 := this
    rw [Array.size_append, Array.size_append, e, e2]
    omega

theorem log2_small {i : Int} (h0 : 0 ≤ i) (h : i < 2 ^ 64) : i.natAbs.log2 < 1920 := by
  have h1 : i.natAbs < 2 ^ 64 := by omega
  by_cases hz : i.natAbs = 0
  · rw [hz]; decide
  · have := (Nat.log2_lt hz).mpr h1
    omega
theorem show_len {i : Int} (h0 : 0 ≤ i) (h : i < 10 ^ 20) : (showI i).length ≤ sizeLine := by
  refine Nat.le_trans (PyProof.Rows.toString_length_le h0 (by decide) h) (by decide)
theorem show_len10 {i : Int} (h0 : 0 ≤ i) (h : i < 10 ^ 10) : (showI i).length ≤ 10 := PyProof.Rows.toString_length_le h0 (by decide) h
end Mt
/-! promises that many laws share: the tape, clock texts -/
namespace Mt
open PySem L2 Dl
def Tp (B : Int) (o : Option MO) : Prop := ∃ (ns : List Int) (t r : Int), o = some (.lst [.lst (ns.map .int), .int t, .int r]) ∧ 0 ≤ t ∧ t ≤ B ∧ 0 ≤ r
theorem Tp.mono {B B' : Int} {o : Option MO} (h : Tp B o) (l : B ≤ B') : Tp B' o := by
  obtain ⟨ns, t, r, e, h1, h2, h3⟩ := h
  exact ⟨ns, t, r, e, h1, by omega, h3⟩
/-- a def that draws at most k times -/
def tk (k : Int) (args : List D) (R : D → Prop) : DSp := fun ds S q => ∃ o R0 B, ds = .loc 0 :: args ∧ S = o :: R0 ∧ Tp B o ∧ B + k ≤ 10 ^ 12 ∧ ∀ d o', R d → Tp (B + k) o' → q d (o' :: R0)
theorem tk_in {k B : Int} {args : List D} {R : D → Prop} {o : Option MO} {R0 : Sto} {q : D → Sto → Prop} (h : Tp B o) (hb : B + k ≤ 10 ^ 12) (hq : ∀ d o', R d → Tp (B + k) o' → q d (o' :: R0)) : tk k args R (.loc 0 :: args) (o :: R0) q :=
  ⟨o, R0, B, rfl, rfl, h, hb, hq⟩
theorem tk_len {k : Int} {args : List D} {R : D → Prop} {ds : List D} {S : Sto} {q : D → Sto → Prop} {n : Nat} (hn : args.length + 1 = n) (h : tk k args R ds S q) : ds.length = n := by
  obtain ⟨o, R0, B, e, _⟩ := h
  rw [e, ← hn]; rfl
def intIn (lo hi : Int) : D → Prop := fun d => ∃ x, d = .int x ∧ lo ≤ x ∧ x < hi
def draw : DSp := fun ds S q => ∃ many, 0 < many ∧ many < 1073741824 ∧ tk 1 [.int many] (intIn 0 many) ds S q
def pick : DSp := fun ds S q => ∃ es, 0 < es.length ∧ (es.length : Int) < 1073741824 ∧ tk 1 [.lst es] (fun e => e ∈ es) ds S q
theorem draw_in {many B : Int} {o : Option MO} {R0 : Sto} {q : D → Sto → Prop} (h1 : 0 < many) (h2 : many < 1073741824) (h : Tp B o) (hb : B + 1 ≤ 10 ^ 12) (hq : ∀ x o', 0 ≤ x → x < many → Tp (B + 1) o' → q (.int x) (o' :: R0)) :
    draw [.loc 0, .int many] (o :: R0) q := ⟨many, h1, h2, tk_in h hb fun d o' ⟨x, e, h3, h4⟩ t => by subst e; exact hq x o' h3 h4 t⟩
theorem pick_in {es : List D} {B : Int} {o : Option MO} {R0 : Sto} {q : D → Sto → Prop} (h1 : 0 < es.length) (h2 : (es.length : Int) < 1073741824) (h : Tp B o) (hb : B + 1 ≤ 10 ^ 12) (hq : ∀ e o', e ∈ es → Tp (B + 1) o' → q e (o' :: R0)) :
    pick [.loc 0, .lst es] (o :: R0) q := ⟨es, h1, h2, tk_in h hb hq⟩
/-! ### figures, numbers, times -/
def sOk (x : Str) : Prop := x.length ≤ sizeLine ∧ PyData.strOk x = true
def figures : DSp := fun ds S q => ∃ x, ds = [.str x] ∧ sOk x ∧ q (.bl (figs x)) S
def val (x : Str) : Int := (PySem.NumText.digitsVal x.cps.toList : Nat)
def optD : Option Int → D
  | some i => .int i
  | none => .non
/-- the first sign -/
def sgn (x : Str) (i : Nat) : Nat := x.cps.toList.getD i 0
def numI (x : Str) (lo hi : Int) : Option Int := if 9 < x.length then none else if figs x = false then none else if sgn x 0 = 48 ∧ x ≠ (("0" : String) : Str) then none else if lo ≤ val x ∧ val x ≤ hi then some (val x) else none
def number : DSp := fun ds S q => ∃ x lo hi, ds = [.str x, .int lo, .int hi] ∧ sOk x ∧ q (optD (numI x lo hi)) S
def clockI (x : Str) : Option Int := if x.length ≠ 5 then none else if sgn x 2 ≠ 58 then none else if figs (cutS x none (some 2) ++ cutS x (some 3) none) = false then none
  else if val (cutS x none (some 2)) < 24 ∧ val (cutS x (some 3) none) < 60 then some (val (cutS x none (some 2)) * 60 + val (cutS x (some 3) none)) else none
def clock : DSp := fun ds S q => ∃ x, ds = [.str x] ∧ sOk x ∧ q (optD (clockI x)) S
def timeI (x : Str) : Option Int := if (rpartS x plus).2.1 = Str.empty then clockI x else
  match clockI (rpartS x plus).1, numI (rpartS x plus).2.2 1 999999999 with
  | some c, some d => if d * 1440 + c ≤ 1000000 then some (d * 1440 + c) else none
  | _, _ => none
def time : DSp := fun ds S q => ∃ x, ds = [.str x] ∧ sOk x ∧ q (optD (timeI x)) S
def rtime : DSp := fun ds S q => ∃ x m, ds = [.str x] ∧ sOk x ∧ timeI x = some m ∧ q (.int m) S
def shClock : DSp := fun ds S q => ∃ m : Nat, ds = [.int m] ∧ m < 1440 ∧ q (.str (hm (m / 60) (m % 60))) S
def two : DSp := fun ds S q => ∃ m : Nat, ds = [.int m] ∧ m < 60 ∧ q (.str (tw m)) S
def shTime : DSp := fun ds S q => ∃ m : Nat, ds = [.int m] ∧ m < 10000000000 ∧ q (.str (T m)) S
def tape : DSp := fun ds S q => ∃ ns : List Int, ds = [.ksq (ns.map .int)] ∧ S = [] ∧ q (.loc 0) [some (.lst [.lst ((ns.take 63).map .int), .int 0, .int 0])]
def isWhole : DSp := fun ds S q => ∃ i, ds = [.int i] ∧ q (.bl true) S
def minute : DSp := tk 4 [] (intIn 0 1000001)
def law : DSp := fun ds S q => ∃ ns : List Int, ds = [.ksq (ns.map .int)] ∧ S = [] ∧ ∀ S', q (.bl true) S'

theorem app3 (x y z : Str) : x ++ y ++ z = x ++ (y ++ z) := congrArg Str.mk (Array.append_assoc ..)
theorem len_app (x y : Str) : (x ++ y).length = x.length + y.length := Array.size_append ..
theorem figs_empty {x : Str} (h : x = Str.empty) : figs x = false := by rw [h]; rfl
theorem figs_all {x : Str} (h : x ≠ Str.empty) : figs x = ((x.cps.toList.map fun c => decide (48 ≤ c) && decide (c ≤ 57)).all id) := by
  unfold figs
  rw [List.all_map, beq_eq_false_iff_ne.mpr h]
  rfl
theorem signs_get {x : Str} {i : Nat} {d : D} (h : (signsD x)[i]? = some d) : ∃ c, d = .str ⟨#[c]⟩ := by
  unfold signsD at h
  rw [List.getElem?_map] at h
  cases hc : x.cps.toList[i]? with
  | none => rw [hc] at h; cases h
  | some c => rw [hc] at h; cases h; exact ⟨c, rfl⟩
theorem dig_in (c : Nat) : decide (c ∈ (Str.ofString "0123456789").cps.toList) = (decide (48 ≤ c) && decide (c ≤ 57)) := by
  rw [show (Str.ofString "0123456789").cps.toList = [48, 49, 50, 51, 52, 53, 54, 55, 56, 57] by decide +kernel]
  rw [← Bool.decide_and]
  refine decide_eq_decide.mpr ?_
  simp only [List.mem_cons, List.not_mem_nil, or_false]
  omega
theorem fm_map {A B : Type} {f : A → Option B} {g : A → B} (h : ∀ a, f a = some (g a)) (l : List A) : l.filterMap f = l.map g := by
  rw [show f = fun a => some (g a) from funext h, List.filterMap_eq_map']

theorem l_tw1 (n : Nat) : (tw n).length + (Str.ofString ":").length ≤ sizeLine := (by decide : 3 ≤ sizeLine)
theorem l_tw2 (n k : Nat) : (tw n ++ Str.ofString ":").length + (tw k).length ≤ sizeLine := (by decide : 5 ≤ sizeLine)
theorem l_hm1 (n k : Nat) : (hm n k).length + (Str.ofString "+").length ≤ sizeLine := (by decide : 6 ≤ sizeLine)
theorem ok_all {x : Str} : PyData.strOk x = true ↔ ∀ c ∈ x.cps.toList, c < 0x110000 := by
  unfold PyData.strOk
  rw [← Array.all_toList, List.all_eq_true]
  simp only [decide_eq_true_eq]
theorem ok_sub {x y : Str} (h : PyData.strOk x = true) (hs : ∀ c ∈ y.cps.toList, c ∈ x.cps.toList) : PyData.strOk y = true := ok_all.mpr fun c hc => ok_all.mp h c (hs c hc)
theorem ok_app {x y : Str} (h : PyData.strOk x = true) (h' : PyData.strOk y = true) : PyData.strOk (x ++ y) = true := ok_all.mpr fun c hc => by
  have hc : c ∈ (x.cps ++ y.cps).toList := hc
  rw [Array.toList_append, List.mem_append] at hc
  exact hc.elim (ok_all.mp h c) (ok_all.mp h' c)
theorem cut_sub {x : Str} {lo hi : Option Int} : ∀ c ∈ (cutS x lo hi).cps.toList, c ∈ x.cps.toList := fun c hc => by
  unfold cutS at hc
  simp only [List.toList_toArray] at hc
  exact List.mem_of_mem_drop (List.mem_of_mem_take hc)
theorem cut_len {x : Str} {lo hi : Option Int} : (cutS x lo hi).length ≤ x.length := by
  unfold cutS Str.length
  rw [List.size_toArray, List.length_take, List.length_drop, Array.length_toList]
  omega
theorem strOk_cut {x : Str} {lo hi : Option Int} (h : PyData.strOk x = true) : PyData.strOk (cutS x lo hi) = true := ok_sub h cut_sub
theorem ok_one {c : Nat} {x : Str} {i : Nat} (h : PyData.strOk x = true) (hc : x.cps.toList[i]? = some c) : PyData.strOk ⟨#[c]⟩ = true := ok_sub h fun d hd => by
  simp only [List.mem_singleton] at hd
  rw [hd]; exact List.mem_of_getElem? hc
theorem figs_iff {x : Str} : figs x = true ↔ x.cps.toList ≠ [] ∧ ∀ c ∈ x.cps.toList, 48 ≤ c ∧ c ≤ 57 := by
  have h0 : x = Str.empty ↔ x.cps.toList = [] := ⟨fun h => by rw [h]; rfl, fun h => congrArg Str.mk (Array.toList_inj.mp h)⟩
  unfold figs
  rw [Bool.and_eq_true, List.all_eq_true, Bool.not_eq_true', beq_eq_false_iff_ne]
  simp only [Bool.and_eq_true, decide_eq_true_eq, ne_eq, h0]
theorem int_val {x : Str} (h0 : x.cps.toList ≠ []) (h : ∀ c ∈ x.cps.toList, 48 ≤ c ∧ c ≤ 57) (hl : x.length ≤ 4300) : PySem.intText? x = some (val x) := PySem.intText_digits h h0 hl
theorem at_of {x : Str} {i : Nat} (h : i < x.length) : ∃ c, x.cps.toList[i]? = some c ∧ sgn x i = c := by
  have h' : i < x.cps.toList.length := by rw [Array.length_toList]; exact h
  exact ⟨x.cps.toList[i], List.getElem?_eq_getElem h', by unfold sgn; rw [List.getD_eq_getElem?_getD, List.getElem?_eq_getElem h']; rfl⟩
theorem one_eq {c k : Nat} : (⟨#[c]⟩ : Str) = ⟨#[k]⟩ ↔ c = k := by
  constructor
  · intro h; cases h; rfl
  · intro h; rw [h]
theorem rp_sub {x y : Str} : (∀ c ∈ (rpartS x y).1.cps.toList, c ∈ x.cps.toList) ∧ (∀ c ∈ (rpartS x y).2.2.cps.toList, c ∈ x.cps.toList) ∧ ((rpartS x y).2.1 = y ∨ (rpartS x y).2.1 = Str.empty) ∧ (rpartS x y).1.length ≤ x.length ∧ (rpartS x y).2.2.length ≤ x.length := by
  unfold rpartS
  cases Builtin.Str.lastOccurrence x y 0 x.length with
  | none => exact ⟨fun c hc => (by cases hc), fun c hc => hc, .inr rfl, Nat.zero_le _, Nat.le_refl _⟩
  | some i =>
    refine ⟨fun c hc => ?_, fun c hc => ?_, .inl rfl, ?_, ?_⟩
    · rw [PySem.StrLaws.strSub_toList] at hc
      exact List.mem_of_mem_drop (List.mem_of_mem_take hc)
    · rw [PySem.StrLaws.strSub_toList] at hc
      exact List.mem_of_mem_drop (List.mem_of_mem_take hc)
    · exact le_strSub x _ _
    · exact le_strSub x _ _

theorem mem_app {x y : Str} {c : Nat} : c ∈ (x ++ y).cps.toList ↔ c ∈ x.cps.toList ∨ c ∈ y.cps.toList := by
  show c ∈ (x.cps ++ y.cps).toList ↔ _
  rw [Array.toList_append, List.mem_append]
theorem cut_two {x : Str} (h : 0 < x.length) : (cutS x none (some 2)).cps.toList ≠ [] := by
  have h' : x.cps.toList.length = x.length := Array.length_toList
  apply List.ne_nil_of_length_pos
  unfold cutS
  have e1 : HT.sIx x.length 0 none = 0 := rfl
  have e2 : HT.sIx x.length x.length (some 2) = min 2 x.length := rfl
  rw [List.toList_toArray, List.length_take, List.length_drop, e1, e2]
  omega
theorem cut_three {x : Str} (h : 3 < x.length) : (cutS x (some 3) none).cps.toList ≠ [] := by
  have h' : x.cps.toList.length = x.length := Array.length_toList
  apply List.ne_nil_of_length_pos
  unfold cutS
  have e1 : HT.sIx x.length 0 (some 3) = min 3 x.length := rfl
  have e2 : HT.sIx x.length x.length none = x.length := rfl
  rw [List.toList_toArray, List.length_take, List.length_drop, e1, e2]
  omega

theorem primes (t : Int) : ∃ p : Int, atI [D.int 2147483647, D.int 2147483629, D.int 2147483587, D.int 2147483579, D.int 2147483563] (t % 5) = some (.int p) ∧ 0 < p ∧ p ≤ 2147483647 := by
  have h0 : 0 ≤ t % 5 := Int.emod_nonneg _ (by decide)
  have h1 : t % 5 < 5 := Int.emod_lt_of_pos _ (by decide)
  have h : t % 5 = 0 ∨ t % 5 = 1 ∨ t % 5 = 2 ∨ t % 5 = 3 ∨ t % 5 = 4 := by omega
  rcases h with h | h | h | h | h <;> rw [h]
  · exact ⟨2147483647, x_at0, by decide, by decide⟩
  · exact ⟨2147483629, x_at1, by decide, by decide⟩
  · exact ⟨2147483587, x_at2, by decide, by decide⟩
  · exact ⟨2147483579, x_at3, by decide, by decide⟩
  · exact ⟨2147483563, x_at4, by decide, by decide⟩

theorem clock_hm : ∀ h, h < 24 → ∀ m, m < 60 → clockI (hm h m) = some ((h * 60 + m : Nat) : Int) := by decide +kernel
theorem num_day : ∀ d, d < 700 → 0 < d → numI (showI (d : Nat)) 1 999999999 = some ((d : Nat) : Int) := by decide +kernel
theorem time_T {w : Nat} (h : w ≤ 1000000) : timeI (T w) = some (w : Int) := by
  by_cases hd : w < 1440
  · have e : T w = hm (w / 60) (w % 60) := if_pos hd
    have e1 : rpartS (T w) plus = (Str.empty, Str.empty, hm (w / 60) (w % 60)) := by rw [e]; exact rp_hm (by omega) (by omega)
    unfold timeI
    rw [e1, if_pos rfl, e, clock_hm _ (by omega) _ (by omega)]
    exact congrArg some (by omega)
  · have e : T w = hm (w % 1440 / 60) (w % 60) ++ (plus ++ showI (w / 1440 : Nat)) := if_neg hd
    have e1 : rpartS (T w) plus = (hm (w % 1440 / 60) (w % 60), plus, showI (w / 1440 : Nat)) := by rw [e]; exact rp_day (by omega)
    unfold timeI
    have hne : ¬ ((hm (w % 1440 / 60) (w % 60), plus, showI (w / 1440 : Nat)).2.1 = Str.empty) := (by decide +kernel : ¬ plus = Str.empty)
    rw [e1, if_neg hne, clock_hm _ (by omega) _ (by omega), num_day _ (by omega) (by omega)]
    dsimp only
    rw [if_pos (by omega)]
    exact congrArg some (by omega)
theorem T_inj {w v : Nat} (h : w ≤ 1000000) (h' : v ≤ 1000000) : T w = T v ↔ w = v := by
  constructor
  · intro e
    have e1 := time_T h
    rw [e, time_T h'] at e1
    have := Option.some.inj e1
    omega
  · intro e; rw [e]
theorem hm_ok {h m : Nat} (h1 : h < 1000) (h2 : m < 1000) : PyData.strOk (hm h m) = true := ok_all.mpr fun c hc => by
  simp only [hm, List.mem_cons, List.not_mem_nil, or_false] at hc
  omega
theorem show_ok (i : Int) : PyData.strOk (showI i) = true := by
  refine ok_all.mpr fun c hc => ?_
  have hf : ∀ k, k ≠ 45 ∧ (k < 48 ∨ 57 < k) → c ≠ k := fun k hk e => PyProof.Rows.int_text_free' k hk i (e ▸ hc)
  by_cases h1 : c < 0x110000
  · exact h1
  · exact absurd rfl (hf c ⟨by omega, by omega⟩)
theorem T_sOk {w : Nat} (h : w < 10000000000) : sOk (T w) := by
  unfold T
  split
  · exact ⟨(by decide : 5 ≤ sizeLine), hm_ok (by omega) (by omega)⟩
  · refine ⟨?_, ok_app (hm_ok (by omega) (by omega)) (ok_app (by decide +kernel) (show_ok _))⟩
    have hs := show_len10 (i := ((w / 1440 : Nat) : Int)) (by omega) (by omega)
    rw [len_app, len_app]
    exact Nat.le_trans (Nat.add_le_add_left (Nat.add_le_add_left hs _) _) (show 5 + (1 + 10) ≤ sizeLine by decide)
theorem minute_in {B : Int} {o : Option MO} {R0 : Sto} {q : D → Sto → Prop} (h : Tp B o) (hb : B + 4 ≤ 10 ^ 12) (hq : ∀ (w : Nat) o', w ≤ 1000000 → Tp (B + 4) o' → q (.int w) (o' :: R0)) : minute [.loc 0] (o :: R0) q :=
  tk_in h hb fun d o' ⟨x, e, h1, h2⟩ t => by
    obtain ⟨w, rfl⟩ : ∃ w : Nat, x = w := ⟨x.toNat, by omega⟩
    subst e
    exact hq w o' (by omega) t
theorem ten15 : (10 : Int) ^ 12 = 1000000000000 := by decide
/-- from a list of the store too -/
def pickL : DSp := fun ds S q => ∃ d es, 0 < es.length ∧ (es.length : Int) < 1073741824 ∧ (∃ o R0 B, ds = [.loc 0, d] ∧ S = o :: R0 ∧ Tp B o ∧ B + 1 ≤ 10 ^ 12 ∧ (∀ o', seqOf (o' :: R0) d = some es) ∧ ∀ e o', e ∈ es → Tp (B + 1) o' → q e (o' :: R0))
theorem pickL_in {es : List D} {B : Int} {o : Option MO} {R0 : Sto} {q : D → Sto → Prop} (h1 : 0 < es.length) (h2 : (es.length : Int) < 1073741824) (h : Tp B o) (hb : B + 1 ≤ 10 ^ 12) (hq : ∀ e o', e ∈ es → Tp (B + 1) o' → q e (o' :: R0)) :
    pickL [.loc 0, .lst es] (o :: R0) q := ⟨.lst es, es, h1, h2, o, R0, B, rfl, rfl, h, hb, fun _ => rfl, hq⟩
theorem pickL_loc {es : List D} {B : Int} {o : Option MO} {R0 : Sto} {k : Nat} {q : D → Sto → Prop} (hk : R0[k]? = some (some (.lst es))) (h1 : 0 < es.length) (h2 : (es.length : Int) < 1073741824) (h : Tp B o) (hb : B + 1 ≤ 10 ^ 12) (hq : ∀ e o', e ∈ es → Tp (B + 1) o' → q e (o' :: R0)) :
    pickL [.loc 0, .loc (k + 1)] (o :: R0) q := ⟨.loc (k + 1), es, h1, h2, o, R0, B, rfl, rfl, h, hb, fun _ => by simp [seqOf, hk], hq⟩
end Mt
namespace Dl
open PySem L2
theorem mulOk_r {i j : Int} (h : -(2 ^ 64) < j) (h' : j < 2 ^ 64) : mulOk i j := .inl (.inr ⟨h, h'⟩)
theorem mulOk_l {i j : Int} (h : -(2 ^ 64) < i) (h' : i < 2 ^ 64) : mulOk i j := .inl (.inl ⟨h, h'⟩)
end Dl
/-! shared promises: stretches -/
namespace Mt
open PySem L2 Dl
def stK : List Str := ["first", "behind"]
abbrev stD (C : Addr) (a b : Int) : D := .obj C ["first", "behind"] [.int a, .int b]
def stInit (C : Addr) : DSp := fun ds S q => ∃ S0 a b o, ds = [.loc S0.length, .int a, o] ∧ S = S0 ++ [some (.obj C [] [])] ∧ (o = .int b ∨ (o = .non ∧ b = a + 1)) ∧ a ≤ b ∧ q .non (S0 ++ [some (.obj C ["first", "behind"] [.int a, .int b])])
def stEq (C : Addr) : DSp := fun ds S q => ∃ a b c d, ds = [stD C a b, stD C c d] ∧ q (.bl (decide ([a, b] = [c, d]))) S
theorem fg_first {x y : D} : fget "first" ["first", "behind"] [x, y] = some x := rfl
theorem fg_behind {x y : D} : fget "behind" ["first", "behind"] [x, y] = some y := rfl
theorem pk_first : putK "first" [] = (["first"] : List Str) := by decide +kernel
theorem pk_behind : putK "behind" ["first"] = (["first", "behind"] : List Str) := by decide +kernel
theorem px_first {x : D} : putX "first" x [] [] = [x] := rfl
theorem px_behind {x y : D} : putX "behind" y ["first"] [x] = [x, y] := rfl
theorem st_make {C : Addr} {a b : Int} {dds : List D} {S : Sto} {q : D → Sto → Prop} (h : a ≤ b) (k : q (stD C a b) S) : aMakeF C 2 0 [.p 0, .p 1, .p 2] dds (stInit C) [.int a, .int b] [] S q :=
  ⟨rfl, rfl, fun _ _ => ⟨S, a, b, _, rfl, rfl, .inl rfl, h, rfl, _, _, rfl, rfl, k⟩⟩
theorem st_makeK {C : Addr} {a b : Int} {dds : List D} {S : Sto} {q : D → Sto → Prop} (h : a ≤ b) (k : q (stD C a b) S) : aMakeF C 0 2 [.p 0, .k 0, .k 1] dds (stInit C) [] [.int a, .int b] S q :=
  ⟨rfl, rfl, fun _ _ => ⟨S, a, b, _, rfl, rfl, .inl rfl, h, rfl, _, _, rfl, rfl, k⟩⟩
theorem st_make1 {C : Addr} {a : Int} {S : Sto} {q : D → Sto → Prop} (k : q (stD C a (a + 1)) S) : aMakeF C 1 0 [.p 0, .p 1, .d 0] [.non] (stInit C) [.int a] [] S q :=
  ⟨rfl, rfl, fun _ _ => ⟨S, a, a + 1, _, rfl, rfl, .inr ⟨rfl, rfl⟩, by omega, rfl, _, _, rfl, rfl, k⟩⟩
/-! ### ranges of ints -/
def rngI (lo : Int) (n : Nat) : List Int := (List.range n).map fun i => lo + ((i : Nat) : Int)
theorem rngD_map (lo : Int) (n : Nat) : rngD lo n = (rngI lo n).map D.int := by
  unfold rngD rngI
  rw [List.map_map]
  rfl
theorem rngD_succ (lo : Int) (n : Nat) : rngD lo (n + 1) = rngD lo n ++ [.int (lo + n)] := by
  unfold rngD
  rw [List.range_succ, List.map_append]
  rfl
theorem rngI_len (lo : Int) (n : Nat) : (rngI lo n).length = n := by simp [rngI]
theorem rng_filter {f : D → Option D} {a c d : Int} (hf : ∀ m, f (.int m) = if c ≤ m ∧ m < d then some (.int m) else none) : ∀ n : Nat, (rngD a n).filterMap f = rngD (max a c) (min (a + n) d - max a c).toNat
  | 0 => by
    rw [show (min (a + (0 : Nat)) d - max a c).toNat = 0 by omega]
    rfl
  | n + 1 => by
    rw [rngD_succ, List.filterMap_append, rng_filter hf n, List.filterMap_cons, hf, List.filterMap_nil]
    by_cases h : c ≤ a + n ∧ a + n < d
    · rw [if_pos h]
      have e : (min (a + ((n + 1 : Nat) : Int)) d - max a c).toNat = (min (a + n) d - max a c).toNat + 1 := by omega
      rw [e, rngD_succ]
      refine congrArg _ (congrArg (fun z => [D.int z]) ?_)
      omega
    · rw [if_neg h]
      have e : (min (a + ((n + 1 : Nat) : Int)) d - max a c).toNat = (min (a + n) d - max a c).toNat := by omega
      rw [e]
      exact List.append_nil _
theorem rng_first {lo : Int} {n : Nat} (h : 0 < n) : atI (rngD lo n) 0 = some (.int lo) := by
  have := atI_lit (xs := rngD lo n) (k := 0) (v := .int lo) (by rw [x_rng, if_pos h]; exact congrArg (fun z => some (D.int z)) (by omega))
  exact this
theorem rng_last {lo : Int} {n : Nat} (h : 0 < n) : atI (rngD lo n) (-1) = some (.int (lo + n - 1)) := by
  obtain ⟨m, rfl⟩ : ∃ m, n = m + 1 := ⟨n - 1, by omega⟩
  rw [rngD_succ, atI_last]
  exact congrArg (fun z => some (D.int z)) (by omega)
theorem rng_nil {lo : Int} {n : Nat} : rngI lo n = [] ↔ n = 0 := by
  unfold rngI
  rw [List.map_eq_nil_iff, List.range_eq_nil]
end Mt
/-! names of boats, carts, ships: texts of small letters -/
namespace Mn
open PySem L2 Dl
def NmOk (x : Str) : Prop := 1 ≤ x.length ∧ x.length ≤ 8 ∧ ∀ c ∈ x.cps.toList, 97 ≤ c ∧ c ≤ 122
def ofL (l : List Nat) : Str := ⟨l.toArray⟩
theorem ofL_len (l : List Nat) : (ofL l).length = l.length := by unfold ofL Str.length; rw [List.size_toArray]
theorem ofL_cps (l : List Nat) : (ofL l).cps.toList = l := by unfold ofL; rw [List.toList_toArray]
theorem str_ext {x y : Str} (h : x.cps.toList = y.cps.toList) : x = y := congrArg Str.mk (Array.toList_inj.mp h)
theorem nm_of {l : List Nat} (h1 : 1 ≤ l.length) (h2 : l.length ≤ 8) (h3 : ∀ c ∈ l, 97 ≤ c ∧ c ≤ 122) : NmOk (ofL l) := ⟨by rw [ofL_len]; exact h1, by rw [ofL_len]; exact h2, by rw [ofL_cps]; exact h3⟩
theorem nm_ok {x : Str} (h : NmOk x) : PyData.strOk x = true := Mt.ok_all.mpr fun c hc => by have := h.2.2 c hc; omega
theorem nm_sz {x : Str} (h : NmOk x) : x.length ≤ sizeLine := Nat.le_trans h.2.1 (by decide)
theorem nm_sOk {x : Str} (h : NmOk x) : Mt.sOk x := ⟨nm_sz h, nm_ok h⟩
def quo : Str := ⟨#[39]⟩
theorem quote_nm {x : Str} (h : ∀ c ∈ x.cps.toList, 97 ≤ c ∧ c ≤ 122) : reprText x = quo ++ (x ++ quo) := by
  have q : reprQuote x = 39 := by
    unfold reprQuote
    have : x.cps.contains 39 = false := by
      rw [← Array.contains_toList, Bool.eq_false_iff]
      intro hc
      have := h 39 (List.contains_iff_mem.mp hc)
      omega
    rw [this]
    rfl
  have ch : ∀ c, 97 ≤ c → c ≤ 122 → Builtin.Str.reprChar 39 c = [c] := by
    have : ∀ c, c < 123 → 97 ≤ c → Builtin.Str.reprChar 39 c = [c] := by decide +kernel
    exact fun c h1 h2 => this c (by omega) h1
  have fold : ∀ (l : List Nat) (acc : Array Nat), (∀ c ∈ l, 97 ≤ c ∧ c ≤ 122) → l.foldl (fun out c => out ++ (Builtin.Str.reprChar 39 c).toArray) acc = acc ++ l.toArray := by
    intro l
    induction l with
    | nil => intro acc _; simp
    | cons c l ih =>
      intro acc hl
      have hc := hl c List.mem_cons_self
      rw [List.foldl_cons, ch c hc.1 hc.2, ih _ fun d hd => hl d (List.mem_cons_of_mem _ hd)]
      simp
  apply str_ext
  unfold reprText
  rw [q, ← Array.foldl_toList, fold _ _ h]
  show ((#[39] ++ x.cps.toList.toArray).push 39).toList = (#[39] ++ (x.cps ++ #[39])).toList
  simp
/-- a promise: unlike names -/
def names : DSp := fun ds S q => ∃ many : Nat, many ≤ 12 ∧ Mt.tk 40 [.int many] (fun d => ∃ ns : List Str, d = .lst (ns.map .str) ∧ ns.length = many ∧ ns.Nodup ∧ ∀ n ∈ ns, NmOk n) ds S q
theorem lett : ∀ i, i < 26 → atI ("abcdefghijklmnopqrstuvwxyz" : Str).cps.toList ((i : Nat) : Int) = some (97 + i) := by decide +kernel
/-- the row of names, alike but at one place -/
def row (base : List Nat) (at' f s : Nat) (ends : List (List Nat)) : List Str := ends.zipIdx.map fun p => ofL (base.take at' ++ [97 + (f + s * p.2) % 26] ++ p.1)
theorem cop : ∀ s ∈ [1, 3, 5, 7, 9, 11, 15, 17, 19, 21, 23, 25], ∀ f, f < 26 → ∀ i, i < 12 → ∀ j, j < 12 → (f + s * i) % 26 = (f + s * j) % 26 → i = j := by decide +kernel
theorem row_nodup {base : List Nat} {at' f s : Nat} {ends : List (List Nat)} (ha : at' ≤ base.length) (hf : f < 26) (hs : s ∈ [1, 3, 5, 7, 9, 11, 15, 17, 19, 21, 23, 25]) (he : ends.length ≤ 12) : (row base at' f s ends).Nodup := by
  unfold row List.Nodup
  rw [List.pairwise_iff_getElem]
  intro i j hi0 hj0 hij e1
  rw [List.length_map, List.length_zipIdx] at hj0
  have hj : j < ends.length := hj0
  have hi : i < ends.length := by omega
  rw [List.getElem_map, List.getElem_map, List.getElem_zipIdx, List.getElem_zipIdx] at e1
  have e2 := congrArg (fun x : Str => x.cps.toList[at']?) e1
  simp only [ofL_cps] at e2
  have tl : (base.take at').length = at' := by rw [List.length_take]; omega
  have pick : ∀ (c : Nat) (r : List Nat), (base.take at' ++ [c] ++ r)[at']? = some c := fun c r => by
    rw [List.append_assoc, List.getElem?_append_right (by omega), tl, Nat.sub_self]
    rfl
  rw [pick, pick] at e2
  have e3 := Option.some.inj e2
  have := cop s hs f hf i (by omega) j (by omega) (by simpa using e3)
  omega
theorem row_nm {base : List Nat} {at' f s : Nat} {ends : List (List Nat)} (hb : ∀ c ∈ base, 97 ≤ c ∧ c ≤ 122) (he : ∀ e ∈ ends, (∀ c ∈ e, 97 ≤ c ∧ c ≤ 122) ∧ at' + 1 + e.length ≤ 8) : ∀ n ∈ row base at' f s ends, NmOk n := by
  intro n hn
  unfold row at hn
  obtain ⟨p, hp, rfl⟩ := List.mem_map.mp hn
  obtain ⟨h1, h2⟩ := he p.1 (List.fst_mem_of_mem_zipIdx hp)
  refine nm_of ?_ ?_ fun c hc => ?_
  · simp only [List.length_append, List.length_cons]; omega
  · simp only [List.length_append, List.length_cons, List.length_nil, List.length_take]; omega
  · rcases List.mem_append.mp hc with hc | hc
    · rcases List.mem_append.mp hc with hc | hc
      · exact hb c (List.mem_of_mem_take hc)
      · rw [List.mem_singleton.mp hc]; omega
    · exact h1 c hc
/-- words of the document -/
def words : List Str := ["near", "far", "water", "ice", "both", "days", "out", "down", "a", "ab", "abcdefgh", "on"]
theorem words_ok : ∀ w ∈ words, NmOk w := by
  unfold NmOk
  decide +kernel
theorem words_nodup : words.Nodup := by decide +kernel
theorem rot_ok {k many : Nat} (hm : many ≤ 12) (hk : k ≤ 12) : ((words.drop k ++ words.take k).take many).length = many ∧ ((words.drop k ++ words.take k).take many).Nodup ∧ ∀ n ∈ (words.drop k ++ words.take k).take many, NmOk n := by
  have hl : (words.drop k ++ words.take k).length = 12 := by
    rw [List.length_append, List.length_drop, List.length_take]
    have : words.length = 12 := rfl
    omega
  have hp : (words.drop k ++ words.take k).Perm words := by
    have := List.perm_append_comm (l₁ := words.take k) (l₂ := words.drop k)
    rw [List.take_append_drop] at this
    exact this.symm
  exact ⟨by rw [List.length_take, hl]; omega, ((List.take_sublist ..).nodup (hp.nodup_iff.mpr words_nodup)), fun n hn => words_ok n (hp.mem_iff.mp (List.mem_of_mem_take hn))⟩
theorem emp_app (x : Str) : Str.empty ++ x = x := str_ext (by show (Str.empty.cps ++ x.cps).toList = _; simp [Str.empty])
theorem nm_repr_len {x : Str} (h : NmOk x) : (reprText x).length ≤ 10 := by
  rw [quote_nm h.2.2, Mt.len_app, Mt.len_app]
  have := h.2.1
  have e : quo.length = 1 := rfl
  omega
/-- == of pairs of a text and a number -/
theorem x_eqTSI {x y : Str} {i j : Int} {S : Sto} {q : D → Sto → Prop} (hx : PyData.strOk x = true) (hy : PyData.strOk y = true) : aEq (.tup [.str x, .int i]) (.tup [.str y, .int j]) S q ↔ q (.bl (decide (x = y ∧ i = j))) S := by
  rw [x_eq (p := .tuple [.str x, .int i]) (p' := .tuple [.str y, .int j]) (by simp [toPyS, toPy, toPys]) (by simp [toPyS, toPy, toPys])]
  have e1 : ∀ (z : Str) (k : Int), PyData.strOk z = true → SeqAt.shaped (.tuple [.str z, .int k]) = true := fun z k hz => by simp [SeqAt.shaped, PyData.canLay0, PyData.canLayAll0, PyData.depth, PyData.depthAll, hz]
  have e2 : PyData.eqv (.tuple [.str x, .int i]) (.tuple [.str y, .int j]) = decide (x = y ∧ i = j) := by
    simp only [PyData.eqv, PyData.eqvAll, Bool.and_true, Bool.decide_and]
    rfl
  rw [e1 x i hx, e1 y j hy, e2]
  simp
theorem x_neTSI {x y : Str} {i j : Int} {S : Sto} {q : D → Sto → Prop} (hx : PyData.strOk x = true) (hy : PyData.strOk y = true) : aNe (.tup [.str x, .int i]) (.tup [.str y, .int j]) S q ↔ q (.bl (!decide (x = y ∧ i = j))) S := by
  rw [x_ne (p := .tuple [.str x, .int i]) (p' := .tuple [.str y, .int j]) (by simp [toPyS, toPy, toPys]) (by simp [toPyS, toPy, toPys])]
  have e1 : ∀ (z : Str) (k : Int), PyData.strOk z = true → SeqAt.shaped (.tuple [.str z, .int k]) = true := fun z k hz => by simp [SeqAt.shaped, PyData.canLay0, PyData.canLayAll0, PyData.depth, PyData.depthAll, hz]
  have e2 : PyData.eqv (.tuple [.str x, .int i]) (.tuple [.str y, .int j]) = decide (x = y ∧ i = j) := by
    simp only [PyData.eqv, PyData.eqvAll, Bool.and_true, Bool.decide_and]
    rfl
  rw [e1 x i hx, e1 y j hy, e2]
  simp
/-- an own class asked of what is built in -/
theorem bk_ty {S : Sto} {e : D} {t : String} (h : e.bk = some t) : tyN S e = some t := by
  cases e <;> first | (cases h; done) | exact h
theorem bk_no {S : Sto} {e : D} {t : String} (h : e.bk = some t) : objOf S e = none := by
  cases e <;> first | (cases h; done) | rfl
theorem join_ones (l : List Nat) : Txt.join (Str.ofString "") (l.map fun c => (⟨#[c]⟩ : Str)) = ofL l := by
  have e0 : (Str.ofString "") = Str.empty := by decide +kernel
  show Builtin.Str.glued _ _ = _
  rw [StrLaws.glued_eq_join, e0]
  apply str_ext
  rw [ofL_cps]
  have app : ∀ x y : Str, (x ++ y).cps.toList = x.cps.toList ++ y.cps.toList := fun x y => by
    show (x.cps ++ y.cps).toList = _
    rw [Array.toList_append]
  induction l with
  | nil => rfl
  | cons c l ih =>
    cases l with
    | nil => rfl
    | cons d l =>
      show ((⟨#[c]⟩ : Str) ++ Str.empty ++ Str.join Str.empty (((d :: l).map fun c => (⟨#[c]⟩ : Str)))).cps.toList = _
      rw [app, app, ih]
      rfl
theorem cut_dropM {A : Type} {f : A → D} (P : List A) (k : Nat) (h : k ≤ P.length) : cutD (P.map f) (some ((k : Nat) : Int)) none = (P.drop k).map f := by
  have e1 : HT.sIx (P.map f).length 0 (some ((k : Nat) : Int)) = k := by
    unfold HT.sIx
    dsimp only
    rw [if_neg (by omega), List.length_map]
    omega
  have e2 : HT.sIx (P.map f).length (P.map f).length none = (P.map f).length := rfl
  unfold cutD
  rw [e1, e2, List.map_drop, List.take_of_length_le (by rw [List.length_drop]; omega)]
theorem cut_takeM {A : Type} {f : A → D} (P : List A) (k : Nat) : cutD (P.map f) none (some ((k : Nat) : Int)) = (P.take k).map f := by
  have e1 : HT.sIx (P.map f).length (P.map f).length (some ((k : Nat) : Int)) = min k P.length := by
    unfold HT.sIx
    dsimp only
    rw [if_neg (by omega), List.length_map]
    omega
  have e2 : HT.sIx (P.map f).length 0 none = 0 := rfl
  unfold cutD
  rw [e1, e2, List.map_take, List.drop_zero]
  rw [Nat.sub_zero]
  by_cases c : k ≤ P.length
  · rw [Nat.min_eq_left c]
  · rw [Nat.min_eq_right (by omega), List.take_of_length_le (by simp), List.take_of_length_le (by simp; omega)]
/-- == of lists of truths -/
theorem toPys_bl : ∀ xs : List Bool, toPys (xs.map D.bl) = some (xs.map PyData.bool)
  | [] => by simp [toPys]
  | x :: xs => by simp [toPys, toPy, toPys_bl xs]
theorem can_bl : ∀ xs : List Bool, PyData.canLayAll0 (xs.map PyData.bool) = true
  | [] => by simp [PyData.canLayAll0]
  | x :: xs => by simp [PyData.canLayAll0, PyData.canLay0, can_bl xs]
theorem dep_bl : ∀ xs : List Bool, PyData.depthAll (xs.map PyData.bool) = 0
  | [] => by simp [PyData.depthAll]
  | x :: xs => by simp [PyData.depthAll, PyData.depth, dep_bl xs]
theorem sh_bls (xs : List Bool) : SeqAt.shaped (.list (xs.map PyData.bool)) = true := by
  simp [SeqAt.shaped, PyData.canLay0, PyData.depth, can_bl xs, dep_bl]
theorem eqv_bls : ∀ xs ys : List Bool, PyData.eqvAll (xs.map PyData.bool) (ys.map PyData.bool) = decide (xs = ys)
  | [], [] => by simp [PyData.eqvAll]
  | [], _ :: _ => by simp [PyData.eqvAll]
  | _ :: _, [] => by simp [PyData.eqvAll]
  | x :: xs, y :: ys => by
    simp only [List.map_cons, PyData.eqvAll, eqv_bls xs ys, List.cons.injEq]
    rw [show PyData.eqv (.bool x) (.bool y) = decide (x = y) by unfold PyData.eqv; cases x <;> cases y <;> rfl, Bool.decide_and]
theorem x_neLb {xs ys : List Bool} {S : Sto} {q : D → Sto → Prop} : aNe (.lst (xs.map D.bl)) (.lst (ys.map D.bl)) S q ↔ q (.bl (!decide (xs = ys))) S := by
  rw [x_ne (p := .list (xs.map .bool)) (p' := .list (ys.map .bool)) (by simp [toPyS, toPy, toPys_bl]) (by simp [toPyS, toPy, toPys_bl]), sh_bls, sh_bls]
  simp only [true_and, PyData.eqv, eqv_bls]
/-- what four items say -/
theorem its4 {K : PySem.W.Frag} {cs : List EqE} {n : Nat} {S : Sto} {x d0 d1 d2 d3 : D} {r0 r1 r2 r3 : Bool} (h0 : EqJ K cs n d0 x r0) (h1 : EqJ K cs n d1 x r1) (h2 : EqJ K cs n d2 x r2) (h3 : EqJ K cs n d3 x r3) :
    ItsA K cs n S (.lst [d0, d1, d2, d3]) x [d0, d1, d2, d3] (fun i => [r0, r1, r2, r3].getD i false) := by
  refine ⟨rfl, fun i d hd => ?_⟩
  match i, hd with
  | 0, hd => cases hd; exact h0
  | 1, hd => cases hd; exact h1
  | 2, hd => cases hd; exact h2
  | 3, hd => cases hd; exact h3
theorem its3 {K : PySem.W.Frag} {cs : List EqE} {n : Nat} {S : Sto} {x d0 d1 d2 : D} {r0 r1 r2 : Bool} (h0 : EqJ K cs n d0 x r0) (h1 : EqJ K cs n d1 x r1) (h2 : EqJ K cs n d2 x r2) :
    ItsA K cs n S (.lst [d0, d1, d2]) x [d0, d1, d2] (fun i => [r0, r1, r2].getD i false) := by
  refine ⟨rfl, fun i d hd => ?_⟩
  match i, hd with
  | 0, hd => cases hd; exact h0
  | 1, hd => cases hd; exact h1
  | 2, hd => cases hd; exact h2
/-- a truth among truths -/
theorem eqb {K : PySem.W.Frag} {cs : List EqE} {n : Nat} {r : Bool} : EqJ K cs n (.bl r) (.bl true) r := .flat rfl rfl (by cases r <;> rfl)
end Mn
namespace Lw
open PySem L2 Dl
/-! printed by gen.py from the linked text: places, scopes, binding -/
def top (i : Nat) : Stmt := PySem.Challenge.pw_boatbridge_k03_stretches_as_objects.main.body.getD i (.Pass ⟨0, 0, 0, 0⟩)
abbrev s_show_clock : Stmt := (top 9)
abbrev N_show_clock : List Str := ["clock", "hour", "rest"]
abbrev ps_show_clock : List Str := ["clock"]
theorem sc_show_clock : FnScope N_show_clock ps_show_clock (defScope s_show_clock) := ⟨rfl, rfl, rfl, by decide +kernel, rfl, by decide +kernel, by decide +kernel⟩
abbrev dv_show_clock : List V := []
abbrev s_show_time : Stmt := (top 10)
abbrev N_show_time : List Str := ["minute", "day", "clock", "shown"]
abbrev ps_show_time : List Str := ["minute"]
theorem sc_show_time : FnScope N_show_time ps_show_time (defScope s_show_time) := ⟨rfl, rfl, rfl, by decide +kernel, rfl, by decide +kernel, by decide +kernel⟩
abbrev dv_show_time : List V := []
abbrev s_Stretch_init : Stmt := (inClass (top 12) 0)
abbrev N_Stretch_init : List Str := ["self", "first", "behind"]
abbrev ps_Stretch_init : List Str := ["self", "first", "behind"]
theorem sc_Stretch_init : FnScope N_Stretch_init ps_Stretch_init (defScope s_Stretch_init) := ⟨rfl, rfl, rfl, by decide +kernel, rfl, by decide +kernel, by decide +kernel⟩
abbrev dv_Stretch_init : List V := [.non]
theorem dfv_Stretch_init : DfV [.non] dv_Stretch_init := fun _ _ _ _ => by simp [Reps, Rep]
abbrev s_Stretch_len : Stmt := (inClass (top 12) 1)
abbrev N_Stretch_len : List Str := ["self"]
abbrev ps_Stretch_len : List Str := ["self"]
theorem sc_Stretch_len : FnScope N_Stretch_len ps_Stretch_len (defScope s_Stretch_len) := ⟨rfl, rfl, rfl, by decide +kernel, rfl, by decide +kernel, by decide +kernel⟩
abbrev dv_Stretch_len : List V := []
abbrev s_Stretch_eq : Stmt := (inClass (top 12) 2)
abbrev N_Stretch_eq : List Str := ["self", "other"]
abbrev ps_Stretch_eq : List Str := ["self", "other"]
theorem sc_Stretch_eq : FnScope N_Stretch_eq ps_Stretch_eq (defScope s_Stretch_eq) := ⟨rfl, rfl, rfl, by decide +kernel, rfl, by decide +kernel, by decide +kernel⟩
abbrev dv_Stretch_eq : List V := []
abbrev s_Stretch_repr : Stmt := (inClass (top 12) 3)
abbrev N_Stretch_repr : List Str := ["self"]
abbrev ps_Stretch_repr : List Str := ["self"]
theorem sc_Stretch_repr : FnScope N_Stretch_repr ps_Stretch_repr (defScope s_Stretch_repr) := ⟨rfl, rfl, rfl, by decide +kernel, rfl, by decide +kernel, by decide +kernel⟩
abbrev dv_Stretch_repr : List V := []
abbrev s_Stretch_str : Stmt := (inClass (top 12) 4)
abbrev N_Stretch_str : List Str := ["self"]
abbrev ps_Stretch_str : List Str := ["self"]
theorem sc_Stretch_str : FnScope N_Stretch_str ps_Stretch_str (defScope s_Stretch_str) := ⟨rfl, rfl, rfl, by decide +kernel, rfl, by decide +kernel, by decide +kernel⟩
abbrev dv_Stretch_str : List V := []
abbrev s__law_tape : Stmt := (top 14)
abbrev N__law_tape : List Str := ["_law_script"]
abbrev ps__law_tape : List Str := ["_law_script"]
theorem sc__law_tape : FnScope N__law_tape ps__law_tape (defScope s__law_tape) := ⟨rfl, rfl, rfl, by decide +kernel, rfl, by decide +kernel, by decide +kernel⟩
abbrev dv__law_tape : List V := []
abbrev s__law_draw : Stmt := (top 15)
abbrev N__law_draw : List Str := ["_law_tape_here", "_law_many", "_law_digit", "_law_turn", "_law_cell", "_law_primes", "_law_prime", "_law_mixed"]
abbrev ps__law_draw : List Str := ["_law_tape_here", "_law_many"]
theorem sc__law_draw : FnScope N__law_draw ps__law_draw (defScope s__law_draw) := ⟨rfl, rfl, rfl, by decide +kernel, rfl, by decide +kernel, by decide +kernel⟩
abbrev dv__law_draw : List V := []
abbrev s__law_pick : Stmt := (top 16)
abbrev N__law_pick : List Str := ["_law_tape_here", "_law_some"]
abbrev ps__law_pick : List Str := ["_law_tape_here", "_law_some"]
theorem sc__law_pick : FnScope N__law_pick ps__law_pick (defScope s__law_pick) := ⟨rfl, rfl, rfl, by decide +kernel, rfl, by decide +kernel, by decide +kernel⟩
abbrev dv__law_pick : List V := []
abbrev s__law_two : Stmt := (top 17)
abbrev N__law_two : List Str := ["_law_number"]
abbrev ps__law_two : List Str := ["_law_number"]
theorem sc__law_two : FnScope N__law_two ps__law_two (defScope s__law_two) := ⟨rfl, rfl, rfl, by decide +kernel, rfl, by decide +kernel, by decide +kernel⟩
abbrev dv__law_two : List V := []
abbrev s__law_time : Stmt := (top 18)
abbrev N__law_time : List Str := ["_law_minute", "_law_shown"]
abbrev ps__law_time : List Str := ["_law_minute"]
theorem sc__law_time : FnScope N__law_time ps__law_time (defScope s__law_time) := ⟨rfl, rfl, rfl, by decide +kernel, rfl, by decide +kernel, by decide +kernel⟩
abbrev dv__law_time : List V := []
abbrev s__law_is_whole : Stmt := (top 19)
abbrev N__law_is_whole : List Str := ["_law_thing"]
abbrev ps__law_is_whole : List Str := ["_law_thing"]
theorem sc__law_is_whole : FnScope N__law_is_whole ps__law_is_whole (defScope s__law_is_whole) := ⟨rfl, rfl, rfl, by decide +kernel, rfl, by decide +kernel, by decide +kernel⟩
abbrev dv__law_is_whole : List V := []
abbrev s__law_refused : Stmt := (top 20)
abbrev N__law_refused : List Str := ["_law_start", "_law_upto", "_law_error", "e"]
abbrev ps__law_refused : List Str := ["_law_start", "_law_upto"]
theorem sc__law_refused : FnScope N__law_refused ps__law_refused (defScope s__law_refused) := ⟨rfl, rfl, rfl, by decide +kernel, rfl, by decide +kernel, by decide +kernel⟩
abbrev dv__law_refused : List V := []
abbrev s__law_is : Stmt := (top 21)
abbrev N__law_is : List Str := ["_law_one", "_law_start", "_law_upto"]
abbrev ps__law_is : List Str := ["_law_one", "_law_start", "_law_upto"]
theorem sc__law_is : FnScope N__law_is ps__law_is (defScope s__law_is) := ⟨rfl, rfl, rfl, by decide +kernel, rfl, by decide +kernel, by decide +kernel⟩
abbrev dv__law_is : List V := []
abbrev s__law_pair : Stmt := (top 22)
abbrev N__law_pair : List Str := ["_law_tape_here", "_law_far", "_law_start"]
abbrev ps__law_pair : List Str := ["_law_tape_here"]
theorem sc__law_pair : FnScope N__law_pair ps__law_pair (defScope s__law_pair) := ⟨rfl, rfl, rfl, by decide +kernel, rfl, by decide +kernel, by decide +kernel⟩
abbrev dv__law_pair : List V := []
abbrev s__law_near : Stmt := (top 23)
abbrev N__law_near : List Str := ["_law_tape_here", "_law_pair_here", "_law_start", "_law_upto", "_law_some"]
abbrev ps__law_near : List Str := ["_law_tape_here", "_law_pair_here"]
theorem sc__law_near : FnScope N__law_near ps__law_near (defScope s__law_near) := ⟨rfl, rfl, rfl, by decide +kernel, rfl, by decide +kernel, by decide +kernel⟩
abbrev dv__law_near : List V := []
abbrev s_law : Stmt := (top 24)
abbrev N_law : List Str := ["_law_script", "_law_tape_here", "_law_turn", "_law_pair_here", "_law_near_here", "_law_one", "_law_other", "_law_twin", "_law_alone", "_law_due", "_law_thing", "_law_row", "_law_less"]
abbrev ps_law : List Str := ["_law_script"]
theorem sc_law : FnScope N_law ps_law (defScope s_law) := ⟨rfl, rfl, rfl, by decide +kernel, rfl, by decide +kernel, by decide +kernel⟩
abbrev dv_law : List V := []
abbrev s_NoTime_init : Stmt := (inClass (top 1) 0)
abbrev N_NoTime_init : List Str := ["self", "word"]
abbrev ps_NoTime_init : List Str := ["self", "word"]
theorem sc_NoTime_init : FnScope N_NoTime_init ps_NoTime_init (defScope s_NoTime_init) := ⟨rfl, rfl, rfl, by decide +kernel, rfl, by decide +kernel, by decide +kernel⟩
abbrev dv_NoTime_init : List V := []
abbrev s_NoWaits_init : Stmt := (inClass (top 3) 0)
abbrev N_NoWaits_init : List Str := ["self", "many"]
abbrev ps_NoWaits_init : List Str := ["self", "many"]
theorem sc_NoWaits_init : FnScope N_NoWaits_init ps_NoWaits_init (defScope s_NoWaits_init) := ⟨rfl, rfl, rfl, by decide +kernel, rfl, by decide +kernel, by decide +kernel⟩
abbrev dv_NoWaits_init : List V := []
abbrev s_NoStretch_init : Stmt := (inClass (top 4) 0)
abbrev N_NoStretch_init : List Str := ["self", "first", "behind"]
abbrev ps_NoStretch_init : List Str := ["self", "first", "behind"]
theorem sc_NoStretch_init : FnScope N_NoStretch_init ps_NoStretch_init (defScope s_NoStretch_init) := ⟨rfl, rfl, rfl, by decide +kernel, rfl, by decide +kernel, by decide +kernel⟩
abbrev dv_NoStretch_init : List V := []
abbrev s_Overload_init : Stmt := (inClass (top 5) 0)
abbrev N_Overload_init : List Str := ["self", "part", "at", "over"]
abbrev ps_Overload_init : List Str := ["self", "part", "at", "over"]
theorem sc_Overload_init : FnScope N_Overload_init ps_Overload_init (defScope s_Overload_init) := ⟨rfl, rfl, rfl, by decide +kernel, rfl, by decide +kernel, by decide +kernel⟩
abbrev dv_Overload_init : List V := []
structure Ad where
  C_NoTime : Addr
  C_NoBridge : Addr
  C_NoWaits : Addr
  C_NoStretch : Addr
  C_Overload : Addr
  C_Stretch : Addr
theorem bnd_show_clock_1 : Bnd "show_clock" "show_clock" s_show_clock ps_show_clock 1 [] [.p 0] dv_show_clock.length := .zero fun _ _ _ _ _ _ us ws h1 h2 => match us, ws, h1, h2 with | [_], [], _, _ => rfl
theorem bnd_NoStretch_init_3 : Bnd "__init__" "NoStretch.__init__" s_NoStretch_init ps_NoStretch_init 3 [] [.p 0, .p 1, .p 2] dv_NoStretch_init.length := .zero fun _ _ _ _ _ _ us ws h1 h2 => match us, ws, h1, h2 with | [_, _, _], [], _, _ => rfl
theorem bnd_show_time_1 : Bnd "show_time" "show_time" s_show_time ps_show_time 1 [] [.p 0] dv_show_time.length := .zero fun _ _ _ _ _ _ us ws h1 h2 => match us, ws, h1, h2 with | [_], [], _, _ => rfl
theorem bnd__law_draw_2 : Bnd "_law_draw" "_law_draw" s__law_draw ps__law_draw 2 [] [.p 0, .p 1] dv__law_draw.length := .zero fun _ _ _ _ _ _ us ws h1 h2 => match us, ws, h1, h2 with | [_, _], [], _, _ => rfl
theorem bnd__law_two_1 : Bnd "_law_two" "_law_two" s__law_two ps__law_two 1 [] [.p 0] dv__law_two.length := .zero fun _ _ _ _ _ _ us ws h1 h2 => match us, ws, h1, h2 with | [_], [], _, _ => rfl
theorem bnd_Stretch_init_3 : Bnd "__init__" "Stretch.__init__" s_Stretch_init ps_Stretch_init 3 [] [.p 0, .p 1, .p 2] dv_Stretch_init.length := .more 0 fun _ _ _ _ _ _ _ us its ws h1 h2 h3 => match us, its, ws, h1, h2, h3 with | [_, _, _], [_], [], _, _, _ => ⟨_, rfl, rfl⟩
theorem bnd__law_is_whole_1 : Bnd "_law_is_whole" "_law_is_whole" s__law_is_whole ps__law_is_whole 1 [] [.p 0] dv__law_is_whole.length := .zero fun _ _ _ _ _ _ us ws h1 h2 => match us, ws, h1, h2 with | [_], [], _, _ => rfl
theorem bnd_Stretch_len_1 : Bnd "__len__" "Stretch.__len__" s_Stretch_len ps_Stretch_len 1 [] [.p 0] dv_Stretch_len.length := .zero fun _ _ _ _ _ _ us ws h1 h2 => match us, ws, h1, h2 with | [_], [], _, _ => rfl
theorem bnd_Stretch_str_1 : Bnd "__str__" "Stretch.__str__" s_Stretch_str ps_Stretch_str 1 [] [.p 0] dv_Stretch_str.length := .zero fun _ _ _ _ _ _ us ws h1 h2 => match us, ws, h1, h2 with | [_], [], _, _ => rfl
theorem bnd__law_time_1 : Bnd "_law_time" "_law_time" s__law_time ps__law_time 1 [] [.p 0] dv__law_time.length := .zero fun _ _ _ _ _ _ us ws h1 h2 => match us, ws, h1, h2 with | [_], [], _, _ => rfl
theorem bnd_Stretch_repr_1 : Bnd "__repr__" "Stretch.__repr__" s_Stretch_repr ps_Stretch_repr 1 [] [.p 0] dv_Stretch_repr.length := .zero fun _ _ _ _ _ _ us ws h1 h2 => match us, ws, h1, h2 with | [_], [], _, _ => rfl
theorem bnd__law_pick_2 : Bnd "_law_pick" "_law_pick" s__law_pick ps__law_pick 2 [] [.p 0, .p 1] dv__law_pick.length := .zero fun _ _ _ _ _ _ us ws h1 h2 => match us, ws, h1, h2 with | [_, _], [], _, _ => rfl
theorem bnd__law_pair_1 : Bnd "_law_pair" "_law_pair" s__law_pair ps__law_pair 1 [] [.p 0] dv__law_pair.length := .zero fun _ _ _ _ _ _ us ws h1 h2 => match us, ws, h1, h2 with | [_], [], _, _ => rfl
theorem bnd__law_tape_1 : Bnd "_law_tape" "_law_tape" s__law_tape ps__law_tape 1 [] [.p 0] dv__law_tape.length := .zero fun _ _ _ _ _ _ us ws h1 h2 => match us, ws, h1, h2 with | [_], [], _, _ => rfl
theorem bnd__law_near_2 : Bnd "_law_near" "_law_near" s__law_near ps__law_near 2 [] [.p 0, .p 1] dv__law_near.length := .zero fun _ _ _ _ _ _ us ws h1 h2 => match us, ws, h1, h2 with | [_, _], [], _, _ => rfl
theorem bnd_Stretch_init_1_first_behind : Bnd "__init__" "Stretch.__init__" s_Stretch_init ps_Stretch_init 1 ["first", "behind"] [.p 0, .k 0, .k 1] dv_Stretch_init.length := .more 0 fun _ _ _ _ _ _ _ us its ws h1 h2 h3 => match us, its, ws, h1, h2, h3 with | [_], [_], [_, _], _, _, _ => ⟨_, rfl, rfl⟩
theorem bnd_Stretch_init_2 : Bnd "__init__" "Stretch.__init__" s_Stretch_init ps_Stretch_init 2 [] [.p 0, .p 1, .d 0] dv_Stretch_init.length := .more 0 fun _ _ _ _ _ _ _ us its ws h1 h2 h3 => match us, its, ws, h1, h2, h3 with | [_, _], [_], [], _, _, _ => ⟨_, rfl, rfl⟩
theorem bnd__law_is_3 : Bnd "_law_is" "_law_is" s__law_is ps__law_is 3 [] [.p 0, .p 1, .p 2] dv__law_is.length := .zero fun _ _ _ _ _ _ us ws h1 h2 => match us, ws, h1, h2 with | [_, _, _], [], _, _ => rfl
theorem bnd_Stretch_eq_2 : Bnd "__eq__" "Stretch.__eq__" s_Stretch_eq ps_Stretch_eq 2 [] [.p 0, .p 1] dv_Stretch_eq.length := .zero fun _ _ _ _ _ _ us ws h1 h2 => match us, ws, h1, h2 with | [_, _], [], _, _ => rfl
theorem bnd__law_refused_2 : Bnd "_law_refused" "_law_refused" s__law_refused ps__law_refused 2 [] [.p 0, .p 1] dv__law_refused.length := .zero fun _ _ _ _ _ _ us ws h1 h2 => match us, ws, h1, h2 with | [_, _], [], _, _ => rfl
structure Txt (K : PySem.W.Frag) (mg : Str → Option Value) (a : Ad) : Prop where
  b_show_clock : FnB K mg "show_clock" s_show_clock dv_show_clock
  b_show_time : FnB K mg "show_time" s_show_time dv_show_time
  b_Stretch_init : MkB K a.C_Stretch "Stretch.__init__" s_Stretch_init dv_Stretch_init
  b_Stretch_len : MtB K a.C_Stretch "__len__" "Stretch.__len__" s_Stretch_len dv_Stretch_len
  b_Stretch_eq : MtB K a.C_Stretch "__eq__" "Stretch.__eq__" s_Stretch_eq dv_Stretch_eq
  b_Stretch_repr : MtB K a.C_Stretch "__repr__" "Stretch.__repr__" s_Stretch_repr dv_Stretch_repr
  b_Stretch_str : MtB K a.C_Stretch "__str__" "Stretch.__str__" s_Stretch_str dv_Stretch_str
  b__law_tape : FnB K mg "_law_tape" s__law_tape dv__law_tape
  b__law_draw : FnB K mg "_law_draw" s__law_draw dv__law_draw
  b__law_pick : FnB K mg "_law_pick" s__law_pick dv__law_pick
  b__law_two : FnB K mg "_law_two" s__law_two dv__law_two
  b__law_time : FnB K mg "_law_time" s__law_time dv__law_time
  b__law_is_whole : FnB K mg "_law_is_whole" s__law_is_whole dv__law_is_whole
  b__law_refused : FnB K mg "_law_refused" s__law_refused dv__law_refused
  b__law_is : FnB K mg "_law_is" s__law_is dv__law_is
  b__law_pair : FnB K mg "_law_pair" s__law_pair dv__law_pair
  b__law_near : FnB K mg "_law_near" s__law_near dv__law_near
  b_law : FnB K mg "law" s_law dv_law
  mC_Stretch : mg "Stretch" = some (.ref a.C_Stretch)
  cl_Stretch : Cls K a.C_Stretch
  mC_NoTime : mg "NoTime" = some (.ref a.C_NoTime)
  xL_NoTime : XLk K a.C_NoTime
  xT_NoTime : ExT K a.C_NoTime "ValueError" "ValueError.__new__" "ValueError.__init__" [.type "ValueError", .type "Exception", .type "BaseException", .type "object"]
  xI_NoTime : XIn K a.C_NoTime "NoTime.__init__" s_NoTime_init
  xn_NoTime_word : PySem.W.findIn K (.ref a.C_NoTime) "word" = some none
  mC_NoBridge : mg "NoBridge" = some (.ref a.C_NoBridge)
  xL_NoBridge : XLk K a.C_NoBridge
  mC_NoWaits : mg "NoWaits" = some (.ref a.C_NoWaits)
  xL_NoWaits : XLk K a.C_NoWaits
  xT_NoWaits : ExT K a.C_NoWaits "ZeroDivisionError" "ZeroDivisionError.__new__" "ZeroDivisionError.__init__" [.type "ZeroDivisionError", .type "ArithmeticError", .type "Exception", .type "BaseException", .type "object"]
  xI_NoWaits : XIn K a.C_NoWaits "NoWaits.__init__" s_NoWaits_init
  xn_NoWaits_many : PySem.W.findIn K (.ref a.C_NoWaits) "many" = some none
  mC_NoStretch : mg "NoStretch" = some (.ref a.C_NoStretch)
  xL_NoStretch : XLk K a.C_NoStretch
  xT_NoStretch : ExT K a.C_NoStretch "ArithmeticError" "ArithmeticError.__new__" "ArithmeticError.__init__" [.type "ArithmeticError", .type "Exception", .type "BaseException", .type "object"]
  xI_NoStretch : XIn K a.C_NoStretch "NoStretch.__init__" s_NoStretch_init
  xn_NoStretch_first : PySem.W.findIn K (.ref a.C_NoStretch) "first" = some none
  xn_NoStretch_behind : PySem.W.findIn K (.ref a.C_NoStretch) "behind" = some none
  mC_Overload : mg "Overload" = some (.ref a.C_Overload)
  xL_Overload : XLk K a.C_Overload
  xT_Overload : ExT K a.C_Overload "OverflowError" "OverflowError.__new__" "OverflowError.__init__" [.type "OverflowError", .type "ArithmeticError", .type "Exception", .type "BaseException", .type "object"]
  xI_Overload : XIn K a.C_Overload "Overload.__init__" s_Overload_init
  xn_Overload_part : PySem.W.findIn K (.ref a.C_Overload) "part" = some none
  xn_Overload_at : PySem.W.findIn K (.ref a.C_Overload) "at" = some none
  xn_Overload_over : PySem.W.findIn K (.ref a.C_Overload) "over" = some none
  xm_NoStretch_NoTime : Exm K (.ref a.C_NoStretch) (.own a.C_NoTime) false
  xm_NoStretch_NoBridge : Exm K (.ref a.C_NoStretch) (.own a.C_NoBridge) false
  xm_NoStretch_NoWaits : Exm K (.ref a.C_NoStretch) (.own a.C_NoWaits) false
  xm_NoStretch_NoStretch : Exm K (.ref a.C_NoStretch) (.own a.C_NoStretch) true
  xm_NoStretch_Overload : Exm K (.ref a.C_NoStretch) (.own a.C_Overload) false
  xk_NoTime_ArithmeticError : KitX K a.C_NoTime (.type "ArithmeticError") false
  xk_NoBridge_ArithmeticError : KitX K a.C_NoBridge (.type "ArithmeticError") false
  xk_NoWaits_ArithmeticError : KitX K a.C_NoWaits (.type "ArithmeticError") true
  xk_NoStretch_ArithmeticError : KitX K a.C_NoStretch (.type "ArithmeticError") true
  xk_Overload_ArithmeticError : KitX K a.C_Overload (.type "ArithmeticError") true
  xk_NoTime_NoBridge : KitX K a.C_NoTime (.ref a.C_NoBridge) false
  xk_NoBridge_NoBridge : KitX K a.C_NoBridge (.ref a.C_NoBridge) true
  xk_NoWaits_NoBridge : KitX K a.C_NoWaits (.ref a.C_NoBridge) false
  xk_NoStretch_NoBridge : KitX K a.C_NoStretch (.ref a.C_NoBridge) false
  xk_Overload_NoBridge : KitX K a.C_Overload (.ref a.C_NoBridge) false
  xk_NoTime_NoTime : KitX K a.C_NoTime (.ref a.C_NoTime) true
  xk_NoBridge_NoTime : KitX K a.C_NoBridge (.ref a.C_NoTime) false
  xk_NoWaits_NoTime : KitX K a.C_NoWaits (.ref a.C_NoTime) false
  xk_NoStretch_NoTime : KitX K a.C_NoStretch (.ref a.C_NoTime) false
  xk_Overload_NoTime : KitX K a.C_Overload (.ref a.C_NoTime) false
  xk_NoTime_NoWaits : KitX K a.C_NoTime (.ref a.C_NoWaits) false
  xk_NoBridge_NoWaits : KitX K a.C_NoBridge (.ref a.C_NoWaits) false
  xk_NoWaits_NoWaits : KitX K a.C_NoWaits (.ref a.C_NoWaits) true
  xk_NoStretch_NoWaits : KitX K a.C_NoStretch (.ref a.C_NoWaits) false
  xk_Overload_NoWaits : KitX K a.C_Overload (.ref a.C_NoWaits) false
  xk_NoTime_Overload : KitX K a.C_NoTime (.ref a.C_Overload) false
  xk_NoBridge_Overload : KitX K a.C_NoBridge (.ref a.C_Overload) false
  xk_NoWaits_Overload : KitX K a.C_NoWaits (.ref a.C_Overload) false
  xk_NoStretch_Overload : KitX K a.C_NoStretch (.ref a.C_Overload) false
  xk_Overload_Overload : KitX K a.C_Overload (.ref a.C_Overload) true
  no_ArithmeticError : mg "ArithmeticError" = none
  no_bool : mg "bool" = none
  no_divmod : mg "divmod" = none
  no_int : mg "int" = none
  no_isinstance : mg "isinstance" = none
  no_len : mg "len" = none
  no_list : mg "list" = none
  no_max : mg "max" = none
  no_min : mg "min" = none
  no_range : mg "range" = none
  no_repr : mg "repr" = none
  no_str : mg "str" = none
  c_DAY : ∃ t, mg "DAY" = some (.int 1440 t)
  c_HOUR : ∃ t, mg "HOUR" = some (.int 60 t)
  f_Stretch_first : FldOk K a.C_Stretch "first"
  f_Stretch_behind : FldOk K a.C_Stretch "behind"
  kb_Stretch : KitB K a.C_Stretch
  kc_Stretch_Stretch : KitC K a.C_Stretch a.C_Stretch true
  nb_Stretch : NoBool K a.C_Stretch
  ez_Stretch : EqC0 K a.C_Stretch
  nn_Stretch : NoNe K a.C_Stretch
  is_Stretch : IsC K a.C_Stretch
theorem st_show_clock (d0 : D) : startD N_show_clock [d0] = [some d0, none, none] := rfl
theorem st_show_time (d0 : D) : startD N_show_time [d0] = [some d0, none, none, none] := rfl
theorem st_Stretch_init (d0 d1 d2 : D) : startD N_Stretch_init [d0, d1, d2] = [some d0, some d1, some d2] := rfl
theorem st_Stretch_len (d0 : D) : startD N_Stretch_len [d0] = [some d0] := rfl
theorem st_Stretch_eq (d0 d1 : D) : startD N_Stretch_eq [d0, d1] = [some d0, some d1] := rfl
theorem st_Stretch_repr (d0 : D) : startD N_Stretch_repr [d0] = [some d0] := rfl
theorem st_Stretch_str (d0 : D) : startD N_Stretch_str [d0] = [some d0] := rfl
theorem st__law_tape (d0 : D) : startD N__law_tape [d0] = [some d0] := rfl
theorem st__law_draw (d0 d1 : D) : startD N__law_draw [d0, d1] = [some d0, some d1, none, none, none, none, none, none] := rfl
theorem st__law_pick (d0 d1 : D) : startD N__law_pick [d0, d1] = [some d0, some d1] := rfl
theorem st__law_two (d0 : D) : startD N__law_two [d0] = [some d0] := rfl
theorem st__law_time (d0 : D) : startD N__law_time [d0] = [some d0, none] := rfl
theorem st__law_is_whole (d0 : D) : startD N__law_is_whole [d0] = [some d0] := rfl
theorem st__law_refused (d0 d1 : D) : startD N__law_refused [d0, d1] = [some d0, some d1, none, none] := rfl
theorem st__law_is (d0 d1 d2 : D) : startD N__law_is [d0, d1, d2] = [some d0, some d1, some d2] := rfl
theorem st__law_pair (d0 : D) : startD N__law_pair [d0] = [some d0, none, none] := rfl
theorem st__law_near (d0 d1 : D) : startD N__law_near [d0, d1] = [some d0, some d1, none, none, none] := rfl
theorem st_law (d0 : D) : startD N_law [d0] = [some d0, none, none, none, none, none, none, none, none, none, none, none, none] := rfl
theorem st_NoTime_init (d0 d1 : D) : startD N_NoTime_init [d0, d1] = [some d0, some d1] := rfl
theorem st_NoWaits_init (d0 d1 : D) : startD N_NoWaits_init [d0, d1] = [some d0, some d1] := rfl
theorem st_NoStretch_init (d0 d1 d2 : D) : startD N_NoStretch_init [d0, d1, d2] = [some d0, some d1, some d2] := rfl
theorem st_Overload_init (d0 d1 d2 d3 : D) : startD N_Overload_init [d0, d1, d2, d3] = [some d0, some d1, some d2, some d3] := rfl
theorem pk_NoTime_word : putK "word" [] = (["word"] : List Str) := by decide +kernel
theorem px_NoTime_word {x0 : D} : putX "word" x0 [] [] = [x0] := rfl
theorem fg_NoTime_word {x0 : D} : fget "word" ["word"] [x0] = some x0 := rfl
theorem pk_NoWaits_many : putK "many" [] = (["many"] : List Str) := by decide +kernel
theorem px_NoWaits_many {x0 : D} : putX "many" x0 [] [] = [x0] := rfl
theorem fg_NoWaits_many {x0 : D} : fget "many" ["many"] [x0] = some x0 := rfl
theorem pk_NoStretch_first : putK "first" [] = (["first"] : List Str) := by decide +kernel
theorem px_NoStretch_first {x0 : D} : putX "first" x0 [] [] = [x0] := rfl
theorem fg_NoStretch_first {x0 x1 : D} : fget "first" ["first", "behind"] [x0, x1] = some x0 := rfl
theorem pk_NoStretch_behind : putK "behind" ["first"] = (["first", "behind"] : List Str) := by decide +kernel
theorem px_NoStretch_behind {x0 x1 : D} : putX "behind" x1 ["first"] [x0] = [x0, x1] := rfl
theorem fg_NoStretch_behind {x0 x1 : D} : fget "behind" ["first", "behind"] [x0, x1] = some x1 := rfl
theorem pk_Overload_part : putK "part" [] = (["part"] : List Str) := by decide +kernel
theorem px_Overload_part {x0 : D} : putX "part" x0 [] [] = [x0] := rfl
theorem fg_Overload_part {x0 x1 x2 : D} : fget "part" ["part", "at", "over"] [x0, x1, x2] = some x0 := rfl
theorem pk_Overload_at : putK "at" ["part"] = (["part", "at"] : List Str) := by decide +kernel
theorem px_Overload_at {x0 x1 : D} : putX "at" x1 ["part"] [x0] = [x0, x1] := rfl
theorem fg_Overload_at {x0 x1 x2 : D} : fget "at" ["part", "at", "over"] [x0, x1, x2] = some x1 := rfl
theorem pk_Overload_over : putK "over" ["part", "at"] = (["part", "at", "over"] : List Str) := by decide +kernel
theorem px_Overload_over {x0 x1 x2 : D} : putX "over" x2 ["part", "at"] [x0, x1] = [x0, x1, x2] := rfl
theorem fg_Overload_over {x0 x1 x2 : D} : fget "over" ["part", "at", "over"] [x0, x1, x2] = some x2 := rfl
theorem pk_Stretch_first : putK "first" [] = (["first"] : List Str) := by decide +kernel
theorem px_Stretch_first {x0 : D} : putX "first" x0 [] [] = [x0] := rfl
theorem fg_Stretch_first {x0 x1 : D} : fget "first" ["first", "behind"] [x0, x1] = some x0 := rfl
theorem pk_Stretch_behind : putK "behind" ["first"] = (["first", "behind"] : List Str) := by decide +kernel
theorem px_Stretch_behind {x0 x1 : D} : putX "behind" x1 ["first"] [x0] = [x0, x1] := rfl
theorem fg_Stretch_behind {x0 x1 : D} : fget "behind" ["first", "behind"] [x0, x1] = some x1 := rfl
end Lw
namespace Lw
open PySem L2 Dl Mn
abbrev stD (C : Addr) (x y : Int) : D := .obj C ["first", "behind"] [.int x, .int y]
def sRep (x y : Int) : Str := Str.ofString "Stretch(" ++ showI x ++ Str.ofString ", " ++ showI y ++ Str.ofString ")"
def sStr (x y : Nat) : Str := Mt.T x ++ Str.ofString "-" ++ Mt.T y
abbrev sp_show_clock (a : Ad) : DSp := Mt.shClock
abbrev sp_show_time (a : Ad) : DSp := Mt.shTime
abbrev sp_Stretch_init (a : Ad) : XSp := fun ds S q qx => ∃ S0 x y o, ds = [.loc S0.length, .int x, o] ∧ S = S0 ++ [some (.obj a.C_Stretch [] [])] ∧ (o = .int y ∨ (o = .non ∧ y = x + 1)) ∧
  (x ≤ y → q .non (S0 ++ [some (.obj a.C_Stretch ["first", "behind"] [.int x, .int y])])) ∧ (y < x → qx (.own a.C_NoStretch) ["behind", "first"] [.int y, .int x] S)
abbrev sp_Stretch_len (a : Ad) : DSp := fun ds S q => ∃ x y, ds = [stD a.C_Stretch x y] ∧ x ≤ y ∧ y - x < 2 ^ 60 ∧ q (.int (y - x)) S
def SSay (C : Addr) (x y : Int) (e : D) (r : Bool) : Prop := (∃ u v, e = stD C u v ∧ r = decide (x = u ∧ y = v)) ∨ ((∃ t, e.bk = some t) ∧ r = false)
abbrev sp_Stretch_eq (a : Ad) : DSp := fun ds S q => ∃ x y e r, ds = [stD a.C_Stretch x y, e] ∧ SSay a.C_Stretch x y e r ∧ q (.bl r) S
abbrev sp_Stretch_repr (a : Ad) : DSp := fun ds S q => ∃ x y : Nat, ds = [stD a.C_Stretch x y] ∧ x < 10000000000 ∧ y < 10000000000 ∧ q (.str (sRep x y)) S
abbrev sp_Stretch_str (a : Ad) : DSp := fun ds S q => ∃ x y : Nat, ds = [stD a.C_Stretch x y] ∧ x < 10000000000 ∧ y < 10000000000 ∧ q (.str (sStr x y)) S
abbrev sp__law_tape (a : Ad) : DSp := Mt.tape
abbrev sp__law_draw (a : Ad) : DSp := Mt.draw
abbrev sp__law_pick (a : Ad) : DSp := Mt.pick
abbrev sp__law_two (a : Ad) : DSp := Mt.two
abbrev sp__law_time (a : Ad) : DSp := Mt.shTime
abbrev sp__law_is_whole (a : Ad) : DSp := Mt.isWhole
abbrev sp__law_refused (a : Ad) : DSp := fun ds S q => ∃ x y : Int, ds = [.int x, .int y] ∧ y < x ∧ q (.tup [.int x, .int y]) S
abbrev sp__law_is (a : Ad) : DSp := fun ds S q => ∃ x y : Nat, ds = [stD a.C_Stretch x y, .int x, .int y] ∧ x ≤ y ∧ y < 10000000000 ∧ q (.bl true) S
def PrOk (d : D) : Prop := ∃ x y : Nat, d = .tup [.int x, .int y] ∧ x ≤ y ∧ y ≤ 1000000000
abbrev sp__law_pair (a : Ad) : DSp := Mt.tk 20 [] PrOk
abbrev sp__law_near (a : Ad) : DSp := fun ds S q => ∃ x y : Nat, x ≤ y ∧ y ≤ 1000000000 ∧ Mt.tk 40 [.tup [.int x, .int y]] (fun d => ∃ u v : Nat, d = .tup [.int u, .int v] ∧ u ≤ v ∧ v ≤ 1000000001) ds S q
abbrev sp_law : DSp := Mt.law
end Lw
namespace Lw
open PySem L2 Dl
/-! printed by gen.py: each def as a term and its reading by data -/
section
variable {P : Program} {w : World} {K : PySem.W.Frag} {mg : Str → Option Value} {base : Heap} {a : Ad}
theorem xc_NoTime (T : Txt K mg a) : XCls P w K mg base "NoTime" a.C_NoTime s_NoTime_init "NoTime.__init__" ps_NoTime_init ["word"] := xcls1 T.mC_NoTime T.xT_NoTime T.xI_NoTime sc_NoTime_init rfl T.xn_NoTime_word (fun _ _ _ _ _ _ _ => pss_one (ps_xst (xv 0) (xv 1)))
theorem xc_NoWaits (T : Txt K mg a) : XCls P w K mg base "NoWaits" a.C_NoWaits s_NoWaits_init "NoWaits.__init__" ps_NoWaits_init ["many"] := xcls1 T.mC_NoWaits T.xT_NoWaits T.xI_NoWaits sc_NoWaits_init rfl T.xn_NoWaits_many (fun _ _ _ _ _ _ _ => pss_one (ps_xst (xv 0) (xv 1)))
theorem xc_NoStretch (T : Txt K mg a) : XCls P w K mg base "NoStretch" a.C_NoStretch s_NoStretch_init "NoStretch.__init__" ps_NoStretch_init ["first", "behind"] := xcls2 T.mC_NoStretch T.xT_NoStretch T.xI_NoStretch sc_NoStretch_init rfl T.xn_NoStretch_first T.xn_NoStretch_behind (fun _ _ _ _ _ _ _ => pss_cons (ps_xst (xv 0) (xv 1)) (pss_one (ps_xst (xv 0) (xv 2))))
theorem xc_Overload (T : Txt K mg a) : XCls P w K mg base "Overload" a.C_Overload s_Overload_init "Overload.__init__" ps_Overload_init ["part", "at", "over"] := xcls3 T.mC_Overload T.xT_Overload T.xI_Overload sc_Overload_init rfl T.xn_Overload_part T.xn_Overload_at T.xn_Overload_over (fun _ _ _ _ _ _ _ => pss_cons (ps_xst (xv 0) (xv 1)) (pss_cons (ps_xst (xv 0) (xv 2)) (pss_one (ps_xst (xv 0) (xv 3)))))
def g_show_clock (K : PySem.W.Frag) (a : Ad) : GS :=
  (gSeq (gAsg (.tp [(.nm 1), (.nm 2)]) (gCB (a2 aDivmod) (Dl.gCons (gVar 0) (Dl.gCons (gC (.int 60)) Dl.gNil)))) (gRet (gB2 (aAdd true) (gB2 (aAdd true) (gMt "str" (aSI (fun _ i => PadOk i = true) fun x i => .str (Txt.zfill x i)) (gCB (a1 aStr) (Dl.gCons (gVar 1) Dl.gNil)) (Dl.gCons (gC (.int 2)) Dl.gNil)) (gC (.str ":"))) (gMt "str" (aSI (fun _ i => PadOk i = true) fun x i => .str (Txt.zfill x i)) (gCB (a1 aStr) (Dl.gCons (gVar 2) Dl.gNil)) (Dl.gCons (gC (.int 2)) Dl.gNil)))))
theorem t_show_clock (T : Txt K mg a)  {f : Addr} {cdv : Value} {A : Around} {outer : List Env} {s : Shared} {H : Hp} {E : XK} (hr : RoomG 0 (A.deeper (PyProof.Rows.envOfC "show_clock" (defScope s_show_clock) s.heap.objs.size f cdv))) :
    PSs (cxOf CX0 P w K mg base N_show_clock "show_clock" (defScope s_show_clock) f cdv A outer s H E).nox (defBody s_show_clock) (tofS K U0 (g_show_clock K a)) :=
  (ds_cons (d_asg (t := (.tp [(.nm 1), (.nm 2)])) (d_callB call_divmod vr_divmod (by rfl) T.no_divmod (by decide +kernel) (d_cons (d_var 0) (d_cons (d_gint (by rfl) T.c_HOUR) d_nil))) (pg_tup rfl (pgs_cons (pg_name (i := 1) sc_show_clock.nd rfl (by first | exact .inl rfl | exact .inr rfl)) (pgs_cons (pg_name (i := 2) sc_show_clock.nd rfl (by first | exact .inl rfl | exact .inr rfl)) pgs_nil))))
    (ds_one (d_ret (d_op or_add (vr_add (fz := true)) (d_op or_add (vr_add (fz := true)) (d_bm (by decide) PySem.F.plainAttrs_str PySem.F.slot_str_zfill PySem.F.type_str_zfill mt_zfill vm_zfill (d_callTy call_str_int vr_str (by rfl) T.no_str (by decide +kernel) (d_cons (d_var 1) d_nil)) (d_cons d_int d_nil)) d_str) (d_bm (by decide) PySem.F.plainAttrs_str PySem.F.slot_str_zfill PySem.F.type_str_zfill mt_zfill vm_zfill (d_callTy call_str_int vr_str (by rfl) T.no_str (by decide +kernel) (d_cons (d_var 2) d_nil)) (d_cons d_int d_nil))))))
def g_show_time (K : PySem.W.Frag) (a : Ad) : GS :=
  (gSeq (gAsg (.tp [(.nm 1), (.nm 2)]) (gCB (a2 aDivmod) (Dl.gCons (gVar 0) (Dl.gCons (gC (.int 1440)) Dl.gNil)))) (gSeq (gSet 3 (gCall 1 0 [.p 0] [] (sp_show_clock a) (gArgs (Dl.gCons (gVar 2) Dl.gNil) Dl.gNil))) (gSeq (gIfS (gTest (gB2 aGt (gVar 1) (gC (.int 0)))) (gAug 3 aIadd (gJoined [(gC (.str "+")), (gFmt (gVar 1))])) gNext) (gRet (gVar 3)))))
theorem t_show_time (T : Txt K mg a) (F_show_clock : Fnc P w K mg base "show_clock" s_show_clock dv_show_clock 1 ps_show_clock (sp_show_clock a)) {f : Addr} {cdv : Value} {A : Around} {outer : List Env} {s : Shared} {H : Hp} {E : XK} (hr : RoomG 1 (A.deeper (PyProof.Rows.envOfC "show_time" (defScope s_show_time) s.heap.objs.size f cdv))) :
    PSs (cxOf CX0 P w K mg base N_show_time "show_time" (defScope s_show_time) f cdv A outer s H E).nox (defBody s_show_time) (tofS K U0 (g_show_time K a)) :=
  (ds_cons (d_asg (t := (.tp [(.nm 1), (.nm 2)])) (d_callB call_divmod vr_divmod (by rfl) T.no_divmod (by decide +kernel) (d_cons (d_var 0) (d_cons (d_gint (by rfl) T.c_DAY) d_nil))) (pg_tup rfl (pgs_cons (pg_name (i := 1) sc_show_time.nd rfl (by first | exact .inl rfl | exact .inr rfl)) (pgs_cons (pg_name (i := 2) sc_show_time.nd rfl (by first | exact .inl rfl | exact .inr rfl)) pgs_nil))))
    (ds_cons (d_set (i := 3) sc_show_time.nd rfl (by first | exact .inl rfl | exact .inr rfl) (d_call F_show_clock (hr.mono (by decide)) (by rfl) bnd_show_clock_1 dfv_nil (da_p0 (d_cons (d_var 2) d_nil))))
    (ds_cons (d_if (d_tcmp op_gt vr_gt (d_var 1) d_int)
      (ds_one (d_aug (i := 3) sc_show_time.nd rfl (by first | exact .inl rfl | exact .inr rfl) or_iadd vr_iadd (d_joined (.cons d_str (.cons (d_fmt (d_var 1)) .nil)))))
      ds_nil)
    (ds_one (d_ret (d_var 3))))))
def g_Stretch_init (K : PySem.W.Frag) (a : Ad) (WD : XW) : GS :=
  (gSeq (gIfS (gTest (gIsN (gVar 2))) (gSet 2 (gB2 (aAdd true) (gVar 1) (gC (.int 1)))) gNext) (gSeq (gIfS (gTest (gB2 aLt (gVar 2) (gVar 1))) (gRaise WD a.C_NoStretch ["first", "behind"] 2 [.p 0, .p 1, .p 2] (gArgs (Dl.gCons (gVar 1) (Dl.gCons (gVar 2) Dl.gNil)) Dl.gNil)) gNext) (gSeq (gFldSet K "first" (gVar 0) (gVar 1)) (gFldSet K "behind" (gVar 0) (gVar 2)))))
theorem t_Stretch_init (T : Txt K mg a)  {f : Addr} {cdv : Value} {A : Around} {outer : List Env} {s : Shared} {H : Hp} {E : XK} {U : Wi} (hr : RoomG 2 (A.deeper (PyProof.Rows.envOfC "Stretch.__init__" (defScope s_Stretch_init) s.heap.objs.size f cdv))) (tk : Takes (cxOf (CX P w) P w K mg base N_Stretch_init "Stretch.__init__" (defScope s_Stretch_init) f cdv A outer s H E) U.W) :
    PSs (cxOf (CX P w) P w K mg base N_Stretch_init "Stretch.__init__" (defScope s_Stretch_init) f cdv A outer s H E) (defBody s_Stretch_init) (tofS K U (g_Stretch_init K a U.D)) :=
  (ds_cons (d_if (d_tisN (d_var 2))
      (ds_one (d_set (i := 2) sc_Stretch_init.nd rfl (by first | exact .inl rfl | exact .inr rfl) (d_op or_add (vr_add (fz := true)) (d_var 1) d_int)))
      ds_nil)
    (ds_cons (d_if (d_tcmp op_lt vr_lt (d_var 2) (d_var 1))
      (ds_one (d_raise tk (xc_NoStretch T) (hr.mono (by decide)) (by rfl) bnd_NoStretch_init_3 (da_p0 (d_cons (d_var 1) (d_cons (d_var 2) d_nil)))))
      ds_nil)
    (ds_cons (d_fldset (d_var 0) (d_var 1))
    (ds_one (d_fldset (d_var 0) (d_var 2))))))
def g_Stretch_len (K : PySem.W.Frag) (a : Ad) : GS :=
  (gRet (gLenR (Dl.gCons (gFld K "first" (gVar 0)) (Dl.gCons (gFld K "behind" (gVar 0)) Dl.gNil))))
theorem t_Stretch_len (T : Txt K mg a)  {f : Addr} {cdv : Value} {A : Around} {outer : List Env} {s : Shared} {H : Hp} {E : XK} (hr : RoomG 0 (A.deeper (PyProof.Rows.envOfC "Stretch.__len__" (defScope s_Stretch_len) s.heap.objs.size f cdv))) :
    PSs (cxOf CX0 P w K mg base N_Stretch_len "Stretch.__len__" (defScope s_Stretch_len) f cdv A outer s H E).nox (defBody s_Stretch_len) (tofS K U0 (g_Stretch_len K a)) :=
  (ds_one (d_ret (d_lenrng (by rfl) T.no_len (by rfl) T.no_range (d_cons (d_fld (d_var 0)) (d_cons (d_fld (d_var 0)) d_nil)))))
def g_Stretch_eq (K : PySem.W.Frag) (a : Ad) : GS :=
  (gRet (gAndV (gCB (a2 (aIsiC K)) (Dl.gCons (gVar 1) (Dl.gCons (gC (.ref a.C_Stretch)) Dl.gNil))) (gB2 aEq (Dl.gTup (Dl.gCons (gFld K "first" (gVar 0)) (Dl.gCons (gFld K "behind" (gVar 0)) Dl.gNil))) (Dl.gTup (Dl.gCons (gFld K "first" (gVar 1)) (Dl.gCons (gFld K "behind" (gVar 1)) Dl.gNil))))))
theorem t_Stretch_eq (T : Txt K mg a)  {f : Addr} {cdv : Value} {A : Around} {outer : List Env} {s : Shared} {H : Hp} {E : XK} (hr : RoomG 0 (A.deeper (PyProof.Rows.envOfC "Stretch.__eq__" (defScope s_Stretch_eq) s.heap.objs.size f cdv))) :
    PSs (cxOf CX0 P w K mg base N_Stretch_eq "Stretch.__eq__" (defScope s_Stretch_eq) f cdv A outer s H E).nox (defBody s_Stretch_eq) (tofS K U0 (g_Stretch_eq K a)) :=
  (ds_one (d_ret (d_andV (d_callB call_isi vr_isiC (by rfl) T.no_isinstance (by decide +kernel) (d_cons (d_var 1) (d_cons (d_gref (by rfl) T.mC_Stretch) d_nil))) (d_oneV (d_cmp (op_eqD hr.units) vr_eq (d_tup (d_cons (d_fld (d_var 0)) (d_cons (d_fld (d_var 0)) d_nil))) (d_tup (d_cons (d_fld (d_var 1)) (d_cons (d_fld (d_var 1)) d_nil))))))))
def g_Stretch_repr (K : PySem.W.Frag) (a : Ad) : GS :=
  (gRet (gJoined [(gC (.str "Stretch(")), (gFmt (gFld K "first" (gVar 0))), (gC (.str ", ")), (gFmt (gFld K "behind" (gVar 0))), (gC (.str ")"))]))
theorem t_Stretch_repr (T : Txt K mg a)  {f : Addr} {cdv : Value} {A : Around} {outer : List Env} {s : Shared} {H : Hp} {E : XK} (hr : RoomG 0 (A.deeper (PyProof.Rows.envOfC "Stretch.__repr__" (defScope s_Stretch_repr) s.heap.objs.size f cdv))) :
    PSs (cxOf CX0 P w K mg base N_Stretch_repr "Stretch.__repr__" (defScope s_Stretch_repr) f cdv A outer s H E).nox (defBody s_Stretch_repr) (tofS K U0 (g_Stretch_repr K a)) :=
  (ds_one (d_ret (d_joined (.cons d_str (.cons (d_fmt (d_fld (d_var 0))) (.cons d_str (.cons (d_fmt (d_fld (d_var 0))) (.cons d_str .nil))))))))
def g_Stretch_str (K : PySem.W.Frag) (a : Ad) : GS :=
  (gRet (gJoined [(gFmt (gCall 1 0 [.p 0] [] (sp_show_time a) (gArgs (Dl.gCons (gFld K "first" (gVar 0)) Dl.gNil) Dl.gNil))), (gC (.str "-")), (gFmt (gCall 1 0 [.p 0] [] (sp_show_time a) (gArgs (Dl.gCons (gFld K "behind" (gVar 0)) Dl.gNil) Dl.gNil)))]))
theorem t_Stretch_str (T : Txt K mg a) (F_show_time : Fnc P w K mg base "show_time" s_show_time dv_show_time 2 ps_show_time (sp_show_time a)) {f : Addr} {cdv : Value} {A : Around} {outer : List Env} {s : Shared} {H : Hp} {E : XK} (hr : RoomG 2 (A.deeper (PyProof.Rows.envOfC "Stretch.__str__" (defScope s_Stretch_str) s.heap.objs.size f cdv))) :
    PSs (cxOf CX0 P w K mg base N_Stretch_str "Stretch.__str__" (defScope s_Stretch_str) f cdv A outer s H E).nox (defBody s_Stretch_str) (tofS K U0 (g_Stretch_str K a)) :=
  (ds_one (d_ret (d_joined (.cons (d_fmt (d_call F_show_time (hr.mono (by decide)) (by rfl) bnd_show_time_1 dfv_nil (da_p0 (d_cons (d_fld (d_var 0)) d_nil)))) (.cons d_str (.cons (d_fmt (d_call F_show_time (hr.mono (by decide)) (by rfl) bnd_show_time_1 dfv_nil (da_p0 (d_cons (d_fld (d_var 0)) d_nil)))) .nil))))))
def g__law_tape (K : PySem.W.Frag) (a : Ad) : GS :=
  (gRet (Dl.gLst false (Dl.gCons (gSl true (gVar 0) gNoP (gPart (gC (.int 63)))) (Dl.gCons (gC (.int 0)) (Dl.gCons (gC (.int 0)) Dl.gNil)))))
theorem t__law_tape (T : Txt K mg a)  {f : Addr} {cdv : Value} {A : Around} {outer : List Env} {s : Shared} {H : Hp} {E : XK} (hr : RoomG 0 (A.deeper (PyProof.Rows.envOfC "_law_tape" (defScope s__law_tape) s.heap.objs.size f cdv))) :
    PSs (cxOf CX0 P w K mg base N__law_tape "_law_tape" (defScope s__law_tape) f cdv A outer s H E).nox (defBody s__law_tape) (tofS K U0 (g__law_tape K a)) :=
  (ds_one (d_ret (d_lst false (d_cons (d_sl true (d_var 0) do_none (do_some d_int)) (d_cons d_int (d_cons d_int d_nil))))))
def g__law_draw (K : PySem.W.Frag) (a : Ad) : GS :=
  (gSeq (gIfS (gTest (gB2 aGt (gIx (gVar 0) (gC (.int 2))) (gC (.int 0)))) (gSeq (gSet 2 (gB2 aMod (gIx (gVar 0) (gC (.int 2))) (gVar 1))) (gSeq (gSetIx (gVar 0) (gC (.int 2)) (gB2 aFdiv (gIx (gVar 0) (gC (.int 2))) (gVar 1))) (gRet (gVar 2)))) gNext) (gSeq (gSet 3 (gIx (gVar 0) (gC (.int 1)))) (gSeq (gSetIx (gVar 0) (gC (.int 1)) (gB2 (aAdd true) (gVar 3) (gC (.int 1)))) (gSeq (gSet 4 (gC (.int 0))) (gSeq (gIfS (gTest (gB2 aNe (gIx (gVar 0) (gC (.int 0))) (Dl.gLst true Dl.gNil))) (gSet 4 (gIx (gIx (gVar 0) (gC (.int 0))) (gB2 aMod (gVar 3) (gCB (a1 aLen) (Dl.gCons (gIx (gVar 0) (gC (.int 0))) Dl.gNil))))) gNext) (gSeq (gIfS (gAndB (gTest (gB2 aGe (gVar 4) (gB2 aPow (gC (.int 10)) (gC (.int 18))))) (gTest (gB2 aLt (gVar 3) (gCB (a1 aLen) (Dl.gCons (gIx (gVar 0) (gC (.int 0))) Dl.gNil))))) (gSeq (gSetIx (gVar 0) (gC (.int 2)) (gB2 aFdiv (gB2 aSub (gVar 4) (gB2 aPow (gC (.int 10)) (gC (.int 18)))) (gVar 1))) (gRet (gB2 aMod (gB2 aSub (gVar 4) (gB2 aPow (gC (.int 10)) (gC (.int 18)))) (gVar 1)))) gNext) (gSeq (gSet 5 (Dl.gLst true (Dl.gCons (gC (.int 2147483647)) (Dl.gCons (gC (.int 2147483629)) (Dl.gCons (gC (.int 2147483587)) (Dl.gCons (gC (.int 2147483579)) (Dl.gCons (gC (.int 2147483563)) Dl.gNil))))))) (gSeq (gSet 6 (gIx (gVar 5) (gB2 aMod (gVar 3) (gC (.int 5))))) (gSeq (gSet 7 (gB2 aMod (gB2 (aAdd true) (gB2 (aAdd true) (gB2 (aAdd true) (gB2 (aMul true) (gB2 aMod (gVar 4) (gVar 6)) (gC (.int 48271))) (gB2 (aMul true) (gB2 (aMul true) (gC (.int 7919)) (gVar 3)) (gVar 3))) (gB2 (aMul true) (gC (.int 69621)) (gVar 3))) (gC (.int 1))) (gVar 6))) (gSeq (gSet 7 (gB2 aMod (gB2 (aMul true) (gVar 7) (gB2 (aAdd true) (gVar 7) (gC (.int 16807)))) (gIx (gVar 5) (gB2 aMod (gB2 (aAdd true) (gVar 3) (gC (.int 2))) (gC (.int 5)))))) (gRet (gB2 aMod (gB2 aFdiv (gB2 aMod (gB2 (aMul true) (gVar 7) (gVar 7)) (gC (.int 2147483549))) (gC (.int 64))) (gVar 1)))))))))))))
theorem t__law_draw (T : Txt K mg a)  {f : Addr} {cdv : Value} {A : Around} {outer : List Env} {s : Shared} {H : Hp} {E : XK} (hr : RoomG 0 (A.deeper (PyProof.Rows.envOfC "_law_draw" (defScope s__law_draw) s.heap.objs.size f cdv))) :
    PSs (cxOf CX0 P w K mg base N__law_draw "_law_draw" (defScope s__law_draw) f cdv A outer s H E).nox (defBody s__law_draw) (tofS K U0 (g__law_draw K a)) :=
  (ds_cons (d_if (d_tcmp op_gt vr_gt (d_ix (d_var 0) d_int) d_int)
      (ds_cons (d_set (i := 2) sc__law_draw.nd rfl (by first | exact .inl rfl | exact .inr rfl) (d_op op_mod vr_mod (d_ix (d_var 0) d_int) (d_var 1)))
    (ds_cons (d_setix (d_var 0) d_int (d_op or_fdiv vr_fdiv (d_ix (d_var 0) d_int) (d_var 1)))
    (ds_one (d_ret (d_var 2)))))
      ds_nil)
    (ds_cons (d_set (i := 3) sc__law_draw.nd rfl (by first | exact .inl rfl | exact .inr rfl) (d_ix (d_var 0) d_int))
    (ds_cons (d_setix (d_var 0) d_int (d_op or_add (vr_add (fz := true)) (d_var 3) d_int))
    (ds_cons (d_set (i := 4) sc__law_draw.nd rfl (by first | exact .inl rfl | exact .inr rfl) d_int)
    (ds_cons (d_if (d_tcmp (op_neD hr.units) vr_ne (d_ix (d_var 0) d_int) (d_lst true d_nil))
      (ds_one (d_set (i := 4) sc__law_draw.nd rfl (by first | exact .inl rfl | exact .inr rfl) (d_ix (d_ix (d_var 0) d_int) (d_op op_mod vr_mod (d_var 3) (d_callB or_len vr_len (by rfl) T.no_len (by decide +kernel) (d_cons (d_ix (d_var 0) d_int) d_nil))))))
      ds_nil)
    (ds_cons (d_if (PW.pt (d_and (d_tcmp op_ge vr_ge (d_var 4) (d_op op_pow vr_pow d_int d_int)) (d_and1 (d_tcmp op_lt vr_lt (d_var 3) (d_callB or_len vr_len (by rfl) T.no_len (by decide +kernel) (d_cons (d_ix (d_var 0) d_int) d_nil))))))
      (ds_cons (d_setix (d_var 0) d_int (d_op or_fdiv vr_fdiv (d_op op_sub vr_sub (d_var 4) (d_op op_pow vr_pow d_int d_int)) (d_var 1)))
    (ds_one (d_ret (d_op op_mod vr_mod (d_op op_sub vr_sub (d_var 4) (d_op op_pow vr_pow d_int d_int)) (d_var 1)))))
      ds_nil)
    (ds_cons (d_set (i := 5) sc__law_draw.nd rfl (by first | exact .inl rfl | exact .inr rfl) (d_lst true (d_cons d_int (d_cons d_int (d_cons d_int (d_cons d_int (d_cons d_int d_nil)))))))
    (ds_cons (d_set (i := 6) sc__law_draw.nd rfl (by first | exact .inl rfl | exact .inr rfl) (d_ix (d_var 5) (d_op op_mod vr_mod (d_var 3) d_int)))
    (ds_cons (d_set (i := 7) sc__law_draw.nd rfl (by first | exact .inl rfl | exact .inr rfl) (d_op op_mod vr_mod (d_op or_add (vr_add (fz := true)) (d_op or_add (vr_add (fz := true)) (d_op or_add (vr_add (fz := true)) (d_op or_mul (vr_mul (fz := true)) (d_op op_mod vr_mod (d_var 4) (d_var 6)) d_int) (d_op or_mul (vr_mul (fz := true)) (d_op or_mul (vr_mul (fz := true)) d_int (d_var 3)) (d_var 3))) (d_op or_mul (vr_mul (fz := true)) d_int (d_var 3))) d_int) (d_var 6)))
    (ds_cons (d_set (i := 7) sc__law_draw.nd rfl (by first | exact .inl rfl | exact .inr rfl) (d_op op_mod vr_mod (d_op or_mul (vr_mul (fz := true)) (d_var 7) (d_op or_add (vr_add (fz := true)) (d_var 7) d_int)) (d_ix (d_var 5) (d_op op_mod vr_mod (d_op or_add (vr_add (fz := true)) (d_var 3) d_int) d_int))))
    (ds_one (d_ret (d_op op_mod vr_mod (d_op or_fdiv vr_fdiv (d_op op_mod vr_mod (d_op or_mul (vr_mul (fz := true)) (d_var 7) (d_var 7)) d_int) d_int) (d_var 1))))))))))))))
def g__law_pick (K : PySem.W.Frag) (a : Ad) : GS :=
  (gRet (gIx (gVar 1) (gCall 2 0 [.p 0, .p 1] [] (sp__law_draw a) (gArgs (Dl.gCons (gVar 0) (Dl.gCons (gCB (a1 aLen) (Dl.gCons (gVar 1) Dl.gNil)) Dl.gNil)) Dl.gNil))))
theorem t__law_pick (T : Txt K mg a) (F__law_draw : Fnc P w K mg base "_law_draw" s__law_draw dv__law_draw 1 ps__law_draw (sp__law_draw a)) {f : Addr} {cdv : Value} {A : Around} {outer : List Env} {s : Shared} {H : Hp} {E : XK} (hr : RoomG 1 (A.deeper (PyProof.Rows.envOfC "_law_pick" (defScope s__law_pick) s.heap.objs.size f cdv))) :
    PSs (cxOf CX0 P w K mg base N__law_pick "_law_pick" (defScope s__law_pick) f cdv A outer s H E).nox (defBody s__law_pick) (tofS K U0 (g__law_pick K a)) :=
  (ds_one (d_ret (d_ix (d_var 1) (d_call F__law_draw (hr.mono (by decide)) (by rfl) bnd__law_draw_2 dfv_nil (da_p0 (d_cons (d_var 0) (d_cons (d_callB or_len vr_len (by rfl) T.no_len (by decide +kernel) (d_cons (d_var 1) d_nil)) d_nil)))))))
def g__law_two (K : PySem.W.Frag) (a : Ad) : GS :=
  (gRet (gSl true (gCB (a1 aStr) (Dl.gCons (gB2 (aAdd true) (gC (.int 100)) (gVar 0)) Dl.gNil)) (gPart (gC (.int 1))) gNoP))
theorem t__law_two (T : Txt K mg a)  {f : Addr} {cdv : Value} {A : Around} {outer : List Env} {s : Shared} {H : Hp} {E : XK} (hr : RoomG 0 (A.deeper (PyProof.Rows.envOfC "_law_two" (defScope s__law_two) s.heap.objs.size f cdv))) :
    PSs (cxOf CX0 P w K mg base N__law_two "_law_two" (defScope s__law_two) f cdv A outer s H E).nox (defBody s__law_two) (tofS K U0 (g__law_two K a)) :=
  (ds_one (d_ret (d_sl true (d_callTy call_str_int vr_str (by rfl) T.no_str (by decide +kernel) (d_cons (d_op or_add (vr_add (fz := true)) d_int (d_var 0)) d_nil)) (do_some d_int) do_none)))
def g__law_time (K : PySem.W.Frag) (a : Ad) : GS :=
  (gSeq (gSet 1 (gB2 (aAdd true) (gB2 (aAdd true) (gCall 1 0 [.p 0] [] (sp__law_two a) (gArgs (Dl.gCons (gB2 aFdiv (gB2 aMod (gVar 0) (gC (.int 1440))) (gC (.int 60))) Dl.gNil) Dl.gNil)) (gC (.str ":"))) (gCall 1 0 [.p 0] [] (sp__law_two a) (gArgs (Dl.gCons (gB2 aMod (gVar 0) (gC (.int 60))) Dl.gNil) Dl.gNil)))) (gSeq (gIfS (gTest (gB2 aLt (gVar 0) (gC (.int 1440)))) (gRet (gVar 1)) gNext) (gRet (gB2 (aAdd true) (gB2 (aAdd true) (gVar 1) (gC (.str "+"))) (gCB (a1 aStr) (Dl.gCons (gB2 aFdiv (gVar 0) (gC (.int 1440))) Dl.gNil))))))
theorem t__law_time (T : Txt K mg a) (F__law_two : Fnc P w K mg base "_law_two" s__law_two dv__law_two 1 ps__law_two (sp__law_two a)) {f : Addr} {cdv : Value} {A : Around} {outer : List Env} {s : Shared} {H : Hp} {E : XK} (hr : RoomG 1 (A.deeper (PyProof.Rows.envOfC "_law_time" (defScope s__law_time) s.heap.objs.size f cdv))) :
    PSs (cxOf CX0 P w K mg base N__law_time "_law_time" (defScope s__law_time) f cdv A outer s H E).nox (defBody s__law_time) (tofS K U0 (g__law_time K a)) :=
  (ds_cons (d_set (i := 1) sc__law_time.nd rfl (by first | exact .inl rfl | exact .inr rfl) (d_op or_add (vr_add (fz := true)) (d_op or_add (vr_add (fz := true)) (d_call F__law_two (hr.mono (by decide)) (by rfl) bnd__law_two_1 dfv_nil (da_p0 (d_cons (d_op or_fdiv vr_fdiv (d_op op_mod vr_mod (d_var 0) d_int) d_int) d_nil))) d_str) (d_call F__law_two (hr.mono (by decide)) (by rfl) bnd__law_two_1 dfv_nil (da_p0 (d_cons (d_op op_mod vr_mod (d_var 0) d_int) d_nil)))))
    (ds_cons (d_if (d_tcmp op_lt vr_lt (d_var 0) d_int)
      (ds_one (d_ret (d_var 1)))
      ds_nil)
    (ds_one (d_ret (d_op or_add (vr_add (fz := true)) (d_op or_add (vr_add (fz := true)) (d_var 1) d_str) (d_callTy call_str_int vr_str (by rfl) T.no_str (by decide +kernel) (d_cons (d_op or_fdiv vr_fdiv (d_var 0) d_int) d_nil)))))))
def g__law_is_whole (K : PySem.W.Frag) (a : Ad) : GS :=
  (gRet (gAndV (gCB (a2 aIsi) (Dl.gCons (gVar 0) (Dl.gCons (gC (.ty "int")) Dl.gNil))) (gNotV (gCB (a2 aIsi) (Dl.gCons (gVar 0) (Dl.gCons (gC (.ty "bool")) Dl.gNil))))))
theorem t__law_is_whole (T : Txt K mg a)  {f : Addr} {cdv : Value} {A : Around} {outer : List Env} {s : Shared} {H : Hp} {E : XK} (hr : RoomG 0 (A.deeper (PyProof.Rows.envOfC "_law_is_whole" (defScope s__law_is_whole) s.heap.objs.size f cdv))) :
    PSs (cxOf CX0 P w K mg base N__law_is_whole "_law_is_whole" (defScope s__law_is_whole) f cdv A outer s H E).nox (defBody s__law_is_whole) (tofS K U0 (g__law_is_whole K a)) :=
  (ds_one (d_ret (d_andV (d_callB call_isi vr_isi (by rfl) T.no_isinstance (by decide +kernel) (d_cons (d_var 0) (d_cons (d_gty (by rfl) T.no_int (by decide +kernel)) d_nil))) (d_oneV (d_notV (d_callB call_isi vr_isi (by rfl) T.no_isinstance (by decide +kernel) (d_cons (d_var 0) (d_cons (d_gty (by rfl) T.no_bool (by decide +kernel)) d_nil))))))))
def g__law_refused (K : PySem.W.Frag) (a : Ad) : GS :=
  (gSeq (gSet 2 (gC .non)) (gSeq (gTryAs K U0.D (.ref a.C_NoStretch) 3 (fun WD0 => (gDrop (gMakeX WD0 a.C_Stretch 2 0 [.p 0, .p 1, .p 2] [.non] (sp_Stretch_init a) (gArgs (Dl.gCons (gVar 0) (Dl.gCons (gVar 1) Dl.gNil)) Dl.gNil)))) (gSet 2 (gVar 3))) (gSeq (gIfS (gOrB (gNotB (gTest (gCB (a2 (aIsX K)) (Dl.gCons (gVar 2) (Dl.gCons (gC (.ty "ArithmeticError")) Dl.gNil))))) (gTest (gCB (a2 (aIsX K)) (Dl.gCons (gVar 2) (Dl.gCons (Dl.gTup (Dl.gCons (gC (.ref a.C_NoTime)) (Dl.gCons (gC (.ref a.C_NoBridge)) (Dl.gCons (gC (.ref a.C_Overload)) (Dl.gCons (gC (.ref a.C_NoWaits)) Dl.gNil))))) Dl.gNil))))) (gRet (gC .non)) gNext) (gRet (Dl.gTup (Dl.gCons (gFldX K "first" (gVar 2)) (Dl.gCons (gFldX K "behind" (gVar 2)) Dl.gNil)))))))
theorem t__law_refused (T : Txt K mg a) (F_Stretch_init : CFnX P w K mg base "Stretch" a.C_Stretch "Stretch.__init__" s_Stretch_init dv_Stretch_init 3 ps_Stretch_init (sp_Stretch_init a)) {f : Addr} {cdv : Value} {A : Around} {outer : List Env} {s : Shared} {H : Hp} {E : XK} (hr : RoomG 4 (A.deeper (PyProof.Rows.envOfC "_law_refused" (defScope s__law_refused) s.heap.objs.size f cdv))) :
    PSs (cxOf CX0 P w K mg base N__law_refused "_law_refused" (defScope s__law_refused) f cdv A outer s H E).nox (defBody s__law_refused) (tofS K U0 (g__law_refused K a)) :=
  (ds_cons (d_set (i := 2) sc__law_refused.nd rfl (by first | exact .inl rfl | exact .inr rfl) d_non)
    (ds_cons (d_tryAs (i := 3) tk0 (names_own (by rfl) T.mC_NoStretch) (fun _ _ _ tkb0 _ => (ds_one (d_expr (d_makeX tkb0 F_Stretch_init (hr.mono (by decide)) (by rfl) bnd_Stretch_init_3 dfv_Stretch_init (da_p0 (d_cons (d_var 0) (d_cons (d_var 1) d_nil))))))) (fun _ _ => (ds_one (d_set (i := 2) sc__law_refused.nd rfl (by first | exact .inl rfl | exact .inr rfl) (d_var 3)))) sc__law_refused.nd)
    (ds_cons (d_if (PW.pt (d_or (d_not (d_val (d_callB call_isX vr_isX (by rfl) T.no_isinstance (by decide +kernel) (d_cons (d_var 2) (d_cons (d_gty (by rfl) T.no_ArithmeticError (by decide +kernel)) d_nil))))) (d_or1 (d_val (d_callB call_isX vr_isX (by rfl) T.no_isinstance (by decide +kernel) (d_cons (d_var 2) (d_cons (d_tup (d_cons (d_gref (by rfl) T.mC_NoTime) (d_cons (d_gref (by rfl) T.mC_NoBridge) (d_cons (d_gref (by rfl) T.mC_Overload) (d_cons (d_gref (by rfl) T.mC_NoWaits) d_nil))))) d_nil)))))))
      (ds_one (d_ret d_non))
      ds_nil)
    (ds_one (d_ret (d_tup (d_cons (d_fldX (d_var 2)) (d_cons (d_fldX (d_var 2)) d_nil))))))))
def g__law_is (K : PySem.W.Frag) (a : Ad) : GS :=
  (gSeq (gIfS (gOrB (gNotB (gTest (gCall 1 0 [.p 0] [] (sp__law_is_whole a) (gArgs (Dl.gCons (gFld K "first" (gVar 0)) Dl.gNil) Dl.gNil)))) (gOrB (gNotB (gTest (gCall 1 0 [.p 0] [] (sp__law_is_whole a) (gArgs (Dl.gCons (gFld K "behind" (gVar 0)) Dl.gNil) Dl.gNil)))) (gTest (gB2 aNe (Dl.gTup (Dl.gCons (gFld K "first" (gVar 0)) (Dl.gCons (gFld K "behind" (gVar 0)) Dl.gNil))) (Dl.gTup (Dl.gCons (gVar 1) (Dl.gCons (gVar 2) Dl.gNil))))))) (gRet (gC (.bl false))) gNext) (gSeq (gIfS (gOrB (gTest (gB2 aNe (gCB (a1 (aLenO a.C_Stretch (sp_Stretch_len a))) (Dl.gCons (gVar 0) Dl.gNil)) (gB2 aSub (gVar 2) (gVar 1)))) (gTest (gB2 aNe (gCB (a1 (aBoO a.C_Stretch (sp_Stretch_len a))) (Dl.gCons (gVar 0) Dl.gNil)) (gB2 aGt (gVar 2) (gVar 1))))) (gRet (gC (.bl false))) gNext) (gSeq (gIfS (gTest (gB2 aNe (gCB (a1 (aStA [⟨a.C_Stretch, 3, (sp_Stretch_str a)⟩] 3)) (Dl.gCons (gVar 0) Dl.gNil)) (gB2 (aAdd true) (gB2 (aAdd true) (gCall 1 0 [.p 0] [] (sp__law_time a) (gArgs (Dl.gCons (gVar 1) Dl.gNil) Dl.gNil)) (gC (.str "-"))) (gCall 1 0 [.p 0] [] (sp__law_time a) (gArgs (Dl.gCons (gVar 2) Dl.gNil) Dl.gNil))))) (gRet (gC (.bl false))) gNext) (gRet (gB2 aEqS (gCB (a1 (aStA [⟨a.C_Stretch, 1, (sp_Stretch_repr a)⟩] 1)) (Dl.gCons (gVar 0) Dl.gNil)) (gB2 (aAdd true) (gB2 (aAdd true) (gB2 (aAdd true) (gB2 (aAdd true) (gC (.str "Stretch(")) (gCB (a1 aStr) (Dl.gCons (gVar 1) Dl.gNil))) (gC (.str ", "))) (gCB (a1 aStr) (Dl.gCons (gVar 2) Dl.gNil))) (gC (.str ")"))))))))
theorem t__law_is (T : Txt K mg a) (F_Stretch_len : MFn P w K mg base a.C_Stretch "__len__" "Stretch.__len__" s_Stretch_len dv_Stretch_len 1 ps_Stretch_len (sp_Stretch_len a)) (F_Stretch_repr : MFn P w K mg base a.C_Stretch "__repr__" "Stretch.__repr__" s_Stretch_repr dv_Stretch_repr 1 ps_Stretch_repr (sp_Stretch_repr a)) (F_Stretch_str : MFn P w K mg base a.C_Stretch "__str__" "Stretch.__str__" s_Stretch_str dv_Stretch_str 3 ps_Stretch_str (sp_Stretch_str a)) (F__law_is_whole : Fnc P w K mg base "_law_is_whole" s__law_is_whole dv__law_is_whole 1 ps__law_is_whole (sp__law_is_whole a)) (F__law_time : Fnc P w K mg base "_law_time" s__law_time dv__law_time 2 ps__law_time (sp__law_time a)) {f : Addr} {cdv : Value} {A : Around} {outer : List Env} {s : Shared} {H : Hp} {E : XK} (hr : RoomG 5 (A.deeper (PyProof.Rows.envOfC "_law_is" (defScope s__law_is) s.heap.objs.size f cdv))) :
    PSs (cxOf CX0 P w K mg base N__law_is "_law_is" (defScope s__law_is) f cdv A outer s H E).nox (defBody s__law_is) (tofS K U0 (g__law_is K a)) :=
  (ds_cons (d_if (PW.pt (d_or (d_not (d_val (d_call F__law_is_whole (hr.mono (by decide)) (by rfl) bnd__law_is_whole_1 dfv_nil (da_p0 (d_cons (d_fld (d_var 0)) d_nil))))) (d_or (d_not (d_val (d_call F__law_is_whole (hr.mono (by decide)) (by rfl) bnd__law_is_whole_1 dfv_nil (da_p0 (d_cons (d_fld (d_var 0)) d_nil))))) (d_or1 (d_tcmp (op_neD hr.units) vr_ne (d_tup (d_cons (d_fld (d_var 0)) (d_cons (d_fld (d_var 0)) d_nil))) (d_tup (d_cons (d_var 1) (d_cons (d_var 2) d_nil))))))))
      (ds_one (d_ret d_bl))
      ds_nil)
    (ds_cons (d_if (PW.pt (d_or (d_tcmp (op_neD hr.units) vr_ne (d_callB (or_lenO F_Stretch_len (hr.mono (by decide)) bnd_Stretch_len_1) vr_lenO (by rfl) T.no_len (by decide +kernel) (d_cons (d_var 0) d_nil)) (d_op op_sub vr_sub (d_var 2) (d_var 1))) (d_or1 (d_tcmp (op_neD hr.units) vr_ne (d_callTy (cr_boO T.nb_Stretch F_Stretch_len (hr.mono (by decide)) bnd_Stretch_len_1) vr_boO (by rfl) T.no_bool (by decide +kernel) (d_cons (d_var 0) d_nil)) (d_cmp op_gt vr_gt (d_var 2) (d_var 1))))))
      (ds_one (d_ret d_bl))
      ds_nil)
    (ds_cons (d_if (d_tcmp (op_neD hr.units) vr_ne (d_callTy (cr_strA (sts_cons (c := ⟨a.C_Stretch, 3, (sp_Stretch_str a)⟩) ⟨_, _, _, _, F_Stretch_str , bnd_Stretch_str_1⟩ sts_nil) (hr.mono (by decide))) vr_stA (by rfl) T.no_str (by decide +kernel) (d_cons (d_var 0) d_nil)) (d_op or_add (vr_add (fz := true)) (d_op or_add (vr_add (fz := true)) (d_call F__law_time (hr.mono (by decide)) (by rfl) bnd__law_time_1 dfv_nil (da_p0 (d_cons (d_var 1) d_nil))) d_str) (d_call F__law_time (hr.mono (by decide)) (by rfl) bnd__law_time_1 dfv_nil (da_p0 (d_cons (d_var 2) d_nil)))))
      (ds_one (d_ret d_bl))
      ds_nil)
    (ds_one (d_ret (d_cmp op_eq vr_eqSS (d_callB (cr_reprA (sts_cons (c := ⟨a.C_Stretch, 1, (sp_Stretch_repr a)⟩) ⟨_, _, _, _, F_Stretch_repr , bnd_Stretch_repr_1⟩ sts_nil) (hr.mono (by decide))) vr_stA (by rfl) T.no_repr (by decide +kernel) (d_cons (d_var 0) d_nil)) (d_op or_add (vr_add (fz := true)) (d_op or_add (vr_add (fz := true)) (d_op or_add (vr_add (fz := true)) (d_op or_add (vr_add (fz := true)) d_str (d_callTy call_str_int vr_str (by rfl) T.no_str (by decide +kernel) (d_cons (d_var 1) d_nil))) d_str) (d_callTy call_str_int vr_str (by rfl) T.no_str (by decide +kernel) (d_cons (d_var 2) d_nil))) d_str)))))))
def g__law_pair (K : PySem.W.Frag) (a : Ad) : GS :=
  (gSeq (gSet 1 (gCall 2 0 [.p 0, .p 1] [] (sp__law_pick a) (gArgs (Dl.gCons (gVar 0) (Dl.gCons (Dl.gLst true (Dl.gCons (gC (.int 3)) (Dl.gCons (gC (.int 1500)) (Dl.gCons (gB2 aPow (gC (.int 10)) (gC (.int 6))) (Dl.gCons (gB2 (aMul true) (gC (.int 4)) (gB2 aPow (gC (.int 10)) (gC (.int 8)))) Dl.gNil))))) Dl.gNil)) Dl.gNil))) (gSeq (gSet 2 (gCall 2 0 [.p 0, .p 1] [] (sp__law_draw a) (gArgs (Dl.gCons (gVar 0) (Dl.gCons (gVar 1) Dl.gNil)) Dl.gNil))) (gRet (Dl.gTup (Dl.gCons (gVar 2) (Dl.gCons (gB2 (aAdd true) (gVar 2) (gCall 2 0 [.p 0, .p 1] [] (sp__law_pick a) (gArgs (Dl.gCons (gVar 0) (Dl.gCons (Dl.gLst true (Dl.gCons (gC (.int 0)) (Dl.gCons (gC (.int 1)) (Dl.gCons (gB2 (aAdd true) (gC (.int 1)) (gCall 2 0 [.p 0, .p 1] [] (sp__law_draw a) (gArgs (Dl.gCons (gVar 0) (Dl.gCons (gVar 1) Dl.gNil)) Dl.gNil))) (Dl.gCons (gC (.int 1440)) (Dl.gCons (gCall 2 0 [.p 0, .p 1] [] (sp__law_draw a) (gArgs (Dl.gCons (gVar 0) (Dl.gCons (gC (.int 4)) Dl.gNil)) Dl.gNil)) Dl.gNil)))))) Dl.gNil)) Dl.gNil))) Dl.gNil))))))
theorem t__law_pair (T : Txt K mg a) (F__law_draw : Fnc P w K mg base "_law_draw" s__law_draw dv__law_draw 1 ps__law_draw (sp__law_draw a)) (F__law_pick : Fnc P w K mg base "_law_pick" s__law_pick dv__law_pick 2 ps__law_pick (sp__law_pick a)) {f : Addr} {cdv : Value} {A : Around} {outer : List Env} {s : Shared} {H : Hp} {E : XK} (hr : RoomG 2 (A.deeper (PyProof.Rows.envOfC "_law_pair" (defScope s__law_pair) s.heap.objs.size f cdv))) :
    PSs (cxOf CX0 P w K mg base N__law_pair "_law_pair" (defScope s__law_pair) f cdv A outer s H E).nox (defBody s__law_pair) (tofS K U0 (g__law_pair K a)) :=
  (ds_cons (d_set (i := 1) sc__law_pair.nd rfl (by first | exact .inl rfl | exact .inr rfl) (d_call F__law_pick (hr.mono (by decide)) (by rfl) bnd__law_pick_2 dfv_nil (da_p0 (d_cons (d_var 0) (d_cons (d_lst true (d_cons d_int (d_cons d_int (d_cons (d_op op_pow vr_pow d_int d_int) (d_cons (d_op or_mul (vr_mul (fz := true)) d_int (d_op op_pow vr_pow d_int d_int)) d_nil))))) d_nil)))))
    (ds_cons (d_set (i := 2) sc__law_pair.nd rfl (by first | exact .inl rfl | exact .inr rfl) (d_call F__law_draw (hr.mono (by decide)) (by rfl) bnd__law_draw_2 dfv_nil (da_p0 (d_cons (d_var 0) (d_cons (d_var 1) d_nil)))))
    (ds_one (d_ret (d_tup (d_cons (d_var 2) (d_cons (d_op or_add (vr_add (fz := true)) (d_var 2) (d_call F__law_pick (hr.mono (by decide)) (by rfl) bnd__law_pick_2 dfv_nil (da_p0 (d_cons (d_var 0) (d_cons (d_lst true (d_cons d_int (d_cons d_int (d_cons (d_op or_add (vr_add (fz := true)) d_int (d_call F__law_draw (hr.mono (by decide)) (by rfl) bnd__law_draw_2 dfv_nil (da_p0 (d_cons (d_var 0) (d_cons (d_var 1) d_nil))))) (d_cons d_int (d_cons (d_call F__law_draw (hr.mono (by decide)) (by rfl) bnd__law_draw_2 dfv_nil (da_p0 (d_cons (d_var 0) (d_cons d_int d_nil)))) d_nil)))))) d_nil))))) d_nil)))))))
def g__law_near (K : PySem.W.Frag) (a : Ad) : GS :=
  (gSeq (gAsg (.tp [(.nm 2), (.nm 3)]) (gVar 1)) (gSeq (gSet 4 (Dl.gLst true (Dl.gCons (gVar 1) (Dl.gCons (Dl.gTup (Dl.gCons (gVar 2) (Dl.gCons (gB2 (aAdd true) (gVar 3) (gC (.int 1))) Dl.gNil))) (Dl.gCons (Dl.gTup (Dl.gCons (gB2 (aAdd true) (gVar 2) (gC (.int 1))) (Dl.gCons (gB2 (aAdd true) (gVar 3) (gC (.int 1))) Dl.gNil))) (Dl.gCons (Dl.gTup (Dl.gCons (gCB (a2 aMax2) (Dl.gCons (gC (.int 0)) (Dl.gCons (gB2 aSub (gVar 2) (gC (.int 1))) Dl.gNil))) (Dl.gCons (gVar 3) Dl.gNil))) (Dl.gCons (gCall 1 0 [.p 0] [] (sp__law_pair a) (gArgs (Dl.gCons (gVar 0) Dl.gNil) Dl.gNil)) Dl.gNil))))))) (gRet (gCall 2 0 [.p 0, .p 1] [] (sp__law_pick a) (gArgs (Dl.gCons (gVar 0) (Dl.gCons (gB2 (aAdd true) (gVar 4) (Dl.gLst true (Dl.gCons (Dl.gTup (Dl.gCons (gVar 3) (Dl.gCons (gVar 3) Dl.gNil))) (Dl.gCons (Dl.gTup (Dl.gCons (gVar 2) (Dl.gCons (gVar 2) Dl.gNil))) (Dl.gCons (Dl.gTup (Dl.gCons (gVar 2) (Dl.gCons (gB2 (aAdd true) (gVar 2) (gC (.int 1))) Dl.gNil))) Dl.gNil))))) Dl.gNil)) Dl.gNil)))))
theorem t__law_near (T : Txt K mg a) (F__law_pair : Fnc P w K mg base "_law_pair" s__law_pair dv__law_pair 3 ps__law_pair (sp__law_pair a)) (F__law_pick : Fnc P w K mg base "_law_pick" s__law_pick dv__law_pick 2 ps__law_pick (sp__law_pick a)) {f : Addr} {cdv : Value} {A : Around} {outer : List Env} {s : Shared} {H : Hp} {E : XK} (hr : RoomG 3 (A.deeper (PyProof.Rows.envOfC "_law_near" (defScope s__law_near) s.heap.objs.size f cdv))) :
    PSs (cxOf CX0 P w K mg base N__law_near "_law_near" (defScope s__law_near) f cdv A outer s H E).nox (defBody s__law_near) (tofS K U0 (g__law_near K a)) :=
  (ds_cons (d_asg (t := (.tp [(.nm 2), (.nm 3)])) (d_var 1) (pg_tup rfl (pgs_cons (pg_name (i := 2) sc__law_near.nd rfl (by first | exact .inl rfl | exact .inr rfl)) (pgs_cons (pg_name (i := 3) sc__law_near.nd rfl (by first | exact .inl rfl | exact .inr rfl)) pgs_nil))))
    (ds_cons (d_set (i := 4) sc__law_near.nd rfl (by first | exact .inl rfl | exact .inr rfl) (d_lst true (d_cons (d_var 1) (d_cons (d_tup (d_cons (d_var 2) (d_cons (d_op or_add (vr_add (fz := true)) (d_var 3) d_int) d_nil))) (d_cons (d_tup (d_cons (d_op or_add (vr_add (fz := true)) (d_var 2) d_int) (d_cons (d_op or_add (vr_add (fz := true)) (d_var 3) d_int) d_nil))) (d_cons (d_tup (d_cons (d_callB (call_max2 rfl) vr_max2 (by rfl) T.no_max (by decide +kernel) (d_cons d_int (d_cons (d_op op_sub vr_sub (d_var 2) d_int) d_nil))) (d_cons (d_var 3) d_nil))) (d_cons (d_call F__law_pair (hr.mono (by decide)) (by rfl) bnd__law_pair_1 dfv_nil (da_p0 (d_cons (d_var 0) d_nil))) d_nil)))))))
    (ds_one (d_ret (d_call F__law_pick (hr.mono (by decide)) (by rfl) bnd__law_pick_2 dfv_nil (da_p0 (d_cons (d_var 0) (d_cons (d_op or_add (vr_add (fz := true)) (d_var 4) (d_lst true (d_cons (d_tup (d_cons (d_var 3) (d_cons (d_var 3) d_nil))) (d_cons (d_tup (d_cons (d_var 2) (d_cons (d_var 2) d_nil))) (d_cons (d_tup (d_cons (d_var 2) (d_cons (d_op or_add (vr_add (fz := true)) (d_var 2) d_int) d_nil))) d_nil))))) d_nil))))))))
def g_law (K : PySem.W.Frag) (a : Ad) : GS :=
  (gSeq (gSet 1 (gCall 1 0 [.p 0] [] (sp__law_tape a) (gArgs (Dl.gCons (gVar 0) Dl.gNil) Dl.gNil))) (gSeq (gFor (gRng1 (Dl.gCons (gCB (a2 aMax2) (Dl.gCons (gC (.int 4)) (Dl.gCons (gCB (a2 aMin2) (Dl.gCons (gCB (a1 aLen) (Dl.gCons (gVar 0) Dl.gNil)) (Dl.gCons (gC (.int 15)) Dl.gNil))) Dl.gNil))) Dl.gNil)) (.nm 2) (gSeq (gSet 3 (gCall 1 0 [.p 0] [] (sp__law_pair a) (gArgs (Dl.gCons (gVar 1) Dl.gNil) Dl.gNil))) (gSeq (gSet 4 (gCall 2 0 [.p 0, .p 1] [] (sp__law_near a) (gArgs (Dl.gCons (gVar 1) (Dl.gCons (gVar 3) Dl.gNil)) Dl.gNil))) (gSeq (gAsg (.tp [(.nm 5), (.nm 6), (.nm 7)]) (Dl.gTup (Dl.gCons (gMakeX U0.D a.C_Stretch 2 0 [.p 0, .p 1, .p 2] [.non] (sp_Stretch_init a) (gArgs (Dl.gCons (gIx (gVar 3) (gC (.int 0))) (Dl.gCons (gIx (gVar 3) (gC (.int 1))) Dl.gNil)) Dl.gNil)) (Dl.gCons (gMakeX U0.D a.C_Stretch 0 2 [.p 0, .k 0, .k 1] [.non] (sp_Stretch_init a) (gArgs Dl.gNil (Dl.gCons (gIx (gVar 4) (gC (.int 0))) (Dl.gCons (gIx (gVar 4) (gC (.int 1))) Dl.gNil)))) (Dl.gCons (gMakeX U0.D a.C_Stretch 2 0 [.p 0, .p 1, .p 2] [.non] (sp_Stretch_init a) (gArgs (Dl.gCons (gIx (gVar 3) (gC (.int 0))) (Dl.gCons (gIx (gVar 3) (gC (.int 1))) Dl.gNil)) Dl.gNil)) Dl.gNil))))) (gSeq (gSet 8 (gMakeX U0.D a.C_Stretch 1 0 [.p 0, .p 1, .d 0] [.non] (sp_Stretch_init a) (gArgs (Dl.gCons (gIx (gVar 3) (gC (.int 0))) Dl.gNil) Dl.gNil))) (gSeq (gIfS (gOrB (gNotB (gTest (gCall 3 0 [.p 0, .p 1, .p 2] [] (sp__law_is a) (gArgs (Dl.gCons (gVar 5) (Dl.gCons (gIx (gVar 3) (gC (.int 0))) (Dl.gCons (gIx (gVar 3) (gC (.int 1))) Dl.gNil))) Dl.gNil)))) (gNotB (gTest (gCall 3 0 [.p 0, .p 1, .p 2] [] (sp__law_is a) (gArgs (Dl.gCons (gVar 6) (Dl.gCons (gIx (gVar 4) (gC (.int 0))) (Dl.gCons (gIx (gVar 4) (gC (.int 1))) Dl.gNil))) Dl.gNil))))) (gRet (gC (.bl false))) gNext) (gSeq (gIfS (gOrB (gNotB (gTest (gCall 3 0 [.p 0, .p 1, .p 2] [] (sp__law_is a) (gArgs (Dl.gCons (gVar 8) (Dl.gCons (gIx (gVar 3) (gC (.int 0))) (Dl.gCons (gB2 (aAdd true) (gIx (gVar 3) (gC (.int 0))) (gC (.int 1))) Dl.gNil))) Dl.gNil)))) (gNotB (gTest (gCall 3 0 [.p 0, .p 1, .p 2] [] (sp__law_is a) (gArgs (Dl.gCons (gMakeX U0.D a.C_Stretch 2 0 [.p 0, .p 1, .p 2] [.non] (sp_Stretch_init a) (gArgs (Dl.gCons (gIx (gVar 3) (gC (.int 0))) (Dl.gCons (gC .non) Dl.gNil)) Dl.gNil)) (Dl.gCons (gIx (gVar 3) (gC (.int 0))) (Dl.gCons (gB2 (aAdd true) (gIx (gVar 3) (gC (.int 0))) (gC (.int 1))) Dl.gNil))) Dl.gNil))))) (gRet (gC (.bl false))) gNext) (gSeq (gSet 9 (gB2 aEq (gVar 3) (gVar 4))) (gSeq (gIfS (gTest (gB2 aNe (Dl.gLst true (Dl.gCons (gB2 (aEqA K [⟨a.C_Stretch, 1, (sp_Stretch_eq a)⟩] 3) (gVar 5) (gVar 6)) (Dl.gCons (gB2 (aEqA K [⟨a.C_Stretch, 1, (sp_Stretch_eq a)⟩] 3) (gVar 6) (gVar 5)) (Dl.gCons (gB2 (aNeA K [⟨a.C_Stretch, 1, (sp_Stretch_eq a)⟩] 3) (gVar 5) (gVar 6)) (Dl.gCons (gB2 (aEqA K [⟨a.C_Stretch, 1, (sp_Stretch_eq a)⟩] 3) (gVar 5) (gVar 7)) (Dl.gCons (gB2 (aNeA K [⟨a.C_Stretch, 1, (sp_Stretch_eq a)⟩] 3) (gVar 5) (gVar 7)) Dl.gNil)))))) (Dl.gLst true (Dl.gCons (gVar 9) (Dl.gCons (gVar 9) (Dl.gCons (gNotV (gVar 9)) (Dl.gCons (gC (.bl true)) (Dl.gCons (gC (.bl false)) Dl.gNil)))))))) (gRet (gC (.bl false))) gNext) (gSeq (gFor (gIt (Dl.gLst true (Dl.gCons (gVar 3) (Dl.gCons (gCB (a1 (aList true)) (Dl.gCons (gVar 3) Dl.gNil)) (Dl.gCons (gCB (a1 (aStA [⟨a.C_Stretch, 3, (sp_Stretch_str a)⟩] 3)) (Dl.gCons (gVar 5) Dl.gNil)) (Dl.gCons (gCB (a1 (aStA [⟨a.C_Stretch, 1, (sp_Stretch_repr a)⟩] 1)) (Dl.gCons (gVar 5) Dl.gNil)) (Dl.gCons (gC .non) (Dl.gCons (gIx (gVar 3) (gC (.int 0))) (Dl.gCons (gDNew true) Dl.gNil))))))))) (.nm 10) (gIfS (gOrB (gTest (gB2 (aEqA K [⟨a.C_Stretch, 1, (sp_Stretch_eq a)⟩] 3) (gVar 5) (gVar 10))) (gOrB (gNotB (gTest (gB2 (aNeA K [⟨a.C_Stretch, 1, (sp_Stretch_eq a)⟩] 3) (gVar 5) (gVar 10)))) (gTest (gB2 (aEqA K [⟨a.C_Stretch, 1, (sp_Stretch_eq a)⟩] 3) (gVar 10) (gVar 5))))) (gRet (gC (.bl false))) gNext)) (gSeq (gSet 11 (Dl.gLst true (Dl.gCons (gVar 8) (Dl.gCons (gVar 6) (Dl.gCons (gVar 7) Dl.gNil))))) (gSeq (gIfS (gOrB (gNotB (gTest (gB2 (aInA K [⟨a.C_Stretch, 1, (sp_Stretch_eq a)⟩] 3 false) (gVar 5) (gVar 11)))) (gTest (gB2 aNe (gMt "list" (aIdxA K [⟨a.C_Stretch, 1, (sp_Stretch_eq a)⟩] 3) (gVar 11) (Dl.gCons (gVar 5) Dl.gNil)) (gMt "list" (aIdxA K [⟨a.C_Stretch, 1, (sp_Stretch_eq a)⟩] 3) (gLc true (gIt (gVar 11)) (.nm 10) gYes (gB2 (aEqA K [⟨a.C_Stretch, 1, (sp_Stretch_eq a)⟩] 3) (gVar 5) (gVar 10)) [10]) (Dl.gCons (gC (.bl true)) Dl.gNil))))) (gRet (gC (.bl false))) gNext) (gSeq (gIfS (gTest (gB2 aNe (gMt "list" (aCntA K [⟨a.C_Stretch, 1, (sp_Stretch_eq a)⟩] 3) (gVar 11) (Dl.gCons (gVar 5) Dl.gNil)) (gMt "list" aCount (Dl.gLst true (Dl.gCons (gC (.bl true)) (Dl.gCons (gVar 9) (Dl.gCons (gB2 aEq (gVar 3) (Dl.gTup (Dl.gCons (gIx (gVar 3) (gC (.int 0))) (Dl.gCons (gB2 (aAdd true) (gIx (gVar 3) (gC (.int 0))) (gC (.int 1))) Dl.gNil)))) Dl.gNil)))) (Dl.gCons (gC (.bl true)) Dl.gNil)))) (gRet (gC (.bl false))) gNext) (gSeq (gSet 12 (gCB (a2 aMax2) (Dl.gCons (gC (.int 0)) (Dl.gCons (gB2 aSub (gB2 aSub (gIx (gVar 3) (gC (.int 0))) (gC (.int 1))) (gCall 2 0 [.p 0, .p 1] [] (sp__law_draw a) (gArgs (Dl.gCons (gVar 1) (Dl.gCons (gC (.int 5)) Dl.gNil)) Dl.gNil))) Dl.gNil)))) (gSeq (gIfS (gAndB (gTest (gB2 aLt (gVar 12) (gIx (gVar 3) (gC (.int 0))))) (gTest (gB2 aNe (gCall 2 0 [.p 0, .p 1] [] (sp__law_refused a) (gArgs (Dl.gCons (gIx (gVar 3) (gC (.int 0))) (Dl.gCons (gVar 12) Dl.gNil)) Dl.gNil)) (Dl.gTup (Dl.gCons (gIx (gVar 3) (gC (.int 0))) (Dl.gCons (gVar 12) Dl.gNil)))))) (gRet (gC (.bl false))) gNext) (gIfS (gNotB (gTest (gCall 3 0 [.p 0, .p 1, .p 2] [] (sp__law_is a) (gArgs (Dl.gCons (gVar 5) (Dl.gCons (gIx (gVar 3) (gC (.int 0))) (Dl.gCons (gIx (gVar 3) (gC (.int 1))) Dl.gNil))) Dl.gNil)))) (gRet (gC (.bl false))) gNext)))))))))))))))) (gRet (gC (.bl true)))))
theorem t_law (T : Txt K mg a) (F_Stretch_eq : MFn P w K mg base a.C_Stretch "__eq__" "Stretch.__eq__" s_Stretch_eq dv_Stretch_eq 1 ps_Stretch_eq (sp_Stretch_eq a)) (F_Stretch_init : CFnX P w K mg base "Stretch" a.C_Stretch "Stretch.__init__" s_Stretch_init dv_Stretch_init 3 ps_Stretch_init (sp_Stretch_init a)) (F_Stretch_repr : MFn P w K mg base a.C_Stretch "__repr__" "Stretch.__repr__" s_Stretch_repr dv_Stretch_repr 1 ps_Stretch_repr (sp_Stretch_repr a)) (F_Stretch_str : MFn P w K mg base a.C_Stretch "__str__" "Stretch.__str__" s_Stretch_str dv_Stretch_str 3 ps_Stretch_str (sp_Stretch_str a)) (F__law_draw : Fnc P w K mg base "_law_draw" s__law_draw dv__law_draw 1 ps__law_draw (sp__law_draw a)) (F__law_is : Fnc P w K mg base "_law_is" s__law_is dv__law_is 6 ps__law_is (sp__law_is a)) (F__law_near : Fnc P w K mg base "_law_near" s__law_near dv__law_near 4 ps__law_near (sp__law_near a)) (F__law_pair : Fnc P w K mg base "_law_pair" s__law_pair dv__law_pair 3 ps__law_pair (sp__law_pair a)) (F__law_refused : Fnc P w K mg base "_law_refused" s__law_refused dv__law_refused 5 ps__law_refused (sp__law_refused a)) (F__law_tape : Fnc P w K mg base "_law_tape" s__law_tape dv__law_tape 1 ps__law_tape (sp__law_tape a)) {f : Addr} {cdv : Value} {A : Around} {outer : List Env} {s : Shared} {H : Hp} {E : XK} (hr : RoomG 6 (A.deeper (PyProof.Rows.envOfC "law" (defScope s_law) s.heap.objs.size f cdv))) :
    PSs (cxOf CX0 P w K mg base N_law "law" (defScope s_law) f cdv A outer s H E).nox (defBody s_law) (tofS K U0 (g_law K a)) :=
  (ds_cons (d_set (i := 1) sc_law.nd rfl (by first | exact .inl rfl | exact .inr rfl) (d_call F__law_tape (hr.mono (by decide)) (by rfl) bnd__law_tape_1 dfv_nil (da_p0 (d_cons (d_var 0) d_nil))))
    (ds_cons (d_for (t := (.nm 2)) PassesOwn.never rfl (di_rng1 (by rfl) T.no_range (d_cons (d_callB (call_max2 rfl) vr_max2 (by rfl) T.no_max (by decide +kernel) (d_cons d_int (d_cons (d_callB (call_min2 rfl) vr_min2 (by rfl) T.no_min (by decide +kernel) (d_cons (d_callB or_len vr_len (by rfl) T.no_len (by decide +kernel) (d_cons (d_var 0) d_nil)) (d_cons d_int d_nil))) d_nil))) d_nil)) (pg_name (i := 2) sc_law.nd rfl (by first | exact .inl rfl | exact .inr rfl))
      (ds_cons (d_set (i := 3) sc_law.nd rfl (by first | exact .inl rfl | exact .inr rfl) (d_call F__law_pair (hr.mono (by decide)) (by rfl) bnd__law_pair_1 dfv_nil (da_p0 (d_cons (d_var 1) d_nil))))
    (ds_cons (d_set (i := 4) sc_law.nd rfl (by first | exact .inl rfl | exact .inr rfl) (d_call F__law_near (hr.mono (by decide)) (by rfl) bnd__law_near_2 dfv_nil (da_p0 (d_cons (d_var 1) (d_cons (d_var 3) d_nil)))))
    (ds_cons (d_asg (t := (.tp [(.nm 5), (.nm 6), (.nm 7)])) (d_tup (d_cons (d_makeX tk0 F_Stretch_init (hr.mono (by decide)) (by rfl) bnd_Stretch_init_3 dfv_Stretch_init (da_p0 (d_cons (d_ix (d_var 3) d_int) (d_cons (d_ix (d_var 3) d_int) d_nil)))) (d_cons (d_makeX tk0 F_Stretch_init (hr.mono (by decide)) (by rfl) bnd_Stretch_init_1_first_behind dfv_Stretch_init (da_0k (dk_cons (d_ix (d_var 4) d_int) (dk_cons (d_ix (d_var 4) d_int) dk_nil)))) (d_cons (d_makeX tk0 F_Stretch_init (hr.mono (by decide)) (by rfl) bnd_Stretch_init_3 dfv_Stretch_init (da_p0 (d_cons (d_ix (d_var 3) d_int) (d_cons (d_ix (d_var 3) d_int) d_nil)))) d_nil)))) (pg_tup rfl (pgs_cons (pg_name (i := 5) sc_law.nd rfl (by first | exact .inl rfl | exact .inr rfl)) (pgs_cons (pg_name (i := 6) sc_law.nd rfl (by first | exact .inl rfl | exact .inr rfl)) (pgs_cons (pg_name (i := 7) sc_law.nd rfl (by first | exact .inl rfl | exact .inr rfl)) pgs_nil)))))
    (ds_cons (d_set (i := 8) sc_law.nd rfl (by first | exact .inl rfl | exact .inr rfl) (d_makeX tk0 F_Stretch_init (hr.mono (by decide)) (by rfl) bnd_Stretch_init_2 dfv_Stretch_init (da_p0 (d_cons (d_ix (d_var 3) d_int) d_nil))))
    (ds_cons (d_if (PW.pt (d_or (d_not (d_val (d_call F__law_is (hr.mono (by decide)) (by rfl) bnd__law_is_3 dfv_nil (da_p0 (d_cons (d_var 5) (d_cons (d_ix (d_var 3) d_int) (d_cons (d_ix (d_var 3) d_int) d_nil))))))) (d_or1 (d_not (d_val (d_call F__law_is (hr.mono (by decide)) (by rfl) bnd__law_is_3 dfv_nil (da_p0 (d_cons (d_var 6) (d_cons (d_ix (d_var 4) d_int) (d_cons (d_ix (d_var 4) d_int) d_nil))))))))))
      (ds_one (d_ret d_bl))
      ds_nil)
    (ds_cons (d_if (PW.pt (d_or (d_not (d_val (d_call F__law_is (hr.mono (by decide)) (by rfl) bnd__law_is_3 dfv_nil (da_p0 (d_cons (d_var 8) (d_cons (d_ix (d_var 3) d_int) (d_cons (d_op or_add (vr_add (fz := true)) (d_ix (d_var 3) d_int) d_int) d_nil))))))) (d_or1 (d_not (d_val (d_call F__law_is (hr.mono (by decide)) (by rfl) bnd__law_is_3 dfv_nil (da_p0 (d_cons (d_makeX tk0 F_Stretch_init (hr.mono (by decide)) (by rfl) bnd_Stretch_init_3 dfv_Stretch_init (da_p0 (d_cons (d_ix (d_var 3) d_int) (d_cons d_non d_nil)))) (d_cons (d_ix (d_var 3) d_int) (d_cons (d_op or_add (vr_add (fz := true)) (d_ix (d_var 3) d_int) d_int) d_nil))))))))))
      (ds_one (d_ret d_bl))
      ds_nil)
    (ds_cons (d_set (i := 9) sc_law.nd rfl (by first | exact .inl rfl | exact .inr rfl) (d_cmp (op_eqD hr.units) vr_eq (d_var 3) (d_var 4)))
    (ds_cons (d_if (d_tcmp (op_neD hr.units) vr_ne (d_lst true (d_cons (d_cmp (or_eqA (eqs_cons (c := ⟨a.C_Stretch, 1, (sp_Stretch_eq a)⟩) ⟨T.ez_Stretch, T.nn_Stretch, _, _, _, _, F_Stretch_eq , bnd_Stretch_eq_2⟩ eqs_nil) (hr.mono (by decide))) vr_eqA (d_var 5) (d_var 6)) (d_cons (d_cmp (or_eqA (eqs_cons (c := ⟨a.C_Stretch, 1, (sp_Stretch_eq a)⟩) ⟨T.ez_Stretch, T.nn_Stretch, _, _, _, _, F_Stretch_eq , bnd_Stretch_eq_2⟩ eqs_nil) (hr.mono (by decide))) vr_eqA (d_var 6) (d_var 5)) (d_cons (d_cmp (or_neA (eqs_cons (c := ⟨a.C_Stretch, 1, (sp_Stretch_eq a)⟩) ⟨T.ez_Stretch, T.nn_Stretch, _, _, _, _, F_Stretch_eq , bnd_Stretch_eq_2⟩ eqs_nil) (hr.mono (by decide))) vr_neA (d_var 5) (d_var 6)) (d_cons (d_cmp (or_eqA (eqs_cons (c := ⟨a.C_Stretch, 1, (sp_Stretch_eq a)⟩) ⟨T.ez_Stretch, T.nn_Stretch, _, _, _, _, F_Stretch_eq , bnd_Stretch_eq_2⟩ eqs_nil) (hr.mono (by decide))) vr_eqA (d_var 5) (d_var 7)) (d_cons (d_cmp (or_neA (eqs_cons (c := ⟨a.C_Stretch, 1, (sp_Stretch_eq a)⟩) ⟨T.ez_Stretch, T.nn_Stretch, _, _, _, _, F_Stretch_eq , bnd_Stretch_eq_2⟩ eqs_nil) (hr.mono (by decide))) vr_neA (d_var 5) (d_var 7)) d_nil)))))) (d_lst true (d_cons (d_var 9) (d_cons (d_var 9) (d_cons (d_notV (d_var 9)) (d_cons d_bl (d_cons d_bl d_nil)))))))
      (ds_one (d_ret d_bl))
      ds_nil)
    (ds_cons (d_for (t := (.nm 10)) PassesOwn.never rfl (di_seq (d_lst true (d_cons (d_var 3) (d_cons (d_callTy call_list_of (vr_list (fz := true)) (by rfl) T.no_list (by decide +kernel) (d_cons (d_var 3) d_nil)) (d_cons (d_callTy (cr_strA (sts_cons (c := ⟨a.C_Stretch, 3, (sp_Stretch_str a)⟩) ⟨_, _, _, _, F_Stretch_str , bnd_Stretch_str_1⟩ sts_nil) (hr.mono (by decide))) vr_stA (by rfl) T.no_str (by decide +kernel) (d_cons (d_var 5) d_nil)) (d_cons (d_callB (cr_reprA (sts_cons (c := ⟨a.C_Stretch, 1, (sp_Stretch_repr a)⟩) ⟨_, _, _, _, F_Stretch_repr , bnd_Stretch_repr_1⟩ sts_nil) (hr.mono (by decide))) vr_stA (by rfl) T.no_repr (by decide +kernel) (d_cons (d_var 5) d_nil)) (d_cons d_non (d_cons (d_ix (d_var 3) d_int) (d_cons (d_dnew true) d_nil))))))))) (pg_name (i := 10) sc_law.nd rfl (by first | exact .inl rfl | exact .inr rfl))
      (ds_one (d_if (PW.pt (d_or (d_tcmp (or_eqA (eqs_cons (c := ⟨a.C_Stretch, 1, (sp_Stretch_eq a)⟩) ⟨T.ez_Stretch, T.nn_Stretch, _, _, _, _, F_Stretch_eq , bnd_Stretch_eq_2⟩ eqs_nil) (hr.mono (by decide))) vr_eqA (d_var 5) (d_var 10)) (d_or (d_not (d_tcmp (or_neA (eqs_cons (c := ⟨a.C_Stretch, 1, (sp_Stretch_eq a)⟩) ⟨T.ez_Stretch, T.nn_Stretch, _, _, _, _, F_Stretch_eq , bnd_Stretch_eq_2⟩ eqs_nil) (hr.mono (by decide))) vr_neA (d_var 5) (d_var 10))) (d_or1 (d_tcmp (or_eqA (eqs_cons (c := ⟨a.C_Stretch, 1, (sp_Stretch_eq a)⟩) ⟨T.ez_Stretch, T.nn_Stretch, _, _, _, _, F_Stretch_eq , bnd_Stretch_eq_2⟩ eqs_nil) (hr.mono (by decide))) vr_eqA (d_var 10) (d_var 5))))))
      (ds_one (d_ret d_bl))
      ds_nil)))
    (ds_cons (d_set (i := 11) sc_law.nd rfl (by first | exact .inl rfl | exact .inr rfl) (d_lst true (d_cons (d_var 8) (d_cons (d_var 6) (d_cons (d_var 7) d_nil)))))
    (ds_cons (d_if (PW.pt (d_or (d_not (d_tcmp (or_inA (eqs_cons (c := ⟨a.C_Stretch, 1, (sp_Stretch_eq a)⟩) ⟨T.ez_Stretch, T.nn_Stretch, _, _, _, _, F_Stretch_eq , bnd_Stretch_eq_2⟩ eqs_nil) (hr.mono (by decide))) vr_inA (d_var 5) (d_var 11))) (d_or1 (d_tcmp (op_neD hr.units) vr_ne (d_bm (by decide) PySem.F.plainAttrs_list PySem.F.slot_list_index PySem.F.type_list_index (mt_idxA (eqs_cons (c := ⟨a.C_Stretch, 1, (sp_Stretch_eq a)⟩) ⟨T.ez_Stretch, T.nn_Stretch, _, _, _, _, F_Stretch_eq , bnd_Stretch_eq_2⟩ eqs_nil) (hr.mono (by decide))) vm_idxA (d_var 11) (d_cons (d_var 5) d_nil)) (d_bm (by decide) PySem.F.plainAttrs_list PySem.F.slot_list_index PySem.F.type_list_index (mt_idxA (eqs_cons (c := ⟨a.C_Stretch, 1, (sp_Stretch_eq a)⟩) ⟨T.ez_Stretch, T.nn_Stretch, _, _, _, _, F_Stretch_eq , bnd_Stretch_eq_2⟩ eqs_nil) (hr.mono (by decide))) vm_idxA (d_lc (own := [("_law_thing", 10)]) (t := (.nm 10)) true rfl sc_law.nd (di_seq (d_var 11)) (blkOk_by (own := [("_law_thing", 10)]) (N := N_law) (sc := defScope s_law) (by decide +kernel)) (by decide) (fun _ _ _ _ _ => (pg_name (i := 10) sc_law.nd rfl (by first | exact .inl rfl | exact .inr rfl))) (fun _ _ _ _ _ => dt_nil) (fun _ _ _ _ _ => (d_cmp (or_eqA (eqs_cons (c := ⟨a.C_Stretch, 1, (sp_Stretch_eq a)⟩) ⟨T.ez_Stretch, T.nn_Stretch, _, _, _, _, F_Stretch_eq , bnd_Stretch_eq_2⟩ eqs_nil) (hr.mono (by decide))) vr_eqA (d_var 5) (d_var 10)))) (d_cons d_bl d_nil))))))
      (ds_one (d_ret d_bl))
      ds_nil)
    (ds_cons (d_if (d_tcmp (op_neD hr.units) vr_ne (d_bm (by decide) PySem.F.plainAttrs_list PySem.F.slot_list_count PySem.F.type_list_count (mt_cntA (eqs_cons (c := ⟨a.C_Stretch, 1, (sp_Stretch_eq a)⟩) ⟨T.ez_Stretch, T.nn_Stretch, _, _, _, _, F_Stretch_eq , bnd_Stretch_eq_2⟩ eqs_nil) (hr.mono (by decide))) vm_cntA (d_var 11) (d_cons (d_var 5) d_nil)) (d_bm (by decide) PySem.F.plainAttrs_list PySem.F.slot_list_count PySem.F.type_list_count (mt_countD hr) vm_count (d_lst true (d_cons d_bl (d_cons (d_var 9) (d_cons (d_cmp (op_eqD hr.units) vr_eq (d_var 3) (d_tup (d_cons (d_ix (d_var 3) d_int) (d_cons (d_op or_add (vr_add (fz := true)) (d_ix (d_var 3) d_int) d_int) d_nil)))) d_nil)))) (d_cons d_bl d_nil)))
      (ds_one (d_ret d_bl))
      ds_nil)
    (ds_cons (d_set (i := 12) sc_law.nd rfl (by first | exact .inl rfl | exact .inr rfl) (d_callB (call_max2 rfl) vr_max2 (by rfl) T.no_max (by decide +kernel) (d_cons d_int (d_cons (d_op op_sub vr_sub (d_op op_sub vr_sub (d_ix (d_var 3) d_int) d_int) (d_call F__law_draw (hr.mono (by decide)) (by rfl) bnd__law_draw_2 dfv_nil (da_p0 (d_cons (d_var 1) (d_cons d_int d_nil))))) d_nil))))
    (ds_cons (d_if (PW.pt (d_and (d_tcmp op_lt vr_lt (d_var 12) (d_ix (d_var 3) d_int)) (d_and1 (d_tcmp (op_neD hr.units) vr_ne (d_call F__law_refused (hr.mono (by decide)) (by rfl) bnd__law_refused_2 dfv_nil (da_p0 (d_cons (d_ix (d_var 3) d_int) (d_cons (d_var 12) d_nil)))) (d_tup (d_cons (d_ix (d_var 3) d_int) (d_cons (d_var 12) d_nil)))))))
      (ds_one (d_ret d_bl))
      ds_nil)
    (ds_one (d_if (d_not (d_val (d_call F__law_is (hr.mono (by decide)) (by rfl) bnd__law_is_3 dfv_nil (da_p0 (d_cons (d_var 5) (d_cons (d_ix (d_var 3) d_int) (d_cons (d_ix (d_var 3) d_int) d_nil)))))))
      (ds_one (d_ret d_bl))
      ds_nil)))))))))))))))))
    (ds_one (d_ret d_bl))))
end
end Lw
namespace Lw
open PySem L2 Dl
section
variable {P : Program} {w : World} {K : PySem.W.Frag} {mg : Str → Option Value} {base : Heap} {a : Ad}
theorem r__law_draw : ∀ ds S q, sp__law_draw a ds S q → g__law_draw K a { nx := fun _ S' => q .non S', rt := q } (startD N__law_draw ds) S := by
  rintro ds S q ⟨many, h1, h2, o, R0, B, rfl, rfl, ⟨ns, t, r, rfl, h3, h4, h5⟩, hb, h⟩
  rw [st__law_draw]
  simp only [g__law_draw, ↓x_eqSS, ↓x_neSS, ↓gKGet, ↓x_kget, ↓x_ixE, at_last, ↓x_appE, ↓x_tyE, ↓x_itE, ↓x_lenE, ↓x_nePr, ↓x_eqPr, ↓x_neE, ↓x_lenr, ↓x_lenrI, ↓gRev, ↓x_par3, ↓x_par33, ↓x_fld, ↓x_fset, ↓x_mkF, ↓x_mk, ↓x_meth, ↓x_fldO, ↓x_fsetE, ↓x_fldE, ↓x_methO, ↓x_isiCO, ↓x_isiCN, ↓x_isiCT, ↓x_isiCLi, ↓x_isiCS, ↓x_isiCI, ↓x_own, ↓x_eqT2, ↓x_neT2, ↓x_neL4, ↓x_eqLN, ↓x_neNil, ↓x_gset, ↓x_lc, ↓x_for, ↓x_it, ↓x_rn1, ↓x_rn2, ↓x_enu, ↓x_zip, ↓x_itS, ↓x_itL, ↓x_itK, ↓x_itT, ↓x_rn1I, ↓x_rn2I, ↓x_enuL, ↓x_enuK, ↓x_zipL, ↓x_ixS0, ↓x_ixL, ↓x_ixT, ↓x_ixK, x_at0, x_at1, x_at2, x_at3, x_at4, ↓x_set00, ↓x_set01, ↓x_set02, ↓x_aug1, ↓x_aug2, ↓x_aug3, ↓x_aug4, ↓x_aug5, ↓x_aug6, ↓x_aug7, ↓x_aug8, ↓x_aug9, ↓x_aug10, ↓x_aug11, ↓x_aug12, ↓x_aug13, ↓x_aug14, ↓x_aug15, ↓x_aug16, ↓x_aug17, ↓x_aug18, ↓x_aug19, ↓x_aug20, ↓x_aug21, ↓x_aug22, ↓x_aug23, Int.reduceToNat, Int.reducePow, ↓gSeq, ↓gIfS, ↓gSet, ↓gAsg, ↓x_par, ↓x_par2, ↓gRet, ↓gRetN, ↓gNext, ↓gDrop, ↓gBreak, ↓gCont, ↓gDead, ↓gCB, ↓gB2, ↓gU, ↓gC, ↓Dl.gCons, ↓Dl.gNil, ↓Dl.gTup, ↓Dl.gLst, ↓gTest, ↓gOrB, ↓gAndB, ↓gNotB, ↓gAndV, ↓gOrV, ↓gNotV, ↓gIf, ↓gIx, ↓gSl, ↓gPart, ↓gNoP, ↓gMt, ↓gCall, ↓gArgs, ↓gIsN, ↓gNotN, ↓gChain, ↓x_fmtS, ↓x_afS, ↓x_afI, ↓x_js0, ↓x_jsc, ↓gJoined, ↓gYes, ↓x_bnm, ↓x_btp, ↓x_bn, ↓x_bc, ↓x_nnN, ↓x_nnI, ↓x_nnS, ↓x_nnB, ↓x_nnT, ↓x_nnL, ↓x_nnO, ↓x_nnl, ↓x_tyS, ↓x_tyL, ↓x_i2, ↓aSub, ↓aFdiv, ↓aMod, ↓aPow, ↓aShr, ↓aLt, ↓aLe, ↓aGt, ↓aGe, ↓x_addI, ↓x_addS, ↓x_mulI, ↓x_iaddS, ↓x_iaddI, ↓x_neg, ↓x_eqI, ↓x_neI, ↓x_eqS, ↓x_neS, ↓x_eqB, ↓x_neB, ↓x_eqNI, ↓x_neNI, ↓x_lenS, ↓x_lenL_l, ↓x_lenL_k, ↓x_lenL_t, ↓x_str, ↓x_intI, ↓x_intB, ↓x_divmod, ↓x_max2, ↓x_min2, ↓x_ixS, ↓x_slS, ↓x_slT, ↓x_slL_l, ↓x_slL_k, ↓x_inS, ↓x_newT, ↓x_newF, ↓x_si, ↓x_s1, ↓x_s0, ↓x_rpart, ↓x_part, ↓x_a1, ↓x_a2, ↓x_isiStr, ↓x_isiInt, ↓x_isiIntB, ↓x_isiIntS, ↓x_isiBB, ↓x_isiBI, ↓x_isiStrI, ↓x_isiNonI, ↓x_isiNonS, ↓x_isiT, ↓x_isiL, ↓x_var0, ↓x_varS, ↓x_ex, ↓x_aug0, gat, pick, Option.some.injEq, D.bl.injEq, D.int.injEq, D.str.injEq, D.tup.injEq, D.lst.injEq, List.cons.injEq, and_true, true_and, List.set_cons_zero, List.set_cons_succ, List.length_cons, List.length_nil, List.filterMap_cons, List.filterMap_nil, List.getElem?_cons_zero, List.getElem?_cons_succ, Option.bind_some, ↓reduceIte, if_true, if_false, Bool.false_eq_true, Bool.true_eq_false, decide_eq_true_eq, beq_self_eq_true, Bool.not_true, Bool.not_false, Bool.not_eq_true', decide_eq_false_iff_not, exists_eq_left', exists_eq_left, exists_eq, ↓x_dnT, ↓x_dnF, ↓gAsgL, ↓gMMDef, ↓gDSet, ↓gSItems, ↓gOrT, ↓gAndT, ↓gTryAs, ↓gTryO, ↓gRaise, ↓gCallX, ↓gMethX, ↓gMakeX, ↓gFldX, ↓x_inXs, Bool.false_xor, Bool.true_xor, ↓gOrS, ↓x_fmtRS, ↓x_afRS, ↓x_afRI, ↓x_stO]
  have hT : ∀ x r', 0 ≤ x → x < many → 0 ≤ r' → q (.int x) (some (.lst [.lst (ns.map .int), .int (t + 1), .int r']) :: R0) := fun x r' a1 a2 a3 => h _ _ ⟨x, rfl, a1, a2⟩ ⟨ns, t + 1, r', rfl, by omega, by omega, a3⟩
  have m1 : ∀ x, 0 ≤ x % many ∧ x % many < many := fun x => ⟨Int.emod_nonneg _ (by omega), Int.emod_lt_of_pos _ h1⟩
  have hb' : B + 1 ≤ 1000000000000 := hb
  obtain ⟨p, hp, hp0, hp1⟩ := Mt.primes t
  obtain ⟨p2, hp2, hp20, hp21⟩ := Mt.primes (t + 2)
  split
  · exact ⟨h1, .inl ⟨h1, h2⟩, h _ _ ⟨_, rfl, (m1 _).1, (m1 _).2⟩ ⟨ns, t, r / many, rfl, h3, by omega, Int.ediv_nonneg h5 (by omega)⟩⟩
  · refine ⟨by decide, ?_⟩
    by_cases hn : ns = []
    · rw [if_neg (by simpa using hn)]
      refine ⟨⟨by decide, by decide, by decide⟩, ?_⟩
      rw [if_neg (by decide)]
      refine ⟨by decide, by decide, .int p, hp, ?_⟩
      simp only [↓x_eqSS, ↓x_neSS, ↓gKGet, ↓x_kget, ↓x_ixE, at_last, ↓x_appE, ↓x_tyE, ↓x_itE, ↓x_lenE, ↓x_nePr, ↓x_eqPr, ↓x_neE, ↓x_lenr, ↓x_lenrI, ↓gRev, ↓x_par3, ↓x_par33, ↓x_fld, ↓x_fset, ↓x_mkF, ↓x_mk, ↓x_meth, ↓x_fldO, ↓x_fsetE, ↓x_fldE, ↓x_methO, ↓x_isiCO, ↓x_isiCN, ↓x_isiCT, ↓x_isiCLi, ↓x_isiCS, ↓x_isiCI, ↓x_own, ↓x_eqT2, ↓x_neT2, ↓x_neL4, ↓x_eqLN, ↓x_neNil, ↓x_gset, ↓x_lc, ↓x_for, ↓x_it, ↓x_rn1, ↓x_rn2, ↓x_enu, ↓x_zip, ↓x_itS, ↓x_itL, ↓x_itK, ↓x_itT, ↓x_rn1I, ↓x_rn2I, ↓x_enuL, ↓x_enuK, ↓x_zipL, ↓x_ixS0, ↓x_ixL, ↓x_ixT, ↓x_ixK, x_at0, x_at1, x_at2, x_at3, x_at4, ↓x_set00, ↓x_set01, ↓x_set02, ↓x_aug1, ↓x_aug2, ↓x_aug3, ↓x_aug4, ↓x_aug5, ↓x_aug6, ↓x_aug7, ↓x_aug8, ↓x_aug9, ↓x_aug10, ↓x_aug11, ↓x_aug12, ↓x_aug13, ↓x_aug14, ↓x_aug15, ↓x_aug16, ↓x_aug17, ↓x_aug18, ↓x_aug19, ↓x_aug20, ↓x_aug21, ↓x_aug22, ↓x_aug23, Int.reduceToNat, Int.reducePow, ↓gSeq, ↓gIfS, ↓gSet, ↓gAsg, ↓x_par, ↓x_par2, ↓gRet, ↓gRetN, ↓gNext, ↓gDrop, ↓gBreak, ↓gCont, ↓gDead, ↓gCB, ↓gB2, ↓gU, ↓gC, ↓Dl.gCons, ↓Dl.gNil, ↓Dl.gTup, ↓Dl.gLst, ↓gTest, ↓gOrB, ↓gAndB, ↓gNotB, ↓gAndV, ↓gOrV, ↓gNotV, ↓gIf, ↓gIx, ↓gSl, ↓gPart, ↓gNoP, ↓gMt, ↓gCall, ↓gArgs, ↓gIsN, ↓gNotN, ↓gChain, ↓x_fmtS, ↓x_afS, ↓x_afI, ↓x_js0, ↓x_jsc, ↓gJoined, ↓gYes, ↓x_bnm, ↓x_btp, ↓x_bn, ↓x_bc, ↓x_nnN, ↓x_nnI, ↓x_nnS, ↓x_nnB, ↓x_nnT, ↓x_nnL, ↓x_nnO, ↓x_nnl, ↓x_tyS, ↓x_tyL, ↓x_i2, ↓aSub, ↓aFdiv, ↓aMod, ↓aPow, ↓aShr, ↓aLt, ↓aLe, ↓aGt, ↓aGe, ↓x_addI, ↓x_addS, ↓x_mulI, ↓x_iaddS, ↓x_iaddI, ↓x_neg, ↓x_eqI, ↓x_neI, ↓x_eqS, ↓x_neS, ↓x_eqB, ↓x_neB, ↓x_eqNI, ↓x_neNI, ↓x_lenS, ↓x_lenL_l, ↓x_lenL_k, ↓x_lenL_t, ↓x_str, ↓x_intI, ↓x_intB, ↓x_divmod, ↓x_max2, ↓x_min2, ↓x_ixS, ↓x_slS, ↓x_slT, ↓x_slL_l, ↓x_slL_k, ↓x_inS, ↓x_newT, ↓x_newF, ↓x_si, ↓x_s1, ↓x_s0, ↓x_rpart, ↓x_part, ↓x_a1, ↓x_a2, ↓x_isiStr, ↓x_isiInt, ↓x_isiIntB, ↓x_isiIntS, ↓x_isiBB, ↓x_isiBI, ↓x_isiStrI, ↓x_isiNonI, ↓x_isiNonS, ↓x_isiT, ↓x_isiL, ↓x_var0, ↓x_varS, ↓x_ex, ↓x_aug0, gat, pick, Option.some.injEq, D.bl.injEq, D.int.injEq, D.str.injEq, D.tup.injEq, D.lst.injEq, List.cons.injEq, and_true, true_and, List.set_cons_zero, List.set_cons_succ, List.length_cons, List.length_nil, List.filterMap_cons, List.filterMap_nil, List.getElem?_cons_zero, List.getElem?_cons_succ, Option.bind_some, ↓reduceIte, if_true, if_false, Bool.false_eq_true, Bool.true_eq_false, decide_eq_true_eq, beq_self_eq_true, Bool.not_true, Bool.not_false, Bool.not_eq_true', decide_eq_false_iff_not, exists_eq_left', exists_eq_left, exists_eq, ↓x_dnT, ↓x_dnF, ↓gAsgL, ↓gMMDef, ↓gDSet, ↓gSItems, ↓gOrT, ↓gAndT, ↓gTryAs, ↓gTryO, ↓gRaise, ↓gCallX, ↓gMethX, ↓gMakeX, ↓gFldX, ↓x_inXs, Bool.false_xor, Bool.true_xor, ↓gOrS, ↓x_fmtRS, ↓x_afRS, ↓x_afRI, ↓x_stO]
      refine ⟨hp0, mulOk_r (by decide) (by decide), mulOk_l (by decide) (by decide), mulOk_r (by omega) (by omega), mulOk_l (by decide) (by decide), hp0, ?_⟩
      generalize hy : (_ : Int) % p = y
      have hy0 : 0 ≤ y ∧ y < p := by rw [← hy]; exact ⟨Int.emod_nonneg _ (by omega), Int.emod_lt_of_pos _ hp0⟩
      refine ⟨mulOk_l (by omega) (by omega), by decide, .int p2, hp2, ?_⟩
      simp only [↓x_eqSS, ↓x_neSS, ↓gKGet, ↓x_kget, ↓x_ixE, at_last, ↓x_appE, ↓x_tyE, ↓x_itE, ↓x_lenE, ↓x_nePr, ↓x_eqPr, ↓x_neE, ↓x_lenr, ↓x_lenrI, ↓gRev, ↓x_par3, ↓x_par33, ↓x_fld, ↓x_fset, ↓x_mkF, ↓x_mk, ↓x_meth, ↓x_fldO, ↓x_fsetE, ↓x_fldE, ↓x_methO, ↓x_isiCO, ↓x_isiCN, ↓x_isiCT, ↓x_isiCLi, ↓x_isiCS, ↓x_isiCI, ↓x_own, ↓x_eqT2, ↓x_neT2, ↓x_neL4, ↓x_eqLN, ↓x_neNil, ↓x_gset, ↓x_lc, ↓x_for, ↓x_it, ↓x_rn1, ↓x_rn2, ↓x_enu, ↓x_zip, ↓x_itS, ↓x_itL, ↓x_itK, ↓x_itT, ↓x_rn1I, ↓x_rn2I, ↓x_enuL, ↓x_enuK, ↓x_zipL, ↓x_ixS0, ↓x_ixL, ↓x_ixT, ↓x_ixK, x_at0, x_at1, x_at2, x_at3, x_at4, ↓x_set00, ↓x_set01, ↓x_set02, ↓x_aug1, ↓x_aug2, ↓x_aug3, ↓x_aug4, ↓x_aug5, ↓x_aug6, ↓x_aug7, ↓x_aug8, ↓x_aug9, ↓x_aug10, ↓x_aug11, ↓x_aug12, ↓x_aug13, ↓x_aug14, ↓x_aug15, ↓x_aug16, ↓x_aug17, ↓x_aug18, ↓x_aug19, ↓x_aug20, ↓x_aug21, ↓x_aug22, ↓x_aug23, Int.reduceToNat, Int.reducePow, ↓gSeq, ↓gIfS, ↓gSet, ↓gAsg, ↓x_par, ↓x_par2, ↓gRet, ↓gRetN, ↓gNext, ↓gDrop, ↓gBreak, ↓gCont, ↓gDead, ↓gCB, ↓gB2, ↓gU, ↓gC, ↓Dl.gCons, ↓Dl.gNil, ↓Dl.gTup, ↓Dl.gLst, ↓gTest, ↓gOrB, ↓gAndB, ↓gNotB, ↓gAndV, ↓gOrV, ↓gNotV, ↓gIf, ↓gIx, ↓gSl, ↓gPart, ↓gNoP, ↓gMt, ↓gCall, ↓gArgs, ↓gIsN, ↓gNotN, ↓gChain, ↓x_fmtS, ↓x_afS, ↓x_afI, ↓x_js0, ↓x_jsc, ↓gJoined, ↓gYes, ↓x_bnm, ↓x_btp, ↓x_bn, ↓x_bc, ↓x_nnN, ↓x_nnI, ↓x_nnS, ↓x_nnB, ↓x_nnT, ↓x_nnL, ↓x_nnO, ↓x_nnl, ↓x_tyS, ↓x_tyL, ↓x_i2, ↓aSub, ↓aFdiv, ↓aMod, ↓aPow, ↓aShr, ↓aLt, ↓aLe, ↓aGt, ↓aGe, ↓x_addI, ↓x_addS, ↓x_mulI, ↓x_iaddS, ↓x_iaddI, ↓x_neg, ↓x_eqI, ↓x_neI, ↓x_eqS, ↓x_neS, ↓x_eqB, ↓x_neB, ↓x_eqNI, ↓x_neNI, ↓x_lenS, ↓x_lenL_l, ↓x_lenL_k, ↓x_lenL_t, ↓x_str, ↓x_intI, ↓x_intB, ↓x_divmod, ↓x_max2, ↓x_min2, ↓x_ixS, ↓x_slS, ↓x_slT, ↓x_slL_l, ↓x_slL_k, ↓x_inS, ↓x_newT, ↓x_newF, ↓x_si, ↓x_s1, ↓x_s0, ↓x_rpart, ↓x_part, ↓x_a1, ↓x_a2, ↓x_isiStr, ↓x_isiInt, ↓x_isiIntB, ↓x_isiIntS, ↓x_isiBB, ↓x_isiBI, ↓x_isiStrI, ↓x_isiNonI, ↓x_isiNonS, ↓x_isiT, ↓x_isiL, ↓x_var0, ↓x_varS, ↓x_ex, ↓x_aug0, gat, pick, Option.some.injEq, D.bl.injEq, D.int.injEq, D.str.injEq, D.tup.injEq, D.lst.injEq, List.cons.injEq, and_true, true_and, List.set_cons_zero, List.set_cons_succ, List.length_cons, List.length_nil, List.filterMap_cons, List.filterMap_nil, List.getElem?_cons_zero, List.getElem?_cons_succ, Option.bind_some, ↓reduceIte, if_true, if_false, Bool.false_eq_true, Bool.true_eq_false, decide_eq_true_eq, beq_self_eq_true, Bool.not_true, Bool.not_false, Bool.not_eq_true', decide_eq_false_iff_not, exists_eq_left', exists_eq_left, exists_eq, ↓x_dnT, ↓x_dnF, ↓gAsgL, ↓gMMDef, ↓gDSet, ↓gSItems, ↓gOrT, ↓gAndT, ↓gTryAs, ↓gTryO, ↓gRaise, ↓gCallX, ↓gMethX, ↓gMakeX, ↓gFldX, ↓x_inXs, Bool.false_xor, Bool.true_xor, ↓gOrS, ↓x_fmtRS, ↓x_afRS, ↓x_afRI, ↓x_stO]
      refine ⟨hp20, ?_⟩
      generalize hz : (_ : Int) % p2 = z
      have hz0 : 0 ≤ z ∧ z < p2 := by rw [← hz]; exact ⟨Int.emod_nonneg _ (by omega), Int.emod_lt_of_pos _ hp20⟩
      refine ⟨mulOk_l (by omega) (by omega), by decide, .inl ⟨by decide, by decide⟩, h1, ?_⟩
      exact hT _ _ (m1 _).1 (m1 _).2 h5

    · rw [if_pos hn]
      have hl : 0 < ns.length := List.length_pos_iff.mpr hn
      have hlm : (ns.map D.int).length = ns.length := List.length_map ..
      have hk0 : 0 ≤ t % ((ns.map D.int).length : Int) := Int.emod_nonneg _ (by omega)
      have hk1 : t % ((ns.map D.int).length : Int) < ((ns.map D.int).length : Int) := Int.emod_lt_of_pos _ (by omega)
      obtain ⟨c, hc⟩ : ∃ c, ns[(t % ((ns.map D.int).length : Int)).toNat]? = some c := ⟨ns[(t % ((ns.map D.int).length : Int)).toNat]'(by omega), by simp⟩
      refine ⟨by omega, .int c, ?_, ?_⟩
      · have e := atI_lit (xs := ns.map D.int) (k := (t % ((ns.map D.int).length : Int)).toNat) (v := .int c) (by rw [List.getElem?_map, hc]; rfl)
        rwa [show (((t % ((ns.map D.int).length : Int)).toNat : Nat) : Int) = t % ((ns.map D.int).length : Int) by omega] at e
      · simp only [↓x_eqSS, ↓x_neSS, ↓gKGet, ↓x_kget, ↓x_ixE, at_last, ↓x_appE, ↓x_tyE, ↓x_itE, ↓x_lenE, ↓x_nePr, ↓x_eqPr, ↓x_neE, ↓x_lenr, ↓x_lenrI, ↓gRev, ↓x_par3, ↓x_par33, ↓x_fld, ↓x_fset, ↓x_mkF, ↓x_mk, ↓x_meth, ↓x_fldO, ↓x_fsetE, ↓x_fldE, ↓x_methO, ↓x_isiCO, ↓x_isiCN, ↓x_isiCT, ↓x_isiCLi, ↓x_isiCS, ↓x_isiCI, ↓x_own, ↓x_eqT2, ↓x_neT2, ↓x_neL4, ↓x_eqLN, ↓x_neNil, ↓x_gset, ↓x_lc, ↓x_for, ↓x_it, ↓x_rn1, ↓x_rn2, ↓x_enu, ↓x_zip, ↓x_itS, ↓x_itL, ↓x_itK, ↓x_itT, ↓x_rn1I, ↓x_rn2I, ↓x_enuL, ↓x_enuK, ↓x_zipL, ↓x_ixS0, ↓x_ixL, ↓x_ixT, ↓x_ixK, x_at0, x_at1, x_at2, x_at3, x_at4, ↓x_set00, ↓x_set01, ↓x_set02, ↓x_aug1, ↓x_aug2, ↓x_aug3, ↓x_aug4, ↓x_aug5, ↓x_aug6, ↓x_aug7, ↓x_aug8, ↓x_aug9, ↓x_aug10, ↓x_aug11, ↓x_aug12, ↓x_aug13, ↓x_aug14, ↓x_aug15, ↓x_aug16, ↓x_aug17, ↓x_aug18, ↓x_aug19, ↓x_aug20, ↓x_aug21, ↓x_aug22, ↓x_aug23, Int.reduceToNat, Int.reducePow, ↓gSeq, ↓gIfS, ↓gSet, ↓gAsg, ↓x_par, ↓x_par2, ↓gRet, ↓gRetN, ↓gNext, ↓gDrop, ↓gBreak, ↓gCont, ↓gDead, ↓gCB, ↓gB2, ↓gU, ↓gC, ↓Dl.gCons, ↓Dl.gNil, ↓Dl.gTup, ↓Dl.gLst, ↓gTest, ↓gOrB, ↓gAndB, ↓gNotB, ↓gAndV, ↓gOrV, ↓gNotV, ↓gIf, ↓gIx, ↓gSl, ↓gPart, ↓gNoP, ↓gMt, ↓gCall, ↓gArgs, ↓gIsN, ↓gNotN, ↓gChain, ↓x_fmtS, ↓x_afS, ↓x_afI, ↓x_js0, ↓x_jsc, ↓gJoined, ↓gYes, ↓x_bnm, ↓x_btp, ↓x_bn, ↓x_bc, ↓x_nnN, ↓x_nnI, ↓x_nnS, ↓x_nnB, ↓x_nnT, ↓x_nnL, ↓x_nnO, ↓x_nnl, ↓x_tyS, ↓x_tyL, ↓x_i2, ↓aSub, ↓aFdiv, ↓aMod, ↓aPow, ↓aShr, ↓aLt, ↓aLe, ↓aGt, ↓aGe, ↓x_addI, ↓x_addS, ↓x_mulI, ↓x_iaddS, ↓x_iaddI, ↓x_neg, ↓x_eqI, ↓x_neI, ↓x_eqS, ↓x_neS, ↓x_eqB, ↓x_neB, ↓x_eqNI, ↓x_neNI, ↓x_lenS, ↓x_lenL_l, ↓x_lenL_k, ↓x_lenL_t, ↓x_str, ↓x_intI, ↓x_intB, ↓x_divmod, ↓x_max2, ↓x_min2, ↓x_ixS, ↓x_slS, ↓x_slT, ↓x_slL_l, ↓x_slL_k, ↓x_inS, ↓x_newT, ↓x_newF, ↓x_si, ↓x_s1, ↓x_s0, ↓x_rpart, ↓x_part, ↓x_a1, ↓x_a2, ↓x_isiStr, ↓x_isiInt, ↓x_isiIntB, ↓x_isiIntS, ↓x_isiBB, ↓x_isiBI, ↓x_isiStrI, ↓x_isiNonI, ↓x_isiNonS, ↓x_isiT, ↓x_isiL, ↓x_var0, ↓x_varS, ↓x_ex, ↓x_aug0, gat, pick, Option.some.injEq, D.bl.injEq, D.int.injEq, D.str.injEq, D.tup.injEq, D.lst.injEq, List.cons.injEq, and_true, true_and, List.set_cons_zero, List.set_cons_succ, List.length_cons, List.length_nil, List.filterMap_cons, List.filterMap_nil, List.getElem?_cons_zero, List.getElem?_cons_succ, Option.bind_some, ↓reduceIte, if_true, if_false, Bool.false_eq_true, Bool.true_eq_false, decide_eq_true_eq, beq_self_eq_true, Bool.not_true, Bool.not_false, Bool.not_eq_true', decide_eq_false_iff_not, exists_eq_left', exists_eq_left, exists_eq, ↓x_dnT, ↓x_dnF, ↓gAsgL, ↓gMMDef, ↓gDSet, ↓gSItems, ↓gOrT, ↓gAndT, ↓gTryAs, ↓gTryO, ↓gRaise, ↓gCallX, ↓gMethX, ↓gMakeX, ↓gFldX, ↓x_inXs, Bool.false_xor, Bool.true_xor, ↓gOrS, ↓x_fmtRS, ↓x_afRS, ↓x_afRI, ↓x_stO]
        refine ⟨⟨by decide, by decide, by decide⟩, ?_⟩
        split
        · rename_i hc1
          split
          · exact ⟨⟨by decide, by decide, by decide⟩, .inl ⟨h1, h2⟩, ⟨by decide, by decide, by decide⟩, h1, hT _ _ (m1 _).1 (m1 _).2 (Int.ediv_nonneg (by omega) (by omega))⟩
          · refine ⟨by decide, by decide, .int p, hp, ?_⟩
            simp only [↓x_eqSS, ↓x_neSS, ↓gKGet, ↓x_kget, ↓x_ixE, at_last, ↓x_appE, ↓x_tyE, ↓x_itE, ↓x_lenE, ↓x_nePr, ↓x_eqPr, ↓x_neE, ↓x_lenr, ↓x_lenrI, ↓gRev, ↓x_par3, ↓x_par33, ↓x_fld, ↓x_fset, ↓x_mkF, ↓x_mk, ↓x_meth, ↓x_fldO, ↓x_fsetE, ↓x_fldE, ↓x_methO, ↓x_isiCO, ↓x_isiCN, ↓x_isiCT, ↓x_isiCLi, ↓x_isiCS, ↓x_isiCI, ↓x_own, ↓x_eqT2, ↓x_neT2, ↓x_neL4, ↓x_eqLN, ↓x_neNil, ↓x_gset, ↓x_lc, ↓x_for, ↓x_it, ↓x_rn1, ↓x_rn2, ↓x_enu, ↓x_zip, ↓x_itS, ↓x_itL, ↓x_itK, ↓x_itT, ↓x_rn1I, ↓x_rn2I, ↓x_enuL, ↓x_enuK, ↓x_zipL, ↓x_ixS0, ↓x_ixL, ↓x_ixT, ↓x_ixK, x_at0, x_at1, x_at2, x_at3, x_at4, ↓x_set00, ↓x_set01, ↓x_set02, ↓x_aug1, ↓x_aug2, ↓x_aug3, ↓x_aug4, ↓x_aug5, ↓x_aug6, ↓x_aug7, ↓x_aug8, ↓x_aug9, ↓x_aug10, ↓x_aug11, ↓x_aug12, ↓x_aug13, ↓x_aug14, ↓x_aug15, ↓x_aug16, ↓x_aug17, ↓x_aug18, ↓x_aug19, ↓x_aug20, ↓x_aug21, ↓x_aug22, ↓x_aug23, Int.reduceToNat, Int.reducePow, ↓gSeq, ↓gIfS, ↓gSet, ↓gAsg, ↓x_par, ↓x_par2, ↓gRet, ↓gRetN, ↓gNext, ↓gDrop, ↓gBreak, ↓gCont, ↓gDead, ↓gCB, ↓gB2, ↓gU, ↓gC, ↓Dl.gCons, ↓Dl.gNil, ↓Dl.gTup, ↓Dl.gLst, ↓gTest, ↓gOrB, ↓gAndB, ↓gNotB, ↓gAndV, ↓gOrV, ↓gNotV, ↓gIf, ↓gIx, ↓gSl, ↓gPart, ↓gNoP, ↓gMt, ↓gCall, ↓gArgs, ↓gIsN, ↓gNotN, ↓gChain, ↓x_fmtS, ↓x_afS, ↓x_afI, ↓x_js0, ↓x_jsc, ↓gJoined, ↓gYes, ↓x_bnm, ↓x_btp, ↓x_bn, ↓x_bc, ↓x_nnN, ↓x_nnI, ↓x_nnS, ↓x_nnB, ↓x_nnT, ↓x_nnL, ↓x_nnO, ↓x_nnl, ↓x_tyS, ↓x_tyL, ↓x_i2, ↓aSub, ↓aFdiv, ↓aMod, ↓aPow, ↓aShr, ↓aLt, ↓aLe, ↓aGt, ↓aGe, ↓x_addI, ↓x_addS, ↓x_mulI, ↓x_iaddS, ↓x_iaddI, ↓x_neg, ↓x_eqI, ↓x_neI, ↓x_eqS, ↓x_neS, ↓x_eqB, ↓x_neB, ↓x_eqNI, ↓x_neNI, ↓x_lenS, ↓x_lenL_l, ↓x_lenL_k, ↓x_lenL_t, ↓x_str, ↓x_intI, ↓x_intB, ↓x_divmod, ↓x_max2, ↓x_min2, ↓x_ixS, ↓x_slS, ↓x_slT, ↓x_slL_l, ↓x_slL_k, ↓x_inS, ↓x_newT, ↓x_newF, ↓x_si, ↓x_s1, ↓x_s0, ↓x_rpart, ↓x_part, ↓x_a1, ↓x_a2, ↓x_isiStr, ↓x_isiInt, ↓x_isiIntB, ↓x_isiIntS, ↓x_isiBB, ↓x_isiBI, ↓x_isiStrI, ↓x_isiNonI, ↓x_isiNonS, ↓x_isiT, ↓x_isiL, ↓x_var0, ↓x_varS, ↓x_ex, ↓x_aug0, gat, pick, Option.some.injEq, D.bl.injEq, D.int.injEq, D.str.injEq, D.tup.injEq, D.lst.injEq, List.cons.injEq, and_true, true_and, List.set_cons_zero, List.set_cons_succ, List.length_cons, List.length_nil, List.filterMap_cons, List.filterMap_nil, List.getElem?_cons_zero, List.getElem?_cons_succ, Option.bind_some, ↓reduceIte, if_true, if_false, Bool.false_eq_true, Bool.true_eq_false, decide_eq_true_eq, beq_self_eq_true, Bool.not_true, Bool.not_false, Bool.not_eq_true', decide_eq_false_iff_not, exists_eq_left', exists_eq_left, exists_eq, ↓x_dnT, ↓x_dnF, ↓gAsgL, ↓gMMDef, ↓gDSet, ↓gSItems, ↓gOrT, ↓gAndT, ↓gTryAs, ↓gTryO, ↓gRaise, ↓gCallX, ↓gMethX, ↓gMakeX, ↓gFldX, ↓x_inXs, Bool.false_xor, Bool.true_xor, ↓gOrS, ↓x_fmtRS, ↓x_afRS, ↓x_afRI, ↓x_stO]
            refine ⟨hp0, mulOk_r (by decide) (by decide), mulOk_l (by decide) (by decide), mulOk_r (by omega) (by omega), mulOk_l (by decide) (by decide), hp0, ?_⟩
            generalize hy : (_ : Int) % p = y
            have hy0 : 0 ≤ y ∧ y < p := by rw [← hy]; exact ⟨Int.emod_nonneg _ (by omega), Int.emod_lt_of_pos _ hp0⟩
            refine ⟨mulOk_l (by omega) (by omega), by decide, .int p2, hp2, ?_⟩
            simp only [↓x_eqSS, ↓x_neSS, ↓gKGet, ↓x_kget, ↓x_ixE, at_last, ↓x_appE, ↓x_tyE, ↓x_itE, ↓x_lenE, ↓x_nePr, ↓x_eqPr, ↓x_neE, ↓x_lenr, ↓x_lenrI, ↓gRev, ↓x_par3, ↓x_par33, ↓x_fld, ↓x_fset, ↓x_mkF, ↓x_mk, ↓x_meth, ↓x_fldO, ↓x_fsetE, ↓x_fldE, ↓x_methO, ↓x_isiCO, ↓x_isiCN, ↓x_isiCT, ↓x_isiCLi, ↓x_isiCS, ↓x_isiCI, ↓x_own, ↓x_eqT2, ↓x_neT2, ↓x_neL4, ↓x_eqLN, ↓x_neNil, ↓x_gset, ↓x_lc, ↓x_for, ↓x_it, ↓x_rn1, ↓x_rn2, ↓x_enu, ↓x_zip, ↓x_itS, ↓x_itL, ↓x_itK, ↓x_itT, ↓x_rn1I, ↓x_rn2I, ↓x_enuL, ↓x_enuK, ↓x_zipL, ↓x_ixS0, ↓x_ixL, ↓x_ixT, ↓x_ixK, x_at0, x_at1, x_at2, x_at3, x_at4, ↓x_set00, ↓x_set01, ↓x_set02, ↓x_aug1, ↓x_aug2, ↓x_aug3, ↓x_aug4, ↓x_aug5, ↓x_aug6, ↓x_aug7, ↓x_aug8, ↓x_aug9, ↓x_aug10, ↓x_aug11, ↓x_aug12, ↓x_aug13, ↓x_aug14, ↓x_aug15, ↓x_aug16, ↓x_aug17, ↓x_aug18, ↓x_aug19, ↓x_aug20, ↓x_aug21, ↓x_aug22, ↓x_aug23, Int.reduceToNat, Int.reducePow, ↓gSeq, ↓gIfS, ↓gSet, ↓gAsg, ↓x_par, ↓x_par2, ↓gRet, ↓gRetN, ↓gNext, ↓gDrop, ↓gBreak, ↓gCont, ↓gDead, ↓gCB, ↓gB2, ↓gU, ↓gC, ↓Dl.gCons, ↓Dl.gNil, ↓Dl.gTup, ↓Dl.gLst, ↓gTest, ↓gOrB, ↓gAndB, ↓gNotB, ↓gAndV, ↓gOrV, ↓gNotV, ↓gIf, ↓gIx, ↓gSl, ↓gPart, ↓gNoP, ↓gMt, ↓gCall, ↓gArgs, ↓gIsN, ↓gNotN, ↓gChain, ↓x_fmtS, ↓x_afS, ↓x_afI, ↓x_js0, ↓x_jsc, ↓gJoined, ↓gYes, ↓x_bnm, ↓x_btp, ↓x_bn, ↓x_bc, ↓x_nnN, ↓x_nnI, ↓x_nnS, ↓x_nnB, ↓x_nnT, ↓x_nnL, ↓x_nnO, ↓x_nnl, ↓x_tyS, ↓x_tyL, ↓x_i2, ↓aSub, ↓aFdiv, ↓aMod, ↓aPow, ↓aShr, ↓aLt, ↓aLe, ↓aGt, ↓aGe, ↓x_addI, ↓x_addS, ↓x_mulI, ↓x_iaddS, ↓x_iaddI, ↓x_neg, ↓x_eqI, ↓x_neI, ↓x_eqS, ↓x_neS, ↓x_eqB, ↓x_neB, ↓x_eqNI, ↓x_neNI, ↓x_lenS, ↓x_lenL_l, ↓x_lenL_k, ↓x_lenL_t, ↓x_str, ↓x_intI, ↓x_intB, ↓x_divmod, ↓x_max2, ↓x_min2, ↓x_ixS, ↓x_slS, ↓x_slT, ↓x_slL_l, ↓x_slL_k, ↓x_inS, ↓x_newT, ↓x_newF, ↓x_si, ↓x_s1, ↓x_s0, ↓x_rpart, ↓x_part, ↓x_a1, ↓x_a2, ↓x_isiStr, ↓x_isiInt, ↓x_isiIntB, ↓x_isiIntS, ↓x_isiBB, ↓x_isiBI, ↓x_isiStrI, ↓x_isiNonI, ↓x_isiNonS, ↓x_isiT, ↓x_isiL, ↓x_var0, ↓x_varS, ↓x_ex, ↓x_aug0, gat, pick, Option.some.injEq, D.bl.injEq, D.int.injEq, D.str.injEq, D.tup.injEq, D.lst.injEq, List.cons.injEq, and_true, true_and, List.set_cons_zero, List.set_cons_succ, List.length_cons, List.length_nil, List.filterMap_cons, List.filterMap_nil, List.getElem?_cons_zero, List.getElem?_cons_succ, Option.bind_some, ↓reduceIte, if_true, if_false, Bool.false_eq_true, Bool.true_eq_false, decide_eq_true_eq, beq_self_eq_true, Bool.not_true, Bool.not_false, Bool.not_eq_true', decide_eq_false_iff_not, exists_eq_left', exists_eq_left, exists_eq, ↓x_dnT, ↓x_dnF, ↓gAsgL, ↓gMMDef, ↓gDSet, ↓gSItems, ↓gOrT, ↓gAndT, ↓gTryAs, ↓gTryO, ↓gRaise, ↓gCallX, ↓gMethX, ↓gMakeX, ↓gFldX, ↓x_inXs, Bool.false_xor, Bool.true_xor, ↓gOrS, ↓x_fmtRS, ↓x_afRS, ↓x_afRI, ↓x_stO]
            refine ⟨hp20, ?_⟩
            generalize hz : (_ : Int) % p2 = z
            have hz0 : 0 ≤ z ∧ z < p2 := by rw [← hz]; exact ⟨Int.emod_nonneg _ (by omega), Int.emod_lt_of_pos _ hp20⟩
            refine ⟨mulOk_l (by omega) (by omega), by decide, .inl ⟨by decide, by decide⟩, h1, ?_⟩
            exact hT _ _ (m1 _).1 (m1 _).2 h5

        · refine ⟨by decide, by decide, .int p, hp, ?_⟩
          simp only [↓x_eqSS, ↓x_neSS, ↓gKGet, ↓x_kget, ↓x_ixE, at_last, ↓x_appE, ↓x_tyE, ↓x_itE, ↓x_lenE, ↓x_nePr, ↓x_eqPr, ↓x_neE, ↓x_lenr, ↓x_lenrI, ↓gRev, ↓x_par3, ↓x_par33, ↓x_fld, ↓x_fset, ↓x_mkF, ↓x_mk, ↓x_meth, ↓x_fldO, ↓x_fsetE, ↓x_fldE, ↓x_methO, ↓x_isiCO, ↓x_isiCN, ↓x_isiCT, ↓x_isiCLi, ↓x_isiCS, ↓x_isiCI, ↓x_own, ↓x_eqT2, ↓x_neT2, ↓x_neL4, ↓x_eqLN, ↓x_neNil, ↓x_gset, ↓x_lc, ↓x_for, ↓x_it, ↓x_rn1, ↓x_rn2, ↓x_enu, ↓x_zip, ↓x_itS, ↓x_itL, ↓x_itK, ↓x_itT, ↓x_rn1I, ↓x_rn2I, ↓x_enuL, ↓x_enuK, ↓x_zipL, ↓x_ixS0, ↓x_ixL, ↓x_ixT, ↓x_ixK, x_at0, x_at1, x_at2, x_at3, x_at4, ↓x_set00, ↓x_set01, ↓x_set02, ↓x_aug1, ↓x_aug2, ↓x_aug3, ↓x_aug4, ↓x_aug5, ↓x_aug6, ↓x_aug7, ↓x_aug8, ↓x_aug9, ↓x_aug10, ↓x_aug11, ↓x_aug12, ↓x_aug13, ↓x_aug14, ↓x_aug15, ↓x_aug16, ↓x_aug17, ↓x_aug18, ↓x_aug19, ↓x_aug20, ↓x_aug21, ↓x_aug22, ↓x_aug23, Int.reduceToNat, Int.reducePow, ↓gSeq, ↓gIfS, ↓gSet, ↓gAsg, ↓x_par, ↓x_par2, ↓gRet, ↓gRetN, ↓gNext, ↓gDrop, ↓gBreak, ↓gCont, ↓gDead, ↓gCB, ↓gB2, ↓gU, ↓gC, ↓Dl.gCons, ↓Dl.gNil, ↓Dl.gTup, ↓Dl.gLst, ↓gTest, ↓gOrB, ↓gAndB, ↓gNotB, ↓gAndV, ↓gOrV, ↓gNotV, ↓gIf, ↓gIx, ↓gSl, ↓gPart, ↓gNoP, ↓gMt, ↓gCall, ↓gArgs, ↓gIsN, ↓gNotN, ↓gChain, ↓x_fmtS, ↓x_afS, ↓x_afI, ↓x_js0, ↓x_jsc, ↓gJoined, ↓gYes, ↓x_bnm, ↓x_btp, ↓x_bn, ↓x_bc, ↓x_nnN, ↓x_nnI, ↓x_nnS, ↓x_nnB, ↓x_nnT, ↓x_nnL, ↓x_nnO, ↓x_nnl, ↓x_tyS, ↓x_tyL, ↓x_i2, ↓aSub, ↓aFdiv, ↓aMod, ↓aPow, ↓aShr, ↓aLt, ↓aLe, ↓aGt, ↓aGe, ↓x_addI, ↓x_addS, ↓x_mulI, ↓x_iaddS, ↓x_iaddI, ↓x_neg, ↓x_eqI, ↓x_neI, ↓x_eqS, ↓x_neS, ↓x_eqB, ↓x_neB, ↓x_eqNI, ↓x_neNI, ↓x_lenS, ↓x_lenL_l, ↓x_lenL_k, ↓x_lenL_t, ↓x_str, ↓x_intI, ↓x_intB, ↓x_divmod, ↓x_max2, ↓x_min2, ↓x_ixS, ↓x_slS, ↓x_slT, ↓x_slL_l, ↓x_slL_k, ↓x_inS, ↓x_newT, ↓x_newF, ↓x_si, ↓x_s1, ↓x_s0, ↓x_rpart, ↓x_part, ↓x_a1, ↓x_a2, ↓x_isiStr, ↓x_isiInt, ↓x_isiIntB, ↓x_isiIntS, ↓x_isiBB, ↓x_isiBI, ↓x_isiStrI, ↓x_isiNonI, ↓x_isiNonS, ↓x_isiT, ↓x_isiL, ↓x_var0, ↓x_varS, ↓x_ex, ↓x_aug0, gat, pick, Option.some.injEq, D.bl.injEq, D.int.injEq, D.str.injEq, D.tup.injEq, D.lst.injEq, List.cons.injEq, and_true, true_and, List.set_cons_zero, List.set_cons_succ, List.length_cons, List.length_nil, List.filterMap_cons, List.filterMap_nil, List.getElem?_cons_zero, List.getElem?_cons_succ, Option.bind_some, ↓reduceIte, if_true, if_false, Bool.false_eq_true, Bool.true_eq_false, decide_eq_true_eq, beq_self_eq_true, Bool.not_true, Bool.not_false, Bool.not_eq_true', decide_eq_false_iff_not, exists_eq_left', exists_eq_left, exists_eq, ↓x_dnT, ↓x_dnF, ↓gAsgL, ↓gMMDef, ↓gDSet, ↓gSItems, ↓gOrT, ↓gAndT, ↓gTryAs, ↓gTryO, ↓gRaise, ↓gCallX, ↓gMethX, ↓gMakeX, ↓gFldX, ↓x_inXs, Bool.false_xor, Bool.true_xor, ↓gOrS, ↓x_fmtRS, ↓x_afRS, ↓x_afRI, ↓x_stO]
          refine ⟨hp0, mulOk_r (by decide) (by decide), mulOk_l (by decide) (by decide), mulOk_r (by omega) (by omega), mulOk_l (by decide) (by decide), hp0, ?_⟩
          generalize hy : (_ : Int) % p = y
          have hy0 : 0 ≤ y ∧ y < p := by rw [← hy]; exact ⟨Int.emod_nonneg _ (by omega), Int.emod_lt_of_pos _ hp0⟩
          refine ⟨mulOk_l (by omega) (by omega), by decide, .int p2, hp2, ?_⟩
          simp only [↓x_eqSS, ↓x_neSS, ↓gKGet, ↓x_kget, ↓x_ixE, at_last, ↓x_appE, ↓x_tyE, ↓x_itE, ↓x_lenE, ↓x_nePr, ↓x_eqPr, ↓x_neE, ↓x_lenr, ↓x_lenrI, ↓gRev, ↓x_par3, ↓x_par33, ↓x_fld, ↓x_fset, ↓x_mkF, ↓x_mk, ↓x_meth, ↓x_fldO, ↓x_fsetE, ↓x_fldE, ↓x_methO, ↓x_isiCO, ↓x_isiCN, ↓x_isiCT, ↓x_isiCLi, ↓x_isiCS, ↓x_isiCI, ↓x_own, ↓x_eqT2, ↓x_neT2, ↓x_neL4, ↓x_eqLN, ↓x_neNil, ↓x_gset, ↓x_lc, ↓x_for, ↓x_it, ↓x_rn1, ↓x_rn2, ↓x_enu, ↓x_zip, ↓x_itS, ↓x_itL, ↓x_itK, ↓x_itT, ↓x_rn1I, ↓x_rn2I, ↓x_enuL, ↓x_enuK, ↓x_zipL, ↓x_ixS0, ↓x_ixL, ↓x_ixT, ↓x_ixK, x_at0, x_at1, x_at2, x_at3, x_at4, ↓x_set00, ↓x_set01, ↓x_set02, ↓x_aug1, ↓x_aug2, ↓x_aug3, ↓x_aug4, ↓x_aug5, ↓x_aug6, ↓x_aug7, ↓x_aug8, ↓x_aug9, ↓x_aug10, ↓x_aug11, ↓x_aug12, ↓x_aug13, ↓x_aug14, ↓x_aug15, ↓x_aug16, ↓x_aug17, ↓x_aug18, ↓x_aug19, ↓x_aug20, ↓x_aug21, ↓x_aug22, ↓x_aug23, Int.reduceToNat, Int.reducePow, ↓gSeq, ↓gIfS, ↓gSet, ↓gAsg, ↓x_par, ↓x_par2, ↓gRet, ↓gRetN, ↓gNext, ↓gDrop, ↓gBreak, ↓gCont, ↓gDead, ↓gCB, ↓gB2, ↓gU, ↓gC, ↓Dl.gCons, ↓Dl.gNil, ↓Dl.gTup, ↓Dl.gLst, ↓gTest, ↓gOrB, ↓gAndB, ↓gNotB, ↓gAndV, ↓gOrV, ↓gNotV, ↓gIf, ↓gIx, ↓gSl, ↓gPart, ↓gNoP, ↓gMt, ↓gCall, ↓gArgs, ↓gIsN, ↓gNotN, ↓gChain, ↓x_fmtS, ↓x_afS, ↓x_afI, ↓x_js0, ↓x_jsc, ↓gJoined, ↓gYes, ↓x_bnm, ↓x_btp, ↓x_bn, ↓x_bc, ↓x_nnN, ↓x_nnI, ↓x_nnS, ↓x_nnB, ↓x_nnT, ↓x_nnL, ↓x_nnO, ↓x_nnl, ↓x_tyS, ↓x_tyL, ↓x_i2, ↓aSub, ↓aFdiv, ↓aMod, ↓aPow, ↓aShr, ↓aLt, ↓aLe, ↓aGt, ↓aGe, ↓x_addI, ↓x_addS, ↓x_mulI, ↓x_iaddS, ↓x_iaddI, ↓x_neg, ↓x_eqI, ↓x_neI, ↓x_eqS, ↓x_neS, ↓x_eqB, ↓x_neB, ↓x_eqNI, ↓x_neNI, ↓x_lenS, ↓x_lenL_l, ↓x_lenL_k, ↓x_lenL_t, ↓x_str, ↓x_intI, ↓x_intB, ↓x_divmod, ↓x_max2, ↓x_min2, ↓x_ixS, ↓x_slS, ↓x_slT, ↓x_slL_l, ↓x_slL_k, ↓x_inS, ↓x_newT, ↓x_newF, ↓x_si, ↓x_s1, ↓x_s0, ↓x_rpart, ↓x_part, ↓x_a1, ↓x_a2, ↓x_isiStr, ↓x_isiInt, ↓x_isiIntB, ↓x_isiIntS, ↓x_isiBB, ↓x_isiBI, ↓x_isiStrI, ↓x_isiNonI, ↓x_isiNonS, ↓x_isiT, ↓x_isiL, ↓x_var0, ↓x_varS, ↓x_ex, ↓x_aug0, gat, pick, Option.some.injEq, D.bl.injEq, D.int.injEq, D.str.injEq, D.tup.injEq, D.lst.injEq, List.cons.injEq, and_true, true_and, List.set_cons_zero, List.set_cons_succ, List.length_cons, List.length_nil, List.filterMap_cons, List.filterMap_nil, List.getElem?_cons_zero, List.getElem?_cons_succ, Option.bind_some, ↓reduceIte, if_true, if_false, Bool.false_eq_true, Bool.true_eq_false, decide_eq_true_eq, beq_self_eq_true, Bool.not_true, Bool.not_false, Bool.not_eq_true', decide_eq_false_iff_not, exists_eq_left', exists_eq_left, exists_eq, ↓x_dnT, ↓x_dnF, ↓gAsgL, ↓gMMDef, ↓gDSet, ↓gSItems, ↓gOrT, ↓gAndT, ↓gTryAs, ↓gTryO, ↓gRaise, ↓gCallX, ↓gMethX, ↓gMakeX, ↓gFldX, ↓x_inXs, Bool.false_xor, Bool.true_xor, ↓gOrS, ↓x_fmtRS, ↓x_afRS, ↓x_afRI, ↓x_stO]
          refine ⟨hp20, ?_⟩
          generalize hz : (_ : Int) % p2 = z
          have hz0 : 0 ≤ z ∧ z < p2 := by rw [← hz]; exact ⟨Int.emod_nonneg _ (by omega), Int.emod_lt_of_pos _ hp20⟩
          refine ⟨mulOk_l (by omega) (by omega), by decide, .inl ⟨by decide, by decide⟩, h1, ?_⟩
          exact hT _ _ (m1 _).1 (m1 _).2 h5

theorem r__law_tape : ∀ ds S q, sp__law_tape a ds S q → g__law_tape K a { nx := fun _ S' => q .non S', rt := q } (startD N__law_tape ds) S := by
  rintro ds S q ⟨ns, rfl, rfl, h⟩
  rw [st__law_tape]
  simp only [g__law_tape, ↓x_eqSS, ↓x_neSS, ↓gKGet, ↓x_kget, ↓x_ixE, at_last, ↓x_appE, ↓x_tyE, ↓x_itE, ↓x_lenE, ↓x_nePr, ↓x_eqPr, ↓x_neE, ↓x_lenr, ↓x_lenrI, ↓gRev, ↓x_par3, ↓x_par33, ↓x_fld, ↓x_fset, ↓x_mkF, ↓x_mk, ↓x_meth, ↓x_fldO, ↓x_fsetE, ↓x_fldE, ↓x_methO, ↓x_isiCO, ↓x_isiCN, ↓x_isiCT, ↓x_isiCLi, ↓x_isiCS, ↓x_isiCI, ↓x_own, ↓x_eqT2, ↓x_neT2, ↓x_neL4, ↓x_eqLN, ↓x_neNil, ↓x_gset, ↓x_lc, ↓x_for, ↓x_it, ↓x_rn1, ↓x_rn2, ↓x_enu, ↓x_zip, ↓x_itS, ↓x_itL, ↓x_itK, ↓x_itT, ↓x_rn1I, ↓x_rn2I, ↓x_enuL, ↓x_enuK, ↓x_zipL, ↓x_ixS0, ↓x_ixL, ↓x_ixT, ↓x_ixK, x_at0, x_at1, x_at2, x_at3, x_at4, ↓x_set00, ↓x_set01, ↓x_set02, ↓x_aug1, ↓x_aug2, ↓x_aug3, ↓x_aug4, ↓x_aug5, ↓x_aug6, ↓x_aug7, ↓x_aug8, ↓x_aug9, ↓x_aug10, ↓x_aug11, ↓x_aug12, ↓x_aug13, ↓x_aug14, ↓x_aug15, ↓x_aug16, ↓x_aug17, ↓x_aug18, ↓x_aug19, ↓x_aug20, ↓x_aug21, ↓x_aug22, ↓x_aug23, Int.reduceToNat, Int.reducePow, ↓gSeq, ↓gIfS, ↓gSet, ↓gAsg, ↓x_par, ↓x_par2, ↓gRet, ↓gRetN, ↓gNext, ↓gDrop, ↓gBreak, ↓gCont, ↓gDead, ↓gCB, ↓gB2, ↓gU, ↓gC, ↓Dl.gCons, ↓Dl.gNil, ↓Dl.gTup, ↓Dl.gLst, ↓gTest, ↓gOrB, ↓gAndB, ↓gNotB, ↓gAndV, ↓gOrV, ↓gNotV, ↓gIf, ↓gIx, ↓gSl, ↓gPart, ↓gNoP, ↓gMt, ↓gCall, ↓gArgs, ↓gIsN, ↓gNotN, ↓gChain, ↓x_fmtS, ↓x_afS, ↓x_afI, ↓x_js0, ↓x_jsc, ↓gJoined, ↓gYes, ↓x_bnm, ↓x_btp, ↓x_bn, ↓x_bc, ↓x_nnN, ↓x_nnI, ↓x_nnS, ↓x_nnB, ↓x_nnT, ↓x_nnL, ↓x_nnO, ↓x_nnl, ↓x_tyS, ↓x_tyL, ↓x_i2, ↓aSub, ↓aFdiv, ↓aMod, ↓aPow, ↓aShr, ↓aLt, ↓aLe, ↓aGt, ↓aGe, ↓x_addI, ↓x_addS, ↓x_mulI, ↓x_iaddS, ↓x_iaddI, ↓x_neg, ↓x_eqI, ↓x_neI, ↓x_eqS, ↓x_neS, ↓x_eqB, ↓x_neB, ↓x_eqNI, ↓x_neNI, ↓x_lenS, ↓x_lenL_l, ↓x_lenL_k, ↓x_lenL_t, ↓x_str, ↓x_intI, ↓x_intB, ↓x_divmod, ↓x_max2, ↓x_min2, ↓x_ixS, ↓x_slS, ↓x_slT, ↓x_slL_l, ↓x_slL_k, ↓x_inS, ↓x_newT, ↓x_newF, ↓x_si, ↓x_s1, ↓x_s0, ↓x_rpart, ↓x_part, ↓x_a1, ↓x_a2, ↓x_isiStr, ↓x_isiInt, ↓x_isiIntB, ↓x_isiIntS, ↓x_isiBB, ↓x_isiBI, ↓x_isiStrI, ↓x_isiNonI, ↓x_isiNonS, ↓x_isiT, ↓x_isiL, ↓x_var0, ↓x_varS, ↓x_ex, ↓x_aug0, gat, pick, Option.some.injEq, D.bl.injEq, D.int.injEq, D.str.injEq, D.tup.injEq, D.lst.injEq, List.cons.injEq, and_true, true_and, List.set_cons_zero, List.set_cons_succ, List.length_cons, List.length_nil, List.filterMap_cons, List.filterMap_nil, List.getElem?_cons_zero, List.getElem?_cons_succ, Option.bind_some, ↓reduceIte, if_true, if_false, Bool.false_eq_true, Bool.true_eq_false, decide_eq_true_eq, beq_self_eq_true, Bool.not_true, Bool.not_false, Bool.not_eq_true', decide_eq_false_iff_not, exists_eq_left', exists_eq_left, exists_eq, ↓x_dnT, ↓x_dnF, ↓gAsgL, ↓gMMDef, ↓gDSet, ↓gSItems, ↓gOrT, ↓gAndT, ↓gTryAs, ↓gTryO, ↓gRaise, ↓gCallX, ↓gMethX, ↓gMakeX, ↓gFldX, ↓x_inXs, Bool.false_xor, Bool.true_xor, ↓gOrS, ↓x_fmtRS, ↓x_afRS, ↓x_afRI, ↓x_stO]
  refine ⟨by decide, ?_⟩
  rw [show cutD (ns.map D.int) none (some 63) = (ns.take 63).map D.int from ?_]
  · exact h
  · simp [cutD, HT.sIx, List.map_take]
theorem r__law_pick : ∀ ds S q, sp__law_pick a ds S q → g__law_pick K a { nx := fun _ S' => q .non S', rt := q } (startD N__law_pick ds) S := by
  rintro ds S q ⟨es, h1, h2, o, R0, B, rfl, rfl, ht, hb, h⟩
  rw [st__law_pick]
  simp only [g__law_pick, ↓x_eqSS, ↓x_neSS, ↓gKGet, ↓x_kget, ↓x_ixE, at_last, ↓x_appE, ↓x_tyE, ↓x_itE, ↓x_lenE, ↓x_nePr, ↓x_eqPr, ↓x_neE, ↓x_lenr, ↓x_lenrI, ↓gRev, ↓x_par3, ↓x_par33, ↓x_fld, ↓x_fset, ↓x_mkF, ↓x_mk, ↓x_meth, ↓x_fldO, ↓x_fsetE, ↓x_fldE, ↓x_methO, ↓x_isiCO, ↓x_isiCN, ↓x_isiCT, ↓x_isiCLi, ↓x_isiCS, ↓x_isiCI, ↓x_own, ↓x_eqT2, ↓x_neT2, ↓x_neL4, ↓x_eqLN, ↓x_neNil, ↓x_gset, ↓x_lc, ↓x_for, ↓x_it, ↓x_rn1, ↓x_rn2, ↓x_enu, ↓x_zip, ↓x_itS, ↓x_itL, ↓x_itK, ↓x_itT, ↓x_rn1I, ↓x_rn2I, ↓x_enuL, ↓x_enuK, ↓x_zipL, ↓x_ixS0, ↓x_ixL, ↓x_ixT, ↓x_ixK, x_at0, x_at1, x_at2, x_at3, x_at4, ↓x_set00, ↓x_set01, ↓x_set02, ↓x_aug1, ↓x_aug2, ↓x_aug3, ↓x_aug4, ↓x_aug5, ↓x_aug6, ↓x_aug7, ↓x_aug8, ↓x_aug9, ↓x_aug10, ↓x_aug11, ↓x_aug12, ↓x_aug13, ↓x_aug14, ↓x_aug15, ↓x_aug16, ↓x_aug17, ↓x_aug18, ↓x_aug19, ↓x_aug20, ↓x_aug21, ↓x_aug22, ↓x_aug23, Int.reduceToNat, Int.reducePow, ↓gSeq, ↓gIfS, ↓gSet, ↓gAsg, ↓x_par, ↓x_par2, ↓gRet, ↓gRetN, ↓gNext, ↓gDrop, ↓gBreak, ↓gCont, ↓gDead, ↓gCB, ↓gB2, ↓gU, ↓gC, ↓Dl.gCons, ↓Dl.gNil, ↓Dl.gTup, ↓Dl.gLst, ↓gTest, ↓gOrB, ↓gAndB, ↓gNotB, ↓gAndV, ↓gOrV, ↓gNotV, ↓gIf, ↓gIx, ↓gSl, ↓gPart, ↓gNoP, ↓gMt, ↓gCall, ↓gArgs, ↓gIsN, ↓gNotN, ↓gChain, ↓x_fmtS, ↓x_afS, ↓x_afI, ↓x_js0, ↓x_jsc, ↓gJoined, ↓gYes, ↓x_bnm, ↓x_btp, ↓x_bn, ↓x_bc, ↓x_nnN, ↓x_nnI, ↓x_nnS, ↓x_nnB, ↓x_nnT, ↓x_nnL, ↓x_nnO, ↓x_nnl, ↓x_tyS, ↓x_tyL, ↓x_i2, ↓aSub, ↓aFdiv, ↓aMod, ↓aPow, ↓aShr, ↓aLt, ↓aLe, ↓aGt, ↓aGe, ↓x_addI, ↓x_addS, ↓x_mulI, ↓x_iaddS, ↓x_iaddI, ↓x_neg, ↓x_eqI, ↓x_neI, ↓x_eqS, ↓x_neS, ↓x_eqB, ↓x_neB, ↓x_eqNI, ↓x_neNI, ↓x_lenS, ↓x_lenL_l, ↓x_lenL_k, ↓x_lenL_t, ↓x_str, ↓x_intI, ↓x_intB, ↓x_divmod, ↓x_max2, ↓x_min2, ↓x_ixS, ↓x_slS, ↓x_slT, ↓x_slL_l, ↓x_slL_k, ↓x_inS, ↓x_newT, ↓x_newF, ↓x_si, ↓x_s1, ↓x_s0, ↓x_rpart, ↓x_part, ↓x_a1, ↓x_a2, ↓x_isiStr, ↓x_isiInt, ↓x_isiIntB, ↓x_isiIntS, ↓x_isiBB, ↓x_isiBI, ↓x_isiStrI, ↓x_isiNonI, ↓x_isiNonS, ↓x_isiT, ↓x_isiL, ↓x_var0, ↓x_varS, ↓x_ex, ↓x_aug0, gat, pick, Option.some.injEq, D.bl.injEq, D.int.injEq, D.str.injEq, D.tup.injEq, D.lst.injEq, List.cons.injEq, and_true, true_and, List.set_cons_zero, List.set_cons_succ, List.length_cons, List.length_nil, List.filterMap_cons, List.filterMap_nil, List.getElem?_cons_zero, List.getElem?_cons_succ, Option.bind_some, ↓reduceIte, if_true, if_false, Bool.false_eq_true, Bool.true_eq_false, decide_eq_true_eq, beq_self_eq_true, Bool.not_true, Bool.not_false, Bool.not_eq_true', decide_eq_false_iff_not, exists_eq_left', exists_eq_left, exists_eq, ↓x_dnT, ↓x_dnF, ↓gAsgL, ↓gMMDef, ↓gDSet, ↓gSItems, ↓gOrT, ↓gAndT, ↓gTryAs, ↓gTryO, ↓gRaise, ↓gCallX, ↓gMethX, ↓gMakeX, ↓gFldX, ↓x_inXs, Bool.false_xor, Bool.true_xor, ↓gOrS, ↓x_fmtRS, ↓x_afRS, ↓x_afRI, ↓x_stO]
  refine Mt.draw_in (by omega) h2 ht hb fun x o' h3 h4 h5 => ?_
  obtain ⟨e, he⟩ : ∃ e, es[x.toNat]? = some e := ⟨es[x.toNat]'(by omega), by simp⟩
  rw [x_ixL]
  refine ⟨e, ?_, h e o' (List.mem_of_getElem? he) h5⟩
  have := atI_lit he
  rwa [show ((x.toNat : Nat) : Int) = x by omega] at this
theorem r_show_clock : ∀ ds S q, sp_show_clock a ds S q → g_show_clock K a { nx := fun _ S' => q .non S', rt := q } (startD N_show_clock ds) S := by
  rintro ds S q ⟨m, rfl, hm, h⟩
  rw [st_show_clock]
  simp only [g_show_clock, ↓x_eqSS, ↓x_neSS, ↓gKGet, ↓x_kget, ↓x_ixE, at_last, ↓x_appE, ↓x_tyE, ↓x_itE, ↓x_lenE, ↓x_nePr, ↓x_eqPr, ↓x_neE, ↓x_lenr, ↓x_lenrI, ↓gRev, ↓x_par3, ↓x_par33, ↓x_fld, ↓x_fset, ↓x_mkF, ↓x_mk, ↓x_meth, ↓x_fldO, ↓x_fsetE, ↓x_fldE, ↓x_methO, ↓x_isiCO, ↓x_isiCN, ↓x_isiCT, ↓x_isiCLi, ↓x_isiCS, ↓x_isiCI, ↓x_own, ↓x_eqT2, ↓x_neT2, ↓x_neL4, ↓x_eqLN, ↓x_neNil, ↓x_gset, ↓x_lc, ↓x_for, ↓x_it, ↓x_rn1, ↓x_rn2, ↓x_enu, ↓x_zip, ↓x_itS, ↓x_itL, ↓x_itK, ↓x_itT, ↓x_rn1I, ↓x_rn2I, ↓x_enuL, ↓x_enuK, ↓x_zipL, ↓x_ixS0, ↓x_ixL, ↓x_ixT, ↓x_ixK, x_at0, x_at1, x_at2, x_at3, x_at4, ↓x_set00, ↓x_set01, ↓x_set02, ↓x_aug1, ↓x_aug2, ↓x_aug3, ↓x_aug4, ↓x_aug5, ↓x_aug6, ↓x_aug7, ↓x_aug8, ↓x_aug9, ↓x_aug10, ↓x_aug11, ↓x_aug12, ↓x_aug13, ↓x_aug14, ↓x_aug15, ↓x_aug16, ↓x_aug17, ↓x_aug18, ↓x_aug19, ↓x_aug20, ↓x_aug21, ↓x_aug22, ↓x_aug23, Int.reduceToNat, Int.reducePow, ↓gSeq, ↓gIfS, ↓gSet, ↓gAsg, ↓x_par, ↓x_par2, ↓gRet, ↓gRetN, ↓gNext, ↓gDrop, ↓gBreak, ↓gCont, ↓gDead, ↓gCB, ↓gB2, ↓gU, ↓gC, ↓Dl.gCons, ↓Dl.gNil, ↓Dl.gTup, ↓Dl.gLst, ↓gTest, ↓gOrB, ↓gAndB, ↓gNotB, ↓gAndV, ↓gOrV, ↓gNotV, ↓gIf, ↓gIx, ↓gSl, ↓gPart, ↓gNoP, ↓gMt, ↓gCall, ↓gArgs, ↓gIsN, ↓gNotN, ↓gChain, ↓x_fmtS, ↓x_afS, ↓x_afI, ↓x_js0, ↓x_jsc, ↓gJoined, ↓gYes, ↓x_bnm, ↓x_btp, ↓x_bn, ↓x_bc, ↓x_nnN, ↓x_nnI, ↓x_nnS, ↓x_nnB, ↓x_nnT, ↓x_nnL, ↓x_nnO, ↓x_nnl, ↓x_tyS, ↓x_tyL, ↓x_i2, ↓aSub, ↓aFdiv, ↓aMod, ↓aPow, ↓aShr, ↓aLt, ↓aLe, ↓aGt, ↓aGe, ↓x_addI, ↓x_addS, ↓x_mulI, ↓x_iaddS, ↓x_iaddI, ↓x_neg, ↓x_eqI, ↓x_neI, ↓x_eqS, ↓x_neS, ↓x_eqB, ↓x_neB, ↓x_eqNI, ↓x_neNI, ↓x_lenS, ↓x_lenL_l, ↓x_lenL_k, ↓x_lenL_t, ↓x_str, ↓x_intI, ↓x_intB, ↓x_divmod, ↓x_max2, ↓x_min2, ↓x_ixS, ↓x_slS, ↓x_slT, ↓x_slL_l, ↓x_slL_k, ↓x_inS, ↓x_newT, ↓x_newF, ↓x_si, ↓x_s1, ↓x_s0, ↓x_rpart, ↓x_part, ↓x_a1, ↓x_a2, ↓x_isiStr, ↓x_isiInt, ↓x_isiIntB, ↓x_isiIntS, ↓x_isiBB, ↓x_isiBI, ↓x_isiStrI, ↓x_isiNonI, ↓x_isiNonS, ↓x_isiT, ↓x_isiL, ↓x_var0, ↓x_varS, ↓x_ex, ↓x_aug0, gat, pick, Option.some.injEq, D.bl.injEq, D.int.injEq, D.str.injEq, D.tup.injEq, D.lst.injEq, List.cons.injEq, and_true, true_and, List.set_cons_zero, List.set_cons_succ, List.length_cons, List.length_nil, List.filterMap_cons, List.filterMap_nil, List.getElem?_cons_zero, List.getElem?_cons_succ, Option.bind_some, ↓reduceIte, if_true, if_false, Bool.false_eq_true, Bool.true_eq_false, decide_eq_true_eq, beq_self_eq_true, Bool.not_true, Bool.not_false, Bool.not_eq_true', decide_eq_false_iff_not, exists_eq_left', exists_eq_left, exists_eq, ↓x_dnT, ↓x_dnF, ↓gAsgL, ↓gMMDef, ↓gDSet, ↓gSItems, ↓gOrT, ↓gAndT, ↓gTryAs, ↓gTryO, ↓gRaise, ↓gCallX, ↓gMethX, ↓gMakeX, ↓gFldX, ↓x_inXs, Bool.false_xor, Bool.true_xor, ↓gOrS, ↓x_fmtRS, ↓x_afRS, ↓x_afRI, ↓x_stO]
  have e1 : ((m : Int) / 60) = ((m / 60 : Nat) : Int) := by omega
  have e2 : ((m : Int) % 60) = ((m % 60 : Nat) : Int) := by omega
  rw [e1, e2, Mt.tw_zfill _ (by omega), Mt.tw_zfill _ (by omega)]
  refine ⟨⟨by decide, by decide⟩, Mt.log2_small (by omega) (by omega), by decide, Mt.l_tw1 _, Mt.log2_small (by omega) (by omega), by decide, Mt.l_tw2 _ _, ?_⟩
  exact h
theorem r_show_time : ∀ ds S q, sp_show_time a ds S q → g_show_time K a { nx := fun _ S' => q .non S', rt := q } (startD N_show_time ds) S := by
  rintro ds S q ⟨m, rfl, hm, h⟩
  rw [st_show_time]
  simp only [g_show_time, ↓x_eqSS, ↓x_neSS, ↓gKGet, ↓x_kget, ↓x_ixE, at_last, ↓x_appE, ↓x_tyE, ↓x_itE, ↓x_lenE, ↓x_nePr, ↓x_eqPr, ↓x_neE, ↓x_lenr, ↓x_lenrI, ↓gRev, ↓x_par3, ↓x_par33, ↓x_fld, ↓x_fset, ↓x_mkF, ↓x_mk, ↓x_meth, ↓x_fldO, ↓x_fsetE, ↓x_fldE, ↓x_methO, ↓x_isiCO, ↓x_isiCN, ↓x_isiCT, ↓x_isiCLi, ↓x_isiCS, ↓x_isiCI, ↓x_own, ↓x_eqT2, ↓x_neT2, ↓x_neL4, ↓x_eqLN, ↓x_neNil, ↓x_gset, ↓x_lc, ↓x_for, ↓x_it, ↓x_rn1, ↓x_rn2, ↓x_enu, ↓x_zip, ↓x_itS, ↓x_itL, ↓x_itK, ↓x_itT, ↓x_rn1I, ↓x_rn2I, ↓x_enuL, ↓x_enuK, ↓x_zipL, ↓x_ixS0, ↓x_ixL, ↓x_ixT, ↓x_ixK, x_at0, x_at1, x_at2, x_at3, x_at4, ↓x_set00, ↓x_set01, ↓x_set02, ↓x_aug1, ↓x_aug2, ↓x_aug3, ↓x_aug4, ↓x_aug5, ↓x_aug6, ↓x_aug7, ↓x_aug8, ↓x_aug9, ↓x_aug10, ↓x_aug11, ↓x_aug12, ↓x_aug13, ↓x_aug14, ↓x_aug15, ↓x_aug16, ↓x_aug17, ↓x_aug18, ↓x_aug19, ↓x_aug20, ↓x_aug21, ↓x_aug22, ↓x_aug23, Int.reduceToNat, Int.reducePow, ↓gSeq, ↓gIfS, ↓gSet, ↓gAsg, ↓x_par, ↓x_par2, ↓gRet, ↓gRetN, ↓gNext, ↓gDrop, ↓gBreak, ↓gCont, ↓gDead, ↓gCB, ↓gB2, ↓gU, ↓gC, ↓Dl.gCons, ↓Dl.gNil, ↓Dl.gTup, ↓Dl.gLst, ↓gTest, ↓gOrB, ↓gAndB, ↓gNotB, ↓gAndV, ↓gOrV, ↓gNotV, ↓gIf, ↓gIx, ↓gSl, ↓gPart, ↓gNoP, ↓gMt, ↓gCall, ↓gArgs, ↓gIsN, ↓gNotN, ↓gChain, ↓x_fmtS, ↓x_afS, ↓x_afI, ↓x_js0, ↓x_jsc, ↓gJoined, ↓gYes, ↓x_bnm, ↓x_btp, ↓x_bn, ↓x_bc, ↓x_nnN, ↓x_nnI, ↓x_nnS, ↓x_nnB, ↓x_nnT, ↓x_nnL, ↓x_nnO, ↓x_nnl, ↓x_tyS, ↓x_tyL, ↓x_i2, ↓aSub, ↓aFdiv, ↓aMod, ↓aPow, ↓aShr, ↓aLt, ↓aLe, ↓aGt, ↓aGe, ↓x_addI, ↓x_addS, ↓x_mulI, ↓x_iaddS, ↓x_iaddI, ↓x_neg, ↓x_eqI, ↓x_neI, ↓x_eqS, ↓x_neS, ↓x_eqB, ↓x_neB, ↓x_eqNI, ↓x_neNI, ↓x_lenS, ↓x_lenL_l, ↓x_lenL_k, ↓x_lenL_t, ↓x_str, ↓x_intI, ↓x_intB, ↓x_divmod, ↓x_max2, ↓x_min2, ↓x_ixS, ↓x_slS, ↓x_slT, ↓x_slL_l, ↓x_slL_k, ↓x_inS, ↓x_newT, ↓x_newF, ↓x_si, ↓x_s1, ↓x_s0, ↓x_rpart, ↓x_part, ↓x_a1, ↓x_a2, ↓x_isiStr, ↓x_isiInt, ↓x_isiIntB, ↓x_isiIntS, ↓x_isiBB, ↓x_isiBI, ↓x_isiStrI, ↓x_isiNonI, ↓x_isiNonS, ↓x_isiT, ↓x_isiL, ↓x_var0, ↓x_varS, ↓x_ex, ↓x_aug0, gat, pick, Option.some.injEq, D.bl.injEq, D.int.injEq, D.str.injEq, D.tup.injEq, D.lst.injEq, List.cons.injEq, and_true, true_and, List.set_cons_zero, List.set_cons_succ, List.length_cons, List.length_nil, List.filterMap_cons, List.filterMap_nil, List.getElem?_cons_zero, List.getElem?_cons_succ, Option.bind_some, ↓reduceIte, if_true, if_false, Bool.false_eq_true, Bool.true_eq_false, decide_eq_true_eq, beq_self_eq_true, Bool.not_true, Bool.not_false, Bool.not_eq_true', decide_eq_false_iff_not, exists_eq_left', exists_eq_left, exists_eq, ↓x_dnT, ↓x_dnF, ↓gAsgL, ↓gMMDef, ↓gDSet, ↓gSItems, ↓gOrT, ↓gAndT, ↓gTryAs, ↓gTryO, ↓gRaise, ↓gCallX, ↓gMethX, ↓gMakeX, ↓gFldX, ↓x_inXs, Bool.false_xor, Bool.true_xor, ↓gOrS, ↓x_fmtRS, ↓x_afRS, ↓x_afRI, ↓x_stO]
  have e1 : ((m : Int) / 1440) = ((m / 1440 : Nat) : Int) := by omega
  have e2 : ((m : Int) % 1440) = ((m % 1440 : Nat) : Int) := by omega
  rw [e1, e2]
  refine ⟨⟨by decide, by decide⟩, m % 1440, rfl, by omega, ?_⟩
  have eT : Mt.T m = if m < 1440 then Mt.hm (m / 60) (m % 60) else Mt.hm (m % 1440 / 60) (m % 60) ++ (Mt.plus ++ showI (m / 1440 : Nat)) := rfl
  have e3 : m % 1440 % 60 = m % 60 := by omega
  rw [e3]
  simp only [↓x_eqSS, ↓x_neSS, ↓gKGet, ↓x_kget, ↓x_ixE, at_last, ↓x_appE, ↓x_tyE, ↓x_itE, ↓x_lenE, ↓x_nePr, ↓x_eqPr, ↓x_neE, ↓x_lenr, ↓x_lenrI, ↓gRev, ↓x_par3, ↓x_par33, ↓x_fld, ↓x_fset, ↓x_mkF, ↓x_mk, ↓x_meth, ↓x_fldO, ↓x_fsetE, ↓x_fldE, ↓x_methO, ↓x_isiCO, ↓x_isiCN, ↓x_isiCT, ↓x_isiCLi, ↓x_isiCS, ↓x_isiCI, ↓x_own, ↓x_eqT2, ↓x_neT2, ↓x_neL4, ↓x_eqLN, ↓x_neNil, ↓x_gset, ↓x_lc, ↓x_for, ↓x_it, ↓x_rn1, ↓x_rn2, ↓x_enu, ↓x_zip, ↓x_itS, ↓x_itL, ↓x_itK, ↓x_itT, ↓x_rn1I, ↓x_rn2I, ↓x_enuL, ↓x_enuK, ↓x_zipL, ↓x_ixS0, ↓x_ixL, ↓x_ixT, ↓x_ixK, x_at0, x_at1, x_at2, x_at3, x_at4, ↓x_set00, ↓x_set01, ↓x_set02, ↓x_aug1, ↓x_aug2, ↓x_aug3, ↓x_aug4, ↓x_aug5, ↓x_aug6, ↓x_aug7, ↓x_aug8, ↓x_aug9, ↓x_aug10, ↓x_aug11, ↓x_aug12, ↓x_aug13, ↓x_aug14, ↓x_aug15, ↓x_aug16, ↓x_aug17, ↓x_aug18, ↓x_aug19, ↓x_aug20, ↓x_aug21, ↓x_aug22, ↓x_aug23, Int.reduceToNat, Int.reducePow, ↓gSeq, ↓gIfS, ↓gSet, ↓gAsg, ↓x_par, ↓x_par2, ↓gRet, ↓gRetN, ↓gNext, ↓gDrop, ↓gBreak, ↓gCont, ↓gDead, ↓gCB, ↓gB2, ↓gU, ↓gC, ↓Dl.gCons, ↓Dl.gNil, ↓Dl.gTup, ↓Dl.gLst, ↓gTest, ↓gOrB, ↓gAndB, ↓gNotB, ↓gAndV, ↓gOrV, ↓gNotV, ↓gIf, ↓gIx, ↓gSl, ↓gPart, ↓gNoP, ↓gMt, ↓gCall, ↓gArgs, ↓gIsN, ↓gNotN, ↓gChain, ↓x_fmtS, ↓x_afS, ↓x_afI, ↓x_js0, ↓x_jsc, ↓gJoined, ↓gYes, ↓x_bnm, ↓x_btp, ↓x_bn, ↓x_bc, ↓x_nnN, ↓x_nnI, ↓x_nnS, ↓x_nnB, ↓x_nnT, ↓x_nnL, ↓x_nnO, ↓x_nnl, ↓x_tyS, ↓x_tyL, ↓x_i2, ↓aSub, ↓aFdiv, ↓aMod, ↓aPow, ↓aShr, ↓aLt, ↓aLe, ↓aGt, ↓aGe, ↓x_addI, ↓x_addS, ↓x_mulI, ↓x_iaddS, ↓x_iaddI, ↓x_neg, ↓x_eqI, ↓x_neI, ↓x_eqS, ↓x_neS, ↓x_eqB, ↓x_neB, ↓x_eqNI, ↓x_neNI, ↓x_lenS, ↓x_lenL_l, ↓x_lenL_k, ↓x_lenL_t, ↓x_str, ↓x_intI, ↓x_intB, ↓x_divmod, ↓x_max2, ↓x_min2, ↓x_ixS, ↓x_slS, ↓x_slT, ↓x_slL_l, ↓x_slL_k, ↓x_inS, ↓x_newT, ↓x_newF, ↓x_si, ↓x_s1, ↓x_s0, ↓x_rpart, ↓x_part, ↓x_a1, ↓x_a2, ↓x_isiStr, ↓x_isiInt, ↓x_isiIntB, ↓x_isiIntS, ↓x_isiBB, ↓x_isiBI, ↓x_isiStrI, ↓x_isiNonI, ↓x_isiNonS, ↓x_isiT, ↓x_isiL, ↓x_var0, ↓x_varS, ↓x_ex, ↓x_aug0, gat, pick, Option.some.injEq, D.bl.injEq, D.int.injEq, D.str.injEq, D.tup.injEq, D.lst.injEq, List.cons.injEq, and_true, true_and, List.set_cons_zero, List.set_cons_succ, List.length_cons, List.length_nil, List.filterMap_cons, List.filterMap_nil, List.getElem?_cons_zero, List.getElem?_cons_succ, Option.bind_some, ↓reduceIte, if_true, if_false, Bool.false_eq_true, Bool.true_eq_false, decide_eq_true_eq, beq_self_eq_true, Bool.not_true, Bool.not_false, Bool.not_eq_true', decide_eq_false_iff_not, exists_eq_left', exists_eq_left, exists_eq, ↓x_dnT, ↓x_dnF, ↓gAsgL, ↓gMMDef, ↓gDSet, ↓gSItems, ↓gOrT, ↓gAndT, ↓gTryAs, ↓gTryO, ↓gRaise, ↓gCallX, ↓gMethX, ↓gMakeX, ↓gFldX, ↓x_inXs, Bool.false_xor, Bool.true_xor, ↓gOrS, ↓x_fmtRS, ↓x_afRS, ↓x_afRI, ↓x_stO]
  by_cases hd : m < 1440
  · rw [if_neg (show ¬ (0 : Int) < ((m / 1440 : Nat) : Int) by omega)]
    rw [eT, if_pos hd] at h
    rwa [show m % 1440 = m by omega]
  · rw [if_pos (show (0 : Int) < ((m / 1440 : Nat) : Int) by omega)]
    rw [eT, if_neg hd] at h
    have hs := Mt.show_len10 (i := ((m / 1440 : Nat) : Int)) (by omega) (by omega)
    refine ⟨by decide, Mt.log2_small (by omega) (by omega), ?_, ?_, ?_⟩
    · exact Nat.le_trans (by rw [Mt.len_app]; exact Nat.add_le_add_left hs _) (by decide : (Str.empty ++ Str.ofString "+").length + 10 ≤ sizeLine)
    · rw [Mt.len_app]
      exact Nat.le_trans (Nat.add_le_add_left (Nat.add_le_add_left hs _) _) (show 5 + ((Str.empty ++ Str.ofString "+").length + 10) ≤ sizeLine by decide)
    · exact h
theorem r__law_two : ∀ ds S q, sp__law_two a ds S q → g__law_two K a { nx := fun _ S' => q .non S', rt := q } (startD N__law_two ds) S := by
  rintro ds S q ⟨m, rfl, hm, h⟩
  rw [st__law_two]
  simp only [g__law_two, ↓x_eqSS, ↓x_neSS, ↓gKGet, ↓x_kget, ↓x_ixE, at_last, ↓x_appE, ↓x_tyE, ↓x_itE, ↓x_lenE, ↓x_nePr, ↓x_eqPr, ↓x_neE, ↓x_lenr, ↓x_lenrI, ↓gRev, ↓x_par3, ↓x_par33, ↓x_fld, ↓x_fset, ↓x_mkF, ↓x_mk, ↓x_meth, ↓x_fldO, ↓x_fsetE, ↓x_fldE, ↓x_methO, ↓x_isiCO, ↓x_isiCN, ↓x_isiCT, ↓x_isiCLi, ↓x_isiCS, ↓x_isiCI, ↓x_own, ↓x_eqT2, ↓x_neT2, ↓x_neL4, ↓x_eqLN, ↓x_neNil, ↓x_gset, ↓x_lc, ↓x_for, ↓x_it, ↓x_rn1, ↓x_rn2, ↓x_enu, ↓x_zip, ↓x_itS, ↓x_itL, ↓x_itK, ↓x_itT, ↓x_rn1I, ↓x_rn2I, ↓x_enuL, ↓x_enuK, ↓x_zipL, ↓x_ixS0, ↓x_ixL, ↓x_ixT, ↓x_ixK, x_at0, x_at1, x_at2, x_at3, x_at4, ↓x_set00, ↓x_set01, ↓x_set02, ↓x_aug1, ↓x_aug2, ↓x_aug3, ↓x_aug4, ↓x_aug5, ↓x_aug6, ↓x_aug7, ↓x_aug8, ↓x_aug9, ↓x_aug10, ↓x_aug11, ↓x_aug12, ↓x_aug13, ↓x_aug14, ↓x_aug15, ↓x_aug16, ↓x_aug17, ↓x_aug18, ↓x_aug19, ↓x_aug20, ↓x_aug21, ↓x_aug22, ↓x_aug23, Int.reduceToNat, Int.reducePow, ↓gSeq, ↓gIfS, ↓gSet, ↓gAsg, ↓x_par, ↓x_par2, ↓gRet, ↓gRetN, ↓gNext, ↓gDrop, ↓gBreak, ↓gCont, ↓gDead, ↓gCB, ↓gB2, ↓gU, ↓gC, ↓Dl.gCons, ↓Dl.gNil, ↓Dl.gTup, ↓Dl.gLst, ↓gTest, ↓gOrB, ↓gAndB, ↓gNotB, ↓gAndV, ↓gOrV, ↓gNotV, ↓gIf, ↓gIx, ↓gSl, ↓gPart, ↓gNoP, ↓gMt, ↓gCall, ↓gArgs, ↓gIsN, ↓gNotN, ↓gChain, ↓x_fmtS, ↓x_afS, ↓x_afI, ↓x_js0, ↓x_jsc, ↓gJoined, ↓gYes, ↓x_bnm, ↓x_btp, ↓x_bn, ↓x_bc, ↓x_nnN, ↓x_nnI, ↓x_nnS, ↓x_nnB, ↓x_nnT, ↓x_nnL, ↓x_nnO, ↓x_nnl, ↓x_tyS, ↓x_tyL, ↓x_i2, ↓aSub, ↓aFdiv, ↓aMod, ↓aPow, ↓aShr, ↓aLt, ↓aLe, ↓aGt, ↓aGe, ↓x_addI, ↓x_addS, ↓x_mulI, ↓x_iaddS, ↓x_iaddI, ↓x_neg, ↓x_eqI, ↓x_neI, ↓x_eqS, ↓x_neS, ↓x_eqB, ↓x_neB, ↓x_eqNI, ↓x_neNI, ↓x_lenS, ↓x_lenL_l, ↓x_lenL_k, ↓x_lenL_t, ↓x_str, ↓x_intI, ↓x_intB, ↓x_divmod, ↓x_max2, ↓x_min2, ↓x_ixS, ↓x_slS, ↓x_slT, ↓x_slL_l, ↓x_slL_k, ↓x_inS, ↓x_newT, ↓x_newF, ↓x_si, ↓x_s1, ↓x_s0, ↓x_rpart, ↓x_part, ↓x_a1, ↓x_a2, ↓x_isiStr, ↓x_isiInt, ↓x_isiIntB, ↓x_isiIntS, ↓x_isiBB, ↓x_isiBI, ↓x_isiStrI, ↓x_isiNonI, ↓x_isiNonS, ↓x_isiT, ↓x_isiL, ↓x_var0, ↓x_varS, ↓x_ex, ↓x_aug0, gat, pick, Option.some.injEq, D.bl.injEq, D.int.injEq, D.str.injEq, D.tup.injEq, D.lst.injEq, List.cons.injEq, and_true, true_and, List.set_cons_zero, List.set_cons_succ, List.length_cons, List.length_nil, List.filterMap_cons, List.filterMap_nil, List.getElem?_cons_zero, List.getElem?_cons_succ, Option.bind_some, ↓reduceIte, if_true, if_false, Bool.false_eq_true, Bool.true_eq_false, decide_eq_true_eq, beq_self_eq_true, Bool.not_true, Bool.not_false, Bool.not_eq_true', decide_eq_false_iff_not, exists_eq_left', exists_eq_left, exists_eq, ↓x_dnT, ↓x_dnF, ↓gAsgL, ↓gMMDef, ↓gDSet, ↓gSItems, ↓gOrT, ↓gAndT, ↓gTryAs, ↓gTryO, ↓gRaise, ↓gCallX, ↓gMethX, ↓gMakeX, ↓gFldX, ↓x_inXs, Bool.false_xor, Bool.true_xor, ↓gOrS, ↓x_fmtRS, ↓x_afRS, ↓x_afRI, ↓x_stO]
  refine ⟨Mt.log2_small (by omega) (by omega), Mt.show_len (by omega) (by omega), ?_⟩
  rw [Mt.tw_two m hm]
  exact h
theorem r__law_time : ∀ ds S q, sp__law_time a ds S q → g__law_time K a { nx := fun _ S' => q .non S', rt := q } (startD N__law_time ds) S := by
  rintro ds S q ⟨m, rfl, hm, h⟩
  rw [st__law_time]
  simp only [g__law_time, ↓x_eqSS, ↓x_neSS, ↓gKGet, ↓x_kget, ↓x_ixE, at_last, ↓x_appE, ↓x_tyE, ↓x_itE, ↓x_lenE, ↓x_nePr, ↓x_eqPr, ↓x_neE, ↓x_lenr, ↓x_lenrI, ↓gRev, ↓x_par3, ↓x_par33, ↓x_fld, ↓x_fset, ↓x_mkF, ↓x_mk, ↓x_meth, ↓x_fldO, ↓x_fsetE, ↓x_fldE, ↓x_methO, ↓x_isiCO, ↓x_isiCN, ↓x_isiCT, ↓x_isiCLi, ↓x_isiCS, ↓x_isiCI, ↓x_own, ↓x_eqT2, ↓x_neT2, ↓x_neL4, ↓x_eqLN, ↓x_neNil, ↓x_gset, ↓x_lc, ↓x_for, ↓x_it, ↓x_rn1, ↓x_rn2, ↓x_enu, ↓x_zip, ↓x_itS, ↓x_itL, ↓x_itK, ↓x_itT, ↓x_rn1I, ↓x_rn2I, ↓x_enuL, ↓x_enuK, ↓x_zipL, ↓x_ixS0, ↓x_ixL, ↓x_ixT, ↓x_ixK, x_at0, x_at1, x_at2, x_at3, x_at4, ↓x_set00, ↓x_set01, ↓x_set02, ↓x_aug1, ↓x_aug2, ↓x_aug3, ↓x_aug4, ↓x_aug5, ↓x_aug6, ↓x_aug7, ↓x_aug8, ↓x_aug9, ↓x_aug10, ↓x_aug11, ↓x_aug12, ↓x_aug13, ↓x_aug14, ↓x_aug15, ↓x_aug16, ↓x_aug17, ↓x_aug18, ↓x_aug19, ↓x_aug20, ↓x_aug21, ↓x_aug22, ↓x_aug23, Int.reduceToNat, Int.reducePow, ↓gSeq, ↓gIfS, ↓gSet, ↓gAsg, ↓x_par, ↓x_par2, ↓gRet, ↓gRetN, ↓gNext, ↓gDrop, ↓gBreak, ↓gCont, ↓gDead, ↓gCB, ↓gB2, ↓gU, ↓gC, ↓Dl.gCons, ↓Dl.gNil, ↓Dl.gTup, ↓Dl.gLst, ↓gTest, ↓gOrB, ↓gAndB, ↓gNotB, ↓gAndV, ↓gOrV, ↓gNotV, ↓gIf, ↓gIx, ↓gSl, ↓gPart, ↓gNoP, ↓gMt, ↓gCall, ↓gArgs, ↓gIsN, ↓gNotN, ↓gChain, ↓x_fmtS, ↓x_afS, ↓x_afI, ↓x_js0, ↓x_jsc, ↓gJoined, ↓gYes, ↓x_bnm, ↓x_btp, ↓x_bn, ↓x_bc, ↓x_nnN, ↓x_nnI, ↓x_nnS, ↓x_nnB, ↓x_nnT, ↓x_nnL, ↓x_nnO, ↓x_nnl, ↓x_tyS, ↓x_tyL, ↓x_i2, ↓aSub, ↓aFdiv, ↓aMod, ↓aPow, ↓aShr, ↓aLt, ↓aLe, ↓aGt, ↓aGe, ↓x_addI, ↓x_addS, ↓x_mulI, ↓x_iaddS, ↓x_iaddI, ↓x_neg, ↓x_eqI, ↓x_neI, ↓x_eqS, ↓x_neS, ↓x_eqB, ↓x_neB, ↓x_eqNI, ↓x_neNI, ↓x_lenS, ↓x_lenL_l, ↓x_lenL_k, ↓x_lenL_t, ↓x_str, ↓x_intI, ↓x_intB, ↓x_divmod, ↓x_max2, ↓x_min2, ↓x_ixS, ↓x_slS, ↓x_slT, ↓x_slL_l, ↓x_slL_k, ↓x_inS, ↓x_newT, ↓x_newF, ↓x_si, ↓x_s1, ↓x_s0, ↓x_rpart, ↓x_part, ↓x_a1, ↓x_a2, ↓x_isiStr, ↓x_isiInt, ↓x_isiIntB, ↓x_isiIntS, ↓x_isiBB, ↓x_isiBI, ↓x_isiStrI, ↓x_isiNonI, ↓x_isiNonS, ↓x_isiT, ↓x_isiL, ↓x_var0, ↓x_varS, ↓x_ex, ↓x_aug0, gat, pick, Option.some.injEq, D.bl.injEq, D.int.injEq, D.str.injEq, D.tup.injEq, D.lst.injEq, List.cons.injEq, and_true, true_and, List.set_cons_zero, List.set_cons_succ, List.length_cons, List.length_nil, List.filterMap_cons, List.filterMap_nil, List.getElem?_cons_zero, List.getElem?_cons_succ, Option.bind_some, ↓reduceIte, if_true, if_false, Bool.false_eq_true, Bool.true_eq_false, decide_eq_true_eq, beq_self_eq_true, Bool.not_true, Bool.not_false, Bool.not_eq_true', decide_eq_false_iff_not, exists_eq_left', exists_eq_left, exists_eq, ↓x_dnT, ↓x_dnF, ↓gAsgL, ↓gMMDef, ↓gDSet, ↓gSItems, ↓gOrT, ↓gAndT, ↓gTryAs, ↓gTryO, ↓gRaise, ↓gCallX, ↓gMethX, ↓gMakeX, ↓gFldX, ↓x_inXs, Bool.false_xor, Bool.true_xor, ↓gOrS, ↓x_fmtRS, ↓x_afRS, ↓x_afRI, ↓x_stO]
  refine ⟨by decide, .inl ⟨by decide, by decide⟩, m % 1440 / 60, by rw [show ((m : Int) % 1440 / 60) = ((m % 1440 / 60 : Nat) : Int) by omega], by omega, ?_⟩
  simp only [↓x_eqSS, ↓x_neSS, ↓gKGet, ↓x_kget, ↓x_ixE, at_last, ↓x_appE, ↓x_tyE, ↓x_itE, ↓x_lenE, ↓x_nePr, ↓x_eqPr, ↓x_neE, ↓x_lenr, ↓x_lenrI, ↓gRev, ↓x_par3, ↓x_par33, ↓x_fld, ↓x_fset, ↓x_mkF, ↓x_mk, ↓x_meth, ↓x_fldO, ↓x_fsetE, ↓x_fldE, ↓x_methO, ↓x_isiCO, ↓x_isiCN, ↓x_isiCT, ↓x_isiCLi, ↓x_isiCS, ↓x_isiCI, ↓x_own, ↓x_eqT2, ↓x_neT2, ↓x_neL4, ↓x_eqLN, ↓x_neNil, ↓x_gset, ↓x_lc, ↓x_for, ↓x_it, ↓x_rn1, ↓x_rn2, ↓x_enu, ↓x_zip, ↓x_itS, ↓x_itL, ↓x_itK, ↓x_itT, ↓x_rn1I, ↓x_rn2I, ↓x_enuL, ↓x_enuK, ↓x_zipL, ↓x_ixS0, ↓x_ixL, ↓x_ixT, ↓x_ixK, x_at0, x_at1, x_at2, x_at3, x_at4, ↓x_set00, ↓x_set01, ↓x_set02, ↓x_aug1, ↓x_aug2, ↓x_aug3, ↓x_aug4, ↓x_aug5, ↓x_aug6, ↓x_aug7, ↓x_aug8, ↓x_aug9, ↓x_aug10, ↓x_aug11, ↓x_aug12, ↓x_aug13, ↓x_aug14, ↓x_aug15, ↓x_aug16, ↓x_aug17, ↓x_aug18, ↓x_aug19, ↓x_aug20, ↓x_aug21, ↓x_aug22, ↓x_aug23, Int.reduceToNat, Int.reducePow, ↓gSeq, ↓gIfS, ↓gSet, ↓gAsg, ↓x_par, ↓x_par2, ↓gRet, ↓gRetN, ↓gNext, ↓gDrop, ↓gBreak, ↓gCont, ↓gDead, ↓gCB, ↓gB2, ↓gU, ↓gC, ↓Dl.gCons, ↓Dl.gNil, ↓Dl.gTup, ↓Dl.gLst, ↓gTest, ↓gOrB, ↓gAndB, ↓gNotB, ↓gAndV, ↓gOrV, ↓gNotV, ↓gIf, ↓gIx, ↓gSl, ↓gPart, ↓gNoP, ↓gMt, ↓gCall, ↓gArgs, ↓gIsN, ↓gNotN, ↓gChain, ↓x_fmtS, ↓x_afS, ↓x_afI, ↓x_js0, ↓x_jsc, ↓gJoined, ↓gYes, ↓x_bnm, ↓x_btp, ↓x_bn, ↓x_bc, ↓x_nnN, ↓x_nnI, ↓x_nnS, ↓x_nnB, ↓x_nnT, ↓x_nnL, ↓x_nnO, ↓x_nnl, ↓x_tyS, ↓x_tyL, ↓x_i2, ↓aSub, ↓aFdiv, ↓aMod, ↓aPow, ↓aShr, ↓aLt, ↓aLe, ↓aGt, ↓aGe, ↓x_addI, ↓x_addS, ↓x_mulI, ↓x_iaddS, ↓x_iaddI, ↓x_neg, ↓x_eqI, ↓x_neI, ↓x_eqS, ↓x_neS, ↓x_eqB, ↓x_neB, ↓x_eqNI, ↓x_neNI, ↓x_lenS, ↓x_lenL_l, ↓x_lenL_k, ↓x_lenL_t, ↓x_str, ↓x_intI, ↓x_intB, ↓x_divmod, ↓x_max2, ↓x_min2, ↓x_ixS, ↓x_slS, ↓x_slT, ↓x_slL_l, ↓x_slL_k, ↓x_inS, ↓x_newT, ↓x_newF, ↓x_si, ↓x_s1, ↓x_s0, ↓x_rpart, ↓x_part, ↓x_a1, ↓x_a2, ↓x_isiStr, ↓x_isiInt, ↓x_isiIntB, ↓x_isiIntS, ↓x_isiBB, ↓x_isiBI, ↓x_isiStrI, ↓x_isiNonI, ↓x_isiNonS, ↓x_isiT, ↓x_isiL, ↓x_var0, ↓x_varS, ↓x_ex, ↓x_aug0, gat, pick, Option.some.injEq, D.bl.injEq, D.int.injEq, D.str.injEq, D.tup.injEq, D.lst.injEq, List.cons.injEq, and_true, true_and, List.set_cons_zero, List.set_cons_succ, List.length_cons, List.length_nil, List.filterMap_cons, List.filterMap_nil, List.getElem?_cons_zero, List.getElem?_cons_succ, Option.bind_some, ↓reduceIte, if_true, if_false, Bool.false_eq_true, Bool.true_eq_false, decide_eq_true_eq, beq_self_eq_true, Bool.not_true, Bool.not_false, Bool.not_eq_true', decide_eq_false_iff_not, exists_eq_left', exists_eq_left, exists_eq, ↓x_dnT, ↓x_dnF, ↓gAsgL, ↓gMMDef, ↓gDSet, ↓gSItems, ↓gOrT, ↓gAndT, ↓gTryAs, ↓gTryO, ↓gRaise, ↓gCallX, ↓gMethX, ↓gMakeX, ↓gFldX, ↓x_inXs, Bool.false_xor, Bool.true_xor, ↓gOrS, ↓x_fmtRS, ↓x_afRS, ↓x_afRI, ↓x_stO]
  refine ⟨Mt.l_tw1 _, by decide, m % 60, by rw [show ((m : Int) % 60) = ((m % 60 : Nat) : Int) by omega], by omega, ?_⟩
  simp only [↓x_eqSS, ↓x_neSS, ↓gKGet, ↓x_kget, ↓x_ixE, at_last, ↓x_appE, ↓x_tyE, ↓x_itE, ↓x_lenE, ↓x_nePr, ↓x_eqPr, ↓x_neE, ↓x_lenr, ↓x_lenrI, ↓gRev, ↓x_par3, ↓x_par33, ↓x_fld, ↓x_fset, ↓x_mkF, ↓x_mk, ↓x_meth, ↓x_fldO, ↓x_fsetE, ↓x_fldE, ↓x_methO, ↓x_isiCO, ↓x_isiCN, ↓x_isiCT, ↓x_isiCLi, ↓x_isiCS, ↓x_isiCI, ↓x_own, ↓x_eqT2, ↓x_neT2, ↓x_neL4, ↓x_eqLN, ↓x_neNil, ↓x_gset, ↓x_lc, ↓x_for, ↓x_it, ↓x_rn1, ↓x_rn2, ↓x_enu, ↓x_zip, ↓x_itS, ↓x_itL, ↓x_itK, ↓x_itT, ↓x_rn1I, ↓x_rn2I, ↓x_enuL, ↓x_enuK, ↓x_zipL, ↓x_ixS0, ↓x_ixL, ↓x_ixT, ↓x_ixK, x_at0, x_at1, x_at2, x_at3, x_at4, ↓x_set00, ↓x_set01, ↓x_set02, ↓x_aug1, ↓x_aug2, ↓x_aug3, ↓x_aug4, ↓x_aug5, ↓x_aug6, ↓x_aug7, ↓x_aug8, ↓x_aug9, ↓x_aug10, ↓x_aug11, ↓x_aug12, ↓x_aug13, ↓x_aug14, ↓x_aug15, ↓x_aug16, ↓x_aug17, ↓x_aug18, ↓x_aug19, ↓x_aug20, ↓x_aug21, ↓x_aug22, ↓x_aug23, Int.reduceToNat, Int.reducePow, ↓gSeq, ↓gIfS, ↓gSet, ↓gAsg, ↓x_par, ↓x_par2, ↓gRet, ↓gRetN, ↓gNext, ↓gDrop, ↓gBreak, ↓gCont, ↓gDead, ↓gCB, ↓gB2, ↓gU, ↓gC, ↓Dl.gCons, ↓Dl.gNil, ↓Dl.gTup, ↓Dl.gLst, ↓gTest, ↓gOrB, ↓gAndB, ↓gNotB, ↓gAndV, ↓gOrV, ↓gNotV, ↓gIf, ↓gIx, ↓gSl, ↓gPart, ↓gNoP, ↓gMt, ↓gCall, ↓gArgs, ↓gIsN, ↓gNotN, ↓gChain, ↓x_fmtS, ↓x_afS, ↓x_afI, ↓x_js0, ↓x_jsc, ↓gJoined, ↓gYes, ↓x_bnm, ↓x_btp, ↓x_bn, ↓x_bc, ↓x_nnN, ↓x_nnI, ↓x_nnS, ↓x_nnB, ↓x_nnT, ↓x_nnL, ↓x_nnO, ↓x_nnl, ↓x_tyS, ↓x_tyL, ↓x_i2, ↓aSub, ↓aFdiv, ↓aMod, ↓aPow, ↓aShr, ↓aLt, ↓aLe, ↓aGt, ↓aGe, ↓x_addI, ↓x_addS, ↓x_mulI, ↓x_iaddS, ↓x_iaddI, ↓x_neg, ↓x_eqI, ↓x_neI, ↓x_eqS, ↓x_neS, ↓x_eqB, ↓x_neB, ↓x_eqNI, ↓x_neNI, ↓x_lenS, ↓x_lenL_l, ↓x_lenL_k, ↓x_lenL_t, ↓x_str, ↓x_intI, ↓x_intB, ↓x_divmod, ↓x_max2, ↓x_min2, ↓x_ixS, ↓x_slS, ↓x_slT, ↓x_slL_l, ↓x_slL_k, ↓x_inS, ↓x_newT, ↓x_newF, ↓x_si, ↓x_s1, ↓x_s0, ↓x_rpart, ↓x_part, ↓x_a1, ↓x_a2, ↓x_isiStr, ↓x_isiInt, ↓x_isiIntB, ↓x_isiIntS, ↓x_isiBB, ↓x_isiBI, ↓x_isiStrI, ↓x_isiNonI, ↓x_isiNonS, ↓x_isiT, ↓x_isiL, ↓x_var0, ↓x_varS, ↓x_ex, ↓x_aug0, gat, pick, Option.some.injEq, D.bl.injEq, D.int.injEq, D.str.injEq, D.tup.injEq, D.lst.injEq, List.cons.injEq, and_true, true_and, List.set_cons_zero, List.set_cons_succ, List.length_cons, List.length_nil, List.filterMap_cons, List.filterMap_nil, List.getElem?_cons_zero, List.getElem?_cons_succ, Option.bind_some, ↓reduceIte, if_true, if_false, Bool.false_eq_true, Bool.true_eq_false, decide_eq_true_eq, beq_self_eq_true, Bool.not_true, Bool.not_false, Bool.not_eq_true', decide_eq_false_iff_not, exists_eq_left', exists_eq_left, exists_eq, ↓x_dnT, ↓x_dnF, ↓gAsgL, ↓gMMDef, ↓gDSet, ↓gSItems, ↓gOrT, ↓gAndT, ↓gTryAs, ↓gTryO, ↓gRaise, ↓gCallX, ↓gMethX, ↓gMakeX, ↓gFldX, ↓x_inXs, Bool.false_xor, Bool.true_xor, ↓gOrS, ↓x_fmtRS, ↓x_afRS, ↓x_afRI, ↓x_stO]
  refine ⟨Mt.l_tw2 _ _, ?_⟩
  have e := Mt.hm_eq (m % 1440 / 60) (m % 60)
  have eT : Mt.T m = if m < 1440 then Mt.hm (m / 60) (m % 60) else Mt.hm (m % 1440 / 60) (m % 60) ++ (Mt.plus ++ showI (m / 1440 : Nat)) := rfl
  by_cases hd : m < 1440
  · rw [if_pos (show (m : Int) < 1440 by omega), e]
    rw [eT, if_pos hd] at h
    rwa [show m % 1440 = m by omega]
  · rw [if_neg (show ¬ (m : Int) < 1440 by omega), e]
    rw [eT, if_neg hd] at h
    have hs := Mt.show_len10 (i := (m : Int) / 1440) (by omega) (by omega)
    refine ⟨Mt.l_hm1 _ _, .inl ⟨by decide, by decide⟩, Mt.log2_small (by omega) (by omega), ?_, ?_⟩
    · have e2 : (Mt.hm (m % 1440 / 60) (m % 60) ++ Str.ofString "+").length = 6 := rfl
      rw [e2]; exact Nat.le_trans (Nat.add_le_add_left hs 6) (by decide)
    · rw [Mt.app3, show ((m : Int) / 1440) = ((m / 1440 : Nat) : Int) by omega]
      exact h
theorem r__law_is_whole : ∀ ds S q, sp__law_is_whole a ds S q → g__law_is_whole K a { nx := fun _ S' => q .non S', rt := q } (startD N__law_is_whole ds) S := by
  rintro ds S q ⟨i, rfl, h⟩
  rw [st__law_is_whole]
  simp only [g__law_is_whole, ↓x_eqSS, ↓x_neSS, ↓gKGet, ↓x_kget, ↓x_ixE, at_last, ↓x_appE, ↓x_tyE, ↓x_itE, ↓x_lenE, ↓x_nePr, ↓x_eqPr, ↓x_neE, ↓x_lenr, ↓x_lenrI, ↓gRev, ↓x_par3, ↓x_par33, ↓x_fld, ↓x_fset, ↓x_mkF, ↓x_mk, ↓x_meth, ↓x_fldO, ↓x_fsetE, ↓x_fldE, ↓x_methO, ↓x_isiCO, ↓x_isiCN, ↓x_isiCT, ↓x_isiCLi, ↓x_isiCS, ↓x_isiCI, ↓x_own, ↓x_eqT2, ↓x_neT2, ↓x_neL4, ↓x_eqLN, ↓x_neNil, ↓x_gset, ↓x_lc, ↓x_for, ↓x_it, ↓x_rn1, ↓x_rn2, ↓x_enu, ↓x_zip, ↓x_itS, ↓x_itL, ↓x_itK, ↓x_itT, ↓x_rn1I, ↓x_rn2I, ↓x_enuL, ↓x_enuK, ↓x_zipL, ↓x_ixS0, ↓x_ixL, ↓x_ixT, ↓x_ixK, x_at0, x_at1, x_at2, x_at3, x_at4, ↓x_set00, ↓x_set01, ↓x_set02, ↓x_aug1, ↓x_aug2, ↓x_aug3, ↓x_aug4, ↓x_aug5, ↓x_aug6, ↓x_aug7, ↓x_aug8, ↓x_aug9, ↓x_aug10, ↓x_aug11, ↓x_aug12, ↓x_aug13, ↓x_aug14, ↓x_aug15, ↓x_aug16, ↓x_aug17, ↓x_aug18, ↓x_aug19, ↓x_aug20, ↓x_aug21, ↓x_aug22, ↓x_aug23, Int.reduceToNat, Int.reducePow, ↓gSeq, ↓gIfS, ↓gSet, ↓gAsg, ↓x_par, ↓x_par2, ↓gRet, ↓gRetN, ↓gNext, ↓gDrop, ↓gBreak, ↓gCont, ↓gDead, ↓gCB, ↓gB2, ↓gU, ↓gC, ↓Dl.gCons, ↓Dl.gNil, ↓Dl.gTup, ↓Dl.gLst, ↓gTest, ↓gOrB, ↓gAndB, ↓gNotB, ↓gAndV, ↓gOrV, ↓gNotV, ↓gIf, ↓gIx, ↓gSl, ↓gPart, ↓gNoP, ↓gMt, ↓gCall, ↓gArgs, ↓gIsN, ↓gNotN, ↓gChain, ↓x_fmtS, ↓x_afS, ↓x_afI, ↓x_js0, ↓x_jsc, ↓gJoined, ↓gYes, ↓x_bnm, ↓x_btp, ↓x_bn, ↓x_bc, ↓x_nnN, ↓x_nnI, ↓x_nnS, ↓x_nnB, ↓x_nnT, ↓x_nnL, ↓x_nnO, ↓x_nnl, ↓x_tyS, ↓x_tyL, ↓x_i2, ↓aSub, ↓aFdiv, ↓aMod, ↓aPow, ↓aShr, ↓aLt, ↓aLe, ↓aGt, ↓aGe, ↓x_addI, ↓x_addS, ↓x_mulI, ↓x_iaddS, ↓x_iaddI, ↓x_neg, ↓x_eqI, ↓x_neI, ↓x_eqS, ↓x_neS, ↓x_eqB, ↓x_neB, ↓x_eqNI, ↓x_neNI, ↓x_lenS, ↓x_lenL_l, ↓x_lenL_k, ↓x_lenL_t, ↓x_str, ↓x_intI, ↓x_intB, ↓x_divmod, ↓x_max2, ↓x_min2, ↓x_ixS, ↓x_slS, ↓x_slT, ↓x_slL_l, ↓x_slL_k, ↓x_inS, ↓x_newT, ↓x_newF, ↓x_si, ↓x_s1, ↓x_s0, ↓x_rpart, ↓x_part, ↓x_a1, ↓x_a2, ↓x_isiStr, ↓x_isiInt, ↓x_isiIntB, ↓x_isiIntS, ↓x_isiBB, ↓x_isiBI, ↓x_isiStrI, ↓x_isiNonI, ↓x_isiNonS, ↓x_isiT, ↓x_isiL, ↓x_var0, ↓x_varS, ↓x_ex, ↓x_aug0, gat, pick, Option.some.injEq, D.bl.injEq, D.int.injEq, D.str.injEq, D.tup.injEq, D.lst.injEq, List.cons.injEq, and_true, true_and, List.set_cons_zero, List.set_cons_succ, List.length_cons, List.length_nil, List.filterMap_cons, List.filterMap_nil, List.getElem?_cons_zero, List.getElem?_cons_succ, Option.bind_some, ↓reduceIte, if_true, if_false, Bool.false_eq_true, Bool.true_eq_false, decide_eq_true_eq, beq_self_eq_true, Bool.not_true, Bool.not_false, Bool.not_eq_true', decide_eq_false_iff_not, exists_eq_left', exists_eq_left, exists_eq, ↓x_dnT, ↓x_dnF, ↓gAsgL, ↓gMMDef, ↓gDSet, ↓gSItems, ↓gOrT, ↓gAndT, ↓gTryAs, ↓gTryO, ↓gRaise, ↓gCallX, ↓gMethX, ↓gMakeX, ↓gFldX, ↓x_inXs, Bool.false_xor, Bool.true_xor, ↓gOrS, ↓x_fmtRS, ↓x_afRS, ↓x_afRI, ↓x_stO]
  exact h
end
end Lw
namespace Lw
open PySem L2 Dl Mn
section
variable {P : Program} {w : World} {K : PySem.W.Frag} {mg : Str → Option Value} {base : Heap} {a : Ad}
theorem r_Stretch_init (T : Txt K mg a) : ∀ ds S q qx, D.unders S.length ds = true → Sto.under S.length S = true → sp_Stretch_init a ds S q qx → g_Stretch_init K a (fun c fs ds _ S' => qx c fs ds S') { nx := fun _ S' => q .non S', rt := q } (startD N_Stretch_init ds) S := by
  rintro ds S q qx _ _ ⟨S0, x, y, o, rfl, rfl, ho, h1, h2⟩
  rw [st_Stretch_init]
  rcases ho with rfl | ⟨rfl, rfl⟩
  · simp only [g_Stretch_init, pk_Stretch_first, px_Stretch_first, fg_Stretch_first, T.f_Stretch_first, pk_Stretch_behind, px_Stretch_behind, fg_Stretch_behind, T.f_Stretch_behind, ↓x_eqSS, ↓x_neSS, ↓gKGet, ↓x_kget, ↓x_ixE, at_last, ↓x_appE, ↓x_tyE, ↓x_itE, ↓x_lenE, ↓x_nePr, ↓x_eqPr, ↓x_neE, ↓x_lenr, ↓x_lenrI, ↓gRev, ↓x_par3, ↓x_par33, ↓x_fld, ↓x_fset, ↓x_mkF, ↓x_mk, ↓x_meth, ↓x_fldO, ↓x_fsetE, ↓x_fldE, ↓x_methO, ↓x_isiCO, ↓x_isiCN, ↓x_isiCT, ↓x_isiCLi, ↓x_isiCS, ↓x_isiCI, ↓x_own, ↓x_eqT2, ↓x_neT2, ↓x_neL4, ↓x_eqLN, ↓x_neNil, ↓x_gset, ↓x_lc, ↓x_for, ↓x_it, ↓x_rn1, ↓x_rn2, ↓x_enu, ↓x_zip, ↓x_itS, ↓x_itL, ↓x_itK, ↓x_itT, ↓x_rn1I, ↓x_rn2I, ↓x_enuL, ↓x_enuK, ↓x_zipL, ↓x_ixS0, ↓x_ixL, ↓x_ixT, ↓x_ixK, x_at0, x_at1, x_at2, x_at3, x_at4, ↓x_set00, ↓x_set01, ↓x_set02, ↓x_aug1, ↓x_aug2, ↓x_aug3, ↓x_aug4, ↓x_aug5, ↓x_aug6, ↓x_aug7, ↓x_aug8, ↓x_aug9, ↓x_aug10, ↓x_aug11, ↓x_aug12, ↓x_aug13, ↓x_aug14, ↓x_aug15, ↓x_aug16, ↓x_aug17, ↓x_aug18, ↓x_aug19, ↓x_aug20, ↓x_aug21, ↓x_aug22, ↓x_aug23, Int.reduceToNat, Int.reducePow, ↓gSeq, ↓gIfS, ↓gSet, ↓gAsg, ↓x_par, ↓x_par2, ↓gRet, ↓gRetN, ↓gNext, ↓gDrop, ↓gBreak, ↓gCont, ↓gDead, ↓gCB, ↓gB2, ↓gU, ↓gC, ↓Dl.gCons, ↓Dl.gNil, ↓Dl.gTup, ↓Dl.gLst, ↓gTest, ↓gOrB, ↓gAndB, ↓gNotB, ↓gAndV, ↓gOrV, ↓gNotV, ↓gIf, ↓gIx, ↓gSl, ↓gPart, ↓gNoP, ↓gMt, ↓gCall, ↓gArgs, ↓gIsN, ↓gNotN, ↓gChain, ↓x_fmtS, ↓x_afS, ↓x_afI, ↓x_js0, ↓x_jsc, ↓gJoined, ↓gYes, ↓x_bnm, ↓x_btp, ↓x_bn, ↓x_bc, ↓x_nnN, ↓x_nnI, ↓x_nnS, ↓x_nnB, ↓x_nnT, ↓x_nnL, ↓x_nnO, ↓x_nnl, ↓x_tyS, ↓x_tyL, ↓x_i2, ↓aSub, ↓aFdiv, ↓aMod, ↓aPow, ↓aShr, ↓aLt, ↓aLe, ↓aGt, ↓aGe, ↓x_addI, ↓x_addS, ↓x_mulI, ↓x_iaddS, ↓x_iaddI, ↓x_neg, ↓x_eqI, ↓x_neI, ↓x_eqS, ↓x_neS, ↓x_eqB, ↓x_neB, ↓x_eqNI, ↓x_neNI, ↓x_lenS, ↓x_lenL_l, ↓x_lenL_k, ↓x_lenL_t, ↓x_str, ↓x_intI, ↓x_intB, ↓x_divmod, ↓x_max2, ↓x_min2, ↓x_ixS, ↓x_slS, ↓x_slT, ↓x_slL_l, ↓x_slL_k, ↓x_inS, ↓x_newT, ↓x_newF, ↓x_si, ↓x_s1, ↓x_s0, ↓x_rpart, ↓x_part, ↓x_a1, ↓x_a2, ↓x_isiStr, ↓x_isiInt, ↓x_isiIntB, ↓x_isiIntS, ↓x_isiBB, ↓x_isiBI, ↓x_isiStrI, ↓x_isiNonI, ↓x_isiNonS, ↓x_isiT, ↓x_isiL, ↓x_var0, ↓x_varS, ↓x_ex, ↓x_aug0, gat, pick, Option.some.injEq, D.bl.injEq, D.int.injEq, D.str.injEq, D.tup.injEq, D.lst.injEq, List.cons.injEq, and_true, true_and, List.set_cons_zero, List.set_cons_succ, List.length_cons, List.length_nil, List.filterMap_cons, List.filterMap_nil, List.getElem?_cons_zero, List.getElem?_cons_succ, Option.bind_some, ↓reduceIte, if_true, if_false, Bool.false_eq_true, Bool.true_eq_false, decide_eq_true_eq, beq_self_eq_true, Bool.not_true, Bool.not_false, Bool.not_eq_true', decide_eq_false_iff_not, exists_eq_left', exists_eq_left, exists_eq, ↓x_dnT, ↓x_dnF, ↓gAsgL, ↓gMMDef, ↓gDSet, ↓gSItems, ↓gOrT, ↓gAndT, ↓gTryAs, ↓gTryO, ↓gRaise, ↓gCallX, ↓gMethX, ↓gMakeX, ↓gFldX, ↓x_inXs, Bool.false_xor, Bool.true_xor, ↓gOrS, ↓x_fmtRS, ↓x_afRS, ↓x_afRI, ↓x_stO]
    by_cases c : y < x
    · rw [if_pos c]
      exact ⟨by decide, _, fun _ => rfl, rfl, h2 c⟩
    · rw [if_neg c]
      exact ⟨by decide, by decide, h1 (by omega)⟩
  · simp only [g_Stretch_init, pk_Stretch_first, px_Stretch_first, fg_Stretch_first, T.f_Stretch_first, pk_Stretch_behind, px_Stretch_behind, fg_Stretch_behind, T.f_Stretch_behind, ↓x_eqSS, ↓x_neSS, ↓gKGet, ↓x_kget, ↓x_ixE, at_last, ↓x_appE, ↓x_tyE, ↓x_itE, ↓x_lenE, ↓x_nePr, ↓x_eqPr, ↓x_neE, ↓x_lenr, ↓x_lenrI, ↓gRev, ↓x_par3, ↓x_par33, ↓x_fld, ↓x_fset, ↓x_mkF, ↓x_mk, ↓x_meth, ↓x_fldO, ↓x_fsetE, ↓x_fldE, ↓x_methO, ↓x_isiCO, ↓x_isiCN, ↓x_isiCT, ↓x_isiCLi, ↓x_isiCS, ↓x_isiCI, ↓x_own, ↓x_eqT2, ↓x_neT2, ↓x_neL4, ↓x_eqLN, ↓x_neNil, ↓x_gset, ↓x_lc, ↓x_for, ↓x_it, ↓x_rn1, ↓x_rn2, ↓x_enu, ↓x_zip, ↓x_itS, ↓x_itL, ↓x_itK, ↓x_itT, ↓x_rn1I, ↓x_rn2I, ↓x_enuL, ↓x_enuK, ↓x_zipL, ↓x_ixS0, ↓x_ixL, ↓x_ixT, ↓x_ixK, x_at0, x_at1, x_at2, x_at3, x_at4, ↓x_set00, ↓x_set01, ↓x_set02, ↓x_aug1, ↓x_aug2, ↓x_aug3, ↓x_aug4, ↓x_aug5, ↓x_aug6, ↓x_aug7, ↓x_aug8, ↓x_aug9, ↓x_aug10, ↓x_aug11, ↓x_aug12, ↓x_aug13, ↓x_aug14, ↓x_aug15, ↓x_aug16, ↓x_aug17, ↓x_aug18, ↓x_aug19, ↓x_aug20, ↓x_aug21, ↓x_aug22, ↓x_aug23, Int.reduceToNat, Int.reducePow, ↓gSeq, ↓gIfS, ↓gSet, ↓gAsg, ↓x_par, ↓x_par2, ↓gRet, ↓gRetN, ↓gNext, ↓gDrop, ↓gBreak, ↓gCont, ↓gDead, ↓gCB, ↓gB2, ↓gU, ↓gC, ↓Dl.gCons, ↓Dl.gNil, ↓Dl.gTup, ↓Dl.gLst, ↓gTest, ↓gOrB, ↓gAndB, ↓gNotB, ↓gAndV, ↓gOrV, ↓gNotV, ↓gIf, ↓gIx, ↓gSl, ↓gPart, ↓gNoP, ↓gMt, ↓gCall, ↓gArgs, ↓gIsN, ↓gNotN, ↓gChain, ↓x_fmtS, ↓x_afS, ↓x_afI, ↓x_js0, ↓x_jsc, ↓gJoined, ↓gYes, ↓x_bnm, ↓x_btp, ↓x_bn, ↓x_bc, ↓x_nnN, ↓x_nnI, ↓x_nnS, ↓x_nnB, ↓x_nnT, ↓x_nnL, ↓x_nnO, ↓x_nnl, ↓x_tyS, ↓x_tyL, ↓x_i2, ↓aSub, ↓aFdiv, ↓aMod, ↓aPow, ↓aShr, ↓aLt, ↓aLe, ↓aGt, ↓aGe, ↓x_addI, ↓x_addS, ↓x_mulI, ↓x_iaddS, ↓x_iaddI, ↓x_neg, ↓x_eqI, ↓x_neI, ↓x_eqS, ↓x_neS, ↓x_eqB, ↓x_neB, ↓x_eqNI, ↓x_neNI, ↓x_lenS, ↓x_lenL_l, ↓x_lenL_k, ↓x_lenL_t, ↓x_str, ↓x_intI, ↓x_intB, ↓x_divmod, ↓x_max2, ↓x_min2, ↓x_ixS, ↓x_slS, ↓x_slT, ↓x_slL_l, ↓x_slL_k, ↓x_inS, ↓x_newT, ↓x_newF, ↓x_si, ↓x_s1, ↓x_s0, ↓x_rpart, ↓x_part, ↓x_a1, ↓x_a2, ↓x_isiStr, ↓x_isiInt, ↓x_isiIntB, ↓x_isiIntS, ↓x_isiBB, ↓x_isiBI, ↓x_isiStrI, ↓x_isiNonI, ↓x_isiNonS, ↓x_isiT, ↓x_isiL, ↓x_var0, ↓x_varS, ↓x_ex, ↓x_aug0, gat, pick, Option.some.injEq, D.bl.injEq, D.int.injEq, D.str.injEq, D.tup.injEq, D.lst.injEq, List.cons.injEq, and_true, true_and, List.set_cons_zero, List.set_cons_succ, List.length_cons, List.length_nil, List.filterMap_cons, List.filterMap_nil, List.getElem?_cons_zero, List.getElem?_cons_succ, Option.bind_some, ↓reduceIte, if_true, if_false, Bool.false_eq_true, Bool.true_eq_false, decide_eq_true_eq, beq_self_eq_true, Bool.not_true, Bool.not_false, Bool.not_eq_true', decide_eq_false_iff_not, exists_eq_left', exists_eq_left, exists_eq, ↓x_dnT, ↓x_dnF, ↓gAsgL, ↓gMMDef, ↓gDSet, ↓gSItems, ↓gOrT, ↓gAndT, ↓gTryAs, ↓gTryO, ↓gRaise, ↓gCallX, ↓gMethX, ↓gMakeX, ↓gFldX, ↓x_inXs, Bool.false_xor, Bool.true_xor, ↓gOrS, ↓x_fmtRS, ↓x_afRS, ↓x_afRI, ↓x_stO]
    rw [if_neg (by omega)]
    exact ⟨by decide, by decide, h1 (by omega)⟩
theorem r_Stretch_len (T : Txt K mg a) : ∀ ds S q, sp_Stretch_len a ds S q → g_Stretch_len K a { nx := fun _ S' => q .non S', rt := q } (startD N_Stretch_len ds) S := by
  rintro ds S q ⟨x, y, rfl, h1, h2, h⟩
  rw [st_Stretch_len]
  simp only [g_Stretch_len, pk_Stretch_first, px_Stretch_first, fg_Stretch_first, T.f_Stretch_first, pk_Stretch_behind, px_Stretch_behind, fg_Stretch_behind, T.f_Stretch_behind, ↓x_eqSS, ↓x_neSS, ↓gKGet, ↓x_kget, ↓x_ixE, at_last, ↓x_appE, ↓x_tyE, ↓x_itE, ↓x_lenE, ↓x_nePr, ↓x_eqPr, ↓x_neE, ↓x_lenr, ↓x_lenrI, ↓gRev, ↓x_par3, ↓x_par33, ↓x_fld, ↓x_fset, ↓x_mkF, ↓x_mk, ↓x_meth, ↓x_fldO, ↓x_fsetE, ↓x_fldE, ↓x_methO, ↓x_isiCO, ↓x_isiCN, ↓x_isiCT, ↓x_isiCLi, ↓x_isiCS, ↓x_isiCI, ↓x_own, ↓x_eqT2, ↓x_neT2, ↓x_neL4, ↓x_eqLN, ↓x_neNil, ↓x_gset, ↓x_lc, ↓x_for, ↓x_it, ↓x_rn1, ↓x_rn2, ↓x_enu, ↓x_zip, ↓x_itS, ↓x_itL, ↓x_itK, ↓x_itT, ↓x_rn1I, ↓x_rn2I, ↓x_enuL, ↓x_enuK, ↓x_zipL, ↓x_ixS0, ↓x_ixL, ↓x_ixT, ↓x_ixK, x_at0, x_at1, x_at2, x_at3, x_at4, ↓x_set00, ↓x_set01, ↓x_set02, ↓x_aug1, ↓x_aug2, ↓x_aug3, ↓x_aug4, ↓x_aug5, ↓x_aug6, ↓x_aug7, ↓x_aug8, ↓x_aug9, ↓x_aug10, ↓x_aug11, ↓x_aug12, ↓x_aug13, ↓x_aug14, ↓x_aug15, ↓x_aug16, ↓x_aug17, ↓x_aug18, ↓x_aug19, ↓x_aug20, ↓x_aug21, ↓x_aug22, ↓x_aug23, Int.reduceToNat, Int.reducePow, ↓gSeq, ↓gIfS, ↓gSet, ↓gAsg, ↓x_par, ↓x_par2, ↓gRet, ↓gRetN, ↓gNext, ↓gDrop, ↓gBreak, ↓gCont, ↓gDead, ↓gCB, ↓gB2, ↓gU, ↓gC, ↓Dl.gCons, ↓Dl.gNil, ↓Dl.gTup, ↓Dl.gLst, ↓gTest, ↓gOrB, ↓gAndB, ↓gNotB, ↓gAndV, ↓gOrV, ↓gNotV, ↓gIf, ↓gIx, ↓gSl, ↓gPart, ↓gNoP, ↓gMt, ↓gCall, ↓gArgs, ↓gIsN, ↓gNotN, ↓gChain, ↓x_fmtS, ↓x_afS, ↓x_afI, ↓x_js0, ↓x_jsc, ↓gJoined, ↓gYes, ↓x_bnm, ↓x_btp, ↓x_bn, ↓x_bc, ↓x_nnN, ↓x_nnI, ↓x_nnS, ↓x_nnB, ↓x_nnT, ↓x_nnL, ↓x_nnO, ↓x_nnl, ↓x_tyS, ↓x_tyL, ↓x_i2, ↓aSub, ↓aFdiv, ↓aMod, ↓aPow, ↓aShr, ↓aLt, ↓aLe, ↓aGt, ↓aGe, ↓x_addI, ↓x_addS, ↓x_mulI, ↓x_iaddS, ↓x_iaddI, ↓x_neg, ↓x_eqI, ↓x_neI, ↓x_eqS, ↓x_neS, ↓x_eqB, ↓x_neB, ↓x_eqNI, ↓x_neNI, ↓x_lenS, ↓x_lenL_l, ↓x_lenL_k, ↓x_lenL_t, ↓x_str, ↓x_intI, ↓x_intB, ↓x_divmod, ↓x_max2, ↓x_min2, ↓x_ixS, ↓x_slS, ↓x_slT, ↓x_slL_l, ↓x_slL_k, ↓x_inS, ↓x_newT, ↓x_newF, ↓x_si, ↓x_s1, ↓x_s0, ↓x_rpart, ↓x_part, ↓x_a1, ↓x_a2, ↓x_isiStr, ↓x_isiInt, ↓x_isiIntB, ↓x_isiIntS, ↓x_isiBB, ↓x_isiBI, ↓x_isiStrI, ↓x_isiNonI, ↓x_isiNonS, ↓x_isiT, ↓x_isiL, ↓x_var0, ↓x_varS, ↓x_ex, ↓x_aug0, gat, pick, Option.some.injEq, D.bl.injEq, D.int.injEq, D.str.injEq, D.tup.injEq, D.lst.injEq, List.cons.injEq, and_true, true_and, List.set_cons_zero, List.set_cons_succ, List.length_cons, List.length_nil, List.filterMap_cons, List.filterMap_nil, List.getElem?_cons_zero, List.getElem?_cons_succ, Option.bind_some, ↓reduceIte, if_true, if_false, Bool.false_eq_true, Bool.true_eq_false, decide_eq_true_eq, beq_self_eq_true, Bool.not_true, Bool.not_false, Bool.not_eq_true', decide_eq_false_iff_not, exists_eq_left', exists_eq_left, exists_eq, ↓x_dnT, ↓x_dnF, ↓gAsgL, ↓gMMDef, ↓gDSet, ↓gSItems, ↓gOrT, ↓gAndT, ↓gTryAs, ↓gTryO, ↓gRaise, ↓gCallX, ↓gMethX, ↓gMakeX, ↓gFldX, ↓x_inXs, Bool.false_xor, Bool.true_xor, ↓gOrS, ↓x_fmtRS, ↓x_afRS, ↓x_afRI, ↓x_stO]
  rw [show max 0 (y - x) = y - x by omega]
  exact ⟨by omega, h⟩
theorem r_Stretch_eq (T : Txt K mg a) : ∀ ds S q, sp_Stretch_eq a ds S q → g_Stretch_eq K a { nx := fun _ S' => q .non S', rt := q } (startD N_Stretch_eq ds) S := by
  rintro ds S q ⟨x, y, e, r, rfl, h, hq⟩
  rw [st_Stretch_eq]
  rcases h with ⟨u, v, rfl, rfl⟩ | ⟨⟨t, ht⟩, rfl⟩
  · simp only [g_Stretch_eq, ↓x_isiCO T.is_Stretch T.kc_Stretch_Stretch, pk_Stretch_first, px_Stretch_first, fg_Stretch_first, T.f_Stretch_first, pk_Stretch_behind, px_Stretch_behind, fg_Stretch_behind, T.f_Stretch_behind, ↓x_eqSS, ↓x_neSS, ↓gKGet, ↓x_kget, ↓x_ixE, at_last, ↓x_appE, ↓x_tyE, ↓x_itE, ↓x_lenE, ↓x_nePr, ↓x_eqPr, ↓x_neE, ↓x_lenr, ↓x_lenrI, ↓gRev, ↓x_par3, ↓x_par33, ↓x_fld, ↓x_fset, ↓x_mkF, ↓x_mk, ↓x_meth, ↓x_fldO, ↓x_fsetE, ↓x_fldE, ↓x_methO, ↓x_isiCO, ↓x_isiCN, ↓x_isiCT, ↓x_isiCLi, ↓x_isiCS, ↓x_isiCI, ↓x_own, ↓x_eqT2, ↓x_neT2, ↓x_neL4, ↓x_eqLN, ↓x_neNil, ↓x_gset, ↓x_lc, ↓x_for, ↓x_it, ↓x_rn1, ↓x_rn2, ↓x_enu, ↓x_zip, ↓x_itS, ↓x_itL, ↓x_itK, ↓x_itT, ↓x_rn1I, ↓x_rn2I, ↓x_enuL, ↓x_enuK, ↓x_zipL, ↓x_ixS0, ↓x_ixL, ↓x_ixT, ↓x_ixK, x_at0, x_at1, x_at2, x_at3, x_at4, ↓x_set00, ↓x_set01, ↓x_set02, ↓x_aug1, ↓x_aug2, ↓x_aug3, ↓x_aug4, ↓x_aug5, ↓x_aug6, ↓x_aug7, ↓x_aug8, ↓x_aug9, ↓x_aug10, ↓x_aug11, ↓x_aug12, ↓x_aug13, ↓x_aug14, ↓x_aug15, ↓x_aug16, ↓x_aug17, ↓x_aug18, ↓x_aug19, ↓x_aug20, ↓x_aug21, ↓x_aug22, ↓x_aug23, Int.reduceToNat, Int.reducePow, ↓gSeq, ↓gIfS, ↓gSet, ↓gAsg, ↓x_par, ↓x_par2, ↓gRet, ↓gRetN, ↓gNext, ↓gDrop, ↓gBreak, ↓gCont, ↓gDead, ↓gCB, ↓gB2, ↓gU, ↓gC, ↓Dl.gCons, ↓Dl.gNil, ↓Dl.gTup, ↓Dl.gLst, ↓gTest, ↓gOrB, ↓gAndB, ↓gNotB, ↓gAndV, ↓gOrV, ↓gNotV, ↓gIf, ↓gIx, ↓gSl, ↓gPart, ↓gNoP, ↓gMt, ↓gCall, ↓gArgs, ↓gIsN, ↓gNotN, ↓gChain, ↓x_fmtS, ↓x_afS, ↓x_afI, ↓x_js0, ↓x_jsc, ↓gJoined, ↓gYes, ↓x_bnm, ↓x_btp, ↓x_bn, ↓x_bc, ↓x_nnN, ↓x_nnI, ↓x_nnS, ↓x_nnB, ↓x_nnT, ↓x_nnL, ↓x_nnO, ↓x_nnl, ↓x_tyS, ↓x_tyL, ↓x_i2, ↓aSub, ↓aFdiv, ↓aMod, ↓aPow, ↓aShr, ↓aLt, ↓aLe, ↓aGt, ↓aGe, ↓x_addI, ↓x_addS, ↓x_mulI, ↓x_iaddS, ↓x_iaddI, ↓x_neg, ↓x_eqI, ↓x_neI, ↓x_eqS, ↓x_neS, ↓x_eqB, ↓x_neB, ↓x_eqNI, ↓x_neNI, ↓x_lenS, ↓x_lenL_l, ↓x_lenL_k, ↓x_lenL_t, ↓x_str, ↓x_intI, ↓x_intB, ↓x_divmod, ↓x_max2, ↓x_min2, ↓x_ixS, ↓x_slS, ↓x_slT, ↓x_slL_l, ↓x_slL_k, ↓x_inS, ↓x_newT, ↓x_newF, ↓x_si, ↓x_s1, ↓x_s0, ↓x_rpart, ↓x_part, ↓x_a1, ↓x_a2, ↓x_isiStr, ↓x_isiInt, ↓x_isiIntB, ↓x_isiIntS, ↓x_isiBB, ↓x_isiBI, ↓x_isiStrI, ↓x_isiNonI, ↓x_isiNonS, ↓x_isiT, ↓x_isiL, ↓x_var0, ↓x_varS, ↓x_ex, ↓x_aug0, gat, pick, Option.some.injEq, D.bl.injEq, D.int.injEq, D.str.injEq, D.tup.injEq, D.lst.injEq, List.cons.injEq, and_true, true_and, List.set_cons_zero, List.set_cons_succ, List.length_cons, List.length_nil, List.filterMap_cons, List.filterMap_nil, List.getElem?_cons_zero, List.getElem?_cons_succ, Option.bind_some, ↓reduceIte, if_true, if_false, Bool.false_eq_true, Bool.true_eq_false, decide_eq_true_eq, beq_self_eq_true, Bool.not_true, Bool.not_false, Bool.not_eq_true', decide_eq_false_iff_not, exists_eq_left', exists_eq_left, exists_eq, ↓x_dnT, ↓x_dnF, ↓gAsgL, ↓gMMDef, ↓gDSet, ↓gSItems, ↓gOrT, ↓gAndT, ↓gTryAs, ↓gTryO, ↓gRaise, ↓gCallX, ↓gMethX, ↓gMakeX, ↓gFldX, ↓x_inXs, Bool.false_xor, Bool.true_xor, ↓gOrS, ↓x_fmtRS, ↓x_afRS, ↓x_afRI, ↓x_stO]
    exact ⟨by decide, by decide, by simpa using hq⟩
  · simp only [g_Stretch_eq, ↓x_eqSS, ↓x_neSS, ↓gKGet, ↓x_kget, ↓x_ixE, at_last, ↓x_appE, ↓x_tyE, ↓x_itE, ↓x_lenE, ↓x_nePr, ↓x_eqPr, ↓x_neE, ↓x_lenr, ↓x_lenrI, ↓gRev, ↓x_par3, ↓x_par33, ↓x_fld, ↓x_fset, ↓x_mkF, ↓x_mk, ↓x_meth, ↓x_fldO, ↓x_fsetE, ↓x_fldE, ↓x_methO, ↓x_isiCO, ↓x_isiCN, ↓x_isiCT, ↓x_isiCLi, ↓x_isiCS, ↓x_isiCI, ↓x_own, ↓x_eqT2, ↓x_neT2, ↓x_neL4, ↓x_eqLN, ↓x_neNil, ↓x_gset, ↓x_lc, ↓x_for, ↓x_it, ↓x_rn1, ↓x_rn2, ↓x_enu, ↓x_zip, ↓x_itS, ↓x_itL, ↓x_itK, ↓x_itT, ↓x_rn1I, ↓x_rn2I, ↓x_enuL, ↓x_enuK, ↓x_zipL, ↓x_ixS0, ↓x_ixL, ↓x_ixT, ↓x_ixK, x_at0, x_at1, x_at2, x_at3, x_at4, ↓x_set00, ↓x_set01, ↓x_set02, ↓x_aug1, ↓x_aug2, ↓x_aug3, ↓x_aug4, ↓x_aug5, ↓x_aug6, ↓x_aug7, ↓x_aug8, ↓x_aug9, ↓x_aug10, ↓x_aug11, ↓x_aug12, ↓x_aug13, ↓x_aug14, ↓x_aug15, ↓x_aug16, ↓x_aug17, ↓x_aug18, ↓x_aug19, ↓x_aug20, ↓x_aug21, ↓x_aug22, ↓x_aug23, Int.reduceToNat, Int.reducePow, ↓gSeq, ↓gIfS, ↓gSet, ↓gAsg, ↓x_par, ↓x_par2, ↓gRet, ↓gRetN, ↓gNext, ↓gDrop, ↓gBreak, ↓gCont, ↓gDead, ↓gCB, ↓gB2, ↓gU, ↓gC, ↓Dl.gCons, ↓Dl.gNil, ↓Dl.gTup, ↓Dl.gLst, ↓gTest, ↓gOrB, ↓gAndB, ↓gNotB, ↓gAndV, ↓gOrV, ↓gNotV, ↓gIf, ↓gIx, ↓gSl, ↓gPart, ↓gNoP, ↓gMt, ↓gCall, ↓gArgs, ↓gIsN, ↓gNotN, ↓gChain, ↓x_fmtS, ↓x_afS, ↓x_afI, ↓x_js0, ↓x_jsc, ↓gJoined, ↓gYes, ↓x_bnm, ↓x_btp, ↓x_bn, ↓x_bc, ↓x_nnN, ↓x_nnI, ↓x_nnS, ↓x_nnB, ↓x_nnT, ↓x_nnL, ↓x_nnO, ↓x_nnl, ↓x_tyS, ↓x_tyL, ↓x_i2, ↓aSub, ↓aFdiv, ↓aMod, ↓aPow, ↓aShr, ↓aLt, ↓aLe, ↓aGt, ↓aGe, ↓x_addI, ↓x_addS, ↓x_mulI, ↓x_iaddS, ↓x_iaddI, ↓x_neg, ↓x_eqI, ↓x_neI, ↓x_eqS, ↓x_neS, ↓x_eqB, ↓x_neB, ↓x_eqNI, ↓x_neNI, ↓x_lenS, ↓x_lenL_l, ↓x_lenL_k, ↓x_lenL_t, ↓x_str, ↓x_intI, ↓x_intB, ↓x_divmod, ↓x_max2, ↓x_min2, ↓x_ixS, ↓x_slS, ↓x_slT, ↓x_slL_l, ↓x_slL_k, ↓x_inS, ↓x_newT, ↓x_newF, ↓x_si, ↓x_s1, ↓x_s0, ↓x_rpart, ↓x_part, ↓x_a1, ↓x_a2, ↓x_isiStr, ↓x_isiInt, ↓x_isiIntB, ↓x_isiIntS, ↓x_isiBB, ↓x_isiBI, ↓x_isiStrI, ↓x_isiNonI, ↓x_isiNonS, ↓x_isiT, ↓x_isiL, ↓x_var0, ↓x_varS, ↓x_ex, ↓x_aug0, gat, pick, Option.some.injEq, D.bl.injEq, D.int.injEq, D.str.injEq, D.tup.injEq, D.lst.injEq, List.cons.injEq, and_true, true_and, List.set_cons_zero, List.set_cons_succ, List.length_cons, List.length_nil, List.filterMap_cons, List.filterMap_nil, List.getElem?_cons_zero, List.getElem?_cons_succ, Option.bind_some, ↓reduceIte, if_true, if_false, Bool.false_eq_true, Bool.true_eq_false, decide_eq_true_eq, beq_self_eq_true, Bool.not_true, Bool.not_false, Bool.not_eq_true', decide_eq_false_iff_not, exists_eq_left', exists_eq_left, exists_eq, ↓x_dnT, ↓x_dnF, ↓gAsgL, ↓gMMDef, ↓gDSet, ↓gSItems, ↓gOrT, ↓gAndT, ↓gTryAs, ↓gTryO, ↓gRaise, ↓gCallX, ↓gMethX, ↓gMakeX, ↓gFldX, ↓x_inXs, Bool.false_xor, Bool.true_xor, ↓gOrS, ↓x_fmtRS, ↓x_afRS, ↓x_afRI, ↓x_stO]
    rw [x_isiCt (bk_ty ht) T.kb_Stretch]
    · refine ⟨false, rfl, ?_⟩
      rw [if_neg (by decide)]
      exact hq
    · exact bk_no ht
theorem r_Stretch_repr (T : Txt K mg a) : ∀ ds S q, sp_Stretch_repr a ds S q → g_Stretch_repr K a { nx := fun _ S' => q .non S', rt := q } (startD N_Stretch_repr ds) S := by
  rintro ds S q ⟨x, y, rfl, hx, hy, h⟩
  rw [st_Stretch_repr]
  have sx : (showI (x : Int)).length ≤ 10 := Mt.show_len10 (by omega) (by omega)
  have sy : (showI (y : Int)).length ≤ 10 := Mt.show_len10 (by omega) (by omega)
  have lx : (x : Int).natAbs.log2 < 1920 := Mt.log2_small (by omega) (by omega)
  have ly : (y : Int).natAbs.log2 < 1920 := Mt.log2_small (by omega) (by omega)
  have hz : 1000 ≤ sizeLine := by decide
  simp only [g_Stretch_repr, pk_Stretch_first, px_Stretch_first, fg_Stretch_first, T.f_Stretch_first, pk_Stretch_behind, px_Stretch_behind, fg_Stretch_behind, T.f_Stretch_behind, ↓x_eqSS, ↓x_neSS, ↓gKGet, ↓x_kget, ↓x_ixE, at_last, ↓x_appE, ↓x_tyE, ↓x_itE, ↓x_lenE, ↓x_nePr, ↓x_eqPr, ↓x_neE, ↓x_lenr, ↓x_lenrI, ↓gRev, ↓x_par3, ↓x_par33, ↓x_fld, ↓x_fset, ↓x_mkF, ↓x_mk, ↓x_meth, ↓x_fldO, ↓x_fsetE, ↓x_fldE, ↓x_methO, ↓x_isiCO, ↓x_isiCN, ↓x_isiCT, ↓x_isiCLi, ↓x_isiCS, ↓x_isiCI, ↓x_own, ↓x_eqT2, ↓x_neT2, ↓x_neL4, ↓x_eqLN, ↓x_neNil, ↓x_gset, ↓x_lc, ↓x_for, ↓x_it, ↓x_rn1, ↓x_rn2, ↓x_enu, ↓x_zip, ↓x_itS, ↓x_itL, ↓x_itK, ↓x_itT, ↓x_rn1I, ↓x_rn2I, ↓x_enuL, ↓x_enuK, ↓x_zipL, ↓x_ixS0, ↓x_ixL, ↓x_ixT, ↓x_ixK, x_at0, x_at1, x_at2, x_at3, x_at4, ↓x_set00, ↓x_set01, ↓x_set02, ↓x_aug1, ↓x_aug2, ↓x_aug3, ↓x_aug4, ↓x_aug5, ↓x_aug6, ↓x_aug7, ↓x_aug8, ↓x_aug9, ↓x_aug10, ↓x_aug11, ↓x_aug12, ↓x_aug13, ↓x_aug14, ↓x_aug15, ↓x_aug16, ↓x_aug17, ↓x_aug18, ↓x_aug19, ↓x_aug20, ↓x_aug21, ↓x_aug22, ↓x_aug23, Int.reduceToNat, Int.reducePow, ↓gSeq, ↓gIfS, ↓gSet, ↓gAsg, ↓x_par, ↓x_par2, ↓gRet, ↓gRetN, ↓gNext, ↓gDrop, ↓gBreak, ↓gCont, ↓gDead, ↓gCB, ↓gB2, ↓gU, ↓gC, ↓Dl.gCons, ↓Dl.gNil, ↓Dl.gTup, ↓Dl.gLst, ↓gTest, ↓gOrB, ↓gAndB, ↓gNotB, ↓gAndV, ↓gOrV, ↓gNotV, ↓gIf, ↓gIx, ↓gSl, ↓gPart, ↓gNoP, ↓gMt, ↓gCall, ↓gArgs, ↓gIsN, ↓gNotN, ↓gChain, ↓x_fmtS, ↓x_afS, ↓x_afI, ↓x_js0, ↓x_jsc, ↓gJoined, ↓gYes, ↓x_bnm, ↓x_btp, ↓x_bn, ↓x_bc, ↓x_nnN, ↓x_nnI, ↓x_nnS, ↓x_nnB, ↓x_nnT, ↓x_nnL, ↓x_nnO, ↓x_nnl, ↓x_tyS, ↓x_tyL, ↓x_i2, ↓aSub, ↓aFdiv, ↓aMod, ↓aPow, ↓aShr, ↓aLt, ↓aLe, ↓aGt, ↓aGe, ↓x_addI, ↓x_addS, ↓x_mulI, ↓x_iaddS, ↓x_iaddI, ↓x_neg, ↓x_eqI, ↓x_neI, ↓x_eqS, ↓x_neS, ↓x_eqB, ↓x_neB, ↓x_eqNI, ↓x_neNI, ↓x_lenS, ↓x_lenL_l, ↓x_lenL_k, ↓x_lenL_t, ↓x_str, ↓x_intI, ↓x_intB, ↓x_divmod, ↓x_max2, ↓x_min2, ↓x_ixS, ↓x_slS, ↓x_slT, ↓x_slL_l, ↓x_slL_k, ↓x_inS, ↓x_newT, ↓x_newF, ↓x_si, ↓x_s1, ↓x_s0, ↓x_rpart, ↓x_part, ↓x_a1, ↓x_a2, ↓x_isiStr, ↓x_isiInt, ↓x_isiIntB, ↓x_isiIntS, ↓x_isiBB, ↓x_isiBI, ↓x_isiStrI, ↓x_isiNonI, ↓x_isiNonS, ↓x_isiT, ↓x_isiL, ↓x_var0, ↓x_varS, ↓x_ex, ↓x_aug0, gat, pick, Option.some.injEq, D.bl.injEq, D.int.injEq, D.str.injEq, D.tup.injEq, D.lst.injEq, List.cons.injEq, and_true, true_and, List.set_cons_zero, List.set_cons_succ, List.length_cons, List.length_nil, List.filterMap_cons, List.filterMap_nil, List.getElem?_cons_zero, List.getElem?_cons_succ, Option.bind_some, ↓reduceIte, if_true, if_false, Bool.false_eq_true, Bool.true_eq_false, decide_eq_true_eq, beq_self_eq_true, Bool.not_true, Bool.not_false, Bool.not_eq_true', decide_eq_false_iff_not, exists_eq_left', exists_eq_left, exists_eq, ↓x_dnT, ↓x_dnF, ↓gAsgL, ↓gMMDef, ↓gDSet, ↓gSItems, ↓gOrT, ↓gAndT, ↓gTryAs, ↓gTryO, ↓gRaise, ↓gCallX, ↓gMethX, ↓gMakeX, ↓gFldX, ↓x_inXs, Bool.false_xor, Bool.true_xor, ↓gOrS, ↓x_fmtRS, ↓x_afRS, ↓x_afRI, ↓x_stO]
  simp only [emp_app, Mt.len_app]
  have l1 : (Str.ofString "Stretch(").length = 8 := by decide +kernel
  have l2 : (Str.ofString ", ").length = 2 := by decide +kernel
  have l3 : (Str.ofString ")").length = 1 := by decide +kernel
  exact ⟨by omega, lx, by omega, by omega, ly, by omega, by omega, h⟩
theorem T_len {w : Nat} (h : w < 10000000000) : (Mt.T w).length ≤ 16 := by
  unfold Mt.T
  split
  · exact (by decide : 5 ≤ 16)
  · have hs := Mt.show_len10 (i := ((w / 1440 : Nat) : Int)) (by omega) (by omega)
    rw [Mt.len_app, Mt.len_app]
    exact Nat.le_trans (Nat.add_le_add_left (Nat.add_le_add_left hs _) _) (show 5 + (1 + 10) ≤ 16 by decide)
theorem r_Stretch_str (T : Txt K mg a) : ∀ ds S q, sp_Stretch_str a ds S q → g_Stretch_str K a { nx := fun _ S' => q .non S', rt := q } (startD N_Stretch_str ds) S := by
  rintro ds S q ⟨x, y, rfl, hx, hy, h⟩
  rw [st_Stretch_str]
  simp only [g_Stretch_str, pk_Stretch_first, px_Stretch_first, fg_Stretch_first, T.f_Stretch_first, pk_Stretch_behind, px_Stretch_behind, fg_Stretch_behind, T.f_Stretch_behind, ↓x_eqSS, ↓x_neSS, ↓gKGet, ↓x_kget, ↓x_ixE, at_last, ↓x_appE, ↓x_tyE, ↓x_itE, ↓x_lenE, ↓x_nePr, ↓x_eqPr, ↓x_neE, ↓x_lenr, ↓x_lenrI, ↓gRev, ↓x_par3, ↓x_par33, ↓x_fld, ↓x_fset, ↓x_mkF, ↓x_mk, ↓x_meth, ↓x_fldO, ↓x_fsetE, ↓x_fldE, ↓x_methO, ↓x_isiCO, ↓x_isiCN, ↓x_isiCT, ↓x_isiCLi, ↓x_isiCS, ↓x_isiCI, ↓x_own, ↓x_eqT2, ↓x_neT2, ↓x_neL4, ↓x_eqLN, ↓x_neNil, ↓x_gset, ↓x_lc, ↓x_for, ↓x_it, ↓x_rn1, ↓x_rn2, ↓x_enu, ↓x_zip, ↓x_itS, ↓x_itL, ↓x_itK, ↓x_itT, ↓x_rn1I, ↓x_rn2I, ↓x_enuL, ↓x_enuK, ↓x_zipL, ↓x_ixS0, ↓x_ixL, ↓x_ixT, ↓x_ixK, x_at0, x_at1, x_at2, x_at3, x_at4, ↓x_set00, ↓x_set01, ↓x_set02, ↓x_aug1, ↓x_aug2, ↓x_aug3, ↓x_aug4, ↓x_aug5, ↓x_aug6, ↓x_aug7, ↓x_aug8, ↓x_aug9, ↓x_aug10, ↓x_aug11, ↓x_aug12, ↓x_aug13, ↓x_aug14, ↓x_aug15, ↓x_aug16, ↓x_aug17, ↓x_aug18, ↓x_aug19, ↓x_aug20, ↓x_aug21, ↓x_aug22, ↓x_aug23, Int.reduceToNat, Int.reducePow, ↓gSeq, ↓gIfS, ↓gSet, ↓gAsg, ↓x_par, ↓x_par2, ↓gRet, ↓gRetN, ↓gNext, ↓gDrop, ↓gBreak, ↓gCont, ↓gDead, ↓gCB, ↓gB2, ↓gU, ↓gC, ↓Dl.gCons, ↓Dl.gNil, ↓Dl.gTup, ↓Dl.gLst, ↓gTest, ↓gOrB, ↓gAndB, ↓gNotB, ↓gAndV, ↓gOrV, ↓gNotV, ↓gIf, ↓gIx, ↓gSl, ↓gPart, ↓gNoP, ↓gMt, ↓gCall, ↓gArgs, ↓gIsN, ↓gNotN, ↓gChain, ↓x_fmtS, ↓x_afS, ↓x_afI, ↓x_js0, ↓x_jsc, ↓gJoined, ↓gYes, ↓x_bnm, ↓x_btp, ↓x_bn, ↓x_bc, ↓x_nnN, ↓x_nnI, ↓x_nnS, ↓x_nnB, ↓x_nnT, ↓x_nnL, ↓x_nnO, ↓x_nnl, ↓x_tyS, ↓x_tyL, ↓x_i2, ↓aSub, ↓aFdiv, ↓aMod, ↓aPow, ↓aShr, ↓aLt, ↓aLe, ↓aGt, ↓aGe, ↓x_addI, ↓x_addS, ↓x_mulI, ↓x_iaddS, ↓x_iaddI, ↓x_neg, ↓x_eqI, ↓x_neI, ↓x_eqS, ↓x_neS, ↓x_eqB, ↓x_neB, ↓x_eqNI, ↓x_neNI, ↓x_lenS, ↓x_lenL_l, ↓x_lenL_k, ↓x_lenL_t, ↓x_str, ↓x_intI, ↓x_intB, ↓x_divmod, ↓x_max2, ↓x_min2, ↓x_ixS, ↓x_slS, ↓x_slT, ↓x_slL_l, ↓x_slL_k, ↓x_inS, ↓x_newT, ↓x_newF, ↓x_si, ↓x_s1, ↓x_s0, ↓x_rpart, ↓x_part, ↓x_a1, ↓x_a2, ↓x_isiStr, ↓x_isiInt, ↓x_isiIntB, ↓x_isiIntS, ↓x_isiBB, ↓x_isiBI, ↓x_isiStrI, ↓x_isiNonI, ↓x_isiNonS, ↓x_isiT, ↓x_isiL, ↓x_var0, ↓x_varS, ↓x_ex, ↓x_aug0, gat, pick, Option.some.injEq, D.bl.injEq, D.int.injEq, D.str.injEq, D.tup.injEq, D.lst.injEq, List.cons.injEq, and_true, true_and, List.set_cons_zero, List.set_cons_succ, List.length_cons, List.length_nil, List.filterMap_cons, List.filterMap_nil, List.getElem?_cons_zero, List.getElem?_cons_succ, Option.bind_some, ↓reduceIte, if_true, if_false, Bool.false_eq_true, Bool.true_eq_false, decide_eq_true_eq, beq_self_eq_true, Bool.not_true, Bool.not_false, Bool.not_eq_true', decide_eq_false_iff_not, exists_eq_left', exists_eq_left, exists_eq, ↓x_dnT, ↓x_dnF, ↓gAsgL, ↓gMMDef, ↓gDSet, ↓gSItems, ↓gOrT, ↓gAndT, ↓gTryAs, ↓gTryO, ↓gRaise, ↓gCallX, ↓gMethX, ↓gMakeX, ↓gFldX, ↓x_inXs, Bool.false_xor, Bool.true_xor, ↓gOrS, ↓x_fmtRS, ↓x_afRS, ↓x_afRI, ↓x_stO]
  have tx := T_len hx
  have ty := T_len hy
  have hz : 1000 ≤ sizeLine := by decide
  have l1 : (Str.ofString "-").length = 1 := by decide +kernel
  refine ⟨x, rfl, hx, by omega, _, rfl, ?_⟩
  simp only [emp_app, Mt.len_app]
  refine ⟨by omega, by omega, y, rfl, hy, by omega, _, rfl, ?_⟩
  exact ⟨by omega, h⟩
theorem rf__law_refused (T : Txt K mg a) : ∀ ds S q, D.unders S.length ds = true → Sto.under S.length S = true → sp__law_refused a ds S q → g__law_refused K a { nx := fun _ S' => fin S.length q .non S', rt := fin S.length q } (startD N__law_refused ds) S := by
  rintro ds S q hu hs ⟨x, y, rfl, hxy, h⟩
  rw [st__law_refused]
  simp only [g__law_refused, ↓x_eqSS, ↓x_neSS, ↓gKGet, ↓x_kget, ↓x_ixE, at_last, ↓x_appE, ↓x_tyE, ↓x_itE, ↓x_lenE, ↓x_nePr, ↓x_eqPr, ↓x_neE, ↓x_lenr, ↓x_lenrI, ↓gRev, ↓x_par3, ↓x_par33, ↓x_fld, ↓x_fset, ↓x_mkF, ↓x_mk, ↓x_meth, ↓x_fldO, ↓x_fsetE, ↓x_fldE, ↓x_methO, ↓x_isiCO, ↓x_isiCN, ↓x_isiCT, ↓x_isiCLi, ↓x_isiCS, ↓x_isiCI, ↓x_own, ↓x_eqT2, ↓x_neT2, ↓x_neL4, ↓x_eqLN, ↓x_neNil, ↓x_gset, ↓x_lc, ↓x_for, ↓x_it, ↓x_rn1, ↓x_rn2, ↓x_enu, ↓x_zip, ↓x_itS, ↓x_itL, ↓x_itK, ↓x_itT, ↓x_rn1I, ↓x_rn2I, ↓x_enuL, ↓x_enuK, ↓x_zipL, ↓x_ixS0, ↓x_ixL, ↓x_ixT, ↓x_ixK, x_at0, x_at1, x_at2, x_at3, x_at4, ↓x_set00, ↓x_set01, ↓x_set02, ↓x_aug1, ↓x_aug2, ↓x_aug3, ↓x_aug4, ↓x_aug5, ↓x_aug6, ↓x_aug7, ↓x_aug8, ↓x_aug9, ↓x_aug10, ↓x_aug11, ↓x_aug12, ↓x_aug13, ↓x_aug14, ↓x_aug15, ↓x_aug16, ↓x_aug17, ↓x_aug18, ↓x_aug19, ↓x_aug20, ↓x_aug21, ↓x_aug22, ↓x_aug23, Int.reduceToNat, Int.reducePow, ↓gSeq, ↓gIfS, ↓gSet, ↓gAsg, ↓x_par, ↓x_par2, ↓gRet, ↓gRetN, ↓gNext, ↓gDrop, ↓gBreak, ↓gCont, ↓gDead, ↓gCB, ↓gB2, ↓gU, ↓gC, ↓Dl.gCons, ↓Dl.gNil, ↓Dl.gTup, ↓Dl.gLst, ↓gTest, ↓gOrB, ↓gAndB, ↓gNotB, ↓gAndV, ↓gOrV, ↓gNotV, ↓gIf, ↓gIx, ↓gSl, ↓gPart, ↓gNoP, ↓gMt, ↓gCall, ↓gArgs, ↓gIsN, ↓gNotN, ↓gChain, ↓x_fmtS, ↓x_afS, ↓x_afI, ↓x_js0, ↓x_jsc, ↓gJoined, ↓gYes, ↓x_bnm, ↓x_btp, ↓x_bn, ↓x_bc, ↓x_nnN, ↓x_nnI, ↓x_nnS, ↓x_nnB, ↓x_nnT, ↓x_nnL, ↓x_nnO, ↓x_nnl, ↓x_tyS, ↓x_tyL, ↓x_i2, ↓aSub, ↓aFdiv, ↓aMod, ↓aPow, ↓aShr, ↓aLt, ↓aLe, ↓aGt, ↓aGe, ↓x_addI, ↓x_addS, ↓x_mulI, ↓x_iaddS, ↓x_iaddI, ↓x_neg, ↓x_eqI, ↓x_neI, ↓x_eqS, ↓x_neS, ↓x_eqB, ↓x_neB, ↓x_eqNI, ↓x_neNI, ↓x_lenS, ↓x_lenL_l, ↓x_lenL_k, ↓x_lenL_t, ↓x_str, ↓x_intI, ↓x_intB, ↓x_divmod, ↓x_max2, ↓x_min2, ↓x_ixS, ↓x_slS, ↓x_slT, ↓x_slL_l, ↓x_slL_k, ↓x_inS, ↓x_newT, ↓x_newF, ↓x_si, ↓x_s1, ↓x_s0, ↓x_rpart, ↓x_part, ↓x_a1, ↓x_a2, ↓x_isiStr, ↓x_isiInt, ↓x_isiIntB, ↓x_isiIntS, ↓x_isiBB, ↓x_isiBI, ↓x_isiStrI, ↓x_isiNonI, ↓x_isiNonS, ↓x_isiT, ↓x_isiL, ↓x_var0, ↓x_varS, ↓x_ex, ↓x_aug0, gat, pick, Option.some.injEq, D.bl.injEq, D.int.injEq, D.str.injEq, D.tup.injEq, D.lst.injEq, List.cons.injEq, and_true, true_and, List.set_cons_zero, List.set_cons_succ, List.length_cons, List.length_nil, List.filterMap_cons, List.filterMap_nil, List.getElem?_cons_zero, List.getElem?_cons_succ, Option.bind_some, ↓reduceIte, if_true, if_false, Bool.false_eq_true, Bool.true_eq_false, decide_eq_true_eq, beq_self_eq_true, Bool.not_true, Bool.not_false, Bool.not_eq_true', decide_eq_false_iff_not, exists_eq_left', exists_eq_left, exists_eq, ↓x_dnT, ↓x_dnF, ↓gAsgL, ↓gMMDef, ↓gDSet, ↓gSItems, ↓gOrT, ↓gAndT, ↓gTryAs, ↓gTryO, ↓gRaise, ↓gCallX, ↓gMethX, ↓gMakeX, ↓gFldX, ↓x_inXs, Bool.false_xor, Bool.true_xor, ↓gOrS, ↓x_fmtRS, ↓x_afRS, ↓x_afRI, ↓x_stO]
  intro _ _
  refine ⟨S, x, y, _, rfl, rfl, .inl rfl, fun z => absurd z (by omega), fun _ => ⟨true, T.xm_NoStretch_NoStretch, fun _ => ?_, fun z => nomatch z⟩⟩
  refine x_isX1 T.xL_NoStretch rfl T.xk_NoStretch_ArithmeticError ⟨true, rfl, ?_⟩
  rw [if_neg (by decide)]
  refine ⟨by decide, x_isXT T.xL_NoStretch ?_ ⟨false, rfl, ?_⟩⟩
  · intro c hc
    simp only [List.mem_cons, List.not_mem_nil, or_false] at hc
    rcases hc with rfl | rfl | rfl | rfl
    · exact ⟨_, rfl, T.xk_NoStretch_NoTime⟩
    · exact ⟨_, rfl, T.xk_NoStretch_NoBridge⟩
    · exact ⟨_, rfl, T.xk_NoStretch_Overload⟩
    · exact ⟨_, rfl, T.xk_NoStretch_NoWaits⟩
  rw [if_neg (by decide)]
  refine ⟨_, _, _, _, rfl, ⟨T.xL_NoStretch, T.xn_NoStretch_first⟩, rfl, _, _, _, _, rfl, ⟨T.xL_NoStretch, T.xn_NoStretch_behind⟩, rfl, by decide, (x_finT hs).mpr ⟨by simp [D.unders, D.under], h⟩⟩
theorem r__law_is (T : Txt K mg a) : ∀ ds S q, sp__law_is a ds S q → g__law_is K a { nx := fun _ S' => q .non S', rt := q } (startD N__law_is ds) S := by
  rintro ds S q ⟨x, y, rfl, hxy, hy, h⟩
  rw [st__law_is]
  simp only [g__law_is, pk_Stretch_first, px_Stretch_first, fg_Stretch_first, T.f_Stretch_first, pk_Stretch_behind, px_Stretch_behind, fg_Stretch_behind, T.f_Stretch_behind, ↓x_eqSS, ↓x_neSS, ↓gKGet, ↓x_kget, ↓x_ixE, at_last, ↓x_appE, ↓x_tyE, ↓x_itE, ↓x_lenE, ↓x_nePr, ↓x_eqPr, ↓x_neE, ↓x_lenr, ↓x_lenrI, ↓gRev, ↓x_par3, ↓x_par33, ↓x_fld, ↓x_fset, ↓x_mkF, ↓x_mk, ↓x_meth, ↓x_fldO, ↓x_fsetE, ↓x_fldE, ↓x_methO, ↓x_isiCO, ↓x_isiCN, ↓x_isiCT, ↓x_isiCLi, ↓x_isiCS, ↓x_isiCI, ↓x_own, ↓x_eqT2, ↓x_neT2, ↓x_neL4, ↓x_eqLN, ↓x_neNil, ↓x_gset, ↓x_lc, ↓x_for, ↓x_it, ↓x_rn1, ↓x_rn2, ↓x_enu, ↓x_zip, ↓x_itS, ↓x_itL, ↓x_itK, ↓x_itT, ↓x_rn1I, ↓x_rn2I, ↓x_enuL, ↓x_enuK, ↓x_zipL, ↓x_ixS0, ↓x_ixL, ↓x_ixT, ↓x_ixK, x_at0, x_at1, x_at2, x_at3, x_at4, ↓x_set00, ↓x_set01, ↓x_set02, ↓x_aug1, ↓x_aug2, ↓x_aug3, ↓x_aug4, ↓x_aug5, ↓x_aug6, ↓x_aug7, ↓x_aug8, ↓x_aug9, ↓x_aug10, ↓x_aug11, ↓x_aug12, ↓x_aug13, ↓x_aug14, ↓x_aug15, ↓x_aug16, ↓x_aug17, ↓x_aug18, ↓x_aug19, ↓x_aug20, ↓x_aug21, ↓x_aug22, ↓x_aug23, Int.reduceToNat, Int.reducePow, ↓gSeq, ↓gIfS, ↓gSet, ↓gAsg, ↓x_par, ↓x_par2, ↓gRet, ↓gRetN, ↓gNext, ↓gDrop, ↓gBreak, ↓gCont, ↓gDead, ↓gCB, ↓gB2, ↓gU, ↓gC, ↓Dl.gCons, ↓Dl.gNil, ↓Dl.gTup, ↓Dl.gLst, ↓gTest, ↓gOrB, ↓gAndB, ↓gNotB, ↓gAndV, ↓gOrV, ↓gNotV, ↓gIf, ↓gIx, ↓gSl, ↓gPart, ↓gNoP, ↓gMt, ↓gCall, ↓gArgs, ↓gIsN, ↓gNotN, ↓gChain, ↓x_fmtS, ↓x_afS, ↓x_afI, ↓x_js0, ↓x_jsc, ↓gJoined, ↓gYes, ↓x_bnm, ↓x_btp, ↓x_bn, ↓x_bc, ↓x_nnN, ↓x_nnI, ↓x_nnS, ↓x_nnB, ↓x_nnT, ↓x_nnL, ↓x_nnO, ↓x_nnl, ↓x_tyS, ↓x_tyL, ↓x_i2, ↓aSub, ↓aFdiv, ↓aMod, ↓aPow, ↓aShr, ↓aLt, ↓aLe, ↓aGt, ↓aGe, ↓x_addI, ↓x_addS, ↓x_mulI, ↓x_iaddS, ↓x_iaddI, ↓x_neg, ↓x_eqI, ↓x_neI, ↓x_eqS, ↓x_neS, ↓x_eqB, ↓x_neB, ↓x_eqNI, ↓x_neNI, ↓x_lenS, ↓x_lenL_l, ↓x_lenL_k, ↓x_lenL_t, ↓x_str, ↓x_intI, ↓x_intB, ↓x_divmod, ↓x_max2, ↓x_min2, ↓x_ixS, ↓x_slS, ↓x_slT, ↓x_slL_l, ↓x_slL_k, ↓x_inS, ↓x_newT, ↓x_newF, ↓x_si, ↓x_s1, ↓x_s0, ↓x_rpart, ↓x_part, ↓x_a1, ↓x_a2, ↓x_isiStr, ↓x_isiInt, ↓x_isiIntB, ↓x_isiIntS, ↓x_isiBB, ↓x_isiBI, ↓x_isiStrI, ↓x_isiNonI, ↓x_isiNonS, ↓x_isiT, ↓x_isiL, ↓x_var0, ↓x_varS, ↓x_ex, ↓x_aug0, gat, pick, Option.some.injEq, D.bl.injEq, D.int.injEq, D.str.injEq, D.tup.injEq, D.lst.injEq, List.cons.injEq, and_true, true_and, List.set_cons_zero, List.set_cons_succ, List.length_cons, List.length_nil, List.filterMap_cons, List.filterMap_nil, List.getElem?_cons_zero, List.getElem?_cons_succ, Option.bind_some, ↓reduceIte, if_true, if_false, Bool.false_eq_true, Bool.true_eq_false, decide_eq_true_eq, beq_self_eq_true, Bool.not_true, Bool.not_false, Bool.not_eq_true', decide_eq_false_iff_not, exists_eq_left', exists_eq_left, exists_eq, ↓x_dnT, ↓x_dnF, ↓gAsgL, ↓gMMDef, ↓gDSet, ↓gSItems, ↓gOrT, ↓gAndT, ↓gTryAs, ↓gTryO, ↓gRaise, ↓gCallX, ↓gMethX, ↓gMakeX, ↓gFldX, ↓x_inXs, Bool.false_xor, Bool.true_xor, ↓gOrS, ↓x_fmtRS, ↓x_afRS, ↓x_afRI, ↓x_stO]
  have tx := T_len (w := x) (by omega)
  have ty := T_len (w := y) (by omega)
  have sx : (showI (x : Int)).length ≤ 10 := Mt.show_len10 (by omega) (by omega)
  have sy : (showI (y : Int)).length ≤ 10 := Mt.show_len10 (by omega) (by omega)
  have lx : (x : Int).natAbs.log2 < 1920 := Mt.log2_small (by omega) (by omega)
  have ly : (y : Int).natAbs.log2 < 1920 := Mt.log2_small (by omega) (by omega)
  have hz : 1000 ≤ sizeLine := by decide
  have l1 : (Str.ofString "-").length = 1 := by decide +kernel
  refine ⟨_, rfl, true, rfl, ?_⟩
  rw [if_neg (by decide)]
  refine ⟨_, rfl, true, rfl, ?_⟩
  rw [if_neg (by decide)]
  refine ⟨by decide, by decide, ?_⟩
  rw [if_neg (fun z => z rfl)]
  refine ⟨⟨_, _, rfl⟩, _, _, rfl, by omega, by omega, _, rfl, by omega, by omega, ?_⟩
  simp only [↓x_eqSS, ↓x_neSS, ↓gKGet, ↓x_kget, ↓x_ixE, at_last, ↓x_appE, ↓x_tyE, ↓x_itE, ↓x_lenE, ↓x_nePr, ↓x_eqPr, ↓x_neE, ↓x_lenr, ↓x_lenrI, ↓gRev, ↓x_par3, ↓x_par33, ↓x_fld, ↓x_fset, ↓x_mkF, ↓x_mk, ↓x_meth, ↓x_fldO, ↓x_fsetE, ↓x_fldE, ↓x_methO, ↓x_isiCO, ↓x_isiCN, ↓x_isiCT, ↓x_isiCLi, ↓x_isiCS, ↓x_isiCI, ↓x_own, ↓x_eqT2, ↓x_neT2, ↓x_neL4, ↓x_eqLN, ↓x_neNil, ↓x_gset, ↓x_lc, ↓x_for, ↓x_it, ↓x_rn1, ↓x_rn2, ↓x_enu, ↓x_zip, ↓x_itS, ↓x_itL, ↓x_itK, ↓x_itT, ↓x_rn1I, ↓x_rn2I, ↓x_enuL, ↓x_enuK, ↓x_zipL, ↓x_ixS0, ↓x_ixL, ↓x_ixT, ↓x_ixK, x_at0, x_at1, x_at2, x_at3, x_at4, ↓x_set00, ↓x_set01, ↓x_set02, ↓x_aug1, ↓x_aug2, ↓x_aug3, ↓x_aug4, ↓x_aug5, ↓x_aug6, ↓x_aug7, ↓x_aug8, ↓x_aug9, ↓x_aug10, ↓x_aug11, ↓x_aug12, ↓x_aug13, ↓x_aug14, ↓x_aug15, ↓x_aug16, ↓x_aug17, ↓x_aug18, ↓x_aug19, ↓x_aug20, ↓x_aug21, ↓x_aug22, ↓x_aug23, Int.reduceToNat, Int.reducePow, ↓gSeq, ↓gIfS, ↓gSet, ↓gAsg, ↓x_par, ↓x_par2, ↓gRet, ↓gRetN, ↓gNext, ↓gDrop, ↓gBreak, ↓gCont, ↓gDead, ↓gCB, ↓gB2, ↓gU, ↓gC, ↓Dl.gCons, ↓Dl.gNil, ↓Dl.gTup, ↓Dl.gLst, ↓gTest, ↓gOrB, ↓gAndB, ↓gNotB, ↓gAndV, ↓gOrV, ↓gNotV, ↓gIf, ↓gIx, ↓gSl, ↓gPart, ↓gNoP, ↓gMt, ↓gCall, ↓gArgs, ↓gIsN, ↓gNotN, ↓gChain, ↓x_fmtS, ↓x_afS, ↓x_afI, ↓x_js0, ↓x_jsc, ↓gJoined, ↓gYes, ↓x_bnm, ↓x_btp, ↓x_bn, ↓x_bc, ↓x_nnN, ↓x_nnI, ↓x_nnS, ↓x_nnB, ↓x_nnT, ↓x_nnL, ↓x_nnO, ↓x_nnl, ↓x_tyS, ↓x_tyL, ↓x_i2, ↓aSub, ↓aFdiv, ↓aMod, ↓aPow, ↓aShr, ↓aLt, ↓aLe, ↓aGt, ↓aGe, ↓x_addI, ↓x_addS, ↓x_mulI, ↓x_iaddS, ↓x_iaddI, ↓x_neg, ↓x_eqI, ↓x_neI, ↓x_eqS, ↓x_neS, ↓x_eqB, ↓x_neB, ↓x_eqNI, ↓x_neNI, ↓x_lenS, ↓x_lenL_l, ↓x_lenL_k, ↓x_lenL_t, ↓x_str, ↓x_intI, ↓x_intB, ↓x_divmod, ↓x_max2, ↓x_min2, ↓x_ixS, ↓x_slS, ↓x_slT, ↓x_slL_l, ↓x_slL_k, ↓x_inS, ↓x_newT, ↓x_newF, ↓x_si, ↓x_s1, ↓x_s0, ↓x_rpart, ↓x_part, ↓x_a1, ↓x_a2, ↓x_isiStr, ↓x_isiInt, ↓x_isiIntB, ↓x_isiIntS, ↓x_isiBB, ↓x_isiBI, ↓x_isiStrI, ↓x_isiNonI, ↓x_isiNonS, ↓x_isiT, ↓x_isiL, ↓x_var0, ↓x_varS, ↓x_ex, ↓x_aug0, gat, pick, Option.some.injEq, D.bl.injEq, D.int.injEq, D.str.injEq, D.tup.injEq, D.lst.injEq, List.cons.injEq, and_true, true_and, List.set_cons_zero, List.set_cons_succ, List.length_cons, List.length_nil, List.filterMap_cons, List.filterMap_nil, List.getElem?_cons_zero, List.getElem?_cons_succ, Option.bind_some, ↓reduceIte, if_true, if_false, Bool.false_eq_true, Bool.true_eq_false, decide_eq_true_eq, beq_self_eq_true, Bool.not_true, Bool.not_false, Bool.not_eq_true', decide_eq_false_iff_not, exists_eq_left', exists_eq_left, exists_eq, ↓x_dnT, ↓x_dnF, ↓gAsgL, ↓gMMDef, ↓gDSet, ↓gSItems, ↓gOrT, ↓gAndT, ↓gTryAs, ↓gTryO, ↓gRaise, ↓gCallX, ↓gMethX, ↓gMakeX, ↓gFldX, ↓x_inXs, Bool.false_xor, Bool.true_xor, ↓gOrS, ↓x_fmtRS, ↓x_afRS, ↓x_afRI, ↓x_stO]
  rw [if_neg (fun z => z rfl)]
  refine ⟨⟨_, _, rfl⟩, _, _, rfl, by omega, by omega, _, rfl, by omega, by omega, ?_⟩
  have eb : (((y : Int) - (x : Int)) != 0) = decide ((x : Int) < (y : Int)) := by
    by_cases c : x < y
    · rw [decide_eq_true (by omega), bne_iff_ne]; omega
    · rw [decide_eq_false (by omega), bne_eq_false_iff_eq]; omega
  rw [eb]
  (try simp only [↓x_eqSS, ↓x_neSS, ↓gKGet, ↓x_kget, ↓x_ixE, at_last, ↓x_appE, ↓x_tyE, ↓x_itE, ↓x_lenE, ↓x_nePr, ↓x_eqPr, ↓x_neE, ↓x_lenr, ↓x_lenrI, ↓gRev, ↓x_par3, ↓x_par33, ↓x_fld, ↓x_fset, ↓x_mkF, ↓x_mk, ↓x_meth, ↓x_fldO, ↓x_fsetE, ↓x_fldE, ↓x_methO, ↓x_isiCO, ↓x_isiCN, ↓x_isiCT, ↓x_isiCLi, ↓x_isiCS, ↓x_isiCI, ↓x_own, ↓x_eqT2, ↓x_neT2, ↓x_neL4, ↓x_eqLN, ↓x_neNil, ↓x_gset, ↓x_lc, ↓x_for, ↓x_it, ↓x_rn1, ↓x_rn2, ↓x_enu, ↓x_zip, ↓x_itS, ↓x_itL, ↓x_itK, ↓x_itT, ↓x_rn1I, ↓x_rn2I, ↓x_enuL, ↓x_enuK, ↓x_zipL, ↓x_ixS0, ↓x_ixL, ↓x_ixT, ↓x_ixK, x_at0, x_at1, x_at2, x_at3, x_at4, ↓x_set00, ↓x_set01, ↓x_set02, ↓x_aug1, ↓x_aug2, ↓x_aug3, ↓x_aug4, ↓x_aug5, ↓x_aug6, ↓x_aug7, ↓x_aug8, ↓x_aug9, ↓x_aug10, ↓x_aug11, ↓x_aug12, ↓x_aug13, ↓x_aug14, ↓x_aug15, ↓x_aug16, ↓x_aug17, ↓x_aug18, ↓x_aug19, ↓x_aug20, ↓x_aug21, ↓x_aug22, ↓x_aug23, Int.reduceToNat, Int.reducePow, ↓gSeq, ↓gIfS, ↓gSet, ↓gAsg, ↓x_par, ↓x_par2, ↓gRet, ↓gRetN, ↓gNext, ↓gDrop, ↓gBreak, ↓gCont, ↓gDead, ↓gCB, ↓gB2, ↓gU, ↓gC, ↓Dl.gCons, ↓Dl.gNil, ↓Dl.gTup, ↓Dl.gLst, ↓gTest, ↓gOrB, ↓gAndB, ↓gNotB, ↓gAndV, ↓gOrV, ↓gNotV, ↓gIf, ↓gIx, ↓gSl, ↓gPart, ↓gNoP, ↓gMt, ↓gCall, ↓gArgs, ↓gIsN, ↓gNotN, ↓gChain, ↓x_fmtS, ↓x_afS, ↓x_afI, ↓x_js0, ↓x_jsc, ↓gJoined, ↓gYes, ↓x_bnm, ↓x_btp, ↓x_bn, ↓x_bc, ↓x_nnN, ↓x_nnI, ↓x_nnS, ↓x_nnB, ↓x_nnT, ↓x_nnL, ↓x_nnO, ↓x_nnl, ↓x_tyS, ↓x_tyL, ↓x_i2, ↓aSub, ↓aFdiv, ↓aMod, ↓aPow, ↓aShr, ↓aLt, ↓aLe, ↓aGt, ↓aGe, ↓x_addI, ↓x_addS, ↓x_mulI, ↓x_iaddS, ↓x_iaddI, ↓x_neg, ↓x_eqI, ↓x_neI, ↓x_eqS, ↓x_neS, ↓x_eqB, ↓x_neB, ↓x_eqNI, ↓x_neNI, ↓x_lenS, ↓x_lenL_l, ↓x_lenL_k, ↓x_lenL_t, ↓x_str, ↓x_intI, ↓x_intB, ↓x_divmod, ↓x_max2, ↓x_min2, ↓x_ixS, ↓x_slS, ↓x_slT, ↓x_slL_l, ↓x_slL_k, ↓x_inS, ↓x_newT, ↓x_newF, ↓x_si, ↓x_s1, ↓x_s0, ↓x_rpart, ↓x_part, ↓x_a1, ↓x_a2, ↓x_isiStr, ↓x_isiInt, ↓x_isiIntB, ↓x_isiIntS, ↓x_isiBB, ↓x_isiBI, ↓x_isiStrI, ↓x_isiNonI, ↓x_isiNonS, ↓x_isiT, ↓x_isiL, ↓x_var0, ↓x_varS, ↓x_ex, ↓x_aug0, gat, pick, Option.some.injEq, D.bl.injEq, D.int.injEq, D.str.injEq, D.tup.injEq, D.lst.injEq, List.cons.injEq, and_true, true_and, List.set_cons_zero, List.set_cons_succ, List.length_cons, List.length_nil, List.filterMap_cons, List.filterMap_nil, List.getElem?_cons_zero, List.getElem?_cons_succ, Option.bind_some, ↓reduceIte, if_true, if_false, Bool.false_eq_true, Bool.true_eq_false, decide_eq_true_eq, beq_self_eq_true, Bool.not_true, Bool.not_false, Bool.not_eq_true', decide_eq_false_iff_not, exists_eq_left', exists_eq_left, exists_eq, ↓x_dnT, ↓x_dnF, ↓gAsgL, ↓gMMDef, ↓gDSet, ↓gSItems, ↓gOrT, ↓gAndT, ↓gTryAs, ↓gTryO, ↓gRaise, ↓gCallX, ↓gMethX, ↓gMakeX, ↓gFldX, ↓x_inXs, Bool.false_xor, Bool.true_xor, ↓gOrS, ↓x_fmtRS, ↓x_afRS, ↓x_afRI, ↓x_stO])
  refine ⟨by decide, x, y, rfl, by omega, by omega, _, rfl, x, rfl, by omega, ?_⟩
  simp only [↓x_eqSS, ↓x_neSS, ↓gKGet, ↓x_kget, ↓x_ixE, at_last, ↓x_appE, ↓x_tyE, ↓x_itE, ↓x_lenE, ↓x_nePr, ↓x_eqPr, ↓x_neE, ↓x_lenr, ↓x_lenrI, ↓gRev, ↓x_par3, ↓x_par33, ↓x_fld, ↓x_fset, ↓x_mkF, ↓x_mk, ↓x_meth, ↓x_fldO, ↓x_fsetE, ↓x_fldE, ↓x_methO, ↓x_isiCO, ↓x_isiCN, ↓x_isiCT, ↓x_isiCLi, ↓x_isiCS, ↓x_isiCI, ↓x_own, ↓x_eqT2, ↓x_neT2, ↓x_neL4, ↓x_eqLN, ↓x_neNil, ↓x_gset, ↓x_lc, ↓x_for, ↓x_it, ↓x_rn1, ↓x_rn2, ↓x_enu, ↓x_zip, ↓x_itS, ↓x_itL, ↓x_itK, ↓x_itT, ↓x_rn1I, ↓x_rn2I, ↓x_enuL, ↓x_enuK, ↓x_zipL, ↓x_ixS0, ↓x_ixL, ↓x_ixT, ↓x_ixK, x_at0, x_at1, x_at2, x_at3, x_at4, ↓x_set00, ↓x_set01, ↓x_set02, ↓x_aug1, ↓x_aug2, ↓x_aug3, ↓x_aug4, ↓x_aug5, ↓x_aug6, ↓x_aug7, ↓x_aug8, ↓x_aug9, ↓x_aug10, ↓x_aug11, ↓x_aug12, ↓x_aug13, ↓x_aug14, ↓x_aug15, ↓x_aug16, ↓x_aug17, ↓x_aug18, ↓x_aug19, ↓x_aug20, ↓x_aug21, ↓x_aug22, ↓x_aug23, Int.reduceToNat, Int.reducePow, ↓gSeq, ↓gIfS, ↓gSet, ↓gAsg, ↓x_par, ↓x_par2, ↓gRet, ↓gRetN, ↓gNext, ↓gDrop, ↓gBreak, ↓gCont, ↓gDead, ↓gCB, ↓gB2, ↓gU, ↓gC, ↓Dl.gCons, ↓Dl.gNil, ↓Dl.gTup, ↓Dl.gLst, ↓gTest, ↓gOrB, ↓gAndB, ↓gNotB, ↓gAndV, ↓gOrV, ↓gNotV, ↓gIf, ↓gIx, ↓gSl, ↓gPart, ↓gNoP, ↓gMt, ↓gCall, ↓gArgs, ↓gIsN, ↓gNotN, ↓gChain, ↓x_fmtS, ↓x_afS, ↓x_afI, ↓x_js0, ↓x_jsc, ↓gJoined, ↓gYes, ↓x_bnm, ↓x_btp, ↓x_bn, ↓x_bc, ↓x_nnN, ↓x_nnI, ↓x_nnS, ↓x_nnB, ↓x_nnT, ↓x_nnL, ↓x_nnO, ↓x_nnl, ↓x_tyS, ↓x_tyL, ↓x_i2, ↓aSub, ↓aFdiv, ↓aMod, ↓aPow, ↓aShr, ↓aLt, ↓aLe, ↓aGt, ↓aGe, ↓x_addI, ↓x_addS, ↓x_mulI, ↓x_iaddS, ↓x_iaddI, ↓x_neg, ↓x_eqI, ↓x_neI, ↓x_eqS, ↓x_neS, ↓x_eqB, ↓x_neB, ↓x_eqNI, ↓x_neNI, ↓x_lenS, ↓x_lenL_l, ↓x_lenL_k, ↓x_lenL_t, ↓x_str, ↓x_intI, ↓x_intB, ↓x_divmod, ↓x_max2, ↓x_min2, ↓x_ixS, ↓x_slS, ↓x_slT, ↓x_slL_l, ↓x_slL_k, ↓x_inS, ↓x_newT, ↓x_newF, ↓x_si, ↓x_s1, ↓x_s0, ↓x_rpart, ↓x_part, ↓x_a1, ↓x_a2, ↓x_isiStr, ↓x_isiInt, ↓x_isiIntB, ↓x_isiIntS, ↓x_isiBB, ↓x_isiBI, ↓x_isiStrI, ↓x_isiNonI, ↓x_isiNonS, ↓x_isiT, ↓x_isiL, ↓x_var0, ↓x_varS, ↓x_ex, ↓x_aug0, gat, pick, Option.some.injEq, D.bl.injEq, D.int.injEq, D.str.injEq, D.tup.injEq, D.lst.injEq, List.cons.injEq, and_true, true_and, List.set_cons_zero, List.set_cons_succ, List.length_cons, List.length_nil, List.filterMap_cons, List.filterMap_nil, List.getElem?_cons_zero, List.getElem?_cons_succ, Option.bind_some, ↓reduceIte, if_true, if_false, Bool.false_eq_true, Bool.true_eq_false, decide_eq_true_eq, beq_self_eq_true, Bool.not_true, Bool.not_false, Bool.not_eq_true', decide_eq_false_iff_not, exists_eq_left', exists_eq_left, exists_eq, ↓x_dnT, ↓x_dnF, ↓gAsgL, ↓gMMDef, ↓gDSet, ↓gSItems, ↓gOrT, ↓gAndT, ↓gTryAs, ↓gTryO, ↓gRaise, ↓gCallX, ↓gMethX, ↓gMakeX, ↓gFldX, ↓x_inXs, Bool.false_xor, Bool.true_xor, ↓gOrS, ↓x_fmtRS, ↓x_afRS, ↓x_afRI, ↓x_stO]
  refine ⟨by omega, y, rfl, by omega, ?_⟩
  simp only [↓x_eqSS, ↓x_neSS, ↓gKGet, ↓x_kget, ↓x_ixE, at_last, ↓x_appE, ↓x_tyE, ↓x_itE, ↓x_lenE, ↓x_nePr, ↓x_eqPr, ↓x_neE, ↓x_lenr, ↓x_lenrI, ↓gRev, ↓x_par3, ↓x_par33, ↓x_fld, ↓x_fset, ↓x_mkF, ↓x_mk, ↓x_meth, ↓x_fldO, ↓x_fsetE, ↓x_fldE, ↓x_methO, ↓x_isiCO, ↓x_isiCN, ↓x_isiCT, ↓x_isiCLi, ↓x_isiCS, ↓x_isiCI, ↓x_own, ↓x_eqT2, ↓x_neT2, ↓x_neL4, ↓x_eqLN, ↓x_neNil, ↓x_gset, ↓x_lc, ↓x_for, ↓x_it, ↓x_rn1, ↓x_rn2, ↓x_enu, ↓x_zip, ↓x_itS, ↓x_itL, ↓x_itK, ↓x_itT, ↓x_rn1I, ↓x_rn2I, ↓x_enuL, ↓x_enuK, ↓x_zipL, ↓x_ixS0, ↓x_ixL, ↓x_ixT, ↓x_ixK, x_at0, x_at1, x_at2, x_at3, x_at4, ↓x_set00, ↓x_set01, ↓x_set02, ↓x_aug1, ↓x_aug2, ↓x_aug3, ↓x_aug4, ↓x_aug5, ↓x_aug6, ↓x_aug7, ↓x_aug8, ↓x_aug9, ↓x_aug10, ↓x_aug11, ↓x_aug12, ↓x_aug13, ↓x_aug14, ↓x_aug15, ↓x_aug16, ↓x_aug17, ↓x_aug18, ↓x_aug19, ↓x_aug20, ↓x_aug21, ↓x_aug22, ↓x_aug23, Int.reduceToNat, Int.reducePow, ↓gSeq, ↓gIfS, ↓gSet, ↓gAsg, ↓x_par, ↓x_par2, ↓gRet, ↓gRetN, ↓gNext, ↓gDrop, ↓gBreak, ↓gCont, ↓gDead, ↓gCB, ↓gB2, ↓gU, ↓gC, ↓Dl.gCons, ↓Dl.gNil, ↓Dl.gTup, ↓Dl.gLst, ↓gTest, ↓gOrB, ↓gAndB, ↓gNotB, ↓gAndV, ↓gOrV, ↓gNotV, ↓gIf, ↓gIx, ↓gSl, ↓gPart, ↓gNoP, ↓gMt, ↓gCall, ↓gArgs, ↓gIsN, ↓gNotN, ↓gChain, ↓x_fmtS, ↓x_afS, ↓x_afI, ↓x_js0, ↓x_jsc, ↓gJoined, ↓gYes, ↓x_bnm, ↓x_btp, ↓x_bn, ↓x_bc, ↓x_nnN, ↓x_nnI, ↓x_nnS, ↓x_nnB, ↓x_nnT, ↓x_nnL, ↓x_nnO, ↓x_nnl, ↓x_tyS, ↓x_tyL, ↓x_i2, ↓aSub, ↓aFdiv, ↓aMod, ↓aPow, ↓aShr, ↓aLt, ↓aLe, ↓aGt, ↓aGe, ↓x_addI, ↓x_addS, ↓x_mulI, ↓x_iaddS, ↓x_iaddI, ↓x_neg, ↓x_eqI, ↓x_neI, ↓x_eqS, ↓x_neS, ↓x_eqB, ↓x_neB, ↓x_eqNI, ↓x_neNI, ↓x_lenS, ↓x_lenL_l, ↓x_lenL_k, ↓x_lenL_t, ↓x_str, ↓x_intI, ↓x_intB, ↓x_divmod, ↓x_max2, ↓x_min2, ↓x_ixS, ↓x_slS, ↓x_slT, ↓x_slL_l, ↓x_slL_k, ↓x_inS, ↓x_newT, ↓x_newF, ↓x_si, ↓x_s1, ↓x_s0, ↓x_rpart, ↓x_part, ↓x_a1, ↓x_a2, ↓x_isiStr, ↓x_isiInt, ↓x_isiIntB, ↓x_isiIntS, ↓x_isiBB, ↓x_isiBI, ↓x_isiStrI, ↓x_isiNonI, ↓x_isiNonS, ↓x_isiT, ↓x_isiL, ↓x_var0, ↓x_varS, ↓x_ex, ↓x_aug0, gat, pick, Option.some.injEq, D.bl.injEq, D.int.injEq, D.str.injEq, D.tup.injEq, D.lst.injEq, List.cons.injEq, and_true, true_and, List.set_cons_zero, List.set_cons_succ, List.length_cons, List.length_nil, List.filterMap_cons, List.filterMap_nil, List.getElem?_cons_zero, List.getElem?_cons_succ, Option.bind_some, ↓reduceIte, if_true, if_false, Bool.false_eq_true, Bool.true_eq_false, decide_eq_true_eq, beq_self_eq_true, Bool.not_true, Bool.not_false, Bool.not_eq_true', decide_eq_false_iff_not, exists_eq_left', exists_eq_left, exists_eq, ↓x_dnT, ↓x_dnF, ↓gAsgL, ↓gMMDef, ↓gDSet, ↓gSItems, ↓gOrT, ↓gAndT, ↓gTryAs, ↓gTryO, ↓gRaise, ↓gCallX, ↓gMethX, ↓gMakeX, ↓gFldX, ↓x_inXs, Bool.false_xor, Bool.true_xor, ↓gOrS, ↓x_fmtRS, ↓x_afRS, ↓x_afRI, ↓x_stO]
  simp only [Mt.len_app]
  have ok : PyData.strOk (sStr x y) = true := Mt.ok_app (Mt.ok_app (Mt.T_sOk (by omega)).2 (by decide +kernel)) (Mt.T_sOk (by omega)).2
  refine ⟨by omega, ok, ok, ?_⟩
  rw [if_neg (fun z => z rfl)]
  have m1 : (Str.ofString "Stretch(").length = 8 := by decide +kernel
  have m2 : (Str.ofString ", ").length = 2 := by decide +kernel
  have m3 : (Str.ofString ")").length = 1 := by decide +kernel
  refine ⟨by decide, x, y, rfl, by omega, by omega, _, rfl, lx, by omega, by omega, ly, by omega, by omega, ?_⟩
  have e : sRep x y = Str.ofString "Stretch(" ++ showI x ++ Str.ofString ", " ++ showI y ++ Str.ofString ")" := rfl
  rw [decide_eq_true e]
  exact h
theorem r__law_pair : ∀ ds S q, sp__law_pair a ds S q → g__law_pair K a { nx := fun _ S' => q .non S', rt := q } (startD N__law_pair ds) S := by
  rintro ds S q ⟨o, R0, B, rfl, rfl, ht, hb, h⟩
  rw [st__law_pair]
  simp only [g__law_pair, ↓x_eqSS, ↓x_neSS, ↓gKGet, ↓x_kget, ↓x_ixE, at_last, ↓x_appE, ↓x_tyE, ↓x_itE, ↓x_lenE, ↓x_nePr, ↓x_eqPr, ↓x_neE, ↓x_lenr, ↓x_lenrI, ↓gRev, ↓x_par3, ↓x_par33, ↓x_fld, ↓x_fset, ↓x_mkF, ↓x_mk, ↓x_meth, ↓x_fldO, ↓x_fsetE, ↓x_fldE, ↓x_methO, ↓x_isiCO, ↓x_isiCN, ↓x_isiCT, ↓x_isiCLi, ↓x_isiCS, ↓x_isiCI, ↓x_own, ↓x_eqT2, ↓x_neT2, ↓x_neL4, ↓x_eqLN, ↓x_neNil, ↓x_gset, ↓x_lc, ↓x_for, ↓x_it, ↓x_rn1, ↓x_rn2, ↓x_enu, ↓x_zip, ↓x_itS, ↓x_itL, ↓x_itK, ↓x_itT, ↓x_rn1I, ↓x_rn2I, ↓x_enuL, ↓x_enuK, ↓x_zipL, ↓x_ixS0, ↓x_ixL, ↓x_ixT, ↓x_ixK, x_at0, x_at1, x_at2, x_at3, x_at4, ↓x_set00, ↓x_set01, ↓x_set02, ↓x_aug1, ↓x_aug2, ↓x_aug3, ↓x_aug4, ↓x_aug5, ↓x_aug6, ↓x_aug7, ↓x_aug8, ↓x_aug9, ↓x_aug10, ↓x_aug11, ↓x_aug12, ↓x_aug13, ↓x_aug14, ↓x_aug15, ↓x_aug16, ↓x_aug17, ↓x_aug18, ↓x_aug19, ↓x_aug20, ↓x_aug21, ↓x_aug22, ↓x_aug23, Int.reduceToNat, Int.reducePow, ↓gSeq, ↓gIfS, ↓gSet, ↓gAsg, ↓x_par, ↓x_par2, ↓gRet, ↓gRetN, ↓gNext, ↓gDrop, ↓gBreak, ↓gCont, ↓gDead, ↓gCB, ↓gB2, ↓gU, ↓gC, ↓Dl.gCons, ↓Dl.gNil, ↓Dl.gTup, ↓Dl.gLst, ↓gTest, ↓gOrB, ↓gAndB, ↓gNotB, ↓gAndV, ↓gOrV, ↓gNotV, ↓gIf, ↓gIx, ↓gSl, ↓gPart, ↓gNoP, ↓gMt, ↓gCall, ↓gArgs, ↓gIsN, ↓gNotN, ↓gChain, ↓x_fmtS, ↓x_afS, ↓x_afI, ↓x_js0, ↓x_jsc, ↓gJoined, ↓gYes, ↓x_bnm, ↓x_btp, ↓x_bn, ↓x_bc, ↓x_nnN, ↓x_nnI, ↓x_nnS, ↓x_nnB, ↓x_nnT, ↓x_nnL, ↓x_nnO, ↓x_nnl, ↓x_tyS, ↓x_tyL, ↓x_i2, ↓aSub, ↓aFdiv, ↓aMod, ↓aPow, ↓aShr, ↓aLt, ↓aLe, ↓aGt, ↓aGe, ↓x_addI, ↓x_addS, ↓x_mulI, ↓x_iaddS, ↓x_iaddI, ↓x_neg, ↓x_eqI, ↓x_neI, ↓x_eqS, ↓x_neS, ↓x_eqB, ↓x_neB, ↓x_eqNI, ↓x_neNI, ↓x_lenS, ↓x_lenL_l, ↓x_lenL_k, ↓x_lenL_t, ↓x_str, ↓x_intI, ↓x_intB, ↓x_divmod, ↓x_max2, ↓x_min2, ↓x_ixS, ↓x_slS, ↓x_slT, ↓x_slL_l, ↓x_slL_k, ↓x_inS, ↓x_newT, ↓x_newF, ↓x_si, ↓x_s1, ↓x_s0, ↓x_rpart, ↓x_part, ↓x_a1, ↓x_a2, ↓x_isiStr, ↓x_isiInt, ↓x_isiIntB, ↓x_isiIntS, ↓x_isiBB, ↓x_isiBI, ↓x_isiStrI, ↓x_isiNonI, ↓x_isiNonS, ↓x_isiT, ↓x_isiL, ↓x_var0, ↓x_varS, ↓x_ex, ↓x_aug0, gat, pick, Option.some.injEq, D.bl.injEq, D.int.injEq, D.str.injEq, D.tup.injEq, D.lst.injEq, List.cons.injEq, and_true, true_and, List.set_cons_zero, List.set_cons_succ, List.length_cons, List.length_nil, List.filterMap_cons, List.filterMap_nil, List.getElem?_cons_zero, List.getElem?_cons_succ, Option.bind_some, ↓reduceIte, if_true, if_false, Bool.false_eq_true, Bool.true_eq_false, decide_eq_true_eq, beq_self_eq_true, Bool.not_true, Bool.not_false, Bool.not_eq_true', decide_eq_false_iff_not, exists_eq_left', exists_eq_left, exists_eq, ↓x_dnT, ↓x_dnF, ↓gAsgL, ↓gMMDef, ↓gDSet, ↓gSItems, ↓gOrT, ↓gAndT, ↓gTryAs, ↓gTryO, ↓gRaise, ↓gCallX, ↓gMethX, ↓gMakeX, ↓gFldX, ↓x_inXs, Bool.false_xor, Bool.true_xor, ↓gOrS, ↓x_fmtRS, ↓x_afRS, ↓x_afRI, ↓x_stO]
  have t15 := Mt.ten15
  have hz : 1000 ≤ sizeLine := by decide
  refine ⟨by unfold CPow; decide +kernel, by unfold CPow; decide +kernel, mulOk_l (by decide) (by decide), by decide, Mt.pick_in (by simp) (by simp) ht (by omega) fun e o1 he ht1 => ?_⟩
  obtain ⟨f, rfl, f0, f1⟩ : ∃ f : Int, e = .int f ∧ 0 < f ∧ f ≤ 400000000 := by
    simp only [List.mem_cons, List.not_mem_nil, or_false] at he
    rcases he with rfl | rfl | rfl | rfl <;> exact ⟨_, rfl, by decide, by decide⟩
  refine Mt.draw_in f0 (by omega) ht1 (by omega) fun x o2 x0 x1 ht2 => Mt.draw_in f0 (by omega) ht2 (by omega) fun z o3 z0 z1 ht3 => ?_
  simp only [↓x_eqSS, ↓x_neSS, ↓gKGet, ↓x_kget, ↓x_ixE, at_last, ↓x_appE, ↓x_tyE, ↓x_itE, ↓x_lenE, ↓x_nePr, ↓x_eqPr, ↓x_neE, ↓x_lenr, ↓x_lenrI, ↓gRev, ↓x_par3, ↓x_par33, ↓x_fld, ↓x_fset, ↓x_mkF, ↓x_mk, ↓x_meth, ↓x_fldO, ↓x_fsetE, ↓x_fldE, ↓x_methO, ↓x_isiCO, ↓x_isiCN, ↓x_isiCT, ↓x_isiCLi, ↓x_isiCS, ↓x_isiCI, ↓x_own, ↓x_eqT2, ↓x_neT2, ↓x_neL4, ↓x_eqLN, ↓x_neNil, ↓x_gset, ↓x_lc, ↓x_for, ↓x_it, ↓x_rn1, ↓x_rn2, ↓x_enu, ↓x_zip, ↓x_itS, ↓x_itL, ↓x_itK, ↓x_itT, ↓x_rn1I, ↓x_rn2I, ↓x_enuL, ↓x_enuK, ↓x_zipL, ↓x_ixS0, ↓x_ixL, ↓x_ixT, ↓x_ixK, x_at0, x_at1, x_at2, x_at3, x_at4, ↓x_set00, ↓x_set01, ↓x_set02, ↓x_aug1, ↓x_aug2, ↓x_aug3, ↓x_aug4, ↓x_aug5, ↓x_aug6, ↓x_aug7, ↓x_aug8, ↓x_aug9, ↓x_aug10, ↓x_aug11, ↓x_aug12, ↓x_aug13, ↓x_aug14, ↓x_aug15, ↓x_aug16, ↓x_aug17, ↓x_aug18, ↓x_aug19, ↓x_aug20, ↓x_aug21, ↓x_aug22, ↓x_aug23, Int.reduceToNat, Int.reducePow, ↓gSeq, ↓gIfS, ↓gSet, ↓gAsg, ↓x_par, ↓x_par2, ↓gRet, ↓gRetN, ↓gNext, ↓gDrop, ↓gBreak, ↓gCont, ↓gDead, ↓gCB, ↓gB2, ↓gU, ↓gC, ↓Dl.gCons, ↓Dl.gNil, ↓Dl.gTup, ↓Dl.gLst, ↓gTest, ↓gOrB, ↓gAndB, ↓gNotB, ↓gAndV, ↓gOrV, ↓gNotV, ↓gIf, ↓gIx, ↓gSl, ↓gPart, ↓gNoP, ↓gMt, ↓gCall, ↓gArgs, ↓gIsN, ↓gNotN, ↓gChain, ↓x_fmtS, ↓x_afS, ↓x_afI, ↓x_js0, ↓x_jsc, ↓gJoined, ↓gYes, ↓x_bnm, ↓x_btp, ↓x_bn, ↓x_bc, ↓x_nnN, ↓x_nnI, ↓x_nnS, ↓x_nnB, ↓x_nnT, ↓x_nnL, ↓x_nnO, ↓x_nnl, ↓x_tyS, ↓x_tyL, ↓x_i2, ↓aSub, ↓aFdiv, ↓aMod, ↓aPow, ↓aShr, ↓aLt, ↓aLe, ↓aGt, ↓aGe, ↓x_addI, ↓x_addS, ↓x_mulI, ↓x_iaddS, ↓x_iaddI, ↓x_neg, ↓x_eqI, ↓x_neI, ↓x_eqS, ↓x_neS, ↓x_eqB, ↓x_neB, ↓x_eqNI, ↓x_neNI, ↓x_lenS, ↓x_lenL_l, ↓x_lenL_k, ↓x_lenL_t, ↓x_str, ↓x_intI, ↓x_intB, ↓x_divmod, ↓x_max2, ↓x_min2, ↓x_ixS, ↓x_slS, ↓x_slT, ↓x_slL_l, ↓x_slL_k, ↓x_inS, ↓x_newT, ↓x_newF, ↓x_si, ↓x_s1, ↓x_s0, ↓x_rpart, ↓x_part, ↓x_a1, ↓x_a2, ↓x_isiStr, ↓x_isiInt, ↓x_isiIntB, ↓x_isiIntS, ↓x_isiBB, ↓x_isiBI, ↓x_isiStrI, ↓x_isiNonI, ↓x_isiNonS, ↓x_isiT, ↓x_isiL, ↓x_var0, ↓x_varS, ↓x_ex, ↓x_aug0, gat, pick, Option.some.injEq, D.bl.injEq, D.int.injEq, D.str.injEq, D.tup.injEq, D.lst.injEq, List.cons.injEq, and_true, true_and, List.set_cons_zero, List.set_cons_succ, List.length_cons, List.length_nil, List.filterMap_cons, List.filterMap_nil, List.getElem?_cons_zero, List.getElem?_cons_succ, Option.bind_some, ↓reduceIte, if_true, if_false, Bool.false_eq_true, Bool.true_eq_false, decide_eq_true_eq, beq_self_eq_true, Bool.not_true, Bool.not_false, Bool.not_eq_true', decide_eq_false_iff_not, exists_eq_left', exists_eq_left, exists_eq, ↓x_dnT, ↓x_dnF, ↓gAsgL, ↓gMMDef, ↓gDSet, ↓gSItems, ↓gOrT, ↓gAndT, ↓gTryAs, ↓gTryO, ↓gRaise, ↓gCallX, ↓gMethX, ↓gMakeX, ↓gFldX, ↓x_inXs, Bool.false_xor, Bool.true_xor, ↓gOrS, ↓x_fmtRS, ↓x_afRS, ↓x_afRI, ↓x_stO]
  refine Mt.draw_in (by decide) (by decide) ht3 (by omega) fun v o4 v0 v1 ht4 => ⟨by decide, Mt.pick_in (by simp) (by simp) ht4 (by omega) fun e o5 he ht5 => ?_⟩
  obtain ⟨g, rfl, g0, g1⟩ : ∃ g : Int, e = .int g ∧ 0 ≤ g ∧ g ≤ 400000000 := by
    simp only [List.mem_cons, List.not_mem_nil, or_false] at he
    rcases he with rfl | rfl | rfl | rfl | rfl
    · exact ⟨_, rfl, by decide, by decide⟩
    · exact ⟨_, rfl, by decide, by decide⟩
    · exact ⟨_, rfl, by omega, by omega⟩
    · exact ⟨_, rfl, by decide, by decide⟩
    · exact ⟨_, rfl, by omega, by omega⟩
  simp only [↓x_eqSS, ↓x_neSS, ↓gKGet, ↓x_kget, ↓x_ixE, at_last, ↓x_appE, ↓x_tyE, ↓x_itE, ↓x_lenE, ↓x_nePr, ↓x_eqPr, ↓x_neE, ↓x_lenr, ↓x_lenrI, ↓gRev, ↓x_par3, ↓x_par33, ↓x_fld, ↓x_fset, ↓x_mkF, ↓x_mk, ↓x_meth, ↓x_fldO, ↓x_fsetE, ↓x_fldE, ↓x_methO, ↓x_isiCO, ↓x_isiCN, ↓x_isiCT, ↓x_isiCLi, ↓x_isiCS, ↓x_isiCI, ↓x_own, ↓x_eqT2, ↓x_neT2, ↓x_neL4, ↓x_eqLN, ↓x_neNil, ↓x_gset, ↓x_lc, ↓x_for, ↓x_it, ↓x_rn1, ↓x_rn2, ↓x_enu, ↓x_zip, ↓x_itS, ↓x_itL, ↓x_itK, ↓x_itT, ↓x_rn1I, ↓x_rn2I, ↓x_enuL, ↓x_enuK, ↓x_zipL, ↓x_ixS0, ↓x_ixL, ↓x_ixT, ↓x_ixK, x_at0, x_at1, x_at2, x_at3, x_at4, ↓x_set00, ↓x_set01, ↓x_set02, ↓x_aug1, ↓x_aug2, ↓x_aug3, ↓x_aug4, ↓x_aug5, ↓x_aug6, ↓x_aug7, ↓x_aug8, ↓x_aug9, ↓x_aug10, ↓x_aug11, ↓x_aug12, ↓x_aug13, ↓x_aug14, ↓x_aug15, ↓x_aug16, ↓x_aug17, ↓x_aug18, ↓x_aug19, ↓x_aug20, ↓x_aug21, ↓x_aug22, ↓x_aug23, Int.reduceToNat, Int.reducePow, ↓gSeq, ↓gIfS, ↓gSet, ↓gAsg, ↓x_par, ↓x_par2, ↓gRet, ↓gRetN, ↓gNext, ↓gDrop, ↓gBreak, ↓gCont, ↓gDead, ↓gCB, ↓gB2, ↓gU, ↓gC, ↓Dl.gCons, ↓Dl.gNil, ↓Dl.gTup, ↓Dl.gLst, ↓gTest, ↓gOrB, ↓gAndB, ↓gNotB, ↓gAndV, ↓gOrV, ↓gNotV, ↓gIf, ↓gIx, ↓gSl, ↓gPart, ↓gNoP, ↓gMt, ↓gCall, ↓gArgs, ↓gIsN, ↓gNotN, ↓gChain, ↓x_fmtS, ↓x_afS, ↓x_afI, ↓x_js0, ↓x_jsc, ↓gJoined, ↓gYes, ↓x_bnm, ↓x_btp, ↓x_bn, ↓x_bc, ↓x_nnN, ↓x_nnI, ↓x_nnS, ↓x_nnB, ↓x_nnT, ↓x_nnL, ↓x_nnO, ↓x_nnl, ↓x_tyS, ↓x_tyL, ↓x_i2, ↓aSub, ↓aFdiv, ↓aMod, ↓aPow, ↓aShr, ↓aLt, ↓aLe, ↓aGt, ↓aGe, ↓x_addI, ↓x_addS, ↓x_mulI, ↓x_iaddS, ↓x_iaddI, ↓x_neg, ↓x_eqI, ↓x_neI, ↓x_eqS, ↓x_neS, ↓x_eqB, ↓x_neB, ↓x_eqNI, ↓x_neNI, ↓x_lenS, ↓x_lenL_l, ↓x_lenL_k, ↓x_lenL_t, ↓x_str, ↓x_intI, ↓x_intB, ↓x_divmod, ↓x_max2, ↓x_min2, ↓x_ixS, ↓x_slS, ↓x_slT, ↓x_slL_l, ↓x_slL_k, ↓x_inS, ↓x_newT, ↓x_newF, ↓x_si, ↓x_s1, ↓x_s0, ↓x_rpart, ↓x_part, ↓x_a1, ↓x_a2, ↓x_isiStr, ↓x_isiInt, ↓x_isiIntB, ↓x_isiIntS, ↓x_isiBB, ↓x_isiBI, ↓x_isiStrI, ↓x_isiNonI, ↓x_isiNonS, ↓x_isiT, ↓x_isiL, ↓x_var0, ↓x_varS, ↓x_ex, ↓x_aug0, gat, pick, Option.some.injEq, D.bl.injEq, D.int.injEq, D.str.injEq, D.tup.injEq, D.lst.injEq, List.cons.injEq, and_true, true_and, List.set_cons_zero, List.set_cons_succ, List.length_cons, List.length_nil, List.filterMap_cons, List.filterMap_nil, List.getElem?_cons_zero, List.getElem?_cons_succ, Option.bind_some, ↓reduceIte, if_true, if_false, Bool.false_eq_true, Bool.true_eq_false, decide_eq_true_eq, beq_self_eq_true, Bool.not_true, Bool.not_false, Bool.not_eq_true', decide_eq_false_iff_not, exists_eq_left', exists_eq_left, exists_eq, ↓x_dnT, ↓x_dnF, ↓gAsgL, ↓gMMDef, ↓gDSet, ↓gSItems, ↓gOrT, ↓gAndT, ↓gTryAs, ↓gTryO, ↓gRaise, ↓gCallX, ↓gMethX, ↓gMakeX, ↓gFldX, ↓x_inXs, Bool.false_xor, Bool.true_xor, ↓gOrS, ↓x_fmtRS, ↓x_afRS, ↓x_afRI, ↓x_stO]
  obtain ⟨x, rfl⟩ := Int.eq_ofNat_of_zero_le x0
  obtain ⟨g, rfl⟩ := Int.eq_ofNat_of_zero_le g0
  exact ⟨by decide, h _ o5 ⟨x, x + g, rfl, by omega, by omega⟩ (ht5.mono (by omega))⟩
theorem r__law_near : ∀ ds S q, sp__law_near a ds S q → g__law_near K a { nx := fun _ S' => q .non S', rt := q } (startD N__law_near ds) S := by
  rintro ds S q ⟨x, y, hxy, hy, o, R0, B, rfl, rfl, ht, hb, h⟩
  rw [st__law_near]
  simp only [g__law_near, ↓x_eqSS, ↓x_neSS, ↓gKGet, ↓x_kget, ↓x_ixE, at_last, ↓x_appE, ↓x_tyE, ↓x_itE, ↓x_lenE, ↓x_nePr, ↓x_eqPr, ↓x_neE, ↓x_lenr, ↓x_lenrI, ↓gRev, ↓x_par3, ↓x_par33, ↓x_fld, ↓x_fset, ↓x_mkF, ↓x_mk, ↓x_meth, ↓x_fldO, ↓x_fsetE, ↓x_fldE, ↓x_methO, ↓x_isiCO, ↓x_isiCN, ↓x_isiCT, ↓x_isiCLi, ↓x_isiCS, ↓x_isiCI, ↓x_own, ↓x_eqT2, ↓x_neT2, ↓x_neL4, ↓x_eqLN, ↓x_neNil, ↓x_gset, ↓x_lc, ↓x_for, ↓x_it, ↓x_rn1, ↓x_rn2, ↓x_enu, ↓x_zip, ↓x_itS, ↓x_itL, ↓x_itK, ↓x_itT, ↓x_rn1I, ↓x_rn2I, ↓x_enuL, ↓x_enuK, ↓x_zipL, ↓x_ixS0, ↓x_ixL, ↓x_ixT, ↓x_ixK, x_at0, x_at1, x_at2, x_at3, x_at4, ↓x_set00, ↓x_set01, ↓x_set02, ↓x_aug1, ↓x_aug2, ↓x_aug3, ↓x_aug4, ↓x_aug5, ↓x_aug6, ↓x_aug7, ↓x_aug8, ↓x_aug9, ↓x_aug10, ↓x_aug11, ↓x_aug12, ↓x_aug13, ↓x_aug14, ↓x_aug15, ↓x_aug16, ↓x_aug17, ↓x_aug18, ↓x_aug19, ↓x_aug20, ↓x_aug21, ↓x_aug22, ↓x_aug23, Int.reduceToNat, Int.reducePow, ↓gSeq, ↓gIfS, ↓gSet, ↓gAsg, ↓x_par, ↓x_par2, ↓gRet, ↓gRetN, ↓gNext, ↓gDrop, ↓gBreak, ↓gCont, ↓gDead, ↓gCB, ↓gB2, ↓gU, ↓gC, ↓Dl.gCons, ↓Dl.gNil, ↓Dl.gTup, ↓Dl.gLst, ↓gTest, ↓gOrB, ↓gAndB, ↓gNotB, ↓gAndV, ↓gOrV, ↓gNotV, ↓gIf, ↓gIx, ↓gSl, ↓gPart, ↓gNoP, ↓gMt, ↓gCall, ↓gArgs, ↓gIsN, ↓gNotN, ↓gChain, ↓x_fmtS, ↓x_afS, ↓x_afI, ↓x_js0, ↓x_jsc, ↓gJoined, ↓gYes, ↓x_bnm, ↓x_btp, ↓x_bn, ↓x_bc, ↓x_nnN, ↓x_nnI, ↓x_nnS, ↓x_nnB, ↓x_nnT, ↓x_nnL, ↓x_nnO, ↓x_nnl, ↓x_tyS, ↓x_tyL, ↓x_i2, ↓aSub, ↓aFdiv, ↓aMod, ↓aPow, ↓aShr, ↓aLt, ↓aLe, ↓aGt, ↓aGe, ↓x_addI, ↓x_addS, ↓x_mulI, ↓x_iaddS, ↓x_iaddI, ↓x_neg, ↓x_eqI, ↓x_neI, ↓x_eqS, ↓x_neS, ↓x_eqB, ↓x_neB, ↓x_eqNI, ↓x_neNI, ↓x_lenS, ↓x_lenL_l, ↓x_lenL_k, ↓x_lenL_t, ↓x_str, ↓x_intI, ↓x_intB, ↓x_divmod, ↓x_max2, ↓x_min2, ↓x_ixS, ↓x_slS, ↓x_slT, ↓x_slL_l, ↓x_slL_k, ↓x_inS, ↓x_newT, ↓x_newF, ↓x_si, ↓x_s1, ↓x_s0, ↓x_rpart, ↓x_part, ↓x_a1, ↓x_a2, ↓x_isiStr, ↓x_isiInt, ↓x_isiIntB, ↓x_isiIntS, ↓x_isiBB, ↓x_isiBI, ↓x_isiStrI, ↓x_isiNonI, ↓x_isiNonS, ↓x_isiT, ↓x_isiL, ↓x_var0, ↓x_varS, ↓x_ex, ↓x_aug0, gat, pick, Option.some.injEq, D.bl.injEq, D.int.injEq, D.str.injEq, D.tup.injEq, D.lst.injEq, List.cons.injEq, and_true, true_and, List.set_cons_zero, List.set_cons_succ, List.length_cons, List.length_nil, List.filterMap_cons, List.filterMap_nil, List.getElem?_cons_zero, List.getElem?_cons_succ, Option.bind_some, ↓reduceIte, if_true, if_false, Bool.false_eq_true, Bool.true_eq_false, decide_eq_true_eq, beq_self_eq_true, Bool.not_true, Bool.not_false, Bool.not_eq_true', decide_eq_false_iff_not, exists_eq_left', exists_eq_left, exists_eq, ↓x_dnT, ↓x_dnF, ↓gAsgL, ↓gMMDef, ↓gDSet, ↓gSItems, ↓gOrT, ↓gAndT, ↓gTryAs, ↓gTryO, ↓gRaise, ↓gCallX, ↓gMethX, ↓gMakeX, ↓gFldX, ↓x_inXs, Bool.false_xor, Bool.true_xor, ↓gOrS, ↓x_fmtRS, ↓x_afRS, ↓x_afRI, ↓x_stO]
  have t15 := Mt.ten15
  refine ⟨by decide, by decide, by decide, Mt.tk_in ht (by omega) fun d o1 ⟨u, v, e, huv, hv⟩ ht1 => ?_⟩
  subst e
  refine ⟨by decide, by decide, by decide, by decide, by decide, x_addLL.mpr ⟨(show 5 + 3 ≤ sizeLine by decide), ?_⟩⟩
  rw [x_newT]
  refine Mt.pick_in (by simp) (by simp) ht1 (by omega) fun e o2 he ht2 => h _ o2 ?_ (ht2.mono (by omega))
  simp only [List.cons_append, List.nil_append, List.mem_cons, List.not_mem_nil, or_false] at he
  rcases he with rfl | rfl | rfl | rfl | rfl | rfl | rfl | rfl
  · exact ⟨x, y, rfl, by omega, by omega⟩
  · exact ⟨x, y + 1, rfl, by omega, by omega⟩
  · exact ⟨x + 1, y + 1, rfl, by omega, by omega⟩
  · exact ⟨x - 1, y, by rw [show max 0 ((x : Int) - 1) = ((x - 1 : Nat) : Int) by omega], by omega, by omega⟩
  · exact ⟨u, v, rfl, by omega, by omega⟩
  · exact ⟨y, y, rfl, by omega, by omega⟩
  · exact ⟨x, x, rfl, by omega, by omega⟩
  · exact ⟨x, x + 1, rfl, by omega, by omega⟩
end
end Lw
namespace Lw
open PySem L2 Dl Mn
section
variable {P : Program} {w : World} {K : PySem.W.Frag} {mg : Str → Option Value} {base : Heap} {a : Ad}
abbrev csS (a : Ad) : List EqE := [⟨a.C_Stretch, 1, sp_Stretch_eq a⟩]
theorem obj_inj {C : Addr} {x y u v : Int} (hne : ¬ (x = u ∧ y = v)) : NotSame (stD C x y) (stD C u v) := fun K m N Hv z _ r1 r2 => by
  rw [Rep] at r1 r2
  obtain ⟨x, dx, vs, rfl, h1, l1, q1⟩ := r1
  obtain ⟨y, dy, us, e, h2, l2, q2⟩ := r2
  cases e
  rw [h1] at h2
  have ez := HO.ins.inj (Option.some.inj h2)
  obtain ⟨_, ev⟩ := zip_inj ez.2.2 l1 l2
  subst ev
  have := flats_inj q1 q2 rfl rfl
  simp only [List.cons.injEq, D.int.injEq, and_true] at this
  exact hne this
theorem eqB {x y u v : Int} : EqJ K (csS a) 3 (stD a.C_Stretch x y) (stD a.C_Stretch u v) (decide (x = u ∧ y = v)) := by
  refine EqJ.own (c := ⟨a.C_Stretch, 1, sp_Stretch_eq a⟩) (List.mem_singleton.mpr rfl) (show 1 ≤ 3 by decide) (.inr ⟨_, _, _, rfl, .inl rfl⟩) (fun S' => ⟨x, y, _, _, rfl, .inl ⟨u, v, rfl, rfl⟩, rfl, rfl⟩) ?_
  by_cases c : x = u ∧ y = v
  · exact .inl (decide_eq_true c)
  · exact .inr (.inr (obj_inj c))
theorem eqX {x y : Int} {e : D} {t : String} (h : e.bk = some t) : EqJ K (csS a) 3 (stD a.C_Stretch x y) e false :=
  EqJ.own (c := ⟨a.C_Stretch, 1, sp_Stretch_eq a⟩) (List.mem_singleton.mpr rfl) (show 1 ≤ 3 by decide) (.inl ⟨t, h⟩) (fun S' => ⟨x, y, _, _, rfl, .inr ⟨⟨t, h⟩, rfl⟩, rfl, rfl⟩) (.inr (.inl ⟨t, h⟩))
theorem eqR {x y : Int} {e : D} {t : String} (h : e.bk = some t) : EqJ K (csS a) 3 e (stD a.C_Stretch x y) false :=
  EqJ.rev (c := ⟨a.C_Stretch, 1, sp_Stretch_eq a⟩) (List.mem_singleton.mpr rfl) (show 1 ≤ 3 by decide) h (fun S' => ⟨x, y, _, _, rfl, .inr ⟨⟨t, h⟩, rfl⟩, rfl, rfl⟩)
theorem neB {x y u v : Int} {S : Sto} {q : D → Sto → Prop} (hq : q (.bl (!decide (x = u ∧ y = v))) S) : aNeA K (csS a) 3 (stD a.C_Stretch x y) (stD a.C_Stretch u v) S q :=
  ⟨⟨a.C_Stretch, 1, sp_Stretch_eq a⟩, _, _, _, List.mem_singleton.mpr rfl, (show 1 ≤ 3 by decide), rfl, .inr ⟨_, _, _, rfl, .inl rfl⟩, fun S' => ⟨x, y, _, _, rfl, .inl ⟨u, v, rfl, rfl⟩, rfl, rfl⟩, hq⟩
theorem neX {x y : Int} {e : D} {t : String} {S : Sto} {q : D → Sto → Prop} (h : e.bk = some t) (hq : q (.bl true) S) : aNeA K (csS a) 3 (stD a.C_Stretch x y) e S q :=
  ⟨⟨a.C_Stretch, 1, sp_Stretch_eq a⟩, _, _, _, List.mem_singleton.mpr rfl, (show 1 ≤ 3 by decide), rfl, .inl ⟨t, h⟩, fun S' => ⟨x, y, _, _, rfl, .inr ⟨⟨t, h⟩, rfl⟩, rfl, rfl⟩, hq⟩
theorem r_law (T : Txt K mg a) : ∀ ds S q, sp_law ds S q → g_law K a { nx := fun _ S' => q .non S', rt := q } (startD N_law ds) S := by
  rintro ds S q ⟨ns, rfl, rfl, h⟩
  rw [st_law]
  simp only [g_law, ↓x_eqSS, ↓x_neSS, ↓gKGet, ↓x_kget, ↓x_ixE, at_last, ↓x_appE, ↓x_tyE, ↓x_itE, ↓x_lenE, ↓x_nePr, ↓x_eqPr, ↓x_neE, ↓x_lenr, ↓x_lenrI, ↓gRev, ↓x_par3, ↓x_par33, ↓x_fld, ↓x_fset, ↓x_mkF, ↓x_mk, ↓x_meth, ↓x_fldO, ↓x_fsetE, ↓x_fldE, ↓x_methO, ↓x_isiCO, ↓x_isiCN, ↓x_isiCT, ↓x_isiCLi, ↓x_isiCS, ↓x_isiCI, ↓x_own, ↓x_eqT2, ↓x_neT2, ↓x_neL4, ↓x_eqLN, ↓x_neNil, ↓x_gset, ↓x_lc, ↓x_for, ↓x_it, ↓x_rn1, ↓x_rn2, ↓x_enu, ↓x_zip, ↓x_itS, ↓x_itL, ↓x_itK, ↓x_itT, ↓x_rn1I, ↓x_rn2I, ↓x_enuL, ↓x_enuK, ↓x_zipL, ↓x_ixS0, ↓x_ixL, ↓x_ixT, ↓x_ixK, x_at0, x_at1, x_at2, x_at3, x_at4, ↓x_set00, ↓x_set01, ↓x_set02, ↓x_aug1, ↓x_aug2, ↓x_aug3, ↓x_aug4, ↓x_aug5, ↓x_aug6, ↓x_aug7, ↓x_aug8, ↓x_aug9, ↓x_aug10, ↓x_aug11, ↓x_aug12, ↓x_aug13, ↓x_aug14, ↓x_aug15, ↓x_aug16, ↓x_aug17, ↓x_aug18, ↓x_aug19, ↓x_aug20, ↓x_aug21, ↓x_aug22, ↓x_aug23, Int.reduceToNat, Int.reducePow, ↓gSeq, ↓gIfS, ↓gSet, ↓gAsg, ↓x_par, ↓x_par2, ↓gRet, ↓gRetN, ↓gNext, ↓gDrop, ↓gBreak, ↓gCont, ↓gDead, ↓gCB, ↓gB2, ↓gU, ↓gC, ↓Dl.gCons, ↓Dl.gNil, ↓Dl.gTup, ↓Dl.gLst, ↓gTest, ↓gOrB, ↓gAndB, ↓gNotB, ↓gAndV, ↓gOrV, ↓gNotV, ↓gIf, ↓gIx, ↓gSl, ↓gPart, ↓gNoP, ↓gMt, ↓gCall, ↓gArgs, ↓gIsN, ↓gNotN, ↓gChain, ↓x_fmtS, ↓x_afS, ↓x_afI, ↓x_js0, ↓x_jsc, ↓gJoined, ↓gYes, ↓x_bnm, ↓x_btp, ↓x_bn, ↓x_bc, ↓x_nnN, ↓x_nnI, ↓x_nnS, ↓x_nnB, ↓x_nnT, ↓x_nnL, ↓x_nnO, ↓x_nnl, ↓x_tyS, ↓x_tyL, ↓x_i2, ↓aSub, ↓aFdiv, ↓aMod, ↓aPow, ↓aShr, ↓aLt, ↓aLe, ↓aGt, ↓aGe, ↓x_addI, ↓x_addS, ↓x_mulI, ↓x_iaddS, ↓x_iaddI, ↓x_neg, ↓x_eqI, ↓x_neI, ↓x_eqS, ↓x_neS, ↓x_eqB, ↓x_neB, ↓x_eqNI, ↓x_neNI, ↓x_lenS, ↓x_lenL_l, ↓x_lenL_k, ↓x_lenL_t, ↓x_str, ↓x_intI, ↓x_intB, ↓x_divmod, ↓x_max2, ↓x_min2, ↓x_ixS, ↓x_slS, ↓x_slT, ↓x_slL_l, ↓x_slL_k, ↓x_inS, ↓x_newT, ↓x_newF, ↓x_si, ↓x_s1, ↓x_s0, ↓x_rpart, ↓x_part, ↓x_a1, ↓x_a2, ↓x_isiStr, ↓x_isiInt, ↓x_isiIntB, ↓x_isiIntS, ↓x_isiBB, ↓x_isiBI, ↓x_isiStrI, ↓x_isiNonI, ↓x_isiNonS, ↓x_isiT, ↓x_isiL, ↓x_var0, ↓x_varS, ↓x_ex, ↓x_aug0, gat, pick, Option.some.injEq, D.bl.injEq, D.int.injEq, D.str.injEq, D.tup.injEq, D.lst.injEq, List.cons.injEq, and_true, true_and, List.set_cons_zero, List.set_cons_succ, List.length_cons, List.length_nil, List.filterMap_cons, List.filterMap_nil, List.getElem?_cons_zero, List.getElem?_cons_succ, Option.bind_some, ↓reduceIte, if_true, if_false, Bool.false_eq_true, Bool.true_eq_false, decide_eq_true_eq, beq_self_eq_true, Bool.not_true, Bool.not_false, Bool.not_eq_true', decide_eq_false_iff_not, exists_eq_left', exists_eq_left, exists_eq, ↓x_dnT, ↓x_dnF, ↓gAsgL, ↓gMMDef, ↓gDSet, ↓gSItems, ↓gOrT, ↓gAndT, ↓gTryAs, ↓gTryO, ↓gRaise, ↓gCallX, ↓gMethX, ↓gMakeX, ↓gFldX, ↓x_inXs, Bool.false_xor, Bool.true_xor, ↓gOrS, ↓x_fmtRS, ↓x_afRS, ↓x_afRI, ↓x_stO]
  refine ⟨ns, rfl, rfl, ?_⟩
  refine ⟨by omega, by omega, ?_⟩
  have t15 := Mt.ten15
  refine ⟨fun i ρ S => ∃ (o : Option MO) (R0 : Sto) (x2 x3 x4 x5 x6 x7 x8 x9 x10 x11 x12 : Option D), Mt.Tp (1000 * i) o ∧ S = o :: R0 ∧ ρ = [some (.ksq (ns.map .int)), some (.loc 0), x2, x3, x4, x5, x6, x7, x8, x9, x10, x11, x12], ?_, ?_, ?_⟩
  · exact ⟨_, [], _, _, _, _, _, _, _, _, _, _, _, ⟨_, 0, 0, rfl, by decide, by decide, by decide⟩, rfl, rfl⟩
  · rintro i d ρ S hd ⟨o, R0, x2, x3, x4, x5, x6, x7, x8, x9, x10, x11, x12, ht, rfl, rfl⟩
    have hi : i < (rngD 0 (max 4 (min ((List.map D.int ns).length : Int) 15)).toNat).length := (List.getElem?_eq_some_iff.mp hd).1
    rw [x_rngL] at hi
    refine ⟨trivial, _, x_bnm, ?_⟩
    simp only [↓x_eqSS, ↓x_neSS, ↓gKGet, ↓x_kget, ↓x_ixE, at_last, ↓x_appE, ↓x_tyE, ↓x_itE, ↓x_lenE, ↓x_nePr, ↓x_eqPr, ↓x_neE, ↓x_lenr, ↓x_lenrI, ↓gRev, ↓x_par3, ↓x_par33, ↓x_fld, ↓x_fset, ↓x_mkF, ↓x_mk, ↓x_meth, ↓x_fldO, ↓x_fsetE, ↓x_fldE, ↓x_methO, ↓x_isiCO, ↓x_isiCN, ↓x_isiCT, ↓x_isiCLi, ↓x_isiCS, ↓x_isiCI, ↓x_own, ↓x_eqT2, ↓x_neT2, ↓x_neL4, ↓x_eqLN, ↓x_neNil, ↓x_gset, ↓x_lc, ↓x_for, ↓x_it, ↓x_rn1, ↓x_rn2, ↓x_enu, ↓x_zip, ↓x_itS, ↓x_itL, ↓x_itK, ↓x_itT, ↓x_rn1I, ↓x_rn2I, ↓x_enuL, ↓x_enuK, ↓x_zipL, ↓x_ixS0, ↓x_ixL, ↓x_ixT, ↓x_ixK, x_at0, x_at1, x_at2, x_at3, x_at4, ↓x_set00, ↓x_set01, ↓x_set02, ↓x_aug1, ↓x_aug2, ↓x_aug3, ↓x_aug4, ↓x_aug5, ↓x_aug6, ↓x_aug7, ↓x_aug8, ↓x_aug9, ↓x_aug10, ↓x_aug11, ↓x_aug12, ↓x_aug13, ↓x_aug14, ↓x_aug15, ↓x_aug16, ↓x_aug17, ↓x_aug18, ↓x_aug19, ↓x_aug20, ↓x_aug21, ↓x_aug22, ↓x_aug23, Int.reduceToNat, Int.reducePow, ↓gSeq, ↓gIfS, ↓gSet, ↓gAsg, ↓x_par, ↓x_par2, ↓gRet, ↓gRetN, ↓gNext, ↓gDrop, ↓gBreak, ↓gCont, ↓gDead, ↓gCB, ↓gB2, ↓gU, ↓gC, ↓Dl.gCons, ↓Dl.gNil, ↓Dl.gTup, ↓Dl.gLst, ↓gTest, ↓gOrB, ↓gAndB, ↓gNotB, ↓gAndV, ↓gOrV, ↓gNotV, ↓gIf, ↓gIx, ↓gSl, ↓gPart, ↓gNoP, ↓gMt, ↓gCall, ↓gArgs, ↓gIsN, ↓gNotN, ↓gChain, ↓x_fmtS, ↓x_afS, ↓x_afI, ↓x_js0, ↓x_jsc, ↓gJoined, ↓gYes, ↓x_bnm, ↓x_btp, ↓x_bn, ↓x_bc, ↓x_nnN, ↓x_nnI, ↓x_nnS, ↓x_nnB, ↓x_nnT, ↓x_nnL, ↓x_nnO, ↓x_nnl, ↓x_tyS, ↓x_tyL, ↓x_i2, ↓aSub, ↓aFdiv, ↓aMod, ↓aPow, ↓aShr, ↓aLt, ↓aLe, ↓aGt, ↓aGe, ↓x_addI, ↓x_addS, ↓x_mulI, ↓x_iaddS, ↓x_iaddI, ↓x_neg, ↓x_eqI, ↓x_neI, ↓x_eqS, ↓x_neS, ↓x_eqB, ↓x_neB, ↓x_eqNI, ↓x_neNI, ↓x_lenS, ↓x_lenL_l, ↓x_lenL_k, ↓x_lenL_t, ↓x_str, ↓x_intI, ↓x_intB, ↓x_divmod, ↓x_max2, ↓x_min2, ↓x_ixS, ↓x_slS, ↓x_slT, ↓x_slL_l, ↓x_slL_k, ↓x_inS, ↓x_newT, ↓x_newF, ↓x_si, ↓x_s1, ↓x_s0, ↓x_rpart, ↓x_part, ↓x_a1, ↓x_a2, ↓x_isiStr, ↓x_isiInt, ↓x_isiIntB, ↓x_isiIntS, ↓x_isiBB, ↓x_isiBI, ↓x_isiStrI, ↓x_isiNonI, ↓x_isiNonS, ↓x_isiT, ↓x_isiL, ↓x_var0, ↓x_varS, ↓x_ex, ↓x_aug0, gat, pick, Option.some.injEq, D.bl.injEq, D.int.injEq, D.str.injEq, D.tup.injEq, D.lst.injEq, List.cons.injEq, and_true, true_and, List.set_cons_zero, List.set_cons_succ, List.length_cons, List.length_nil, List.filterMap_cons, List.filterMap_nil, List.getElem?_cons_zero, List.getElem?_cons_succ, Option.bind_some, ↓reduceIte, if_true, if_false, Bool.false_eq_true, Bool.true_eq_false, decide_eq_true_eq, beq_self_eq_true, Bool.not_true, Bool.not_false, Bool.not_eq_true', decide_eq_false_iff_not, exists_eq_left', exists_eq_left, exists_eq, ↓x_dnT, ↓x_dnF, ↓gAsgL, ↓gMMDef, ↓gDSet, ↓gSItems, ↓gOrT, ↓gAndT, ↓gTryAs, ↓gTryO, ↓gRaise, ↓gCallX, ↓gMethX, ↓gMakeX, ↓gFldX, ↓x_inXs, Bool.false_xor, Bool.true_xor, ↓gOrS, ↓x_fmtRS, ↓x_afRS, ↓x_afRI, ↓x_stO]
    refine Mt.tk_in ht (by omega) fun d1 o1 ⟨x, y, e1, hxy, hy⟩ ht1 => ?_
    subst e1
    refine ⟨x, y, hxy, hy, Mt.tk_in ht1 (by omega) fun d1 o2 ⟨u, v, e1, huv, hv⟩ ht2 => ?_⟩
    subst e1
    simp only [↓x_eqSS, ↓x_neSS, ↓gKGet, ↓x_kget, ↓x_ixE, at_last, ↓x_appE, ↓x_tyE, ↓x_itE, ↓x_lenE, ↓x_nePr, ↓x_eqPr, ↓x_neE, ↓x_lenr, ↓x_lenrI, ↓gRev, ↓x_par3, ↓x_par33, ↓x_fld, ↓x_fset, ↓x_mkF, ↓x_mk, ↓x_meth, ↓x_fldO, ↓x_fsetE, ↓x_fldE, ↓x_methO, ↓x_isiCO, ↓x_isiCN, ↓x_isiCT, ↓x_isiCLi, ↓x_isiCS, ↓x_isiCI, ↓x_own, ↓x_eqT2, ↓x_neT2, ↓x_neL4, ↓x_eqLN, ↓x_neNil, ↓x_gset, ↓x_lc, ↓x_for, ↓x_it, ↓x_rn1, ↓x_rn2, ↓x_enu, ↓x_zip, ↓x_itS, ↓x_itL, ↓x_itK, ↓x_itT, ↓x_rn1I, ↓x_rn2I, ↓x_enuL, ↓x_enuK, ↓x_zipL, ↓x_ixS0, ↓x_ixL, ↓x_ixT, ↓x_ixK, x_at0, x_at1, x_at2, x_at3, x_at4, ↓x_set00, ↓x_set01, ↓x_set02, ↓x_aug1, ↓x_aug2, ↓x_aug3, ↓x_aug4, ↓x_aug5, ↓x_aug6, ↓x_aug7, ↓x_aug8, ↓x_aug9, ↓x_aug10, ↓x_aug11, ↓x_aug12, ↓x_aug13, ↓x_aug14, ↓x_aug15, ↓x_aug16, ↓x_aug17, ↓x_aug18, ↓x_aug19, ↓x_aug20, ↓x_aug21, ↓x_aug22, ↓x_aug23, Int.reduceToNat, Int.reducePow, ↓gSeq, ↓gIfS, ↓gSet, ↓gAsg, ↓x_par, ↓x_par2, ↓gRet, ↓gRetN, ↓gNext, ↓gDrop, ↓gBreak, ↓gCont, ↓gDead, ↓gCB, ↓gB2, ↓gU, ↓gC, ↓Dl.gCons, ↓Dl.gNil, ↓Dl.gTup, ↓Dl.gLst, ↓gTest, ↓gOrB, ↓gAndB, ↓gNotB, ↓gAndV, ↓gOrV, ↓gNotV, ↓gIf, ↓gIx, ↓gSl, ↓gPart, ↓gNoP, ↓gMt, ↓gCall, ↓gArgs, ↓gIsN, ↓gNotN, ↓gChain, ↓x_fmtS, ↓x_afS, ↓x_afI, ↓x_js0, ↓x_jsc, ↓gJoined, ↓gYes, ↓x_bnm, ↓x_btp, ↓x_bn, ↓x_bc, ↓x_nnN, ↓x_nnI, ↓x_nnS, ↓x_nnB, ↓x_nnT, ↓x_nnL, ↓x_nnO, ↓x_nnl, ↓x_tyS, ↓x_tyL, ↓x_i2, ↓aSub, ↓aFdiv, ↓aMod, ↓aPow, ↓aShr, ↓aLt, ↓aLe, ↓aGt, ↓aGe, ↓x_addI, ↓x_addS, ↓x_mulI, ↓x_iaddS, ↓x_iaddI, ↓x_neg, ↓x_eqI, ↓x_neI, ↓x_eqS, ↓x_neS, ↓x_eqB, ↓x_neB, ↓x_eqNI, ↓x_neNI, ↓x_lenS, ↓x_lenL_l, ↓x_lenL_k, ↓x_lenL_t, ↓x_str, ↓x_intI, ↓x_intB, ↓x_divmod, ↓x_max2, ↓x_min2, ↓x_ixS, ↓x_slS, ↓x_slT, ↓x_slL_l, ↓x_slL_k, ↓x_inS, ↓x_newT, ↓x_newF, ↓x_si, ↓x_s1, ↓x_s0, ↓x_rpart, ↓x_part, ↓x_a1, ↓x_a2, ↓x_isiStr, ↓x_isiInt, ↓x_isiIntB, ↓x_isiIntS, ↓x_isiBB, ↓x_isiBI, ↓x_isiStrI, ↓x_isiNonI, ↓x_isiNonS, ↓x_isiT, ↓x_isiL, ↓x_var0, ↓x_varS, ↓x_ex, ↓x_aug0, gat, pick, Option.some.injEq, D.bl.injEq, D.int.injEq, D.str.injEq, D.tup.injEq, D.lst.injEq, List.cons.injEq, and_true, true_and, List.set_cons_zero, List.set_cons_succ, List.length_cons, List.length_nil, List.filterMap_cons, List.filterMap_nil, List.getElem?_cons_zero, List.getElem?_cons_succ, Option.bind_some, ↓reduceIte, if_true, if_false, Bool.false_eq_true, Bool.true_eq_false, decide_eq_true_eq, beq_self_eq_true, Bool.not_true, Bool.not_false, Bool.not_eq_true', decide_eq_false_iff_not, exists_eq_left', exists_eq_left, exists_eq, ↓x_dnT, ↓x_dnF, ↓gAsgL, ↓gMMDef, ↓gDSet, ↓gSItems, ↓gOrT, ↓gAndT, ↓gTryAs, ↓gTryO, ↓gRaise, ↓gCallX, ↓gMethX, ↓gMakeX, ↓gFldX, ↓x_inXs, Bool.false_xor, Bool.true_xor, ↓gOrS, ↓x_fmtRS, ↓x_afRS, ↓x_afRI, ↓x_stO]
    have hz : 1000 ≤ sizeLine := by decide
    intro _ _
    refine ⟨o2 :: R0, x, y, _, rfl, rfl, .inl rfl, fun _ => ⟨rfl, _, _, rfl, rfl, ?_⟩, fun z => absurd z (by omega)⟩
    intro _ _
    refine ⟨o2 :: R0, u, v, _, rfl, rfl, .inl rfl, fun _ => ⟨rfl, _, _, rfl, rfl, ?_⟩, fun z => absurd z (by omega)⟩
    intro _ _
    refine ⟨o2 :: R0, x, y, _, rfl, rfl, .inl rfl, fun _ => ⟨rfl, _, _, rfl, rfl, ?_⟩, fun z => absurd z (by omega)⟩
    refine ⟨by decide, ?_⟩
    intro _ _
    refine ⟨o2 :: R0, x, (x + 1 : Int), _, rfl, rfl, .inr ⟨rfl, rfl⟩, fun _ => ⟨rfl, _, _, rfl, rfl, ?_⟩, fun z => absurd z (by omega)⟩
    refine ⟨x, y, rfl, by omega, by omega, true, rfl, ?_⟩
    rw [if_neg (by decide)]
    refine ⟨u, v, rfl, by omega, by omega, true, rfl, ?_⟩
    rw [if_neg (by decide)]
    refine ⟨x, x + 1, rfl, by omega, by omega, true, rfl, ?_⟩
    rw [if_neg (by decide)]
    intro _ _
    refine ⟨o2 :: R0, x, (x + 1 : Int), _, rfl, rfl, .inr ⟨rfl, rfl⟩, fun _ => ⟨rfl, _, _, rfl, rfl, ?_⟩, fun z => absurd z (by omega)⟩
    refine ⟨x, x + 1, rfl, by omega, by omega, true, rfl, ?_⟩
    rw [if_neg (by decide)]
    obtain ⟨due, hdue⟩ : ∃ k : Bool, k = decide ((x : Int) = u ∧ (y : Int) = v) := ⟨_, rfl⟩
    obtain ⟨al, hal⟩ : ∃ k : Bool, k = decide ((x : Int) = x ∧ (x : Int) + 1 = y) := ⟨_, rfl⟩
    have hdue' : decide ((u : Int) = x ∧ (v : Int) = y) = due := by
      rw [hdue]
      exact decide_eq_decide.mpr ⟨fun h => ⟨h.1.symm, h.2.symm⟩, fun h => ⟨h.1.symm, h.2.symm⟩⟩
    have hal' : decide ((x : Int) = x ∧ (y : Int) = x + 1) = al := by
      rw [hal]
      exact decide_eq_decide.mpr ⟨fun h => ⟨rfl, h.2.symm⟩, fun h => ⟨rfl, h.2.symm⟩⟩
    have q1 : EqJ K (csS a) 3 (stD a.C_Stretch x y) (stD a.C_Stretch u v) due := hdue ▸ eqB
    have q2 : EqJ K (csS a) 3 (stD a.C_Stretch u v) (stD a.C_Stretch x y) due := hdue' ▸ eqB
    have q3 : EqJ K (csS a) 3 (stD a.C_Stretch x y) (stD a.C_Stretch x y) true := by
      have := eqB (K := K) (a := a) (x := x) (y := y) (u := x) (v := y)
      rwa [decide_eq_true ⟨rfl, rfl⟩] at this
    have q4 : EqJ K (csS a) 3 (stD a.C_Stretch x (x + 1)) (stD a.C_Stretch x y) al := hal ▸ eqB
    have q5 : EqJ K (csS a) 3 (stD a.C_Stretch x y) (stD a.C_Stretch x (x + 1)) al := hal' ▸ eqB
    refine ⟨due, q1, due, q2, neB ?_⟩
    rw [← hdue]
    refine ⟨true, q3, neB ?_⟩
    rw [decide_eq_true (⟨rfl, rfl⟩ : (x : Int) = x ∧ (y : Int) = y)]
    refine ⟨by decide, by decide, (x_neLb (xs := [due, due, !due, true, false]) (ys := [due, due, !due, true, false])).mpr ⟨false, by simp, ?_⟩⟩
    rw [if_neg (by decide)]
    refine ⟨_, rfl, ?_⟩
    rw [x_newT]
    refine ⟨by decide, x, y, rfl, by omega, by omega, _, rfl, by decide, x, y, rfl, by omega, by omega, _, rfl, by decide, ?_⟩
    refine ⟨fun j ρ S => S = o2 :: R0 ∧ ∃ y10, ρ = [some (D.ksq (List.map D.int ns)), some (D.loc 0), some d, some (D.tup [D.int x, D.int y]), some (D.tup [D.int u, D.int v]), some (stD a.C_Stretch x y), some (stD a.C_Stretch u v), some (stD a.C_Stretch x y), some (stD a.C_Stretch x (x + 1)), some (D.bl due), y10, x11, x12], ⟨rfl, _, rfl⟩, ?_, ?_⟩
    · rintro j e ρ S he ⟨rfl, y10, rfl⟩
      obtain ⟨t, hbk⟩ : ∃ t, e.bk = some t := by
        have := List.mem_of_getElem? he
        simp only [List.mem_cons, List.not_mem_nil, or_false] at this
        rcases this with rfl | rfl | rfl | rfl | rfl | rfl | rfl <;> exact ⟨_, rfl⟩
      refine ⟨trivial, _, x_bnm, ?_⟩
      simp only [↓x_eqSS, ↓x_neSS, ↓gKGet, ↓x_kget, ↓x_ixE, at_last, ↓x_appE, ↓x_tyE, ↓x_itE, ↓x_lenE, ↓x_nePr, ↓x_eqPr, ↓x_neE, ↓x_lenr, ↓x_lenrI, ↓gRev, ↓x_par3, ↓x_par33, ↓x_fld, ↓x_fset, ↓x_mkF, ↓x_mk, ↓x_meth, ↓x_fldO, ↓x_fsetE, ↓x_fldE, ↓x_methO, ↓x_isiCO, ↓x_isiCN, ↓x_isiCT, ↓x_isiCLi, ↓x_isiCS, ↓x_isiCI, ↓x_own, ↓x_eqT2, ↓x_neT2, ↓x_neL4, ↓x_eqLN, ↓x_neNil, ↓x_gset, ↓x_lc, ↓x_for, ↓x_it, ↓x_rn1, ↓x_rn2, ↓x_enu, ↓x_zip, ↓x_itS, ↓x_itL, ↓x_itK, ↓x_itT, ↓x_rn1I, ↓x_rn2I, ↓x_enuL, ↓x_enuK, ↓x_zipL, ↓x_ixS0, ↓x_ixL, ↓x_ixT, ↓x_ixK, x_at0, x_at1, x_at2, x_at3, x_at4, ↓x_set00, ↓x_set01, ↓x_set02, ↓x_aug1, ↓x_aug2, ↓x_aug3, ↓x_aug4, ↓x_aug5, ↓x_aug6, ↓x_aug7, ↓x_aug8, ↓x_aug9, ↓x_aug10, ↓x_aug11, ↓x_aug12, ↓x_aug13, ↓x_aug14, ↓x_aug15, ↓x_aug16, ↓x_aug17, ↓x_aug18, ↓x_aug19, ↓x_aug20, ↓x_aug21, ↓x_aug22, ↓x_aug23, Int.reduceToNat, Int.reducePow, ↓gSeq, ↓gIfS, ↓gSet, ↓gAsg, ↓x_par, ↓x_par2, ↓gRet, ↓gRetN, ↓gNext, ↓gDrop, ↓gBreak, ↓gCont, ↓gDead, ↓gCB, ↓gB2, ↓gU, ↓gC, ↓Dl.gCons, ↓Dl.gNil, ↓Dl.gTup, ↓Dl.gLst, ↓gTest, ↓gOrB, ↓gAndB, ↓gNotB, ↓gAndV, ↓gOrV, ↓gNotV, ↓gIf, ↓gIx, ↓gSl, ↓gPart, ↓gNoP, ↓gMt, ↓gCall, ↓gArgs, ↓gIsN, ↓gNotN, ↓gChain, ↓x_fmtS, ↓x_afS, ↓x_afI, ↓x_js0, ↓x_jsc, ↓gJoined, ↓gYes, ↓x_bnm, ↓x_btp, ↓x_bn, ↓x_bc, ↓x_nnN, ↓x_nnI, ↓x_nnS, ↓x_nnB, ↓x_nnT, ↓x_nnL, ↓x_nnO, ↓x_nnl, ↓x_tyS, ↓x_tyL, ↓x_i2, ↓aSub, ↓aFdiv, ↓aMod, ↓aPow, ↓aShr, ↓aLt, ↓aLe, ↓aGt, ↓aGe, ↓x_addI, ↓x_addS, ↓x_mulI, ↓x_iaddS, ↓x_iaddI, ↓x_neg, ↓x_eqI, ↓x_neI, ↓x_eqS, ↓x_neS, ↓x_eqB, ↓x_neB, ↓x_eqNI, ↓x_neNI, ↓x_lenS, ↓x_lenL_l, ↓x_lenL_k, ↓x_lenL_t, ↓x_str, ↓x_intI, ↓x_intB, ↓x_divmod, ↓x_max2, ↓x_min2, ↓x_ixS, ↓x_slS, ↓x_slT, ↓x_slL_l, ↓x_slL_k, ↓x_inS, ↓x_newT, ↓x_newF, ↓x_si, ↓x_s1, ↓x_s0, ↓x_rpart, ↓x_part, ↓x_a1, ↓x_a2, ↓x_isiStr, ↓x_isiInt, ↓x_isiIntB, ↓x_isiIntS, ↓x_isiBB, ↓x_isiBI, ↓x_isiStrI, ↓x_isiNonI, ↓x_isiNonS, ↓x_isiT, ↓x_isiL, ↓x_var0, ↓x_varS, ↓x_ex, ↓x_aug0, gat, pick, Option.some.injEq, D.bl.injEq, D.int.injEq, D.str.injEq, D.tup.injEq, D.lst.injEq, List.cons.injEq, and_true, true_and, List.set_cons_zero, List.set_cons_succ, List.length_cons, List.length_nil, List.filterMap_cons, List.filterMap_nil, List.getElem?_cons_zero, List.getElem?_cons_succ, Option.bind_some, ↓reduceIte, if_true, if_false, Bool.false_eq_true, Bool.true_eq_false, decide_eq_true_eq, beq_self_eq_true, Bool.not_true, Bool.not_false, Bool.not_eq_true', decide_eq_false_iff_not, exists_eq_left', exists_eq_left, exists_eq, ↓x_dnT, ↓x_dnF, ↓gAsgL, ↓gMMDef, ↓gDSet, ↓gSItems, ↓gOrT, ↓gAndT, ↓gTryAs, ↓gTryO, ↓gRaise, ↓gCallX, ↓gMethX, ↓gMakeX, ↓gFldX, ↓x_inXs, Bool.false_xor, Bool.true_xor, ↓gOrS, ↓x_fmtRS, ↓x_afRS, ↓x_afRI, ↓x_stO]
      refine ⟨false, eqX hbk, false, rfl, ?_⟩
      rw [if_neg (by decide)]
      refine neX hbk ⟨true, rfl, ?_⟩
      rw [if_neg (by decide)]
      refine ⟨false, eqR hbk, false, rfl, ?_⟩
      rw [if_neg (by decide)]
      exact ⟨rfl, _, rfl⟩
    · rintro ρ S ⟨rfl, y10, rfl⟩
      refine ⟨trivial, ?_⟩
      simp only [↓x_eqSS, ↓x_neSS, ↓gKGet, ↓x_kget, ↓x_ixE, at_last, ↓x_appE, ↓x_tyE, ↓x_itE, ↓x_lenE, ↓x_nePr, ↓x_eqPr, ↓x_neE, ↓x_lenr, ↓x_lenrI, ↓gRev, ↓x_par3, ↓x_par33, ↓x_fld, ↓x_fset, ↓x_mkF, ↓x_mk, ↓x_meth, ↓x_fldO, ↓x_fsetE, ↓x_fldE, ↓x_methO, ↓x_isiCO, ↓x_isiCN, ↓x_isiCT, ↓x_isiCLi, ↓x_isiCS, ↓x_isiCI, ↓x_own, ↓x_eqT2, ↓x_neT2, ↓x_neL4, ↓x_eqLN, ↓x_neNil, ↓x_gset, ↓x_lc, ↓x_for, ↓x_it, ↓x_rn1, ↓x_rn2, ↓x_enu, ↓x_zip, ↓x_itS, ↓x_itL, ↓x_itK, ↓x_itT, ↓x_rn1I, ↓x_rn2I, ↓x_enuL, ↓x_enuK, ↓x_zipL, ↓x_ixS0, ↓x_ixL, ↓x_ixT, ↓x_ixK, x_at0, x_at1, x_at2, x_at3, x_at4, ↓x_set00, ↓x_set01, ↓x_set02, ↓x_aug1, ↓x_aug2, ↓x_aug3, ↓x_aug4, ↓x_aug5, ↓x_aug6, ↓x_aug7, ↓x_aug8, ↓x_aug9, ↓x_aug10, ↓x_aug11, ↓x_aug12, ↓x_aug13, ↓x_aug14, ↓x_aug15, ↓x_aug16, ↓x_aug17, ↓x_aug18, ↓x_aug19, ↓x_aug20, ↓x_aug21, ↓x_aug22, ↓x_aug23, Int.reduceToNat, Int.reducePow, ↓gSeq, ↓gIfS, ↓gSet, ↓gAsg, ↓x_par, ↓x_par2, ↓gRet, ↓gRetN, ↓gNext, ↓gDrop, ↓gBreak, ↓gCont, ↓gDead, ↓gCB, ↓gB2, ↓gU, ↓gC, ↓Dl.gCons, ↓Dl.gNil, ↓Dl.gTup, ↓Dl.gLst, ↓gTest, ↓gOrB, ↓gAndB, ↓gNotB, ↓gAndV, ↓gOrV, ↓gNotV, ↓gIf, ↓gIx, ↓gSl, ↓gPart, ↓gNoP, ↓gMt, ↓gCall, ↓gArgs, ↓gIsN, ↓gNotN, ↓gChain, ↓x_fmtS, ↓x_afS, ↓x_afI, ↓x_js0, ↓x_jsc, ↓gJoined, ↓gYes, ↓x_bnm, ↓x_btp, ↓x_bn, ↓x_bc, ↓x_nnN, ↓x_nnI, ↓x_nnS, ↓x_nnB, ↓x_nnT, ↓x_nnL, ↓x_nnO, ↓x_nnl, ↓x_tyS, ↓x_tyL, ↓x_i2, ↓aSub, ↓aFdiv, ↓aMod, ↓aPow, ↓aShr, ↓aLt, ↓aLe, ↓aGt, ↓aGe, ↓x_addI, ↓x_addS, ↓x_mulI, ↓x_iaddS, ↓x_iaddI, ↓x_neg, ↓x_eqI, ↓x_neI, ↓x_eqS, ↓x_neS, ↓x_eqB, ↓x_neB, ↓x_eqNI, ↓x_neNI, ↓x_lenS, ↓x_lenL_l, ↓x_lenL_k, ↓x_lenL_t, ↓x_str, ↓x_intI, ↓x_intB, ↓x_divmod, ↓x_max2, ↓x_min2, ↓x_ixS, ↓x_slS, ↓x_slT, ↓x_slL_l, ↓x_slL_k, ↓x_inS, ↓x_newT, ↓x_newF, ↓x_si, ↓x_s1, ↓x_s0, ↓x_rpart, ↓x_part, ↓x_a1, ↓x_a2, ↓x_isiStr, ↓x_isiInt, ↓x_isiIntB, ↓x_isiIntS, ↓x_isiBB, ↓x_isiBI, ↓x_isiStrI, ↓x_isiNonI, ↓x_isiNonS, ↓x_isiT, ↓x_isiL, ↓x_var0, ↓x_varS, ↓x_ex, ↓x_aug0, gat, pick, Option.some.injEq, D.bl.injEq, D.int.injEq, D.str.injEq, D.tup.injEq, D.lst.injEq, List.cons.injEq, and_true, true_and, List.set_cons_zero, List.set_cons_succ, List.length_cons, List.length_nil, List.filterMap_cons, List.filterMap_nil, List.getElem?_cons_zero, List.getElem?_cons_succ, Option.bind_some, ↓reduceIte, if_true, if_false, Bool.false_eq_true, Bool.true_eq_false, decide_eq_true_eq, beq_self_eq_true, Bool.not_true, Bool.not_false, Bool.not_eq_true', decide_eq_false_iff_not, exists_eq_left', exists_eq_left, exists_eq, ↓x_dnT, ↓x_dnF, ↓gAsgL, ↓gMMDef, ↓gDSet, ↓gSItems, ↓gOrT, ↓gAndT, ↓gTryAs, ↓gTryO, ↓gRaise, ↓gCallX, ↓gMethX, ↓gMakeX, ↓gFldX, ↓x_inXs, Bool.false_xor, Bool.true_xor, ↓gOrS, ↓x_fmtRS, ↓x_afRS, ↓x_afRI, ↓x_stO]
      have its := its3 (S := o2 :: R0) q4 q2 q3
      clear hdue'
      refine ⟨by decide, _, _, its, ?_⟩
      have any3 : ((List.range 3).any fun i => [al, due, true].getD i false) = true := by cases al <;> cases due <;> rfl
      have hcn : ∀ d0 d1 d2 : D, [d0, d1, d2].length = 3 := fun _ _ _ => rfl
      rw [hcn, any3]
      refine ⟨true, rfl, ?_⟩
      rw [if_neg (by decide)]
      obtain ⟨jj, j3, jt, jf⟩ : ∃ jj, jj < 3 ∧ [al, due, true].getD jj false = true ∧ ∀ i, i < jj → [al, due, true].getD i false = false := by
        cases al
        · cases due
          · refine ⟨2, by decide, rfl, fun i hi => ?_⟩
            match i, hi with
            | 0, _ => rfl
            | 1, _ => rfl
          · refine ⟨1, by decide, rfl, fun i hi => ?_⟩
            match i, hi with
            | 0, _ => rfl
        · exact ⟨0, by decide, rfl, fun i hi => absurd hi (Nat.not_lt_zero i)⟩
      refine ⟨_, _, _, jj, rfl, its, by rw [hcn]; exact j3, by rw [hcn]; decide, jt, jf, ?_⟩
      refine lc_inv (fun i acc S' => S' = o2 :: R0 ∧ acc = ([al, due, true].take i).map D.bl) ⟨rfl, rfl⟩ ?_ ?_
      · rintro k e acc S' he ⟨rfl, rfl⟩
        refine ⟨trivial, _, x_bnm, ?_⟩
        simp only [wipeD, ↓x_eqSS, ↓x_neSS, ↓gKGet, ↓x_kget, ↓x_ixE, at_last, ↓x_appE, ↓x_tyE, ↓x_itE, ↓x_lenE, ↓x_nePr, ↓x_eqPr, ↓x_neE, ↓x_lenr, ↓x_lenrI, ↓gRev, ↓x_par3, ↓x_par33, ↓x_fld, ↓x_fset, ↓x_mkF, ↓x_mk, ↓x_meth, ↓x_fldO, ↓x_fsetE, ↓x_fldE, ↓x_methO, ↓x_isiCO, ↓x_isiCN, ↓x_isiCT, ↓x_isiCLi, ↓x_isiCS, ↓x_isiCI, ↓x_own, ↓x_eqT2, ↓x_neT2, ↓x_neL4, ↓x_eqLN, ↓x_neNil, ↓x_gset, ↓x_lc, ↓x_for, ↓x_it, ↓x_rn1, ↓x_rn2, ↓x_enu, ↓x_zip, ↓x_itS, ↓x_itL, ↓x_itK, ↓x_itT, ↓x_rn1I, ↓x_rn2I, ↓x_enuL, ↓x_enuK, ↓x_zipL, ↓x_ixS0, ↓x_ixL, ↓x_ixT, ↓x_ixK, x_at0, x_at1, x_at2, x_at3, x_at4, ↓x_set00, ↓x_set01, ↓x_set02, ↓x_aug1, ↓x_aug2, ↓x_aug3, ↓x_aug4, ↓x_aug5, ↓x_aug6, ↓x_aug7, ↓x_aug8, ↓x_aug9, ↓x_aug10, ↓x_aug11, ↓x_aug12, ↓x_aug13, ↓x_aug14, ↓x_aug15, ↓x_aug16, ↓x_aug17, ↓x_aug18, ↓x_aug19, ↓x_aug20, ↓x_aug21, ↓x_aug22, ↓x_aug23, Int.reduceToNat, Int.reducePow, ↓gSeq, ↓gIfS, ↓gSet, ↓gAsg, ↓x_par, ↓x_par2, ↓gRet, ↓gRetN, ↓gNext, ↓gDrop, ↓gBreak, ↓gCont, ↓gDead, ↓gCB, ↓gB2, ↓gU, ↓gC, ↓Dl.gCons, ↓Dl.gNil, ↓Dl.gTup, ↓Dl.gLst, ↓gTest, ↓gOrB, ↓gAndB, ↓gNotB, ↓gAndV, ↓gOrV, ↓gNotV, ↓gIf, ↓gIx, ↓gSl, ↓gPart, ↓gNoP, ↓gMt, ↓gCall, ↓gArgs, ↓gIsN, ↓gNotN, ↓gChain, ↓x_fmtS, ↓x_afS, ↓x_afI, ↓x_js0, ↓x_jsc, ↓gJoined, ↓gYes, ↓x_bnm, ↓x_btp, ↓x_bn, ↓x_bc, ↓x_nnN, ↓x_nnI, ↓x_nnS, ↓x_nnB, ↓x_nnT, ↓x_nnL, ↓x_nnO, ↓x_nnl, ↓x_tyS, ↓x_tyL, ↓x_i2, ↓aSub, ↓aFdiv, ↓aMod, ↓aPow, ↓aShr, ↓aLt, ↓aLe, ↓aGt, ↓aGe, ↓x_addI, ↓x_addS, ↓x_mulI, ↓x_iaddS, ↓x_iaddI, ↓x_neg, ↓x_eqI, ↓x_neI, ↓x_eqS, ↓x_neS, ↓x_eqB, ↓x_neB, ↓x_eqNI, ↓x_neNI, ↓x_lenS, ↓x_lenL_l, ↓x_lenL_k, ↓x_lenL_t, ↓x_str, ↓x_intI, ↓x_intB, ↓x_divmod, ↓x_max2, ↓x_min2, ↓x_ixS, ↓x_slS, ↓x_slT, ↓x_slL_l, ↓x_slL_k, ↓x_inS, ↓x_newT, ↓x_newF, ↓x_si, ↓x_s1, ↓x_s0, ↓x_rpart, ↓x_part, ↓x_a1, ↓x_a2, ↓x_isiStr, ↓x_isiInt, ↓x_isiIntB, ↓x_isiIntS, ↓x_isiBB, ↓x_isiBI, ↓x_isiStrI, ↓x_isiNonI, ↓x_isiNonS, ↓x_isiT, ↓x_isiL, ↓x_var0, ↓x_varS, ↓x_ex, ↓x_aug0, gat, pick, Option.some.injEq, D.bl.injEq, D.int.injEq, D.str.injEq, D.tup.injEq, D.lst.injEq, List.cons.injEq, and_true, true_and, List.set_cons_zero, List.set_cons_succ, List.length_cons, List.length_nil, List.filterMap_cons, List.filterMap_nil, List.getElem?_cons_zero, List.getElem?_cons_succ, Option.bind_some, ↓reduceIte, if_true, if_false, Bool.false_eq_true, Bool.true_eq_false, decide_eq_true_eq, beq_self_eq_true, Bool.not_true, Bool.not_false, Bool.not_eq_true', decide_eq_false_iff_not, exists_eq_left', exists_eq_left, exists_eq, ↓x_dnT, ↓x_dnF, ↓gAsgL, ↓gMMDef, ↓gDSet, ↓gSItems, ↓gOrT, ↓gAndT, ↓gTryAs, ↓gTryO, ↓gRaise, ↓gCallX, ↓gMethX, ↓gMakeX, ↓gFldX, ↓x_inXs, Bool.false_xor, Bool.true_xor, ↓gOrS, ↓x_fmtRS, ↓x_afRS, ↓x_afRI, ↓x_stO]
        match k, he with
        | 0, he => cases he; exact ⟨al, q5, (show 0 < sizeLine by decide), rfl, rfl⟩
        | 1, he => cases he; exact ⟨due, q1, (show 1 < sizeLine by decide), rfl, rfl⟩
        | 2, he => cases he; exact ⟨true, q3, (show 2 < sizeLine by decide), rfl, rfl⟩
      rintro acc S' ⟨rfl, rfl⟩
      refine ⟨trivial, ?_⟩
      rw [x_newT]
      refine ⟨rfl, _, _, _, jj, rfl, its3 eqb eqb eqb, by rw [hcn]; exact j3, by rw [hcn]; decide, jt, jf, ?_⟩
      simp only [↓x_eqSS, ↓x_neSS, ↓gKGet, ↓x_kget, ↓x_ixE, at_last, ↓x_appE, ↓x_tyE, ↓x_itE, ↓x_lenE, ↓x_nePr, ↓x_eqPr, ↓x_neE, ↓x_lenr, ↓x_lenrI, ↓gRev, ↓x_par3, ↓x_par33, ↓x_fld, ↓x_fset, ↓x_mkF, ↓x_mk, ↓x_meth, ↓x_fldO, ↓x_fsetE, ↓x_fldE, ↓x_methO, ↓x_isiCO, ↓x_isiCN, ↓x_isiCT, ↓x_isiCLi, ↓x_isiCS, ↓x_isiCI, ↓x_own, ↓x_eqT2, ↓x_neT2, ↓x_neL4, ↓x_eqLN, ↓x_neNil, ↓x_gset, ↓x_lc, ↓x_for, ↓x_it, ↓x_rn1, ↓x_rn2, ↓x_enu, ↓x_zip, ↓x_itS, ↓x_itL, ↓x_itK, ↓x_itT, ↓x_rn1I, ↓x_rn2I, ↓x_enuL, ↓x_enuK, ↓x_zipL, ↓x_ixS0, ↓x_ixL, ↓x_ixT, ↓x_ixK, x_at0, x_at1, x_at2, x_at3, x_at4, ↓x_set00, ↓x_set01, ↓x_set02, ↓x_aug1, ↓x_aug2, ↓x_aug3, ↓x_aug4, ↓x_aug5, ↓x_aug6, ↓x_aug7, ↓x_aug8, ↓x_aug9, ↓x_aug10, ↓x_aug11, ↓x_aug12, ↓x_aug13, ↓x_aug14, ↓x_aug15, ↓x_aug16, ↓x_aug17, ↓x_aug18, ↓x_aug19, ↓x_aug20, ↓x_aug21, ↓x_aug22, ↓x_aug23, Int.reduceToNat, Int.reducePow, ↓gSeq, ↓gIfS, ↓gSet, ↓gAsg, ↓x_par, ↓x_par2, ↓gRet, ↓gRetN, ↓gNext, ↓gDrop, ↓gBreak, ↓gCont, ↓gDead, ↓gCB, ↓gB2, ↓gU, ↓gC, ↓Dl.gCons, ↓Dl.gNil, ↓Dl.gTup, ↓Dl.gLst, ↓gTest, ↓gOrB, ↓gAndB, ↓gNotB, ↓gAndV, ↓gOrV, ↓gNotV, ↓gIf, ↓gIx, ↓gSl, ↓gPart, ↓gNoP, ↓gMt, ↓gCall, ↓gArgs, ↓gIsN, ↓gNotN, ↓gChain, ↓x_fmtS, ↓x_afS, ↓x_afI, ↓x_js0, ↓x_jsc, ↓gJoined, ↓gYes, ↓x_bnm, ↓x_btp, ↓x_bn, ↓x_bc, ↓x_nnN, ↓x_nnI, ↓x_nnS, ↓x_nnB, ↓x_nnT, ↓x_nnL, ↓x_nnO, ↓x_nnl, ↓x_tyS, ↓x_tyL, ↓x_i2, ↓aSub, ↓aFdiv, ↓aMod, ↓aPow, ↓aShr, ↓aLt, ↓aLe, ↓aGt, ↓aGe, ↓x_addI, ↓x_addS, ↓x_mulI, ↓x_iaddS, ↓x_iaddI, ↓x_neg, ↓x_eqI, ↓x_neI, ↓x_eqS, ↓x_neS, ↓x_eqB, ↓x_neB, ↓x_eqNI, ↓x_neNI, ↓x_lenS, ↓x_lenL_l, ↓x_lenL_k, ↓x_lenL_t, ↓x_str, ↓x_intI, ↓x_intB, ↓x_divmod, ↓x_max2, ↓x_min2, ↓x_ixS, ↓x_slS, ↓x_slT, ↓x_slL_l, ↓x_slL_k, ↓x_inS, ↓x_newT, ↓x_newF, ↓x_si, ↓x_s1, ↓x_s0, ↓x_rpart, ↓x_part, ↓x_a1, ↓x_a2, ↓x_isiStr, ↓x_isiInt, ↓x_isiIntB, ↓x_isiIntS, ↓x_isiBB, ↓x_isiBI, ↓x_isiStrI, ↓x_isiNonI, ↓x_isiNonS, ↓x_isiT, ↓x_isiL, ↓x_var0, ↓x_varS, ↓x_ex, ↓x_aug0, gat, pick, Option.some.injEq, D.bl.injEq, D.int.injEq, D.str.injEq, D.tup.injEq, D.lst.injEq, List.cons.injEq, and_true, true_and, List.set_cons_zero, List.set_cons_succ, List.length_cons, List.length_nil, List.filterMap_cons, List.filterMap_nil, List.getElem?_cons_zero, List.getElem?_cons_succ, Option.bind_some, ↓reduceIte, if_true, if_false, Bool.false_eq_true, Bool.true_eq_false, decide_eq_true_eq, beq_self_eq_true, Bool.not_true, Bool.not_false, Bool.not_eq_true', decide_eq_false_iff_not, exists_eq_left', exists_eq_left, exists_eq, ↓x_dnT, ↓x_dnF, ↓gAsgL, ↓gMMDef, ↓gDSet, ↓gSItems, ↓gOrT, ↓gAndT, ↓gTryAs, ↓gTryO, ↓gRaise, ↓gCallX, ↓gMethX, ↓gMakeX, ↓gFldX, ↓x_inXs, Bool.false_xor, Bool.true_xor, ↓gOrS, ↓x_fmtRS, ↓x_afRS, ↓x_afRI, ↓x_stO]
      rw [if_neg (fun z => z rfl)]
      refine ⟨_, _, _, rfl, its, ?_⟩
      have hal2 : decide ((y : Int) = x + 1) = al := by
        rw [← hal']
        exact decide_eq_decide.mpr ⟨fun h => ⟨rfl, h⟩, fun h => h.2⟩
      rw [hcn, hal2]
      refine ⟨by decide, by decide, _, [.bool true, .bool due, .bool al], .bool true, rfl, rfl, rfl, by cases due <;> cases al <;> decide, by decide, ?_⟩
      have hcc : (([PyData.bool true, .bool due, .bool al].countP fun z => PyData.eqv z (.bool true) : Nat) : Int) = ((List.range 3).countP fun i => [al, due, true].getD i false : Nat) := by cases al <;> cases due <;> decide +kernel
      rw [hcc]
      simp only [↓x_eqSS, ↓x_neSS, ↓gKGet, ↓x_kget, ↓x_ixE, at_last, ↓x_appE, ↓x_tyE, ↓x_itE, ↓x_lenE, ↓x_nePr, ↓x_eqPr, ↓x_neE, ↓x_lenr, ↓x_lenrI, ↓gRev, ↓x_par3, ↓x_par33, ↓x_fld, ↓x_fset, ↓x_mkF, ↓x_mk, ↓x_meth, ↓x_fldO, ↓x_fsetE, ↓x_fldE, ↓x_methO, ↓x_isiCO, ↓x_isiCN, ↓x_isiCT, ↓x_isiCLi, ↓x_isiCS, ↓x_isiCI, ↓x_own, ↓x_eqT2, ↓x_neT2, ↓x_neL4, ↓x_eqLN, ↓x_neNil, ↓x_gset, ↓x_lc, ↓x_for, ↓x_it, ↓x_rn1, ↓x_rn2, ↓x_enu, ↓x_zip, ↓x_itS, ↓x_itL, ↓x_itK, ↓x_itT, ↓x_rn1I, ↓x_rn2I, ↓x_enuL, ↓x_enuK, ↓x_zipL, ↓x_ixS0, ↓x_ixL, ↓x_ixT, ↓x_ixK, x_at0, x_at1, x_at2, x_at3, x_at4, ↓x_set00, ↓x_set01, ↓x_set02, ↓x_aug1, ↓x_aug2, ↓x_aug3, ↓x_aug4, ↓x_aug5, ↓x_aug6, ↓x_aug7, ↓x_aug8, ↓x_aug9, ↓x_aug10, ↓x_aug11, ↓x_aug12, ↓x_aug13, ↓x_aug14, ↓x_aug15, ↓x_aug16, ↓x_aug17, ↓x_aug18, ↓x_aug19, ↓x_aug20, ↓x_aug21, ↓x_aug22, ↓x_aug23, Int.reduceToNat, Int.reducePow, ↓gSeq, ↓gIfS, ↓gSet, ↓gAsg, ↓x_par, ↓x_par2, ↓gRet, ↓gRetN, ↓gNext, ↓gDrop, ↓gBreak, ↓gCont, ↓gDead, ↓gCB, ↓gB2, ↓gU, ↓gC, ↓Dl.gCons, ↓Dl.gNil, ↓Dl.gTup, ↓Dl.gLst, ↓gTest, ↓gOrB, ↓gAndB, ↓gNotB, ↓gAndV, ↓gOrV, ↓gNotV, ↓gIf, ↓gIx, ↓gSl, ↓gPart, ↓gNoP, ↓gMt, ↓gCall, ↓gArgs, ↓gIsN, ↓gNotN, ↓gChain, ↓x_fmtS, ↓x_afS, ↓x_afI, ↓x_js0, ↓x_jsc, ↓gJoined, ↓gYes, ↓x_bnm, ↓x_btp, ↓x_bn, ↓x_bc, ↓x_nnN, ↓x_nnI, ↓x_nnS, ↓x_nnB, ↓x_nnT, ↓x_nnL, ↓x_nnO, ↓x_nnl, ↓x_tyS, ↓x_tyL, ↓x_i2, ↓aSub, ↓aFdiv, ↓aMod, ↓aPow, ↓aShr, ↓aLt, ↓aLe, ↓aGt, ↓aGe, ↓x_addI, ↓x_addS, ↓x_mulI, ↓x_iaddS, ↓x_iaddI, ↓x_neg, ↓x_eqI, ↓x_neI, ↓x_eqS, ↓x_neS, ↓x_eqB, ↓x_neB, ↓x_eqNI, ↓x_neNI, ↓x_lenS, ↓x_lenL_l, ↓x_lenL_k, ↓x_lenL_t, ↓x_str, ↓x_intI, ↓x_intB, ↓x_divmod, ↓x_max2, ↓x_min2, ↓x_ixS, ↓x_slS, ↓x_slT, ↓x_slL_l, ↓x_slL_k, ↓x_inS, ↓x_newT, ↓x_newF, ↓x_si, ↓x_s1, ↓x_s0, ↓x_rpart, ↓x_part, ↓x_a1, ↓x_a2, ↓x_isiStr, ↓x_isiInt, ↓x_isiIntB, ↓x_isiIntS, ↓x_isiBB, ↓x_isiBI, ↓x_isiStrI, ↓x_isiNonI, ↓x_isiNonS, ↓x_isiT, ↓x_isiL, ↓x_var0, ↓x_varS, ↓x_ex, ↓x_aug0, gat, pick, Option.some.injEq, D.bl.injEq, D.int.injEq, D.str.injEq, D.tup.injEq, D.lst.injEq, List.cons.injEq, and_true, true_and, List.set_cons_zero, List.set_cons_succ, List.length_cons, List.length_nil, List.filterMap_cons, List.filterMap_nil, List.getElem?_cons_zero, List.getElem?_cons_succ, Option.bind_some, ↓reduceIte, if_true, if_false, Bool.false_eq_true, Bool.true_eq_false, decide_eq_true_eq, beq_self_eq_true, Bool.not_true, Bool.not_false, Bool.not_eq_true', decide_eq_false_iff_not, exists_eq_left', exists_eq_left, exists_eq, ↓x_dnT, ↓x_dnF, ↓gAsgL, ↓gMMDef, ↓gDSet, ↓gSItems, ↓gOrT, ↓gAndT, ↓gTryAs, ↓gTryO, ↓gRaise, ↓gCallX, ↓gMethX, ↓gMakeX, ↓gFldX, ↓x_inXs, Bool.false_xor, Bool.true_xor, ↓gOrS, ↓x_fmtRS, ↓x_afRS, ↓x_afRI, ↓x_stO]
      rw [if_neg (fun z => z rfl)]
      refine Mt.draw_in (by decide) (by decide) ht2 (by omega) fun z o3 z0 z1 ht3 => ?_
      simp only [↓x_eqSS, ↓x_neSS, ↓gKGet, ↓x_kget, ↓x_ixE, at_last, ↓x_appE, ↓x_tyE, ↓x_itE, ↓x_lenE, ↓x_nePr, ↓x_eqPr, ↓x_neE, ↓x_lenr, ↓x_lenrI, ↓gRev, ↓x_par3, ↓x_par33, ↓x_fld, ↓x_fset, ↓x_mkF, ↓x_mk, ↓x_meth, ↓x_fldO, ↓x_fsetE, ↓x_fldE, ↓x_methO, ↓x_isiCO, ↓x_isiCN, ↓x_isiCT, ↓x_isiCLi, ↓x_isiCS, ↓x_isiCI, ↓x_own, ↓x_eqT2, ↓x_neT2, ↓x_neL4, ↓x_eqLN, ↓x_neNil, ↓x_gset, ↓x_lc, ↓x_for, ↓x_it, ↓x_rn1, ↓x_rn2, ↓x_enu, ↓x_zip, ↓x_itS, ↓x_itL, ↓x_itK, ↓x_itT, ↓x_rn1I, ↓x_rn2I, ↓x_enuL, ↓x_enuK, ↓x_zipL, ↓x_ixS0, ↓x_ixL, ↓x_ixT, ↓x_ixK, x_at0, x_at1, x_at2, x_at3, x_at4, ↓x_set00, ↓x_set01, ↓x_set02, ↓x_aug1, ↓x_aug2, ↓x_aug3, ↓x_aug4, ↓x_aug5, ↓x_aug6, ↓x_aug7, ↓x_aug8, ↓x_aug9, ↓x_aug10, ↓x_aug11, ↓x_aug12, ↓x_aug13, ↓x_aug14, ↓x_aug15, ↓x_aug16, ↓x_aug17, ↓x_aug18, ↓x_aug19, ↓x_aug20, ↓x_aug21, ↓x_aug22, ↓x_aug23, Int.reduceToNat, Int.reducePow, ↓gSeq, ↓gIfS, ↓gSet, ↓gAsg, ↓x_par, ↓x_par2, ↓gRet, ↓gRetN, ↓gNext, ↓gDrop, ↓gBreak, ↓gCont, ↓gDead, ↓gCB, ↓gB2, ↓gU, ↓gC, ↓Dl.gCons, ↓Dl.gNil, ↓Dl.gTup, ↓Dl.gLst, ↓gTest, ↓gOrB, ↓gAndB, ↓gNotB, ↓gAndV, ↓gOrV, ↓gNotV, ↓gIf, ↓gIx, ↓gSl, ↓gPart, ↓gNoP, ↓gMt, ↓gCall, ↓gArgs, ↓gIsN, ↓gNotN, ↓gChain, ↓x_fmtS, ↓x_afS, ↓x_afI, ↓x_js0, ↓x_jsc, ↓gJoined, ↓gYes, ↓x_bnm, ↓x_btp, ↓x_bn, ↓x_bc, ↓x_nnN, ↓x_nnI, ↓x_nnS, ↓x_nnB, ↓x_nnT, ↓x_nnL, ↓x_nnO, ↓x_nnl, ↓x_tyS, ↓x_tyL, ↓x_i2, ↓aSub, ↓aFdiv, ↓aMod, ↓aPow, ↓aShr, ↓aLt, ↓aLe, ↓aGt, ↓aGe, ↓x_addI, ↓x_addS, ↓x_mulI, ↓x_iaddS, ↓x_iaddI, ↓x_neg, ↓x_eqI, ↓x_neI, ↓x_eqS, ↓x_neS, ↓x_eqB, ↓x_neB, ↓x_eqNI, ↓x_neNI, ↓x_lenS, ↓x_lenL_l, ↓x_lenL_k, ↓x_lenL_t, ↓x_str, ↓x_intI, ↓x_intB, ↓x_divmod, ↓x_max2, ↓x_min2, ↓x_ixS, ↓x_slS, ↓x_slT, ↓x_slL_l, ↓x_slL_k, ↓x_inS, ↓x_newT, ↓x_newF, ↓x_si, ↓x_s1, ↓x_s0, ↓x_rpart, ↓x_part, ↓x_a1, ↓x_a2, ↓x_isiStr, ↓x_isiInt, ↓x_isiIntB, ↓x_isiIntS, ↓x_isiBB, ↓x_isiBI, ↓x_isiStrI, ↓x_isiNonI, ↓x_isiNonS, ↓x_isiT, ↓x_isiL, ↓x_var0, ↓x_varS, ↓x_ex, ↓x_aug0, gat, pick, Option.some.injEq, D.bl.injEq, D.int.injEq, D.str.injEq, D.tup.injEq, D.lst.injEq, List.cons.injEq, and_true, true_and, List.set_cons_zero, List.set_cons_succ, List.length_cons, List.length_nil, List.filterMap_cons, List.filterMap_nil, List.getElem?_cons_zero, List.getElem?_cons_succ, Option.bind_some, ↓reduceIte, if_true, if_false, Bool.false_eq_true, Bool.true_eq_false, decide_eq_true_eq, beq_self_eq_true, Bool.not_true, Bool.not_false, Bool.not_eq_true', decide_eq_false_iff_not, exists_eq_left', exists_eq_left, exists_eq, ↓x_dnT, ↓x_dnF, ↓gAsgL, ↓gMMDef, ↓gDSet, ↓gSItems, ↓gOrT, ↓gAndT, ↓gTryAs, ↓gTryO, ↓gRaise, ↓gCallX, ↓gMethX, ↓gMakeX, ↓gFldX, ↓x_inXs, Bool.false_xor, Bool.true_xor, ↓gOrS, ↓x_fmtRS, ↓x_afRS, ↓x_afRI, ↓x_stO]
      by_cases c : max 0 ((x : Int) - 1 - z) < x
      · rw [if_pos c]
        refine ⟨x, _, rfl, c, by decide, ?_⟩
        generalize max 0 ((x : Int) - 1 - z) = zz
        refine x_neT2.mpr ?_
        refine ⟨_, rfl, ?_⟩
        rw [if_neg (by simp)]
        refine ⟨x, y, rfl, by omega, by omega, true, rfl, ?_⟩
        rw [if_neg (by decide)]
        exact ⟨o3, R0, _, _, _, _, _, _, _, _, _, _, _, ht3.mono (by omega), rfl, rfl, rfl, rfl, rfl, rfl, rfl, rfl, rfl, rfl, rfl, rfl⟩
      · rw [if_neg c]
        refine ⟨x, y, rfl, by omega, by omega, true, rfl, ?_⟩
        rw [if_neg (by decide)]
        exact ⟨o3, R0, _, _, _, _, _, _, _, _, _, _, _, ht3.mono (by omega), rfl, rfl, rfl, rfl, rfl, rfl, rfl, rfl, rfl, rfl, rfl, rfl⟩
  · rintro ρ S ⟨o, R0, x2, x3, x4, x5, x6, x7, x8, x9, x10, x11, x12, ht, rfl, rfl⟩
    refine ⟨trivial, ?_⟩
    simp only [↓x_eqSS, ↓x_neSS, ↓gKGet, ↓x_kget, ↓x_ixE, at_last, ↓x_appE, ↓x_tyE, ↓x_itE, ↓x_lenE, ↓x_nePr, ↓x_eqPr, ↓x_neE, ↓x_lenr, ↓x_lenrI, ↓gRev, ↓x_par3, ↓x_par33, ↓x_fld, ↓x_fset, ↓x_mkF, ↓x_mk, ↓x_meth, ↓x_fldO, ↓x_fsetE, ↓x_fldE, ↓x_methO, ↓x_isiCO, ↓x_isiCN, ↓x_isiCT, ↓x_isiCLi, ↓x_isiCS, ↓x_isiCI, ↓x_own, ↓x_eqT2, ↓x_neT2, ↓x_neL4, ↓x_eqLN, ↓x_neNil, ↓x_gset, ↓x_lc, ↓x_for, ↓x_it, ↓x_rn1, ↓x_rn2, ↓x_enu, ↓x_zip, ↓x_itS, ↓x_itL, ↓x_itK, ↓x_itT, ↓x_rn1I, ↓x_rn2I, ↓x_enuL, ↓x_enuK, ↓x_zipL, ↓x_ixS0, ↓x_ixL, ↓x_ixT, ↓x_ixK, x_at0, x_at1, x_at2, x_at3, x_at4, ↓x_set00, ↓x_set01, ↓x_set02, ↓x_aug1, ↓x_aug2, ↓x_aug3, ↓x_aug4, ↓x_aug5, ↓x_aug6, ↓x_aug7, ↓x_aug8, ↓x_aug9, ↓x_aug10, ↓x_aug11, ↓x_aug12, ↓x_aug13, ↓x_aug14, ↓x_aug15, ↓x_aug16, ↓x_aug17, ↓x_aug18, ↓x_aug19, ↓x_aug20, ↓x_aug21, ↓x_aug22, ↓x_aug23, Int.reduceToNat, Int.reducePow, ↓gSeq, ↓gIfS, ↓gSet, ↓gAsg, ↓x_par, ↓x_par2, ↓gRet, ↓gRetN, ↓gNext, ↓gDrop, ↓gBreak, ↓gCont, ↓gDead, ↓gCB, ↓gB2, ↓gU, ↓gC, ↓Dl.gCons, ↓Dl.gNil, ↓Dl.gTup, ↓Dl.gLst, ↓gTest, ↓gOrB, ↓gAndB, ↓gNotB, ↓gAndV, ↓gOrV, ↓gNotV, ↓gIf, ↓gIx, ↓gSl, ↓gPart, ↓gNoP, ↓gMt, ↓gCall, ↓gArgs, ↓gIsN, ↓gNotN, ↓gChain, ↓x_fmtS, ↓x_afS, ↓x_afI, ↓x_js0, ↓x_jsc, ↓gJoined, ↓gYes, ↓x_bnm, ↓x_btp, ↓x_bn, ↓x_bc, ↓x_nnN, ↓x_nnI, ↓x_nnS, ↓x_nnB, ↓x_nnT, ↓x_nnL, ↓x_nnO, ↓x_nnl, ↓x_tyS, ↓x_tyL, ↓x_i2, ↓aSub, ↓aFdiv, ↓aMod, ↓aPow, ↓aShr, ↓aLt, ↓aLe, ↓aGt, ↓aGe, ↓x_addI, ↓x_addS, ↓x_mulI, ↓x_iaddS, ↓x_iaddI, ↓x_neg, ↓x_eqI, ↓x_neI, ↓x_eqS, ↓x_neS, ↓x_eqB, ↓x_neB, ↓x_eqNI, ↓x_neNI, ↓x_lenS, ↓x_lenL_l, ↓x_lenL_k, ↓x_lenL_t, ↓x_str, ↓x_intI, ↓x_intB, ↓x_divmod, ↓x_max2, ↓x_min2, ↓x_ixS, ↓x_slS, ↓x_slT, ↓x_slL_l, ↓x_slL_k, ↓x_inS, ↓x_newT, ↓x_newF, ↓x_si, ↓x_s1, ↓x_s0, ↓x_rpart, ↓x_part, ↓x_a1, ↓x_a2, ↓x_isiStr, ↓x_isiInt, ↓x_isiIntB, ↓x_isiIntS, ↓x_isiBB, ↓x_isiBI, ↓x_isiStrI, ↓x_isiNonI, ↓x_isiNonS, ↓x_isiT, ↓x_isiL, ↓x_var0, ↓x_varS, ↓x_ex, ↓x_aug0, gat, pick, Option.some.injEq, D.bl.injEq, D.int.injEq, D.str.injEq, D.tup.injEq, D.lst.injEq, List.cons.injEq, and_true, true_and, List.set_cons_zero, List.set_cons_succ, List.length_cons, List.length_nil, List.filterMap_cons, List.filterMap_nil, List.getElem?_cons_zero, List.getElem?_cons_succ, Option.bind_some, ↓reduceIte, if_true, if_false, Bool.false_eq_true, Bool.true_eq_false, decide_eq_true_eq, beq_self_eq_true, Bool.not_true, Bool.not_false, Bool.not_eq_true', decide_eq_false_iff_not, exists_eq_left', exists_eq_left, exists_eq, ↓x_dnT, ↓x_dnF, ↓gAsgL, ↓gMMDef, ↓gDSet, ↓gSItems, ↓gOrT, ↓gAndT, ↓gTryAs, ↓gTryO, ↓gRaise, ↓gCallX, ↓gMethX, ↓gMakeX, ↓gFldX, ↓x_inXs, Bool.false_xor, Bool.true_xor, ↓gOrS, ↓x_fmtRS, ↓x_afRS, ↓x_afRI, ↓x_stO]
    exact h _
end
end Lw
namespace Lw
open PySem L2 Dl
section
variable {P : Program} {w : World} {K : PySem.W.Frag} {mg : Str → Option Value} {base : Heap} {a : Ad}
theorem ok_show_clock (T : Txt K mg a) : Fnc P w K mg base "show_clock" s_show_clock dv_show_clock 1 ps_show_clock (sp_show_clock a) :=
  fnc_of0 T.b_show_clock sc_show_clock (by intro ds S q h; first | (cases h with | inl h => (first | (obtain ⟨rfl, _⟩ := h; rfl) | (obtain ⟨_, rfl, _⟩ := h; rfl) | (obtain ⟨_, _, rfl, _⟩ := h; rfl) | (obtain ⟨_, _, _, rfl, _⟩ := h; rfl) | (obtain ⟨_, _, _, _, rfl, _⟩ := h; rfl) | (obtain ⟨_, _, _, _, _, rfl, _⟩ := h; rfl) | (obtain ⟨_, _, _, _, _, _, rfl, _⟩ := h; rfl) | (obtain ⟨_, _, _, _, _, _, _, rfl, _⟩ := h; rfl) | (obtain ⟨_, _, _, _, _, _, _, _, rfl, _⟩ := h; rfl) | (obtain ⟨_, _, _, _, _, _, _, _, _, rfl, _⟩ := h; rfl) | (obtain ⟨_, _, _, _, _, _, _, _, _, _, rfl, _⟩ := h; rfl) | (obtain ⟨_, _, _, _, _, _, _, _, _, _, _, rfl, _⟩ := h; rfl) | (obtain ⟨_, _, _, _, _, _, _, _, _, _, _, _, rfl, _⟩ := h; rfl) | (obtain ⟨_, _, _, _, _, _, _, _, _, _, _, _, _, rfl, _⟩ := h; rfl) | exact Mt.tk_len rfl h | (obtain ⟨_, h⟩ := h; exact Mt.tk_len rfl h) | (obtain ⟨_, _, h⟩ := h; exact Mt.tk_len rfl h) | (obtain ⟨_, _, _, h⟩ := h; exact Mt.tk_len rfl h) | (obtain ⟨_, _, _, _, h⟩ := h; exact Mt.tk_len rfl h) | (obtain ⟨_, _, _, _, _, h⟩ := h; exact Mt.tk_len rfl h)) | inr h => (first | (obtain ⟨rfl, _⟩ := h; rfl) | (obtain ⟨_, rfl, _⟩ := h; rfl) | (obtain ⟨_, _, rfl, _⟩ := h; rfl) | (obtain ⟨_, _, _, rfl, _⟩ := h; rfl) | (obtain ⟨_, _, _, _, rfl, _⟩ := h; rfl) | (obtain ⟨_, _, _, _, _, rfl, _⟩ := h; rfl) | (obtain ⟨_, _, _, _, _, _, rfl, _⟩ := h; rfl) | (obtain ⟨_, _, _, _, _, _, _, rfl, _⟩ := h; rfl) | (obtain ⟨_, _, _, _, _, _, _, _, rfl, _⟩ := h; rfl) | (obtain ⟨_, _, _, _, _, _, _, _, _, rfl, _⟩ := h; rfl) | (obtain ⟨_, _, _, _, _, _, _, _, _, _, rfl, _⟩ := h; rfl) | (obtain ⟨_, _, _, _, _, _, _, _, _, _, _, rfl, _⟩ := h; rfl) | (obtain ⟨_, _, _, _, _, _, _, _, _, _, _, _, rfl, _⟩ := h; rfl) | (obtain ⟨_, _, _, _, _, _, _, _, _, _, _, _, _, rfl, _⟩ := h; rfl) | exact Mt.tk_len rfl h | (obtain ⟨_, h⟩ := h; exact Mt.tk_len rfl h) | (obtain ⟨_, _, h⟩ := h; exact Mt.tk_len rfl h) | (obtain ⟨_, _, _, h⟩ := h; exact Mt.tk_len rfl h) | (obtain ⟨_, _, _, _, h⟩ := h; exact Mt.tk_len rfl h) | (obtain ⟨_, _, _, _, _, h⟩ := h; exact Mt.tk_len rfl h))) | (first | (obtain ⟨rfl, _⟩ := h; rfl) | (obtain ⟨_, rfl, _⟩ := h; rfl) | (obtain ⟨_, _, rfl, _⟩ := h; rfl) | (obtain ⟨_, _, _, rfl, _⟩ := h; rfl) | (obtain ⟨_, _, _, _, rfl, _⟩ := h; rfl) | (obtain ⟨_, _, _, _, _, rfl, _⟩ := h; rfl) | (obtain ⟨_, _, _, _, _, _, rfl, _⟩ := h; rfl) | (obtain ⟨_, _, _, _, _, _, _, rfl, _⟩ := h; rfl) | (obtain ⟨_, _, _, _, _, _, _, _, rfl, _⟩ := h; rfl) | (obtain ⟨_, _, _, _, _, _, _, _, _, rfl, _⟩ := h; rfl) | (obtain ⟨_, _, _, _, _, _, _, _, _, _, rfl, _⟩ := h; rfl) | (obtain ⟨_, _, _, _, _, _, _, _, _, _, _, rfl, _⟩ := h; rfl) | (obtain ⟨_, _, _, _, _, _, _, _, _, _, _, _, rfl, _⟩ := h; rfl) | (obtain ⟨_, _, _, _, _, _, _, _, _, _, _, _, _, rfl, _⟩ := h; rfl) | exact Mt.tk_len rfl h | (obtain ⟨_, h⟩ := h; exact Mt.tk_len rfl h) | (obtain ⟨_, _, h⟩ := h; exact Mt.tk_len rfl h) | (obtain ⟨_, _, _, h⟩ := h; exact Mt.tk_len rfl h) | (obtain ⟨_, _, _, _, h⟩ := h; exact Mt.tk_len rfl h) | (obtain ⟨_, _, _, _, _, h⟩ := h; exact Mt.tk_len rfl h))) (g_show_clock K a) (fun f cdv A outer s H E hr => t_show_clock T  hr) (fun ds S q _ _ h => r_show_clock ds S q h)
theorem ok_show_time (T : Txt K mg a) : Fnc P w K mg base "show_time" s_show_time dv_show_time 2 ps_show_time (sp_show_time a) :=
  fnc_of0 T.b_show_time sc_show_time (by intro ds S q h; first | (cases h with | inl h => (first | (obtain ⟨rfl, _⟩ := h; rfl) | (obtain ⟨_, rfl, _⟩ := h; rfl) | (obtain ⟨_, _, rfl, _⟩ := h; rfl) | (obtain ⟨_, _, _, rfl, _⟩ := h; rfl) | (obtain ⟨_, _, _, _, rfl, _⟩ := h; rfl) | (obtain ⟨_, _, _, _, _, rfl, _⟩ := h; rfl) | (obtain ⟨_, _, _, _, _, _, rfl, _⟩ := h; rfl) | (obtain ⟨_, _, _, _, _, _, _, rfl, _⟩ := h; rfl) | (obtain ⟨_, _, _, _, _, _, _, _, rfl, _⟩ := h; rfl) | (obtain ⟨_, _, _, _, _, _, _, _, _, rfl, _⟩ := h; rfl) | (obtain ⟨_, _, _, _, _, _, _, _, _, _, rfl, _⟩ := h; rfl) | (obtain ⟨_, _, _, _, _, _, _, _, _, _, _, rfl, _⟩ := h; rfl) | (obtain ⟨_, _, _, _, _, _, _, _, _, _, _, _, rfl, _⟩ := h; rfl) | (obtain ⟨_, _, _, _, _, _, _, _, _, _, _, _, _, rfl, _⟩ := h; rfl) | exact Mt.tk_len rfl h | (obtain ⟨_, h⟩ := h; exact Mt.tk_len rfl h) | (obtain ⟨_, _, h⟩ := h; exact Mt.tk_len rfl h) | (obtain ⟨_, _, _, h⟩ := h; exact Mt.tk_len rfl h) | (obtain ⟨_, _, _, _, h⟩ := h; exact Mt.tk_len rfl h) | (obtain ⟨_, _, _, _, _, h⟩ := h; exact Mt.tk_len rfl h)) | inr h => (first | (obtain ⟨rfl, _⟩ := h; rfl) | (obtain ⟨_, rfl, _⟩ := h; rfl) | (obtain ⟨_, _, rfl, _⟩ := h; rfl) | (obtain ⟨_, _, _, rfl, _⟩ := h; rfl) | (obtain ⟨_, _, _, _, rfl, _⟩ := h; rfl) | (obtain ⟨_, _, _, _, _, rfl, _⟩ := h; rfl) | (obtain ⟨_, _, _, _, _, _, rfl, _⟩ := h; rfl) | (obtain ⟨_, _, _, _, _, _, _, rfl, _⟩ := h; rfl) | (obtain ⟨_, _, _, _, _, _, _, _, rfl, _⟩ := h; rfl) | (obtain ⟨_, _, _, _, _, _, _, _, _, rfl, _⟩ := h; rfl) | (obtain ⟨_, _, _, _, _, _, _, _, _, _, rfl, _⟩ := h; rfl) | (obtain ⟨_, _, _, _, _, _, _, _, _, _, _, rfl, _⟩ := h; rfl) | (obtain ⟨_, _, _, _, _, _, _, _, _, _, _, _, rfl, _⟩ := h; rfl) | (obtain ⟨_, _, _, _, _, _, _, _, _, _, _, _, _, rfl, _⟩ := h; rfl) | exact Mt.tk_len rfl h | (obtain ⟨_, h⟩ := h; exact Mt.tk_len rfl h) | (obtain ⟨_, _, h⟩ := h; exact Mt.tk_len rfl h) | (obtain ⟨_, _, _, h⟩ := h; exact Mt.tk_len rfl h) | (obtain ⟨_, _, _, _, h⟩ := h; exact Mt.tk_len rfl h) | (obtain ⟨_, _, _, _, _, h⟩ := h; exact Mt.tk_len rfl h))) | (first | (obtain ⟨rfl, _⟩ := h; rfl) | (obtain ⟨_, rfl, _⟩ := h; rfl) | (obtain ⟨_, _, rfl, _⟩ := h; rfl) | (obtain ⟨_, _, _, rfl, _⟩ := h; rfl) | (obtain ⟨_, _, _, _, rfl, _⟩ := h; rfl) | (obtain ⟨_, _, _, _, _, rfl, _⟩ := h; rfl) | (obtain ⟨_, _, _, _, _, _, rfl, _⟩ := h; rfl) | (obtain ⟨_, _, _, _, _, _, _, rfl, _⟩ := h; rfl) | (obtain ⟨_, _, _, _, _, _, _, _, rfl, _⟩ := h; rfl) | (obtain ⟨_, _, _, _, _, _, _, _, _, rfl, _⟩ := h; rfl) | (obtain ⟨_, _, _, _, _, _, _, _, _, _, rfl, _⟩ := h; rfl) | (obtain ⟨_, _, _, _, _, _, _, _, _, _, _, rfl, _⟩ := h; rfl) | (obtain ⟨_, _, _, _, _, _, _, _, _, _, _, _, rfl, _⟩ := h; rfl) | (obtain ⟨_, _, _, _, _, _, _, _, _, _, _, _, _, rfl, _⟩ := h; rfl) | exact Mt.tk_len rfl h | (obtain ⟨_, h⟩ := h; exact Mt.tk_len rfl h) | (obtain ⟨_, _, h⟩ := h; exact Mt.tk_len rfl h) | (obtain ⟨_, _, _, h⟩ := h; exact Mt.tk_len rfl h) | (obtain ⟨_, _, _, _, h⟩ := h; exact Mt.tk_len rfl h) | (obtain ⟨_, _, _, _, _, h⟩ := h; exact Mt.tk_len rfl h))) (g_show_time K a) (fun f cdv A outer s H E hr => t_show_time T (ok_show_clock T) hr) (fun ds S q _ _ h => r_show_time ds S q h)
theorem ok_Stretch_init (T : Txt K mg a) : CFnX P w K mg base "Stretch" a.C_Stretch "Stretch.__init__" s_Stretch_init dv_Stretch_init 3 ps_Stretch_init (sp_Stretch_init a) :=
  cfnX_of0 T.mC_Stretch T.b_Stretch_init sc_Stretch_init (by intro ds S q qx h; first | (cases h with | inl h => (first | (obtain ⟨rfl, _⟩ := h; rfl) | (obtain ⟨_, rfl, _⟩ := h; rfl) | (obtain ⟨_, _, rfl, _⟩ := h; rfl) | (obtain ⟨_, _, _, rfl, _⟩ := h; rfl) | (obtain ⟨_, _, _, _, rfl, _⟩ := h; rfl) | (obtain ⟨_, _, _, _, _, rfl, _⟩ := h; rfl) | (obtain ⟨_, _, _, _, _, _, rfl, _⟩ := h; rfl) | (obtain ⟨_, _, _, _, _, _, _, rfl, _⟩ := h; rfl) | (obtain ⟨_, _, _, _, _, _, _, _, rfl, _⟩ := h; rfl) | (obtain ⟨_, _, _, _, _, _, _, _, _, rfl, _⟩ := h; rfl) | (obtain ⟨_, _, _, _, _, _, _, _, _, _, rfl, _⟩ := h; rfl) | (obtain ⟨_, _, _, _, _, _, _, _, _, _, _, rfl, _⟩ := h; rfl) | (obtain ⟨_, _, _, _, _, _, _, _, _, _, _, _, rfl, _⟩ := h; rfl) | (obtain ⟨_, _, _, _, _, _, _, _, _, _, _, _, _, rfl, _⟩ := h; rfl) | exact Mt.tk_len rfl h | (obtain ⟨_, h⟩ := h; exact Mt.tk_len rfl h) | (obtain ⟨_, _, h⟩ := h; exact Mt.tk_len rfl h) | (obtain ⟨_, _, _, h⟩ := h; exact Mt.tk_len rfl h) | (obtain ⟨_, _, _, _, h⟩ := h; exact Mt.tk_len rfl h) | (obtain ⟨_, _, _, _, _, h⟩ := h; exact Mt.tk_len rfl h)) | inr h => (first | (obtain ⟨rfl, _⟩ := h; rfl) | (obtain ⟨_, rfl, _⟩ := h; rfl) | (obtain ⟨_, _, rfl, _⟩ := h; rfl) | (obtain ⟨_, _, _, rfl, _⟩ := h; rfl) | (obtain ⟨_, _, _, _, rfl, _⟩ := h; rfl) | (obtain ⟨_, _, _, _, _, rfl, _⟩ := h; rfl) | (obtain ⟨_, _, _, _, _, _, rfl, _⟩ := h; rfl) | (obtain ⟨_, _, _, _, _, _, _, rfl, _⟩ := h; rfl) | (obtain ⟨_, _, _, _, _, _, _, _, rfl, _⟩ := h; rfl) | (obtain ⟨_, _, _, _, _, _, _, _, _, rfl, _⟩ := h; rfl) | (obtain ⟨_, _, _, _, _, _, _, _, _, _, rfl, _⟩ := h; rfl) | (obtain ⟨_, _, _, _, _, _, _, _, _, _, _, rfl, _⟩ := h; rfl) | (obtain ⟨_, _, _, _, _, _, _, _, _, _, _, _, rfl, _⟩ := h; rfl) | (obtain ⟨_, _, _, _, _, _, _, _, _, _, _, _, _, rfl, _⟩ := h; rfl) | exact Mt.tk_len rfl h | (obtain ⟨_, h⟩ := h; exact Mt.tk_len rfl h) | (obtain ⟨_, _, h⟩ := h; exact Mt.tk_len rfl h) | (obtain ⟨_, _, _, h⟩ := h; exact Mt.tk_len rfl h) | (obtain ⟨_, _, _, _, h⟩ := h; exact Mt.tk_len rfl h) | (obtain ⟨_, _, _, _, _, h⟩ := h; exact Mt.tk_len rfl h))) | (first | (obtain ⟨rfl, _⟩ := h; rfl) | (obtain ⟨_, rfl, _⟩ := h; rfl) | (obtain ⟨_, _, rfl, _⟩ := h; rfl) | (obtain ⟨_, _, _, rfl, _⟩ := h; rfl) | (obtain ⟨_, _, _, _, rfl, _⟩ := h; rfl) | (obtain ⟨_, _, _, _, _, rfl, _⟩ := h; rfl) | (obtain ⟨_, _, _, _, _, _, rfl, _⟩ := h; rfl) | (obtain ⟨_, _, _, _, _, _, _, rfl, _⟩ := h; rfl) | (obtain ⟨_, _, _, _, _, _, _, _, rfl, _⟩ := h; rfl) | (obtain ⟨_, _, _, _, _, _, _, _, _, rfl, _⟩ := h; rfl) | (obtain ⟨_, _, _, _, _, _, _, _, _, _, rfl, _⟩ := h; rfl) | (obtain ⟨_, _, _, _, _, _, _, _, _, _, _, rfl, _⟩ := h; rfl) | (obtain ⟨_, _, _, _, _, _, _, _, _, _, _, _, rfl, _⟩ := h; rfl) | (obtain ⟨_, _, _, _, _, _, _, _, _, _, _, _, _, rfl, _⟩ := h; rfl) | exact Mt.tk_len rfl h | (obtain ⟨_, h⟩ := h; exact Mt.tk_len rfl h) | (obtain ⟨_, _, h⟩ := h; exact Mt.tk_len rfl h) | (obtain ⟨_, _, _, h⟩ := h; exact Mt.tk_len rfl h) | (obtain ⟨_, _, _, _, h⟩ := h; exact Mt.tk_len rfl h) | (obtain ⟨_, _, _, _, _, h⟩ := h; exact Mt.tk_len rfl h))) (g_Stretch_init K a) (fun f cdv A outer s H E U hr tk => t_Stretch_init T  hr tk) (fun ds S q qx hu hs h => r_Stretch_init T ds S q qx hu hs h)
theorem ok_Stretch_len (T : Txt K mg a) : MFn P w K mg base a.C_Stretch "__len__" "Stretch.__len__" s_Stretch_len dv_Stretch_len 1 ps_Stretch_len (sp_Stretch_len a) :=
  mfn_of0 T.cl_Stretch T.b_Stretch_len sc_Stretch_len (by intro ds S q h; first | (cases h with | inl h => (first | (obtain ⟨rfl, _⟩ := h; rfl) | (obtain ⟨_, rfl, _⟩ := h; rfl) | (obtain ⟨_, _, rfl, _⟩ := h; rfl) | (obtain ⟨_, _, _, rfl, _⟩ := h; rfl) | (obtain ⟨_, _, _, _, rfl, _⟩ := h; rfl) | (obtain ⟨_, _, _, _, _, rfl, _⟩ := h; rfl) | (obtain ⟨_, _, _, _, _, _, rfl, _⟩ := h; rfl) | (obtain ⟨_, _, _, _, _, _, _, rfl, _⟩ := h; rfl) | (obtain ⟨_, _, _, _, _, _, _, _, rfl, _⟩ := h; rfl) | (obtain ⟨_, _, _, _, _, _, _, _, _, rfl, _⟩ := h; rfl) | (obtain ⟨_, _, _, _, _, _, _, _, _, _, rfl, _⟩ := h; rfl) | (obtain ⟨_, _, _, _, _, _, _, _, _, _, _, rfl, _⟩ := h; rfl) | (obtain ⟨_, _, _, _, _, _, _, _, _, _, _, _, rfl, _⟩ := h; rfl) | (obtain ⟨_, _, _, _, _, _, _, _, _, _, _, _, _, rfl, _⟩ := h; rfl) | exact Mt.tk_len rfl h | (obtain ⟨_, h⟩ := h; exact Mt.tk_len rfl h) | (obtain ⟨_, _, h⟩ := h; exact Mt.tk_len rfl h) | (obtain ⟨_, _, _, h⟩ := h; exact Mt.tk_len rfl h) | (obtain ⟨_, _, _, _, h⟩ := h; exact Mt.tk_len rfl h) | (obtain ⟨_, _, _, _, _, h⟩ := h; exact Mt.tk_len rfl h)) | inr h => (first | (obtain ⟨rfl, _⟩ := h; rfl) | (obtain ⟨_, rfl, _⟩ := h; rfl) | (obtain ⟨_, _, rfl, _⟩ := h; rfl) | (obtain ⟨_, _, _, rfl, _⟩ := h; rfl) | (obtain ⟨_, _, _, _, rfl, _⟩ := h; rfl) | (obtain ⟨_, _, _, _, _, rfl, _⟩ := h; rfl) | (obtain ⟨_, _, _, _, _, _, rfl, _⟩ := h; rfl) | (obtain ⟨_, _, _, _, _, _, _, rfl, _⟩ := h; rfl) | (obtain ⟨_, _, _, _, _, _, _, _, rfl, _⟩ := h; rfl) | (obtain ⟨_, _, _, _, _, _, _, _, _, rfl, _⟩ := h; rfl) | (obtain ⟨_, _, _, _, _, _, _, _, _, _, rfl, _⟩ := h; rfl) | (obtain ⟨_, _, _, _, _, _, _, _, _, _, _, rfl, _⟩ := h; rfl) | (obtain ⟨_, _, _, _, _, _, _, _, _, _, _, _, rfl, _⟩ := h; rfl) | (obtain ⟨_, _, _, _, _, _, _, _, _, _, _, _, _, rfl, _⟩ := h; rfl) | exact Mt.tk_len rfl h | (obtain ⟨_, h⟩ := h; exact Mt.tk_len rfl h) | (obtain ⟨_, _, h⟩ := h; exact Mt.tk_len rfl h) | (obtain ⟨_, _, _, h⟩ := h; exact Mt.tk_len rfl h) | (obtain ⟨_, _, _, _, h⟩ := h; exact Mt.tk_len rfl h) | (obtain ⟨_, _, _, _, _, h⟩ := h; exact Mt.tk_len rfl h))) | (first | (obtain ⟨rfl, _⟩ := h; rfl) | (obtain ⟨_, rfl, _⟩ := h; rfl) | (obtain ⟨_, _, rfl, _⟩ := h; rfl) | (obtain ⟨_, _, _, rfl, _⟩ := h; rfl) | (obtain ⟨_, _, _, _, rfl, _⟩ := h; rfl) | (obtain ⟨_, _, _, _, _, rfl, _⟩ := h; rfl) | (obtain ⟨_, _, _, _, _, _, rfl, _⟩ := h; rfl) | (obtain ⟨_, _, _, _, _, _, _, rfl, _⟩ := h; rfl) | (obtain ⟨_, _, _, _, _, _, _, _, rfl, _⟩ := h; rfl) | (obtain ⟨_, _, _, _, _, _, _, _, _, rfl, _⟩ := h; rfl) | (obtain ⟨_, _, _, _, _, _, _, _, _, _, rfl, _⟩ := h; rfl) | (obtain ⟨_, _, _, _, _, _, _, _, _, _, _, rfl, _⟩ := h; rfl) | (obtain ⟨_, _, _, _, _, _, _, _, _, _, _, _, rfl, _⟩ := h; rfl) | (obtain ⟨_, _, _, _, _, _, _, _, _, _, _, _, _, rfl, _⟩ := h; rfl) | exact Mt.tk_len rfl h | (obtain ⟨_, h⟩ := h; exact Mt.tk_len rfl h) | (obtain ⟨_, _, h⟩ := h; exact Mt.tk_len rfl h) | (obtain ⟨_, _, _, h⟩ := h; exact Mt.tk_len rfl h) | (obtain ⟨_, _, _, _, h⟩ := h; exact Mt.tk_len rfl h) | (obtain ⟨_, _, _, _, _, h⟩ := h; exact Mt.tk_len rfl h))) (g_Stretch_len K a) (fun f cdv A outer s H E hr => t_Stretch_len T  hr) (fun ds S q _ _ h => r_Stretch_len T ds S q h)
theorem ok_Stretch_eq (T : Txt K mg a) : MFn P w K mg base a.C_Stretch "__eq__" "Stretch.__eq__" s_Stretch_eq dv_Stretch_eq 1 ps_Stretch_eq (sp_Stretch_eq a) :=
  mfn_of0 T.cl_Stretch T.b_Stretch_eq sc_Stretch_eq (by intro ds S q h; first | (cases h with | inl h => (first | (obtain ⟨rfl, _⟩ := h; rfl) | (obtain ⟨_, rfl, _⟩ := h; rfl) | (obtain ⟨_, _, rfl, _⟩ := h; rfl) | (obtain ⟨_, _, _, rfl, _⟩ := h; rfl) | (obtain ⟨_, _, _, _, rfl, _⟩ := h; rfl) | (obtain ⟨_, _, _, _, _, rfl, _⟩ := h; rfl) | (obtain ⟨_, _, _, _, _, _, rfl, _⟩ := h; rfl) | (obtain ⟨_, _, _, _, _, _, _, rfl, _⟩ := h; rfl) | (obtain ⟨_, _, _, _, _, _, _, _, rfl, _⟩ := h; rfl) | (obtain ⟨_, _, _, _, _, _, _, _, _, rfl, _⟩ := h; rfl) | (obtain ⟨_, _, _, _, _, _, _, _, _, _, rfl, _⟩ := h; rfl) | (obtain ⟨_, _, _, _, _, _, _, _, _, _, _, rfl, _⟩ := h; rfl) | (obtain ⟨_, _, _, _, _, _, _, _, _, _, _, _, rfl, _⟩ := h; rfl) | (obtain ⟨_, _, _, _, _, _, _, _, _, _, _, _, _, rfl, _⟩ := h; rfl) | exact Mt.tk_len rfl h | (obtain ⟨_, h⟩ := h; exact Mt.tk_len rfl h) | (obtain ⟨_, _, h⟩ := h; exact Mt.tk_len rfl h) | (obtain ⟨_, _, _, h⟩ := h; exact Mt.tk_len rfl h) | (obtain ⟨_, _, _, _, h⟩ := h; exact Mt.tk_len rfl h) | (obtain ⟨_, _, _, _, _, h⟩ := h; exact Mt.tk_len rfl h)) | inr h => (first | (obtain ⟨rfl, _⟩ := h; rfl) | (obtain ⟨_, rfl, _⟩ := h; rfl) | (obtain ⟨_, _, rfl, _⟩ := h; rfl) | (obtain ⟨_, _, _, rfl, _⟩ := h; rfl) | (obtain ⟨_, _, _, _, rfl, _⟩ := h; rfl) | (obtain ⟨_, _, _, _, _, rfl, _⟩ := h; rfl) | (obtain ⟨_, _, _, _, _, _, rfl, _⟩ := h; rfl) | (obtain ⟨_, _, _, _, _, _, _, rfl, _⟩ := h; rfl) | (obtain ⟨_, _, _, _, _, _, _, _, rfl, _⟩ := h; rfl) | (obtain ⟨_, _, _, _, _, _, _, _, _, rfl, _⟩ := h; rfl) | (obtain ⟨_, _, _, _, _, _, _, _, _, _, rfl, _⟩ := h; rfl) | (obtain ⟨_, _, _, _, _, _, _, _, _, _, _, rfl, _⟩ := h; rfl) | (obtain ⟨_, _, _, _, _, _, _, _, _, _, _, _, rfl, _⟩ := h; rfl) | (obtain ⟨_, _, _, _, _, _, _, _, _, _, _, _, _, rfl, _⟩ := h; rfl) | exact Mt.tk_len rfl h | (obtain ⟨_, h⟩ := h; exact Mt.tk_len rfl h) | (obtain ⟨_, _, h⟩ := h; exact Mt.tk_len rfl h) | (obtain ⟨_, _, _, h⟩ := h; exact Mt.tk_len rfl h) | (obtain ⟨_, _, _, _, h⟩ := h; exact Mt.tk_len rfl h) | (obtain ⟨_, _, _, _, _, h⟩ := h; exact Mt.tk_len rfl h))) | (first | (obtain ⟨rfl, _⟩ := h; rfl) | (obtain ⟨_, rfl, _⟩ := h; rfl) | (obtain ⟨_, _, rfl, _⟩ := h; rfl) | (obtain ⟨_, _, _, rfl, _⟩ := h; rfl) | (obtain ⟨_, _, _, _, rfl, _⟩ := h; rfl) | (obtain ⟨_, _, _, _, _, rfl, _⟩ := h; rfl) | (obtain ⟨_, _, _, _, _, _, rfl, _⟩ := h; rfl) | (obtain ⟨_, _, _, _, _, _, _, rfl, _⟩ := h; rfl) | (obtain ⟨_, _, _, _, _, _, _, _, rfl, _⟩ := h; rfl) | (obtain ⟨_, _, _, _, _, _, _, _, _, rfl, _⟩ := h; rfl) | (obtain ⟨_, _, _, _, _, _, _, _, _, _, rfl, _⟩ := h; rfl) | (obtain ⟨_, _, _, _, _, _, _, _, _, _, _, rfl, _⟩ := h; rfl) | (obtain ⟨_, _, _, _, _, _, _, _, _, _, _, _, rfl, _⟩ := h; rfl) | (obtain ⟨_, _, _, _, _, _, _, _, _, _, _, _, _, rfl, _⟩ := h; rfl) | exact Mt.tk_len rfl h | (obtain ⟨_, h⟩ := h; exact Mt.tk_len rfl h) | (obtain ⟨_, _, h⟩ := h; exact Mt.tk_len rfl h) | (obtain ⟨_, _, _, h⟩ := h; exact Mt.tk_len rfl h) | (obtain ⟨_, _, _, _, h⟩ := h; exact Mt.tk_len rfl h) | (obtain ⟨_, _, _, _, _, h⟩ := h; exact Mt.tk_len rfl h))) (g_Stretch_eq K a) (fun f cdv A outer s H E hr => t_Stretch_eq T  hr) (fun ds S q _ _ h => r_Stretch_eq T ds S q h)
theorem ok_Stretch_repr (T : Txt K mg a) : MFn P w K mg base a.C_Stretch "__repr__" "Stretch.__repr__" s_Stretch_repr dv_Stretch_repr 1 ps_Stretch_repr (sp_Stretch_repr a) :=
  mfn_of0 T.cl_Stretch T.b_Stretch_repr sc_Stretch_repr (by intro ds S q h; first | (cases h with | inl h => (first | (obtain ⟨rfl, _⟩ := h; rfl) | (obtain ⟨_, rfl, _⟩ := h; rfl) | (obtain ⟨_, _, rfl, _⟩ := h; rfl) | (obtain ⟨_, _, _, rfl, _⟩ := h; rfl) | (obtain ⟨_, _, _, _, rfl, _⟩ := h; rfl) | (obtain ⟨_, _, _, _, _, rfl, _⟩ := h; rfl) | (obtain ⟨_, _, _, _, _, _, rfl, _⟩ := h; rfl) | (obtain ⟨_, _, _, _, _, _, _, rfl, _⟩ := h; rfl) | (obtain ⟨_, _, _, _, _, _, _, _, rfl, _⟩ := h; rfl) | (obtain ⟨_, _, _, _, _, _, _, _, _, rfl, _⟩ := h; rfl) | (obtain ⟨_, _, _, _, _, _, _, _, _, _, rfl, _⟩ := h; rfl) | (obtain ⟨_, _, _, _, _, _, _, _, _, _, _, rfl, _⟩ := h; rfl) | (obtain ⟨_, _, _, _, _, _, _, _, _, _, _, _, rfl, _⟩ := h; rfl) | (obtain ⟨_, _, _, _, _, _, _, _, _, _, _, _, _, rfl, _⟩ := h; rfl) | exact Mt.tk_len rfl h | (obtain ⟨_, h⟩ := h; exact Mt.tk_len rfl h) | (obtain ⟨_, _, h⟩ := h; exact Mt.tk_len rfl h) | (obtain ⟨_, _, _, h⟩ := h; exact Mt.tk_len rfl h) | (obtain ⟨_, _, _, _, h⟩ := h; exact Mt.tk_len rfl h) | (obtain ⟨_, _, _, _, _, h⟩ := h; exact Mt.tk_len rfl h)) | inr h => (first | (obtain ⟨rfl, _⟩ := h; rfl) | (obtain ⟨_, rfl, _⟩ := h; rfl) | (obtain ⟨_, _, rfl, _⟩ := h; rfl) | (obtain ⟨_, _, _, rfl, _⟩ := h; rfl) | (obtain ⟨_, _, _, _, rfl, _⟩ := h; rfl) | (obtain ⟨_, _, _, _, _, rfl, _⟩ := h; rfl) | (obtain ⟨_, _, _, _, _, _, rfl, _⟩ := h; rfl) | (obtain ⟨_, _, _, _, _, _, _, rfl, _⟩ := h; rfl) | (obtain ⟨_, _, _, _, _, _, _, _, rfl, _⟩ := h; rfl) | (obtain ⟨_, _, _, _, _, _, _, _, _, rfl, _⟩ := h; rfl) | (obtain ⟨_, _, _, _, _, _, _, _, _, _, rfl, _⟩ := h; rfl) | (obtain ⟨_, _, _, _, _, _, _, _, _, _, _, rfl, _⟩ := h; rfl) | (obtain ⟨_, _, _, _, _, _, _, _, _, _, _, _, rfl, _⟩ := h; rfl) | (obtain ⟨_, _, _, _, _, _, _, _, _, _, _, _, _, rfl, _⟩ := h; rfl) | exact Mt.tk_len rfl h | (obtain ⟨_, h⟩ := h; exact Mt.tk_len rfl h) | (obtain ⟨_, _, h⟩ := h; exact Mt.tk_len rfl h) | (obtain ⟨_, _, _, h⟩ := h; exact Mt.tk_len rfl h) | (obtain ⟨_, _, _, _, h⟩ := h; exact Mt.tk_len rfl h) | (obtain ⟨_, _, _, _, _, h⟩ := h; exact Mt.tk_len rfl h))) | (first | (obtain ⟨rfl, _⟩ := h; rfl) | (obtain ⟨_, rfl, _⟩ := h; rfl) | (obtain ⟨_, _, rfl, _⟩ := h; rfl) | (obtain ⟨_, _, _, rfl, _⟩ := h; rfl) | (obtain ⟨_, _, _, _, rfl, _⟩ := h; rfl) | (obtain ⟨_, _, _, _, _, rfl, _⟩ := h; rfl) | (obtain ⟨_, _, _, _, _, _, rfl, _⟩ := h; rfl) | (obtain ⟨_, _, _, _, _, _, _, rfl, _⟩ := h; rfl) | (obtain ⟨_, _, _, _, _, _, _, _, rfl, _⟩ := h; rfl) | (obtain ⟨_, _, _, _, _, _, _, _, _, rfl, _⟩ := h; rfl) | (obtain ⟨_, _, _, _, _, _, _, _, _, _, rfl, _⟩ := h; rfl) | (obtain ⟨_, _, _, _, _, _, _, _, _, _, _, rfl, _⟩ := h; rfl) | (obtain ⟨_, _, _, _, _, _, _, _, _, _, _, _, rfl, _⟩ := h; rfl) | (obtain ⟨_, _, _, _, _, _, _, _, _, _, _, _, _, rfl, _⟩ := h; rfl) | exact Mt.tk_len rfl h | (obtain ⟨_, h⟩ := h; exact Mt.tk_len rfl h) | (obtain ⟨_, _, h⟩ := h; exact Mt.tk_len rfl h) | (obtain ⟨_, _, _, h⟩ := h; exact Mt.tk_len rfl h) | (obtain ⟨_, _, _, _, h⟩ := h; exact Mt.tk_len rfl h) | (obtain ⟨_, _, _, _, _, h⟩ := h; exact Mt.tk_len rfl h))) (g_Stretch_repr K a) (fun f cdv A outer s H E hr => t_Stretch_repr T  hr) (fun ds S q _ _ h => r_Stretch_repr T ds S q h)
theorem ok_Stretch_str (T : Txt K mg a) : MFn P w K mg base a.C_Stretch "__str__" "Stretch.__str__" s_Stretch_str dv_Stretch_str 3 ps_Stretch_str (sp_Stretch_str a) :=
  mfn_of0 T.cl_Stretch T.b_Stretch_str sc_Stretch_str (by intro ds S q h; first | (cases h with | inl h => (first | (obtain ⟨rfl, _⟩ := h; rfl) | (obtain ⟨_, rfl, _⟩ := h; rfl) | (obtain ⟨_, _, rfl, _⟩ := h; rfl) | (obtain ⟨_, _, _, rfl, _⟩ := h; rfl) | (obtain ⟨_, _, _, _, rfl, _⟩ := h; rfl) | (obtain ⟨_, _, _, _, _, rfl, _⟩ := h; rfl) | (obtain ⟨_, _, _, _, _, _, rfl, _⟩ := h; rfl) | (obtain ⟨_, _, _, _, _, _, _, rfl, _⟩ := h; rfl) | (obtain ⟨_, _, _, _, _, _, _, _, rfl, _⟩ := h; rfl) | (obtain ⟨_, _, _, _, _, _, _, _, _, rfl, _⟩ := h; rfl) | (obtain ⟨_, _, _, _, _, _, _, _, _, _, rfl, _⟩ := h; rfl) | (obtain ⟨_, _, _, _, _, _, _, _, _, _, _, rfl, _⟩ := h; rfl) | (obtain ⟨_, _, _, _, _, _, _, _, _, _, _, _, rfl, _⟩ := h; rfl) | (obtain ⟨_, _, _, _, _, _, _, _, _, _, _, _, _, rfl, _⟩ := h; rfl) | exact Mt.tk_len rfl h | (obtain ⟨_, h⟩ := h; exact Mt.tk_len rfl h) | (obtain ⟨_, _, h⟩ := h; exact Mt.tk_len rfl h) | (obtain ⟨_, _, _, h⟩ := h; exact Mt.tk_len rfl h) | (obtain ⟨_, _, _, _, h⟩ := h; exact Mt.tk_len rfl h) | (obtain ⟨_, _, _, _, _, h⟩ := h; exact Mt.tk_len rfl h)) | inr h => (first | (obtain ⟨rfl, _⟩ := h; rfl) | (obtain ⟨_, rfl, _⟩ := h; rfl) | (obtain ⟨_, _, rfl, _⟩ := h; rfl) | (obtain ⟨_, _, _, rfl, _⟩ := h; rfl) | (obtain ⟨_, _, _, _, rfl, _⟩ := h; rfl) | (obtain ⟨_, _, _, _, _, rfl, _⟩ := h; rfl) | (obtain ⟨_, _, _, _, _, _, rfl, _⟩ := h; rfl) | (obtain ⟨_, _, _, _, _, _, _, rfl, _⟩ := h; rfl) | (obtain ⟨_, _, _, _, _, _, _, _, rfl, _⟩ := h; rfl) | (obtain ⟨_, _, _, _, _, _, _, _, _, rfl, _⟩ := h; rfl) | (obtain ⟨_, _, _, _, _, _, _, _, _, _, rfl, _⟩ := h; rfl) | (obtain ⟨_, _, _, _, _, _, _, _, _, _, _, rfl, _⟩ := h; rfl) | (obtain ⟨_, _, _, _, _, _, _, _, _, _, _, _, rfl, _⟩ := h; rfl) | (obtain ⟨_, _, _, _, _, _, _, _, _, _, _, _, _, rfl, _⟩ := h; rfl) | exact Mt.tk_len rfl h | (obtain ⟨_, h⟩ := h; exact Mt.tk_len rfl h) | (obtain ⟨_, _, h⟩ := h; exact Mt.tk_len rfl h) | (obtain ⟨_, _, _, h⟩ := h; exact Mt.tk_len rfl h) | (obtain ⟨_, _, _, _, h⟩ := h; exact Mt.tk_len rfl h) | (obtain ⟨_, _, _, _, _, h⟩ := h; exact Mt.tk_len rfl h))) | (first | (obtain ⟨rfl, _⟩ := h; rfl) | (obtain ⟨_, rfl, _⟩ := h; rfl) | (obtain ⟨_, _, rfl, _⟩ := h; rfl) | (obtain ⟨_, _, _, rfl, _⟩ := h; rfl) | (obtain ⟨_, _, _, _, rfl, _⟩ := h; rfl) | (obtain ⟨_, _, _, _, _, rfl, _⟩ := h; rfl) | (obtain ⟨_, _, _, _, _, _, rfl, _⟩ := h; rfl) | (obtain ⟨_, _, _, _, _, _, _, rfl, _⟩ := h; rfl) | (obtain ⟨_, _, _, _, _, _, _, _, rfl, _⟩ := h; rfl) | (obtain ⟨_, _, _, _, _, _, _, _, _, rfl, _⟩ := h; rfl) | (obtain ⟨_, _, _, _, _, _, _, _, _, _, rfl, _⟩ := h; rfl) | (obtain ⟨_, _, _, _, _, _, _, _, _, _, _, rfl, _⟩ := h; rfl) | (obtain ⟨_, _, _, _, _, _, _, _, _, _, _, _, rfl, _⟩ := h; rfl) | (obtain ⟨_, _, _, _, _, _, _, _, _, _, _, _, _, rfl, _⟩ := h; rfl) | exact Mt.tk_len rfl h | (obtain ⟨_, h⟩ := h; exact Mt.tk_len rfl h) | (obtain ⟨_, _, h⟩ := h; exact Mt.tk_len rfl h) | (obtain ⟨_, _, _, h⟩ := h; exact Mt.tk_len rfl h) | (obtain ⟨_, _, _, _, h⟩ := h; exact Mt.tk_len rfl h) | (obtain ⟨_, _, _, _, _, h⟩ := h; exact Mt.tk_len rfl h))) (g_Stretch_str K a) (fun f cdv A outer s H E hr => t_Stretch_str T (ok_show_time T) hr) (fun ds S q _ _ h => r_Stretch_str T ds S q h)
theorem ok__law_tape (T : Txt K mg a) : Fnc P w K mg base "_law_tape" s__law_tape dv__law_tape 1 ps__law_tape (sp__law_tape a) :=
  fnc_of0 T.b__law_tape sc__law_tape (by intro ds S q h; first | (cases h with | inl h => (first | (obtain ⟨rfl, _⟩ := h; rfl) | (obtain ⟨_, rfl, _⟩ := h; rfl) | (obtain ⟨_, _, rfl, _⟩ := h; rfl) | (obtain ⟨_, _, _, rfl, _⟩ := h; rfl) | (obtain ⟨_, _, _, _, rfl, _⟩ := h; rfl) | (obtain ⟨_, _, _, _, _, rfl, _⟩ := h; rfl) | (obtain ⟨_, _, _, _, _, _, rfl, _⟩ := h; rfl) | (obtain ⟨_, _, _, _, _, _, _, rfl, _⟩ := h; rfl) | (obtain ⟨_, _, _, _, _, _, _, _, rfl, _⟩ := h; rfl) | (obtain ⟨_, _, _, _, _, _, _, _, _, rfl, _⟩ := h; rfl) | (obtain ⟨_, _, _, _, _, _, _, _, _, _, rfl, _⟩ := h; rfl) | (obtain ⟨_, _, _, _, _, _, _, _, _, _, _, rfl, _⟩ := h; rfl) | (obtain ⟨_, _, _, _, _, _, _, _, _, _, _, _, rfl, _⟩ := h; rfl) | (obtain ⟨_, _, _, _, _, _, _, _, _, _, _, _, _, rfl, _⟩ := h; rfl) | exact Mt.tk_len rfl h | (obtain ⟨_, h⟩ := h; exact Mt.tk_len rfl h) | (obtain ⟨_, _, h⟩ := h; exact Mt.tk_len rfl h) | (obtain ⟨_, _, _, h⟩ := h; exact Mt.tk_len rfl h) | (obtain ⟨_, _, _, _, h⟩ := h; exact Mt.tk_len rfl h) | (obtain ⟨_, _, _, _, _, h⟩ := h; exact Mt.tk_len rfl h)) | inr h => (first | (obtain ⟨rfl, _⟩ := h; rfl) | (obtain ⟨_, rfl, _⟩ := h; rfl) | (obtain ⟨_, _, rfl, _⟩ := h; rfl) | (obtain ⟨_, _, _, rfl, _⟩ := h; rfl) | (obtain ⟨_, _, _, _, rfl, _⟩ := h; rfl) | (obtain ⟨_, _, _, _, _, rfl, _⟩ := h; rfl) | (obtain ⟨_, _, _, _, _, _, rfl, _⟩ := h; rfl) | (obtain ⟨_, _, _, _, _, _, _, rfl, _⟩ := h; rfl) | (obtain ⟨_, _, _, _, _, _, _, _, rfl, _⟩ := h; rfl) | (obtain ⟨_, _, _, _, _, _, _, _, _, rfl, _⟩ := h; rfl) | (obtain ⟨_, _, _, _, _, _, _, _, _, _, rfl, _⟩ := h; rfl) | (obtain ⟨_, _, _, _, _, _, _, _, _, _, _, rfl, _⟩ := h; rfl) | (obtain ⟨_, _, _, _, _, _, _, _, _, _, _, _, rfl, _⟩ := h; rfl) | (obtain ⟨_, _, _, _, _, _, _, _, _, _, _, _, _, rfl, _⟩ := h; rfl) | exact Mt.tk_len rfl h | (obtain ⟨_, h⟩ := h; exact Mt.tk_len rfl h) | (obtain ⟨_, _, h⟩ := h; exact Mt.tk_len rfl h) | (obtain ⟨_, _, _, h⟩ := h; exact Mt.tk_len rfl h) | (obtain ⟨_, _, _, _, h⟩ := h; exact Mt.tk_len rfl h) | (obtain ⟨_, _, _, _, _, h⟩ := h; exact Mt.tk_len rfl h))) | (first | (obtain ⟨rfl, _⟩ := h; rfl) | (obtain ⟨_, rfl, _⟩ := h; rfl) | (obtain ⟨_, _, rfl, _⟩ := h; rfl) | (obtain ⟨_, _, _, rfl, _⟩ := h; rfl) | (obtain ⟨_, _, _, _, rfl, _⟩ := h; rfl) | (obtain ⟨_, _, _, _, _, rfl, _⟩ := h; rfl) | (obtain ⟨_, _, _, _, _, _, rfl, _⟩ := h; rfl) | (obtain ⟨_, _, _, _, _, _, _, rfl, _⟩ := h; rfl) | (obtain ⟨_, _, _, _, _, _, _, _, rfl, _⟩ := h; rfl) | (obtain ⟨_, _, _, _, _, _, _, _, _, rfl, _⟩ := h; rfl) | (obtain ⟨_, _, _, _, _, _, _, _, _, _, rfl, _⟩ := h; rfl) | (obtain ⟨_, _, _, _, _, _, _, _, _, _, _, rfl, _⟩ := h; rfl) | (obtain ⟨_, _, _, _, _, _, _, _, _, _, _, _, rfl, _⟩ := h; rfl) | (obtain ⟨_, _, _, _, _, _, _, _, _, _, _, _, _, rfl, _⟩ := h; rfl) | exact Mt.tk_len rfl h | (obtain ⟨_, h⟩ := h; exact Mt.tk_len rfl h) | (obtain ⟨_, _, h⟩ := h; exact Mt.tk_len rfl h) | (obtain ⟨_, _, _, h⟩ := h; exact Mt.tk_len rfl h) | (obtain ⟨_, _, _, _, h⟩ := h; exact Mt.tk_len rfl h) | (obtain ⟨_, _, _, _, _, h⟩ := h; exact Mt.tk_len rfl h))) (g__law_tape K a) (fun f cdv A outer s H E hr => t__law_tape T  hr) (fun ds S q _ _ h => r__law_tape ds S q h)
theorem ok__law_draw (T : Txt K mg a) : Fnc P w K mg base "_law_draw" s__law_draw dv__law_draw 1 ps__law_draw (sp__law_draw a) :=
  fnc_of0 T.b__law_draw sc__law_draw (by intro ds S q h; first | (cases h with | inl h => (first | (obtain ⟨rfl, _⟩ := h; rfl) | (obtain ⟨_, rfl, _⟩ := h; rfl) | (obtain ⟨_, _, rfl, _⟩ := h; rfl) | (obtain ⟨_, _, _, rfl, _⟩ := h; rfl) | (obtain ⟨_, _, _, _, rfl, _⟩ := h; rfl) | (obtain ⟨_, _, _, _, _, rfl, _⟩ := h; rfl) | (obtain ⟨_, _, _, _, _, _, rfl, _⟩ := h; rfl) | (obtain ⟨_, _, _, _, _, _, _, rfl, _⟩ := h; rfl) | (obtain ⟨_, _, _, _, _, _, _, _, rfl, _⟩ := h; rfl) | (obtain ⟨_, _, _, _, _, _, _, _, _, rfl, _⟩ := h; rfl) | (obtain ⟨_, _, _, _, _, _, _, _, _, _, rfl, _⟩ := h; rfl) | (obtain ⟨_, _, _, _, _, _, _, _, _, _, _, rfl, _⟩ := h; rfl) | (obtain ⟨_, _, _, _, _, _, _, _, _, _, _, _, rfl, _⟩ := h; rfl) | (obtain ⟨_, _, _, _, _, _, _, _, _, _, _, _, _, rfl, _⟩ := h; rfl) | exact Mt.tk_len rfl h | (obtain ⟨_, h⟩ := h; exact Mt.tk_len rfl h) | (obtain ⟨_, _, h⟩ := h; exact Mt.tk_len rfl h) | (obtain ⟨_, _, _, h⟩ := h; exact Mt.tk_len rfl h) | (obtain ⟨_, _, _, _, h⟩ := h; exact Mt.tk_len rfl h) | (obtain ⟨_, _, _, _, _, h⟩ := h; exact Mt.tk_len rfl h)) | inr h => (first | (obtain ⟨rfl, _⟩ := h; rfl) | (obtain ⟨_, rfl, _⟩ := h; rfl) | (obtain ⟨_, _, rfl, _⟩ := h; rfl) | (obtain ⟨_, _, _, rfl, _⟩ := h; rfl) | (obtain ⟨_, _, _, _, rfl, _⟩ := h; rfl) | (obtain ⟨_, _, _, _, _, rfl, _⟩ := h; rfl) | (obtain ⟨_, _, _, _, _, _, rfl, _⟩ := h; rfl) | (obtain ⟨_, _, _, _, _, _, _, rfl, _⟩ := h; rfl) | (obtain ⟨_, _, _, _, _, _, _, _, rfl, _⟩ := h; rfl) | (obtain ⟨_, _, _, _, _, _, _, _, _, rfl, _⟩ := h; rfl) | (obtain ⟨_, _, _, _, _, _, _, _, _, _, rfl, _⟩ := h; rfl) | (obtain ⟨_, _, _, _, _, _, _, _, _, _, _, rfl, _⟩ := h; rfl) | (obtain ⟨_, _, _, _, _, _, _, _, _, _, _, _, rfl, _⟩ := h; rfl) | (obtain ⟨_, _, _, _, _, _, _, _, _, _, _, _, _, rfl, _⟩ := h; rfl) | exact Mt.tk_len rfl h | (obtain ⟨_, h⟩ := h; exact Mt.tk_len rfl h) | (obtain ⟨_, _, h⟩ := h; exact Mt.tk_len rfl h) | (obtain ⟨_, _, _, h⟩ := h; exact Mt.tk_len rfl h) | (obtain ⟨_, _, _, _, h⟩ := h; exact Mt.tk_len rfl h) | (obtain ⟨_, _, _, _, _, h⟩ := h; exact Mt.tk_len rfl h))) | (first | (obtain ⟨rfl, _⟩ := h; rfl) | (obtain ⟨_, rfl, _⟩ := h; rfl) | (obtain ⟨_, _, rfl, _⟩ := h; rfl) | (obtain ⟨_, _, _, rfl, _⟩ := h; rfl) | (obtain ⟨_, _, _, _, rfl, _⟩ := h; rfl) | (obtain ⟨_, _, _, _, _, rfl, _⟩ := h; rfl) | (obtain ⟨_, _, _, _, _, _, rfl, _⟩ := h; rfl) | (obtain ⟨_, _, _, _, _, _, _, rfl, _⟩ := h; rfl) | (obtain ⟨_, _, _, _, _, _, _, _, rfl, _⟩ := h; rfl) | (obtain ⟨_, _, _, _, _, _, _, _, _, rfl, _⟩ := h; rfl) | (obtain ⟨_, _, _, _, _, _, _, _, _, _, rfl, _⟩ := h; rfl) | (obtain ⟨_, _, _, _, _, _, _, _, _, _, _, rfl, _⟩ := h; rfl) | (obtain ⟨_, _, _, _, _, _, _, _, _, _, _, _, rfl, _⟩ := h; rfl) | (obtain ⟨_, _, _, _, _, _, _, _, _, _, _, _, _, rfl, _⟩ := h; rfl) | exact Mt.tk_len rfl h | (obtain ⟨_, h⟩ := h; exact Mt.tk_len rfl h) | (obtain ⟨_, _, h⟩ := h; exact Mt.tk_len rfl h) | (obtain ⟨_, _, _, h⟩ := h; exact Mt.tk_len rfl h) | (obtain ⟨_, _, _, _, h⟩ := h; exact Mt.tk_len rfl h) | (obtain ⟨_, _, _, _, _, h⟩ := h; exact Mt.tk_len rfl h))) (g__law_draw K a) (fun f cdv A outer s H E hr => t__law_draw T  hr) (fun ds S q _ _ h => r__law_draw ds S q h)
theorem ok__law_pick (T : Txt K mg a) : Fnc P w K mg base "_law_pick" s__law_pick dv__law_pick 2 ps__law_pick (sp__law_pick a) :=
  fnc_of0 T.b__law_pick sc__law_pick (by intro ds S q h; first | (cases h with | inl h => (first | (obtain ⟨rfl, _⟩ := h; rfl) | (obtain ⟨_, rfl, _⟩ := h; rfl) | (obtain ⟨_, _, rfl, _⟩ := h; rfl) | (obtain ⟨_, _, _, rfl, _⟩ := h; rfl) | (obtain ⟨_, _, _, _, rfl, _⟩ := h; rfl) | (obtain ⟨_, _, _, _, _, rfl, _⟩ := h; rfl) | (obtain ⟨_, _, _, _, _, _, rfl, _⟩ := h; rfl) | (obtain ⟨_, _, _, _, _, _, _, rfl, _⟩ := h; rfl) | (obtain ⟨_, _, _, _, _, _, _, _, rfl, _⟩ := h; rfl) | (obtain ⟨_, _, _, _, _, _, _, _, _, rfl, _⟩ := h; rfl) | (obtain ⟨_, _, _, _, _, _, _, _, _, _, rfl, _⟩ := h; rfl) | (obtain ⟨_, _, _, _, _, _, _, _, _, _, _, rfl, _⟩ := h; rfl) | (obtain ⟨_, _, _, _, _, _, _, _, _, _, _, _, rfl, _⟩ := h; rfl) | (obtain ⟨_, _, _, _, _, _, _, _, _, _, _, _, _, rfl, _⟩ := h; rfl) | exact Mt.tk_len rfl h | (obtain ⟨_, h⟩ := h; exact Mt.tk_len rfl h) | (obtain ⟨_, _, h⟩ := h; exact Mt.tk_len rfl h) | (obtain ⟨_, _, _, h⟩ := h; exact Mt.tk_len rfl h) | (obtain ⟨_, _, _, _, h⟩ := h; exact Mt.tk_len rfl h) | (obtain ⟨_, _, _, _, _, h⟩ := h; exact Mt.tk_len rfl h)) | inr h => (first | (obtain ⟨rfl, _⟩ := h; rfl) | (obtain ⟨_, rfl, _⟩ := h; rfl) | (obtain ⟨_, _, rfl, _⟩ := h; rfl) | (obtain ⟨_, _, _, rfl, _⟩ := h; rfl) | (obtain ⟨_, _, _, _, rfl, _⟩ := h; rfl) | (obtain ⟨_, _, _, _, _, rfl, _⟩ := h; rfl) | (obtain ⟨_, _, _, _, _, _, rfl, _⟩ := h; rfl) | (obtain ⟨_, _, _, _, _, _, _, rfl, _⟩ := h; rfl) | (obtain ⟨_, _, _, _, _, _, _, _, rfl, _⟩ := h; rfl) | (obtain ⟨_, _, _, _, _, _, _, _, _, rfl, _⟩ := h; rfl) | (obtain ⟨_, _, _, _, _, _, _, _, _, _, rfl, _⟩ := h; rfl) | (obtain ⟨_, _, _, _, _, _, _, _, _, _, _, rfl, _⟩ := h; rfl) | (obtain ⟨_, _, _, _, _, _, _, _, _, _, _, _, rfl, _⟩ := h; rfl) | (obtain ⟨_, _, _, _, _, _, _, _, _, _, _, _, _, rfl, _⟩ := h; rfl) | exact Mt.tk_len rfl h | (obtain ⟨_, h⟩ := h; exact Mt.tk_len rfl h) | (obtain ⟨_, _, h⟩ := h; exact Mt.tk_len rfl h) | (obtain ⟨_, _, _, h⟩ := h; exact Mt.tk_len rfl h) | (obtain ⟨_, _, _, _, h⟩ := h; exact Mt.tk_len rfl h) | (obtain ⟨_, _, _, _, _, h⟩ := h; exact Mt.tk_len rfl h))) | (first | (obtain ⟨rfl, _⟩ := h; rfl) | (obtain ⟨_, rfl, _⟩ := h; rfl) | (obtain ⟨_, _, rfl, _⟩ := h; rfl) | (obtain ⟨_, _, _, rfl, _⟩ := h; rfl) | (obtain ⟨_, _, _, _, rfl, _⟩ := h; rfl) | (obtain ⟨_, _, _, _, _, rfl, _⟩ := h; rfl) | (obtain ⟨_, _, _, _, _, _, rfl, _⟩ := h; rfl) | (obtain ⟨_, _, _, _, _, _, _, rfl, _⟩ := h; rfl) | (obtain ⟨_, _, _, _, _, _, _, _, rfl, _⟩ := h; rfl) | (obtain ⟨_, _, _, _, _, _, _, _, _, rfl, _⟩ := h; rfl) | (obtain ⟨_, _, _, _, _, _, _, _, _, _, rfl, _⟩ := h; rfl) | (obtain ⟨_, _, _, _, _, _, _, _, _, _, _, rfl, _⟩ := h; rfl) | (obtain ⟨_, _, _, _, _, _, _, _, _, _, _, _, rfl, _⟩ := h; rfl) | (obtain ⟨_, _, _, _, _, _, _, _, _, _, _, _, _, rfl, _⟩ := h; rfl) | exact Mt.tk_len rfl h | (obtain ⟨_, h⟩ := h; exact Mt.tk_len rfl h) | (obtain ⟨_, _, h⟩ := h; exact Mt.tk_len rfl h) | (obtain ⟨_, _, _, h⟩ := h; exact Mt.tk_len rfl h) | (obtain ⟨_, _, _, _, h⟩ := h; exact Mt.tk_len rfl h) | (obtain ⟨_, _, _, _, _, h⟩ := h; exact Mt.tk_len rfl h))) (g__law_pick K a) (fun f cdv A outer s H E hr => t__law_pick T (ok__law_draw T) hr) (fun ds S q _ _ h => r__law_pick ds S q h)
theorem ok__law_two (T : Txt K mg a) : Fnc P w K mg base "_law_two" s__law_two dv__law_two 1 ps__law_two (sp__law_two a) :=
  fnc_of0 T.b__law_two sc__law_two (by intro ds S q h; first | (cases h with | inl h => (first | (obtain ⟨rfl, _⟩ := h; rfl) | (obtain ⟨_, rfl, _⟩ := h; rfl) | (obtain ⟨_, _, rfl, _⟩ := h; rfl) | (obtain ⟨_, _, _, rfl, _⟩ := h; rfl) | (obtain ⟨_, _, _, _, rfl, _⟩ := h; rfl) | (obtain ⟨_, _, _, _, _, rfl, _⟩ := h; rfl) | (obtain ⟨_, _, _, _, _, _, rfl, _⟩ := h; rfl) | (obtain ⟨_, _, _, _, _, _, _, rfl, _⟩ := h; rfl) | (obtain ⟨_, _, _, _, _, _, _, _, rfl, _⟩ := h; rfl) | (obtain ⟨_, _, _, _, _, _, _, _, _, rfl, _⟩ := h; rfl) | (obtain ⟨_, _, _, _, _, _, _, _, _, _, rfl, _⟩ := h; rfl) | (obtain ⟨_, _, _, _, _, _, _, _, _, _, _, rfl, _⟩ := h; rfl) | (obtain ⟨_, _, _, _, _, _, _, _, _, _, _, _, rfl, _⟩ := h; rfl) | (obtain ⟨_, _, _, _, _, _, _, _, _, _, _, _, _, rfl, _⟩ := h; rfl) | exact Mt.tk_len rfl h | (obtain ⟨_, h⟩ := h; exact Mt.tk_len rfl h) | (obtain ⟨_, _, h⟩ := h; exact Mt.tk_len rfl h) | (obtain ⟨_, _, _, h⟩ := h; exact Mt.tk_len rfl h) | (obtain ⟨_, _, _, _, h⟩ := h; exact Mt.tk_len rfl h) | (obtain ⟨_, _, _, _, _, h⟩ := h; exact Mt.tk_len rfl h)) | inr h => (first | (obtain ⟨rfl, _⟩ := h; rfl) | (obtain ⟨_, rfl, _⟩ := h; rfl) | (obtain ⟨_, _, rfl, _⟩ := h; rfl) | (obtain ⟨_, _, _, rfl, _⟩ := h; rfl) | (obtain ⟨_, _, _, _, rfl, _⟩ := h; rfl) | (obtain ⟨_, _, _, _, _, rfl, _⟩ := h; rfl) | (obtain ⟨_, _, _, _, _, _, rfl, _⟩ := h; rfl) | (obtain ⟨_, _, _, _, _, _, _, rfl, _⟩ := h; rfl) | (obtain ⟨_, _, _, _, _, _, _, _, rfl, _⟩ := h; rfl) | (obtain ⟨_, _, _, _, _, _, _, _, _, rfl, _⟩ := h; rfl) | (obtain ⟨_, _, _, _, _, _, _, _, _, _, rfl, _⟩ := h; rfl) | (obtain ⟨_, _, _, _, _, _, _, _, _, _, _, rfl, _⟩ := h; rfl) | (obtain ⟨_, _, _, _, _, _, _, _, _, _, _, _, rfl, _⟩ := h; rfl) | (obtain ⟨_, _, _, _, _, _, _, _, _, _, _, _, _, rfl, _⟩ := h; rfl) | exact Mt.tk_len rfl h | (obtain ⟨_, h⟩ := h; exact Mt.tk_len rfl h) | (obtain ⟨_, _, h⟩ := h; exact Mt.tk_len rfl h) | (obtain ⟨_, _, _, h⟩ := h; exact Mt.tk_len rfl h) | (obtain ⟨_, _, _, _, h⟩ := h; exact Mt.tk_len rfl h) | (obtain ⟨_, _, _, _, _, h⟩ := h; exact Mt.tk_len rfl h))) | (first | (obtain ⟨rfl, _⟩ := h; rfl) | (obtain ⟨_, rfl, _⟩ := h; rfl) | (obtain ⟨_, _, rfl, _⟩ := h; rfl) | (obtain ⟨_, _, _, rfl, _⟩ := h; rfl) | (obtain ⟨_, _, _, _, rfl, _⟩ := h; rfl) | (obtain ⟨_, _, _, _, _, rfl, _⟩ := h; rfl) | (obtain ⟨_, _, _, _, _, _, rfl, _⟩ := h; rfl) | (obtain ⟨_, _, _, _, _, _, _, rfl, _⟩ := h; rfl) | (obtain ⟨_, _, _, _, _, _, _, _, rfl, _⟩ := h; rfl) | (obtain ⟨_, _, _, _, _, _, _, _, _, rfl, _⟩ := h; rfl) | (obtain ⟨_, _, _, _, _, _, _, _, _, _, rfl, _⟩ := h; rfl) | (obtain ⟨_, _, _, _, _, _, _, _, _, _, _, rfl, _⟩ := h; rfl) | (obtain ⟨_, _, _, _, _, _, _, _, _, _, _, _, rfl, _⟩ := h; rfl) | (obtain ⟨_, _, _, _, _, _, _, _, _, _, _, _, _, rfl, _⟩ := h; rfl) | exact Mt.tk_len rfl h | (obtain ⟨_, h⟩ := h; exact Mt.tk_len rfl h) | (obtain ⟨_, _, h⟩ := h; exact Mt.tk_len rfl h) | (obtain ⟨_, _, _, h⟩ := h; exact Mt.tk_len rfl h) | (obtain ⟨_, _, _, _, h⟩ := h; exact Mt.tk_len rfl h) | (obtain ⟨_, _, _, _, _, h⟩ := h; exact Mt.tk_len rfl h))) (g__law_two K a) (fun f cdv A outer s H E hr => t__law_two T  hr) (fun ds S q _ _ h => r__law_two ds S q h)
theorem ok__law_time (T : Txt K mg a) : Fnc P w K mg base "_law_time" s__law_time dv__law_time 2 ps__law_time (sp__law_time a) :=
  fnc_of0 T.b__law_time sc__law_time (by intro ds S q h; first | (cases h with | inl h => (first | (obtain ⟨rfl, _⟩ := h; rfl) | (obtain ⟨_, rfl, _⟩ := h; rfl) | (obtain ⟨_, _, rfl, _⟩ := h; rfl) | (obtain ⟨_, _, _, rfl, _⟩ := h; rfl) | (obtain ⟨_, _, _, _, rfl, _⟩ := h; rfl) | (obtain ⟨_, _, _, _, _, rfl, _⟩ := h; rfl) | (obtain ⟨_, _, _, _, _, _, rfl, _⟩ := h; rfl) | (obtain ⟨_, _, _, _, _, _, _, rfl, _⟩ := h; rfl) | (obtain ⟨_, _, _, _, _, _, _, _, rfl, _⟩ := h; rfl) | (obtain ⟨_, _, _, _, _, _, _, _, _, rfl, _⟩ := h; rfl) | (obtain ⟨_, _, _, _, _, _, _, _, _, _, rfl, _⟩ := h; rfl) | (obtain ⟨_, _, _, _, _, _, _, _, _, _, _, rfl, _⟩ := h; rfl) | (obtain ⟨_, _, _, _, _, _, _, _, _, _, _, _, rfl, _⟩ := h; rfl) | (obtain ⟨_, _, _, _, _, _, _, _, _, _, _, _, _, rfl, _⟩ := h; rfl) | exact Mt.tk_len rfl h | (obtain ⟨_, h⟩ := h; exact Mt.tk_len rfl h) | (obtain ⟨_, _, h⟩ := h; exact Mt.tk_len rfl h) | (obtain ⟨_, _, _, h⟩ := h; exact Mt.tk_len rfl h) | (obtain ⟨_, _, _, _, h⟩ := h; exact Mt.tk_len rfl h) | (obtain ⟨_, _, _, _, _, h⟩ := h; exact Mt.tk_len rfl h)) | inr h => (first | (obtain ⟨rfl, _⟩ := h; rfl) | (obtain ⟨_, rfl, _⟩ := h; rfl) | (obtain ⟨_, _, rfl, _⟩ := h; rfl) | (obtain ⟨_, _, _, rfl, _⟩ := h; rfl) | (obtain ⟨_, _, _, _, rfl, _⟩ := h; rfl) | (obtain ⟨_, _, _, _, _, rfl, _⟩ := h; rfl) | (obtain ⟨_, _, _, _, _, _, rfl, _⟩ := h; rfl) | (obtain ⟨_, _, _, _, _, _, _, rfl, _⟩ := h; rfl) | (obtain ⟨_, _, _, _, _, _, _, _, rfl, _⟩ := h; rfl) | (obtain ⟨_, _, _, _, _, _, _, _, _, rfl, _⟩ := h; rfl) | (obtain ⟨_, _, _, _, _, _, _, _, _, _, rfl, _⟩ := h; rfl) | (obtain ⟨_, _, _, _, _, _, _, _, _, _, _, rfl, _⟩ := h; rfl) | (obtain ⟨_, _, _, _, _, _, _, _, _, _, _, _, rfl, _⟩ := h; rfl) | (obtain ⟨_, _, _, _, _, _, _, _, _, _, _, _, _, rfl, _⟩ := h; rfl) | exact Mt.tk_len rfl h | (obtain ⟨_, h⟩ := h; exact Mt.tk_len rfl h) | (obtain ⟨_, _, h⟩ := h; exact Mt.tk_len rfl h) | (obtain ⟨_, _, _, h⟩ := h; exact Mt.tk_len rfl h) | (obtain ⟨_, _, _, _, h⟩ := h; exact Mt.tk_len rfl h) | (obtain ⟨_, _, _, _, _, h⟩ := h; exact Mt.tk_len rfl h))) | (first | (obtain ⟨rfl, _⟩ := h; rfl) | (obtain ⟨_, rfl, _⟩ := h; rfl) | (obtain ⟨_, _, rfl, _⟩ := h; rfl) | (obtain ⟨_, _, _, rfl, _⟩ := h; rfl) | (obtain ⟨_, _, _, _, rfl, _⟩ := h; rfl) | (obtain ⟨_, _, _, _, _, rfl, _⟩ := h; rfl) | (obtain ⟨_, _, _, _, _, _, rfl, _⟩ := h; rfl) | (obtain ⟨_, _, _, _, _, _, _, rfl, _⟩ := h; rfl) | (obtain ⟨_, _, _, _, _, _, _, _, rfl, _⟩ := h; rfl) | (obtain ⟨_, _, _, _, _, _, _, _, _, rfl, _⟩ := h; rfl) | (obtain ⟨_, _, _, _, _, _, _, _, _, _, rfl, _⟩ := h; rfl) | (obtain ⟨_, _, _, _, _, _, _, _, _, _, _, rfl, _⟩ := h; rfl) | (obtain ⟨_, _, _, _, _, _, _, _, _, _, _, _, rfl, _⟩ := h; rfl) | (obtain ⟨_, _, _, _, _, _, _, _, _, _, _, _, _, rfl, _⟩ := h; rfl) | exact Mt.tk_len rfl h | (obtain ⟨_, h⟩ := h; exact Mt.tk_len rfl h) | (obtain ⟨_, _, h⟩ := h; exact Mt.tk_len rfl h) | (obtain ⟨_, _, _, h⟩ := h; exact Mt.tk_len rfl h) | (obtain ⟨_, _, _, _, h⟩ := h; exact Mt.tk_len rfl h) | (obtain ⟨_, _, _, _, _, h⟩ := h; exact Mt.tk_len rfl h))) (g__law_time K a) (fun f cdv A outer s H E hr => t__law_time T (ok__law_two T) hr) (fun ds S q _ _ h => r__law_time ds S q h)
theorem ok__law_is_whole (T : Txt K mg a) : Fnc P w K mg base "_law_is_whole" s__law_is_whole dv__law_is_whole 1 ps__law_is_whole (sp__law_is_whole a) :=
  fnc_of0 T.b__law_is_whole sc__law_is_whole (by intro ds S q h; first | (cases h with | inl h => (first | (obtain ⟨rfl, _⟩ := h; rfl) | (obtain ⟨_, rfl, _⟩ := h; rfl) | (obtain ⟨_, _, rfl, _⟩ := h; rfl) | (obtain ⟨_, _, _, rfl, _⟩ := h; rfl) | (obtain ⟨_, _, _, _, rfl, _⟩ := h; rfl) | (obtain ⟨_, _, _, _, _, rfl, _⟩ := h; rfl) | (obtain ⟨_, _, _, _, _, _, rfl, _⟩ := h; rfl) | (obtain ⟨_, _, _, _, _, _, _, rfl, _⟩ := h; rfl) | (obtain ⟨_, _, _, _, _, _, _, _, rfl, _⟩ := h; rfl) | (obtain ⟨_, _, _, _, _, _, _, _, _, rfl, _⟩ := h; rfl) | (obtain ⟨_, _, _, _, _, _, _, _, _, _, rfl, _⟩ := h; rfl) | (obtain ⟨_, _, _, _, _, _, _, _, _, _, _, rfl, _⟩ := h; rfl) | (obtain ⟨_, _, _, _, _, _, _, _, _, _, _, _, rfl, _⟩ := h; rfl) | (obtain ⟨_, _, _, _, _, _, _, _, _, _, _, _, _, rfl, _⟩ := h; rfl) | exact Mt.tk_len rfl h | (obtain ⟨_, h⟩ := h; exact Mt.tk_len rfl h) | (obtain ⟨_, _, h⟩ := h; exact Mt.tk_len rfl h) | (obtain ⟨_, _, _, h⟩ := h; exact Mt.tk_len rfl h) | (obtain ⟨_, _, _, _, h⟩ := h; exact Mt.tk_len rfl h) | (obtain ⟨_, _, _, _, _, h⟩ := h; exact Mt.tk_len rfl h)) | inr h => (first | (obtain ⟨rfl, _⟩ := h; rfl) | (obtain ⟨_, rfl, _⟩ := h; rfl) | (obtain ⟨_, _, rfl, _⟩ := h; rfl) | (obtain ⟨_, _, _, rfl, _⟩ := h; rfl) | (obtain ⟨_, _, _, _, rfl, _⟩ := h; rfl) | (obtain ⟨_, _, _, _, _, rfl, _⟩ := h; rfl) | (obtain ⟨_, _, _, _, _, _, rfl, _⟩ := h; rfl) | (obtain ⟨_, _, _, _, _, _, _, rfl, _⟩ := h; rfl) | (obtain ⟨_, _, _, _, _, _, _, _, rfl, _⟩ := h; rfl) | (obtain ⟨_, _, _, _, _, _, _, _, _, rfl, _⟩ := h; rfl) | (obtain ⟨_, _, _, _, _, _, _, _, _, _, rfl, _⟩ := h; rfl) | (obtain ⟨_, _, _, _, _, _, _, _, _, _, _, rfl, _⟩ := h; rfl) | (obtain ⟨_, _, _, _, _, _, _, _, _, _, _, _, rfl, _⟩ := h; rfl) | (obtain ⟨_, _, _, _, _, _, _, _, _, _, _, _, _, rfl, _⟩ := h; rfl) | exact Mt.tk_len rfl h | (obtain ⟨_, h⟩ := h; exact Mt.tk_len rfl h) | (obtain ⟨_, _, h⟩ := h; exact Mt.tk_len rfl h) | (obtain ⟨_, _, _, h⟩ := h; exact Mt.tk_len rfl h) | (obtain ⟨_, _, _, _, h⟩ := h; exact Mt.tk_len rfl h) | (obtain ⟨_, _, _, _, _, h⟩ := h; exact Mt.tk_len rfl h))) | (first | (obtain ⟨rfl, _⟩ := h; rfl) | (obtain ⟨_, rfl, _⟩ := h; rfl) | (obtain ⟨_, _, rfl, _⟩ := h; rfl) | (obtain ⟨_, _, _, rfl, _⟩ := h; rfl) | (obtain ⟨_, _, _, _, rfl, _⟩ := h; rfl) | (obtain ⟨_, _, _, _, _, rfl, _⟩ := h; rfl) | (obtain ⟨_, _, _, _, _, _, rfl, _⟩ := h; rfl) | (obtain ⟨_, _, _, _, _, _, _, rfl, _⟩ := h; rfl) | (obtain ⟨_, _, _, _, _, _, _, _, rfl, _⟩ := h; rfl) | (obtain ⟨_, _, _, _, _, _, _, _, _, rfl, _⟩ := h; rfl) | (obtain ⟨_, _, _, _, _, _, _, _, _, _, rfl, _⟩ := h; rfl) | (obtain ⟨_, _, _, _, _, _, _, _, _, _, _, rfl, _⟩ := h; rfl) | (obtain ⟨_, _, _, _, _, _, _, _, _, _, _, _, rfl, _⟩ := h; rfl) | (obtain ⟨_, _, _, _, _, _, _, _, _, _, _, _, _, rfl, _⟩ := h; rfl) | exact Mt.tk_len rfl h | (obtain ⟨_, h⟩ := h; exact Mt.tk_len rfl h) | (obtain ⟨_, _, h⟩ := h; exact Mt.tk_len rfl h) | (obtain ⟨_, _, _, h⟩ := h; exact Mt.tk_len rfl h) | (obtain ⟨_, _, _, _, h⟩ := h; exact Mt.tk_len rfl h) | (obtain ⟨_, _, _, _, _, h⟩ := h; exact Mt.tk_len rfl h))) (g__law_is_whole K a) (fun f cdv A outer s H E hr => t__law_is_whole T  hr) (fun ds S q _ _ h => r__law_is_whole ds S q h)
theorem ok__law_refused (T : Txt K mg a) : Fnc P w K mg base "_law_refused" s__law_refused dv__law_refused 5 ps__law_refused (sp__law_refused a) :=
  fnc_of T.b__law_refused sc__law_refused (by intro ds S q h; first | (cases h with | inl h => (first | (obtain ⟨rfl, _⟩ := h; rfl) | (obtain ⟨_, rfl, _⟩ := h; rfl) | (obtain ⟨_, _, rfl, _⟩ := h; rfl) | (obtain ⟨_, _, _, rfl, _⟩ := h; rfl) | (obtain ⟨_, _, _, _, rfl, _⟩ := h; rfl) | (obtain ⟨_, _, _, _, _, rfl, _⟩ := h; rfl) | (obtain ⟨_, _, _, _, _, _, rfl, _⟩ := h; rfl) | (obtain ⟨_, _, _, _, _, _, _, rfl, _⟩ := h; rfl) | (obtain ⟨_, _, _, _, _, _, _, _, rfl, _⟩ := h; rfl) | (obtain ⟨_, _, _, _, _, _, _, _, _, rfl, _⟩ := h; rfl) | (obtain ⟨_, _, _, _, _, _, _, _, _, _, rfl, _⟩ := h; rfl) | (obtain ⟨_, _, _, _, _, _, _, _, _, _, _, rfl, _⟩ := h; rfl) | (obtain ⟨_, _, _, _, _, _, _, _, _, _, _, _, rfl, _⟩ := h; rfl) | (obtain ⟨_, _, _, _, _, _, _, _, _, _, _, _, _, rfl, _⟩ := h; rfl) | exact Mt.tk_len rfl h | (obtain ⟨_, h⟩ := h; exact Mt.tk_len rfl h) | (obtain ⟨_, _, h⟩ := h; exact Mt.tk_len rfl h) | (obtain ⟨_, _, _, h⟩ := h; exact Mt.tk_len rfl h) | (obtain ⟨_, _, _, _, h⟩ := h; exact Mt.tk_len rfl h) | (obtain ⟨_, _, _, _, _, h⟩ := h; exact Mt.tk_len rfl h)) | inr h => (first | (obtain ⟨rfl, _⟩ := h; rfl) | (obtain ⟨_, rfl, _⟩ := h; rfl) | (obtain ⟨_, _, rfl, _⟩ := h; rfl) | (obtain ⟨_, _, _, rfl, _⟩ := h; rfl) | (obtain ⟨_, _, _, _, rfl, _⟩ := h; rfl) | (obtain ⟨_, _, _, _, _, rfl, _⟩ := h; rfl) | (obtain ⟨_, _, _, _, _, _, rfl, _⟩ := h; rfl) | (obtain ⟨_, _, _, _, _, _, _, rfl, _⟩ := h; rfl) | (obtain ⟨_, _, _, _, _, _, _, _, rfl, _⟩ := h; rfl) | (obtain ⟨_, _, _, _, _, _, _, _, _, rfl, _⟩ := h; rfl) | (obtain ⟨_, _, _, _, _, _, _, _, _, _, rfl, _⟩ := h; rfl) | (obtain ⟨_, _, _, _, _, _, _, _, _, _, _, rfl, _⟩ := h; rfl) | (obtain ⟨_, _, _, _, _, _, _, _, _, _, _, _, rfl, _⟩ := h; rfl) | (obtain ⟨_, _, _, _, _, _, _, _, _, _, _, _, _, rfl, _⟩ := h; rfl) | exact Mt.tk_len rfl h | (obtain ⟨_, h⟩ := h; exact Mt.tk_len rfl h) | (obtain ⟨_, _, h⟩ := h; exact Mt.tk_len rfl h) | (obtain ⟨_, _, _, h⟩ := h; exact Mt.tk_len rfl h) | (obtain ⟨_, _, _, _, h⟩ := h; exact Mt.tk_len rfl h) | (obtain ⟨_, _, _, _, _, h⟩ := h; exact Mt.tk_len rfl h))) | (first | (obtain ⟨rfl, _⟩ := h; rfl) | (obtain ⟨_, rfl, _⟩ := h; rfl) | (obtain ⟨_, _, rfl, _⟩ := h; rfl) | (obtain ⟨_, _, _, rfl, _⟩ := h; rfl) | (obtain ⟨_, _, _, _, rfl, _⟩ := h; rfl) | (obtain ⟨_, _, _, _, _, rfl, _⟩ := h; rfl) | (obtain ⟨_, _, _, _, _, _, rfl, _⟩ := h; rfl) | (obtain ⟨_, _, _, _, _, _, _, rfl, _⟩ := h; rfl) | (obtain ⟨_, _, _, _, _, _, _, _, rfl, _⟩ := h; rfl) | (obtain ⟨_, _, _, _, _, _, _, _, _, rfl, _⟩ := h; rfl) | (obtain ⟨_, _, _, _, _, _, _, _, _, _, rfl, _⟩ := h; rfl) | (obtain ⟨_, _, _, _, _, _, _, _, _, _, _, rfl, _⟩ := h; rfl) | (obtain ⟨_, _, _, _, _, _, _, _, _, _, _, _, rfl, _⟩ := h; rfl) | (obtain ⟨_, _, _, _, _, _, _, _, _, _, _, _, _, rfl, _⟩ := h; rfl) | exact Mt.tk_len rfl h | (obtain ⟨_, h⟩ := h; exact Mt.tk_len rfl h) | (obtain ⟨_, _, h⟩ := h; exact Mt.tk_len rfl h) | (obtain ⟨_, _, _, h⟩ := h; exact Mt.tk_len rfl h) | (obtain ⟨_, _, _, _, h⟩ := h; exact Mt.tk_len rfl h) | (obtain ⟨_, _, _, _, _, h⟩ := h; exact Mt.tk_len rfl h))) (g__law_refused K a) (fun f cdv A outer s H E hr => t__law_refused T (ok_Stretch_init T) hr) (rf__law_refused T)
theorem ok__law_is (T : Txt K mg a) : Fnc P w K mg base "_law_is" s__law_is dv__law_is 6 ps__law_is (sp__law_is a) :=
  fnc_of0 T.b__law_is sc__law_is (by intro ds S q h; first | (cases h with | inl h => (first | (obtain ⟨rfl, _⟩ := h; rfl) | (obtain ⟨_, rfl, _⟩ := h; rfl) | (obtain ⟨_, _, rfl, _⟩ := h; rfl) | (obtain ⟨_, _, _, rfl, _⟩ := h; rfl) | (obtain ⟨_, _, _, _, rfl, _⟩ := h; rfl) | (obtain ⟨_, _, _, _, _, rfl, _⟩ := h; rfl) | (obtain ⟨_, _, _, _, _, _, rfl, _⟩ := h; rfl) | (obtain ⟨_, _, _, _, _, _, _, rfl, _⟩ := h; rfl) | (obtain ⟨_, _, _, _, _, _, _, _, rfl, _⟩ := h; rfl) | (obtain ⟨_, _, _, _, _, _, _, _, _, rfl, _⟩ := h; rfl) | (obtain ⟨_, _, _, _, _, _, _, _, _, _, rfl, _⟩ := h; rfl) | (obtain ⟨_, _, _, _, _, _, _, _, _, _, _, rfl, _⟩ := h; rfl) | (obtain ⟨_, _, _, _, _, _, _, _, _, _, _, _, rfl, _⟩ := h; rfl) | (obtain ⟨_, _, _, _, _, _, _, _, _, _, _, _, _, rfl, _⟩ := h; rfl) | exact Mt.tk_len rfl h | (obtain ⟨_, h⟩ := h; exact Mt.tk_len rfl h) | (obtain ⟨_, _, h⟩ := h; exact Mt.tk_len rfl h) | (obtain ⟨_, _, _, h⟩ := h; exact Mt.tk_len rfl h) | (obtain ⟨_, _, _, _, h⟩ := h; exact Mt.tk_len rfl h) | (obtain ⟨_, _, _, _, _, h⟩ := h; exact Mt.tk_len rfl h)) | inr h => (first | (obtain ⟨rfl, _⟩ := h; rfl) | (obtain ⟨_, rfl, _⟩ := h; rfl) | (obtain ⟨_, _, rfl, _⟩ := h; rfl) | (obtain ⟨_, _, _, rfl, _⟩ := h; rfl) | (obtain ⟨_, _, _, _, rfl, _⟩ := h; rfl) | (obtain ⟨_, _, _, _, _, rfl, _⟩ := h; rfl) | (obtain ⟨_, _, _, _, _, _, rfl, _⟩ := h; rfl) | (obtain ⟨_, _, _, _, _, _, _, rfl, _⟩ := h; rfl) | (obtain ⟨_, _, _, _, _, _, _, _, rfl, _⟩ := h; rfl) | (obtain ⟨_, _, _, _, _, _, _, _, _, rfl, _⟩ := h; rfl) | (obtain ⟨_, _, _, _, _, _, _, _, _, _, rfl, _⟩ := h; rfl) | (obtain ⟨_, _, _, _, _, _, _, _, _, _, _, rfl, _⟩ := h; rfl) | (obtain ⟨_, _, _, _, _, _, _, _, _, _, _, _, rfl, _⟩ := h; rfl) | (obtain ⟨_, _, _, _, _, _, _, _, _, _, _, _, _, rfl, _⟩ := h; rfl) | exact Mt.tk_len rfl h | (obtain ⟨_, h⟩ := h; exact Mt.tk_len rfl h) | (obtain ⟨_, _, h⟩ := h; exact Mt.tk_len rfl h) | (obtain ⟨_, _, _, h⟩ := h; exact Mt.tk_len rfl h) | (obtain ⟨_, _, _, _, h⟩ := h; exact Mt.tk_len rfl h) | (obtain ⟨_, _, _, _, _, h⟩ := h; exact Mt.tk_len rfl h))) | (first | (obtain ⟨rfl, _⟩ := h; rfl) | (obtain ⟨_, rfl, _⟩ := h; rfl) | (obtain ⟨_, _, rfl, _⟩ := h; rfl) | (obtain ⟨_, _, _, rfl, _⟩ := h; rfl) | (obtain ⟨_, _, _, _, rfl, _⟩ := h; rfl) | (obtain ⟨_, _, _, _, _, rfl, _⟩ := h; rfl) | (obtain ⟨_, _, _, _, _, _, rfl, _⟩ := h; rfl) | (obtain ⟨_, _, _, _, _, _, _, rfl, _⟩ := h; rfl) | (obtain ⟨_, _, _, _, _, _, _, _, rfl, _⟩ := h; rfl) | (obtain ⟨_, _, _, _, _, _, _, _, _, rfl, _⟩ := h; rfl) | (obtain ⟨_, _, _, _, _, _, _, _, _, _, rfl, _⟩ := h; rfl) | (obtain ⟨_, _, _, _, _, _, _, _, _, _, _, rfl, _⟩ := h; rfl) | (obtain ⟨_, _, _, _, _, _, _, _, _, _, _, _, rfl, _⟩ := h; rfl) | (obtain ⟨_, _, _, _, _, _, _, _, _, _, _, _, _, rfl, _⟩ := h; rfl) | exact Mt.tk_len rfl h | (obtain ⟨_, h⟩ := h; exact Mt.tk_len rfl h) | (obtain ⟨_, _, h⟩ := h; exact Mt.tk_len rfl h) | (obtain ⟨_, _, _, h⟩ := h; exact Mt.tk_len rfl h) | (obtain ⟨_, _, _, _, h⟩ := h; exact Mt.tk_len rfl h) | (obtain ⟨_, _, _, _, _, h⟩ := h; exact Mt.tk_len rfl h))) (g__law_is K a) (fun f cdv A outer s H E hr => t__law_is T (ok_Stretch_len T) (ok_Stretch_repr T) (ok_Stretch_str T) (ok__law_is_whole T) (ok__law_time T) hr) (fun ds S q _ _ h => r__law_is T ds S q h)
theorem ok__law_pair (T : Txt K mg a) : Fnc P w K mg base "_law_pair" s__law_pair dv__law_pair 3 ps__law_pair (sp__law_pair a) :=
  fnc_of0 T.b__law_pair sc__law_pair (by intro ds S q h; first | (cases h with | inl h => (first | (obtain ⟨rfl, _⟩ := h; rfl) | (obtain ⟨_, rfl, _⟩ := h; rfl) | (obtain ⟨_, _, rfl, _⟩ := h; rfl) | (obtain ⟨_, _, _, rfl, _⟩ := h; rfl) | (obtain ⟨_, _, _, _, rfl, _⟩ := h; rfl) | (obtain ⟨_, _, _, _, _, rfl, _⟩ := h; rfl) | (obtain ⟨_, _, _, _, _, _, rfl, _⟩ := h; rfl) | (obtain ⟨_, _, _, _, _, _, _, rfl, _⟩ := h; rfl) | (obtain ⟨_, _, _, _, _, _, _, _, rfl, _⟩ := h; rfl) | (obtain ⟨_, _, _, _, _, _, _, _, _, rfl, _⟩ := h; rfl) | (obtain ⟨_, _, _, _, _, _, _, _, _, _, rfl, _⟩ := h; rfl) | (obtain ⟨_, _, _, _, _, _, _, _, _, _, _, rfl, _⟩ := h; rfl) | (obtain ⟨_, _, _, _, _, _, _, _, _, _, _, _, rfl, _⟩ := h; rfl) | (obtain ⟨_, _, _, _, _, _, _, _, _, _, _, _, _, rfl, _⟩ := h; rfl) | exact Mt.tk_len rfl h | (obtain ⟨_, h⟩ := h; exact Mt.tk_len rfl h) | (obtain ⟨_, _, h⟩ := h; exact Mt.tk_len rfl h) | (obtain ⟨_, _, _, h⟩ := h; exact Mt.tk_len rfl h) | (obtain ⟨_, _, _, _, h⟩ := h; exact Mt.tk_len rfl h) | (obtain ⟨_, _, _, _, _, h⟩ := h; exact Mt.tk_len rfl h)) | inr h => (first | (obtain ⟨rfl, _⟩ := h; rfl) | (obtain ⟨_, rfl, _⟩ := h; rfl) | (obtain ⟨_, _, rfl, _⟩ := h; rfl) | (obtain ⟨_, _, _, rfl, _⟩ := h; rfl) | (obtain ⟨_, _, _, _, rfl, _⟩ := h; rfl) | (obtain ⟨_, _, _, _, _, rfl, _⟩ := h; rfl) | (obtain ⟨_, _, _, _, _, _, rfl, _⟩ := h; rfl) | (obtain ⟨_, _, _, _, _, _, _, rfl, _⟩ := h; rfl) | (obtain ⟨_, _, _, _, _, _, _, _, rfl, _⟩ := h; rfl) | (obtain ⟨_, _, _, _, _, _, _, _, _, rfl, _⟩ := h; rfl) | (obtain ⟨_, _, _, _, _, _, _, _, _, _, rfl, _⟩ := h; rfl) | (obtain ⟨_, _, _, _, _, _, _, _, _, _, _, rfl, _⟩ := h; rfl) | (obtain ⟨_, _, _, _, _, _, _, _, _, _, _, _, rfl, _⟩ := h; rfl) | (obtain ⟨_, _, _, _, _, _, _, _, _, _, _, _, _, rfl, _⟩ := h; rfl) | exact Mt.tk_len rfl h | (obtain ⟨_, h⟩ := h; exact Mt.tk_len rfl h) | (obtain ⟨_, _, h⟩ := h; exact Mt.tk_len rfl h) | (obtain ⟨_, _, _, h⟩ := h; exact Mt.tk_len rfl h) | (obtain ⟨_, _, _, _, h⟩ := h; exact Mt.tk_len rfl h) | (obtain ⟨_, _, _, _, _, h⟩ := h; exact Mt.tk_len rfl h))) | (first | (obtain ⟨rfl, _⟩ := h; rfl) | (obtain ⟨_, rfl, _⟩ := h; rfl) | (obtain ⟨_, _, rfl, _⟩ := h; rfl) | (obtain ⟨_, _, _, rfl, _⟩ := h; rfl) | (obtain ⟨_, _, _, _, rfl, _⟩ := h; rfl) | (obtain ⟨_, _, _, _, _, rfl, _⟩ := h; rfl) | (obtain ⟨_, _, _, _, _, _, rfl, _⟩ := h; rfl) | (obtain ⟨_, _, _, _, _, _, _, rfl, _⟩ := h; rfl) | (obtain ⟨_, _, _, _, _, _, _, _, rfl, _⟩ := h; rfl) | (obtain ⟨_, _, _, _, _, _, _, _, _, rfl, _⟩ := h; rfl) | (obtain ⟨_, _, _, _, _, _, _, _, _, _, rfl, _⟩ := h; rfl) | (obtain ⟨_, _, _, _, _, _, _, _, _, _, _, rfl, _⟩ := h; rfl) | (obtain ⟨_, _, _, _, _, _, _, _, _, _, _, _, rfl, _⟩ := h; rfl) | (obtain ⟨_, _, _, _, _, _, _, _, _, _, _, _, _, rfl, _⟩ := h; rfl) | exact Mt.tk_len rfl h | (obtain ⟨_, h⟩ := h; exact Mt.tk_len rfl h) | (obtain ⟨_, _, h⟩ := h; exact Mt.tk_len rfl h) | (obtain ⟨_, _, _, h⟩ := h; exact Mt.tk_len rfl h) | (obtain ⟨_, _, _, _, h⟩ := h; exact Mt.tk_len rfl h) | (obtain ⟨_, _, _, _, _, h⟩ := h; exact Mt.tk_len rfl h))) (g__law_pair K a) (fun f cdv A outer s H E hr => t__law_pair T (ok__law_draw T) (ok__law_pick T) hr) (fun ds S q _ _ h => r__law_pair ds S q h)
theorem ok__law_near (T : Txt K mg a) : Fnc P w K mg base "_law_near" s__law_near dv__law_near 4 ps__law_near (sp__law_near a) :=
  fnc_of0 T.b__law_near sc__law_near (by intro ds S q h; first | (cases h with | inl h => (first | (obtain ⟨rfl, _⟩ := h; rfl) | (obtain ⟨_, rfl, _⟩ := h; rfl) | (obtain ⟨_, _, rfl, _⟩ := h; rfl) | (obtain ⟨_, _, _, rfl, _⟩ := h; rfl) | (obtain ⟨_, _, _, _, rfl, _⟩ := h; rfl) | (obtain ⟨_, _, _, _, _, rfl, _⟩ := h; rfl) | (obtain ⟨_, _, _, _, _, _, rfl, _⟩ := h; rfl) | (obtain ⟨_, _, _, _, _, _, _, rfl, _⟩ := h; rfl) | (obtain ⟨_, _, _, _, _, _, _, _, rfl, _⟩ := h; rfl) | (obtain ⟨_, _, _, _, _, _, _, _, _, rfl, _⟩ := h; rfl) | (obtain ⟨_, _, _, _, _, _, _, _, _, _, rfl, _⟩ := h; rfl) | (obtain ⟨_, _, _, _, _, _, _, _, _, _, _, rfl, _⟩ := h; rfl) | (obtain ⟨_, _, _, _, _, _, _, _, _, _, _, _, rfl, _⟩ := h; rfl) | (obtain ⟨_, _, _, _, _, _, _, _, _, _, _, _, _, rfl, _⟩ := h; rfl) | exact Mt.tk_len rfl h | (obtain ⟨_, h⟩ := h; exact Mt.tk_len rfl h) | (obtain ⟨_, _, h⟩ := h; exact Mt.tk_len rfl h) | (obtain ⟨_, _, _, h⟩ := h; exact Mt.tk_len rfl h) | (obtain ⟨_, _, _, _, h⟩ := h; exact Mt.tk_len rfl h) | (obtain ⟨_, _, _, _, _, h⟩ := h; exact Mt.tk_len rfl h)) | inr h => (first | (obtain ⟨rfl, _⟩ := h; rfl) | (obtain ⟨_, rfl, _⟩ := h; rfl) | (obtain ⟨_, _, rfl, _⟩ := h; rfl) | (obtain ⟨_, _, _, rfl, _⟩ := h; rfl) | (obtain ⟨_, _, _, _, rfl, _⟩ := h; rfl) | (obtain ⟨_, _, _, _, _, rfl, _⟩ := h; rfl) | (obtain ⟨_, _, _, _, _, _, rfl, _⟩ := h; rfl) | (obtain ⟨_, _, _, _, _, _, _, rfl, _⟩ := h; rfl) | (obtain ⟨_, _, _, _, _, _, _, _, rfl, _⟩ := h; rfl) | (obtain ⟨_, _, _, _, _, _, _, _, _, rfl, _⟩ := h; rfl) | (obtain ⟨_, _, _, _, _, _, _, _, _, _, rfl, _⟩ := h; rfl) | (obtain ⟨_, _, _, _, _, _, _, _, _, _, _, rfl, _⟩ := h; rfl) | (obtain ⟨_, _, _, _, _, _, _, _, _, _, _, _, rfl, _⟩ := h; rfl) | (obtain ⟨_, _, _, _, _, _, _, _, _, _, _, _, _, rfl, _⟩ := h; rfl) | exact Mt.tk_len rfl h | (obtain ⟨_, h⟩ := h; exact Mt.tk_len rfl h) | (obtain ⟨_, _, h⟩ := h; exact Mt.tk_len rfl h) | (obtain ⟨_, _, _, h⟩ := h; exact Mt.tk_len rfl h) | (obtain ⟨_, _, _, _, h⟩ := h; exact Mt.tk_len rfl h) | (obtain ⟨_, _, _, _, _, h⟩ := h; exact Mt.tk_len rfl h))) | (first | (obtain ⟨rfl, _⟩ := h; rfl) | (obtain ⟨_, rfl, _⟩ := h; rfl) | (obtain ⟨_, _, rfl, _⟩ := h; rfl) | (obtain ⟨_, _, _, rfl, _⟩ := h; rfl) | (obtain ⟨_, _, _, _, rfl, _⟩ := h; rfl) | (obtain ⟨_, _, _, _, _, rfl, _⟩ := h; rfl) | (obtain ⟨_, _, _, _, _, _, rfl, _⟩ := h; rfl) | (obtain ⟨_, _, _, _, _, _, _, rfl, _⟩ := h; rfl) | (obtain ⟨_, _, _, _, _, _, _, _, rfl, _⟩ := h; rfl) | (obtain ⟨_, _, _, _, _, _, _, _, _, rfl, _⟩ := h; rfl) | (obtain ⟨_, _, _, _, _, _, _, _, _, _, rfl, _⟩ := h; rfl) | (obtain ⟨_, _, _, _, _, _, _, _, _, _, _, rfl, _⟩ := h; rfl) | (obtain ⟨_, _, _, _, _, _, _, _, _, _, _, _, rfl, _⟩ := h; rfl) | (obtain ⟨_, _, _, _, _, _, _, _, _, _, _, _, _, rfl, _⟩ := h; rfl) | exact Mt.tk_len rfl h | (obtain ⟨_, h⟩ := h; exact Mt.tk_len rfl h) | (obtain ⟨_, _, h⟩ := h; exact Mt.tk_len rfl h) | (obtain ⟨_, _, _, h⟩ := h; exact Mt.tk_len rfl h) | (obtain ⟨_, _, _, _, h⟩ := h; exact Mt.tk_len rfl h) | (obtain ⟨_, _, _, _, _, h⟩ := h; exact Mt.tk_len rfl h))) (g__law_near K a) (fun f cdv A outer s H E hr => t__law_near T (ok__law_pair T) (ok__law_pick T) hr) (fun ds S q _ _ h => r__law_near ds S q h)
end
theorem all_mk {l : PySem.W.OpenLaw} {w : World} {K : PySem.W.Frag} {h : Heap} {mg : Str → Option Value} {fa : Addr} (X : K.In h) (G : h.Ns mainGlobals mg) (hfa : mg "law" = some (.ref fa))
    {C_NoTime : Addr} {C_NoBridge : Addr} {C_NoWaits : Addr} {C_NoStretch : Addr} {C_Overload : Addr} {C_Stretch : Addr} {f_show_clock : Addr} {od_show_clock an_show_clock : Option Addr} {sl_show_clock : Array (Option Value)} {oc_show_clock kV_show_clock dc_show_clock pm_show_clock cd_show_clock ct_show_clock : Value} {f_show_time : Addr} {od_show_time an_show_time : Option Addr} {sl_show_time : Array (Option Value)} {oc_show_time kV_show_time dc_show_time pm_show_time cd_show_time ct_show_time : Value} {f_Stretch_init : Addr} {od_Stretch_init an_Stretch_init : Option Addr} {sl_Stretch_init : Array (Option Value)} {oc_Stretch_init kV_Stretch_init dc_Stretch_init pm_Stretch_init cd_Stretch_init ct_Stretch_init : Value} {T_Stretch_init : Addr} {dn_Stretch_init : Nat} {ds_Stretch_init : Array (Option Value)} {dc2_Stretch_init : Value} {dd_Stretch_init : Option Addr} {dv_Stretch_init_0 : Value} {f_Stretch_len : Addr} {od_Stretch_len an_Stretch_len : Option Addr} {sl_Stretch_len : Array (Option Value)} {oc_Stretch_len kV_Stretch_len dc_Stretch_len pm_Stretch_len cd_Stretch_len ct_Stretch_len : Value} {f_Stretch_eq : Addr} {od_Stretch_eq an_Stretch_eq : Option Addr} {sl_Stretch_eq : Array (Option Value)} {oc_Stretch_eq kV_Stretch_eq dc_Stretch_eq pm_Stretch_eq cd_Stretch_eq ct_Stretch_eq : Value} {f_Stretch_repr : Addr} {od_Stretch_repr an_Stretch_repr : Option Addr} {sl_Stretch_repr : Array (Option Value)} {oc_Stretch_repr kV_Stretch_repr dc_Stretch_repr pm_Stretch_repr cd_Stretch_repr ct_Stretch_repr : Value} {f_Stretch_str : Addr} {od_Stretch_str an_Stretch_str : Option Addr} {sl_Stretch_str : Array (Option Value)} {oc_Stretch_str kV_Stretch_str dc_Stretch_str pm_Stretch_str cd_Stretch_str ct_Stretch_str : Value} {f__law_tape : Addr} {od__law_tape an__law_tape : Option Addr} {sl__law_tape : Array (Option Value)} {oc__law_tape kV__law_tape dc__law_tape pm__law_tape cd__law_tape ct__law_tape : Value} {f__law_draw : Addr} {od__law_draw an__law_draw : Option Addr} {sl__law_draw : Array (Option Value)} {oc__law_draw kV__law_draw dc__law_draw pm__law_draw cd__law_draw ct__law_draw : Value} {f__law_pick : Addr} {od__law_pick an__law_pick : Option Addr} {sl__law_pick : Array (Option Value)} {oc__law_pick kV__law_pick dc__law_pick pm__law_pick cd__law_pick ct__law_pick : Value} {f__law_two : Addr} {od__law_two an__law_two : Option Addr} {sl__law_two : Array (Option Value)} {oc__law_two kV__law_two dc__law_two pm__law_two cd__law_two ct__law_two : Value} {f__law_time : Addr} {od__law_time an__law_time : Option Addr} {sl__law_time : Array (Option Value)} {oc__law_time kV__law_time dc__law_time pm__law_time cd__law_time ct__law_time : Value} {f__law_is_whole : Addr} {od__law_is_whole an__law_is_whole : Option Addr} {sl__law_is_whole : Array (Option Value)} {oc__law_is_whole kV__law_is_whole dc__law_is_whole pm__law_is_whole cd__law_is_whole ct__law_is_whole : Value} {f__law_refused : Addr} {od__law_refused an__law_refused : Option Addr} {sl__law_refused : Array (Option Value)} {oc__law_refused kV__law_refused dc__law_refused pm__law_refused cd__law_refused ct__law_refused : Value} {f__law_is : Addr} {od__law_is an__law_is : Option Addr} {sl__law_is : Array (Option Value)} {oc__law_is kV__law_is dc__law_is pm__law_is cd__law_is ct__law_is : Value} {f__law_pair : Addr} {od__law_pair an__law_pair : Option Addr} {sl__law_pair : Array (Option Value)} {oc__law_pair kV__law_pair dc__law_pair pm__law_pair cd__law_pair ct__law_pair : Value} {f__law_near : Addr} {od__law_near an__law_near : Option Addr} {sl__law_near : Array (Option Value)} {oc__law_near kV__law_near dc__law_near pm__law_near cd__law_near ct__law_near : Value} {f_law : Addr} {od_law an_law : Option Addr} {sl_law : Array (Option Value)} {oc_law kV_law dc_law pm_law cd_law ct_law : Value} {nm_NoTime q_NoTime : Str} {N_NoTime : Addr} {bs_NoTime : List Value} {sn_NoTime : List Str} {sub_NoTime : List Value} {ab_NoTime : Bool} {col_NoTime : Option Bool} {dd_NoTime : Option Addr} {k0_NoTime k1_NoTime k2_NoTime k3_NoTime k5_NoTime : Option Value} {f_NoTime_init : Addr} {od_NoTime_init an_NoTime_init : Option Addr} {sl_NoTime_init : Array (Option Value)} {oc_NoTime_init kV_NoTime_init dc_NoTime_init pm_NoTime_init cd_NoTime_init ct_NoTime_init : Value} {nm_NoWaits q_NoWaits : Str} {N_NoWaits : Addr} {bs_NoWaits : List Value} {sn_NoWaits : List Str} {sub_NoWaits : List Value} {ab_NoWaits : Bool} {col_NoWaits : Option Bool} {dd_NoWaits : Option Addr} {k0_NoWaits k1_NoWaits k2_NoWaits k3_NoWaits k5_NoWaits : Option Value} {f_NoWaits_init : Addr} {od_NoWaits_init an_NoWaits_init : Option Addr} {sl_NoWaits_init : Array (Option Value)} {oc_NoWaits_init kV_NoWaits_init dc_NoWaits_init pm_NoWaits_init cd_NoWaits_init ct_NoWaits_init : Value} {nm_NoStretch q_NoStretch : Str} {N_NoStretch : Addr} {bs_NoStretch : List Value} {sn_NoStretch : List Str} {sub_NoStretch : List Value} {ab_NoStretch : Bool} {col_NoStretch : Option Bool} {dd_NoStretch : Option Addr} {k0_NoStretch k1_NoStretch k2_NoStretch k3_NoStretch k5_NoStretch : Option Value} {f_NoStretch_init : Addr} {od_NoStretch_init an_NoStretch_init : Option Addr} {sl_NoStretch_init : Array (Option Value)} {oc_NoStretch_init kV_NoStretch_init dc_NoStretch_init pm_NoStretch_init cd_NoStretch_init ct_NoStretch_init : Value} {nm_Overload q_Overload : Str} {N_Overload : Addr} {bs_Overload : List Value} {sn_Overload : List Str} {sub_Overload : List Value} {ab_Overload : Bool} {col_Overload : Option Bool} {dd_Overload : Option Addr} {k0_Overload k1_Overload k2_Overload k3_Overload k5_Overload : Option Value} {f_Overload_init : Addr} {od_Overload_init an_Overload_init : Option Addr} {sl_Overload_init : Array (Option Value)} {oc_Overload_init kV_Overload_init dc_Overload_init pm_Overload_init cd_Overload_init ct_Overload_init : Value} {tc_DAY : Tok} {tc_HOUR : Tok}
    (aC_NoTime : PySem.W.nsIn K mainGlobals "NoTime" = some (some (.ref C_NoTime)))
    (aC_NoBridge : PySem.W.nsIn K mainGlobals "NoBridge" = some (some (.ref C_NoBridge)))
    (aC_NoWaits : PySem.W.nsIn K mainGlobals "NoWaits" = some (some (.ref C_NoWaits)))
    (aC_NoStretch : PySem.W.nsIn K mainGlobals "NoStretch" = some (some (.ref C_NoStretch)))
    (aC_Overload : PySem.W.nsIn K mainGlobals "Overload" = some (some (.ref C_Overload)))
    (aC_Stretch : PySem.W.nsIn K mainGlobals "Stretch" = some (some (.ref C_Stretch)))
    (a_show_clock : PySem.W.nsIn K mainGlobals "show_clock" = some (some (.ref f_show_clock)))
    (l_show_clock : K.lookup f_show_clock = some ⟨oc_show_clock, od_show_clock, .func (PySem.W.fnOf "show_clock" "show_clock" (defArgs s_show_clock) (defBody s_show_clock) (defScope s_show_clock) .none kV_show_clock dc_show_clock pm_show_clock an_show_clock cd_show_clock ct_show_clock), sl_show_clock⟩)
    (c_show_clock : PySem.W.codeIn K cd_show_clock "show_clock" = true)
    (k_show_clock : PySem.W.keepIn K (.ref f_show_clock) = true)
    (a_show_time : PySem.W.nsIn K mainGlobals "show_time" = some (some (.ref f_show_time)))
    (l_show_time : K.lookup f_show_time = some ⟨oc_show_time, od_show_time, .func (PySem.W.fnOf "show_time" "show_time" (defArgs s_show_time) (defBody s_show_time) (defScope s_show_time) .none kV_show_time dc_show_time pm_show_time an_show_time cd_show_time ct_show_time), sl_show_time⟩)
    (c_show_time : PySem.W.codeIn K cd_show_time "show_time" = true)
    (k_show_time : PySem.W.keepIn K (.ref f_show_time) = true)
    (a_Stretch_init : PySem.W.findIn K (.ref C_Stretch) "__init__" = some (some (.ref f_Stretch_init)))
    (i_Stretch_init : PySem.W.isFn K (.ref f_Stretch_init) = true)
    (l_Stretch_init : K.lookup f_Stretch_init = some ⟨oc_Stretch_init, od_Stretch_init, .func (PySem.W.fnOf "__init__" "Stretch.__init__" (defArgs s_Stretch_init) (defBody s_Stretch_init) (defScope s_Stretch_init) (.ref T_Stretch_init) kV_Stretch_init dc_Stretch_init pm_Stretch_init an_Stretch_init cd_Stretch_init ct_Stretch_init), sl_Stretch_init⟩)
    (c_Stretch_init : PySem.W.codeIn K cd_Stretch_init "Stretch.__init__" = true)
    (k_Stretch_init : PySem.W.keepIn K (.ref f_Stretch_init) = true)
    (d_Stretch_init : K.lookup T_Stretch_init = some ⟨dc2_Stretch_init, dd_Stretch_init, .seq #[dv_Stretch_init_0] dn_Stretch_init, ds_Stretch_init⟩)
    (e_Stretch_init_0 : RelV (.non) dv_Stretch_init_0)
    (a_Stretch_len : PySem.W.findIn K (.ref C_Stretch) "__len__" = some (some (.ref f_Stretch_len)))
    (i_Stretch_len : PySem.W.isFn K (.ref f_Stretch_len) = true)
    (l_Stretch_len : K.lookup f_Stretch_len = some ⟨oc_Stretch_len, od_Stretch_len, .func (PySem.W.fnOf "__len__" "Stretch.__len__" (defArgs s_Stretch_len) (defBody s_Stretch_len) (defScope s_Stretch_len) .none kV_Stretch_len dc_Stretch_len pm_Stretch_len an_Stretch_len cd_Stretch_len ct_Stretch_len), sl_Stretch_len⟩)
    (c_Stretch_len : PySem.W.codeIn K cd_Stretch_len "Stretch.__len__" = true)
    (k_Stretch_len : PySem.W.keepIn K (.ref f_Stretch_len) = true)
    (a_Stretch_eq : PySem.W.findIn K (.ref C_Stretch) "__eq__" = some (some (.ref f_Stretch_eq)))
    (i_Stretch_eq : PySem.W.isFn K (.ref f_Stretch_eq) = true)
    (l_Stretch_eq : K.lookup f_Stretch_eq = some ⟨oc_Stretch_eq, od_Stretch_eq, .func (PySem.W.fnOf "__eq__" "Stretch.__eq__" (defArgs s_Stretch_eq) (defBody s_Stretch_eq) (defScope s_Stretch_eq) .none kV_Stretch_eq dc_Stretch_eq pm_Stretch_eq an_Stretch_eq cd_Stretch_eq ct_Stretch_eq), sl_Stretch_eq⟩)
    (c_Stretch_eq : PySem.W.codeIn K cd_Stretch_eq "Stretch.__eq__" = true)
    (k_Stretch_eq : PySem.W.keepIn K (.ref f_Stretch_eq) = true)
    (a_Stretch_repr : PySem.W.findIn K (.ref C_Stretch) "__repr__" = some (some (.ref f_Stretch_repr)))
    (i_Stretch_repr : PySem.W.isFn K (.ref f_Stretch_repr) = true)
    (l_Stretch_repr : K.lookup f_Stretch_repr = some ⟨oc_Stretch_repr, od_Stretch_repr, .func (PySem.W.fnOf "__repr__" "Stretch.__repr__" (defArgs s_Stretch_repr) (defBody s_Stretch_repr) (defScope s_Stretch_repr) .none kV_Stretch_repr dc_Stretch_repr pm_Stretch_repr an_Stretch_repr cd_Stretch_repr ct_Stretch_repr), sl_Stretch_repr⟩)
    (c_Stretch_repr : PySem.W.codeIn K cd_Stretch_repr "Stretch.__repr__" = true)
    (k_Stretch_repr : PySem.W.keepIn K (.ref f_Stretch_repr) = true)
    (a_Stretch_str : PySem.W.findIn K (.ref C_Stretch) "__str__" = some (some (.ref f_Stretch_str)))
    (i_Stretch_str : PySem.W.isFn K (.ref f_Stretch_str) = true)
    (l_Stretch_str : K.lookup f_Stretch_str = some ⟨oc_Stretch_str, od_Stretch_str, .func (PySem.W.fnOf "__str__" "Stretch.__str__" (defArgs s_Stretch_str) (defBody s_Stretch_str) (defScope s_Stretch_str) .none kV_Stretch_str dc_Stretch_str pm_Stretch_str an_Stretch_str cd_Stretch_str ct_Stretch_str), sl_Stretch_str⟩)
    (c_Stretch_str : PySem.W.codeIn K cd_Stretch_str "Stretch.__str__" = true)
    (k_Stretch_str : PySem.W.keepIn K (.ref f_Stretch_str) = true)
    (a__law_tape : PySem.W.nsIn K mainGlobals "_law_tape" = some (some (.ref f__law_tape)))
    (l__law_tape : K.lookup f__law_tape = some ⟨oc__law_tape, od__law_tape, .func (PySem.W.fnOf "_law_tape" "_law_tape" (defArgs s__law_tape) (defBody s__law_tape) (defScope s__law_tape) .none kV__law_tape dc__law_tape pm__law_tape an__law_tape cd__law_tape ct__law_tape), sl__law_tape⟩)
    (c__law_tape : PySem.W.codeIn K cd__law_tape "_law_tape" = true)
    (k__law_tape : PySem.W.keepIn K (.ref f__law_tape) = true)
    (a__law_draw : PySem.W.nsIn K mainGlobals "_law_draw" = some (some (.ref f__law_draw)))
    (l__law_draw : K.lookup f__law_draw = some ⟨oc__law_draw, od__law_draw, .func (PySem.W.fnOf "_law_draw" "_law_draw" (defArgs s__law_draw) (defBody s__law_draw) (defScope s__law_draw) .none kV__law_draw dc__law_draw pm__law_draw an__law_draw cd__law_draw ct__law_draw), sl__law_draw⟩)
    (c__law_draw : PySem.W.codeIn K cd__law_draw "_law_draw" = true)
    (k__law_draw : PySem.W.keepIn K (.ref f__law_draw) = true)
    (a__law_pick : PySem.W.nsIn K mainGlobals "_law_pick" = some (some (.ref f__law_pick)))
    (l__law_pick : K.lookup f__law_pick = some ⟨oc__law_pick, od__law_pick, .func (PySem.W.fnOf "_law_pick" "_law_pick" (defArgs s__law_pick) (defBody s__law_pick) (defScope s__law_pick) .none kV__law_pick dc__law_pick pm__law_pick an__law_pick cd__law_pick ct__law_pick), sl__law_pick⟩)
    (c__law_pick : PySem.W.codeIn K cd__law_pick "_law_pick" = true)
    (k__law_pick : PySem.W.keepIn K (.ref f__law_pick) = true)
    (a__law_two : PySem.W.nsIn K mainGlobals "_law_two" = some (some (.ref f__law_two)))
    (l__law_two : K.lookup f__law_two = some ⟨oc__law_two, od__law_two, .func (PySem.W.fnOf "_law_two" "_law_two" (defArgs s__law_two) (defBody s__law_two) (defScope s__law_two) .none kV__law_two dc__law_two pm__law_two an__law_two cd__law_two ct__law_two), sl__law_two⟩)
    (c__law_two : PySem.W.codeIn K cd__law_two "_law_two" = true)
    (k__law_two : PySem.W.keepIn K (.ref f__law_two) = true)
    (a__law_time : PySem.W.nsIn K mainGlobals "_law_time" = some (some (.ref f__law_time)))
    (l__law_time : K.lookup f__law_time = some ⟨oc__law_time, od__law_time, .func (PySem.W.fnOf "_law_time" "_law_time" (defArgs s__law_time) (defBody s__law_time) (defScope s__law_time) .none kV__law_time dc__law_time pm__law_time an__law_time cd__law_time ct__law_time), sl__law_time⟩)
    (c__law_time : PySem.W.codeIn K cd__law_time "_law_time" = true)
    (k__law_time : PySem.W.keepIn K (.ref f__law_time) = true)
    (a__law_is_whole : PySem.W.nsIn K mainGlobals "_law_is_whole" = some (some (.ref f__law_is_whole)))
    (l__law_is_whole : K.lookup f__law_is_whole = some ⟨oc__law_is_whole, od__law_is_whole, .func (PySem.W.fnOf "_law_is_whole" "_law_is_whole" (defArgs s__law_is_whole) (defBody s__law_is_whole) (defScope s__law_is_whole) .none kV__law_is_whole dc__law_is_whole pm__law_is_whole an__law_is_whole cd__law_is_whole ct__law_is_whole), sl__law_is_whole⟩)
    (c__law_is_whole : PySem.W.codeIn K cd__law_is_whole "_law_is_whole" = true)
    (k__law_is_whole : PySem.W.keepIn K (.ref f__law_is_whole) = true)
    (a__law_refused : PySem.W.nsIn K mainGlobals "_law_refused" = some (some (.ref f__law_refused)))
    (l__law_refused : K.lookup f__law_refused = some ⟨oc__law_refused, od__law_refused, .func (PySem.W.fnOf "_law_refused" "_law_refused" (defArgs s__law_refused) (defBody s__law_refused) (defScope s__law_refused) .none kV__law_refused dc__law_refused pm__law_refused an__law_refused cd__law_refused ct__law_refused), sl__law_refused⟩)
    (c__law_refused : PySem.W.codeIn K cd__law_refused "_law_refused" = true)
    (k__law_refused : PySem.W.keepIn K (.ref f__law_refused) = true)
    (a__law_is : PySem.W.nsIn K mainGlobals "_law_is" = some (some (.ref f__law_is)))
    (l__law_is : K.lookup f__law_is = some ⟨oc__law_is, od__law_is, .func (PySem.W.fnOf "_law_is" "_law_is" (defArgs s__law_is) (defBody s__law_is) (defScope s__law_is) .none kV__law_is dc__law_is pm__law_is an__law_is cd__law_is ct__law_is), sl__law_is⟩)
    (c__law_is : PySem.W.codeIn K cd__law_is "_law_is" = true)
    (k__law_is : PySem.W.keepIn K (.ref f__law_is) = true)
    (a__law_pair : PySem.W.nsIn K mainGlobals "_law_pair" = some (some (.ref f__law_pair)))
    (l__law_pair : K.lookup f__law_pair = some ⟨oc__law_pair, od__law_pair, .func (PySem.W.fnOf "_law_pair" "_law_pair" (defArgs s__law_pair) (defBody s__law_pair) (defScope s__law_pair) .none kV__law_pair dc__law_pair pm__law_pair an__law_pair cd__law_pair ct__law_pair), sl__law_pair⟩)
    (c__law_pair : PySem.W.codeIn K cd__law_pair "_law_pair" = true)
    (k__law_pair : PySem.W.keepIn K (.ref f__law_pair) = true)
    (a__law_near : PySem.W.nsIn K mainGlobals "_law_near" = some (some (.ref f__law_near)))
    (l__law_near : K.lookup f__law_near = some ⟨oc__law_near, od__law_near, .func (PySem.W.fnOf "_law_near" "_law_near" (defArgs s__law_near) (defBody s__law_near) (defScope s__law_near) .none kV__law_near dc__law_near pm__law_near an__law_near cd__law_near ct__law_near), sl__law_near⟩)
    (c__law_near : PySem.W.codeIn K cd__law_near "_law_near" = true)
    (k__law_near : PySem.W.keepIn K (.ref f__law_near) = true)
    (a_law : PySem.W.nsIn K mainGlobals "law" = some (some (.ref f_law)))
    (l_law : K.lookup f_law = some ⟨oc_law, od_law, .func (PySem.W.fnOf "law" "law" (defArgs s_law) (defBody s_law) (defScope s_law) .none kV_law dc_law pm_law an_law cd_law ct_law), sl_law⟩)
    (c_law : PySem.W.codeIn K cd_law "law" = true)
    (k_law : PySem.W.keepIn K (.ref f_law) = true)
    (pg_Stretch : PySem.W.plainGet K C_Stretch Str.empty = true)
    (hd_Stretch : PySem.W.hasDictIn K C_Stretch = true)
    (po_Stretch : PySem.W.plainOver K C_Stretch = true)
    (sa_Stretch : PySem.W.findIn K (.ref C_Stretch) "__setattr__" = some (some (.builtin "object.__setattr__")))
    (mk_Stretch : PySem.W.makesIn K C_Stretch = true)
    (kc_Stretch : PySem.W.keepIn K (.ref C_Stretch) = true)
    (xga_NoTime : PySem.W.findIn K (.ref C_NoTime) "__getattribute__" = some (some (.builtin "BaseException.__getattribute__")))
    (xgg_NoTime : PySem.W.findIn K (.ref C_NoTime) "__getattr__" = some none)
    (xex_NoTime : PySem.W.subIn K (.ref C_NoTime) (.type "BaseException") = some true)
    (xhd_NoTime : PySem.W.hasDictIn K C_NoTime = true)
    (xha_NoTime : PySem.W.findIn K (.ref C_NoTime) "__class__" = some (some (.builtin "object.__class__")))
    (xhn_NoTime : PySem.W.specialIn K (.builtin "object.__class__") "__get__" = some (some (.builtin "getset_descriptor.__get__")))
    (xht_NoTime : PySem.W.takesIn K (.builtin "object.__class__") = some true)
    (xhm_NoTime : PySem.W.mroIn K C_NoTime (.type "object") = some true)
    (xl_NoTime : K.lookup C_NoTime = some (excClassObj nm_NoTime q_NoTime C_NoTime N_NoTime bs_NoTime [.type "ValueError", .type "Exception", .type "BaseException", .type "object"] true sn_NoTime sub_NoTime ab_NoTime col_NoTime dd_NoTime k0_NoTime k1_NoTime k2_NoTime k3_NoTime k5_NoTime "ValueError.__new__"))
    (xsa_NoTime : PySem.W.findIn K (.ref C_NoTime) "__setattr__" = some (some (.builtin "object.__setattr__")))
    (xty_NoTime : PySem.W.typeIn K (.ref C_NoTime) = some (.type "type"))
    (xkc_NoTime : PySem.W.keepIn K (.ref C_NoTime) = true)
    (a_NoTime_init : PySem.W.findIn K (.ref C_NoTime) "__init__" = some (some (.ref f_NoTime_init)))
    (ti_NoTime_init : PySem.W.typeIn K (.ref f_NoTime_init) = some (.type "function"))
    (l_NoTime_init : K.lookup f_NoTime_init = some ⟨oc_NoTime_init, od_NoTime_init, .func (PySem.W.fnOf "__init__" "NoTime.__init__" (defArgs s_NoTime_init) (defBody s_NoTime_init) (defScope s_NoTime_init) .none kV_NoTime_init dc_NoTime_init pm_NoTime_init an_NoTime_init cd_NoTime_init ct_NoTime_init), sl_NoTime_init⟩)
    (c_NoTime_init : PySem.W.codeIn K cd_NoTime_init "NoTime.__init__" = true)
    (k_NoTime_init : PySem.W.keepIn K (.ref f_NoTime_init) = true)
    (zxn_NoTime_word : PySem.W.findIn K (.ref C_NoTime) "word" = some none)
    (xga_NoBridge : PySem.W.findIn K (.ref C_NoBridge) "__getattribute__" = some (some (.builtin "BaseException.__getattribute__")))
    (xgg_NoBridge : PySem.W.findIn K (.ref C_NoBridge) "__getattr__" = some none)
    (xex_NoBridge : PySem.W.subIn K (.ref C_NoBridge) (.type "BaseException") = some true)
    (xhd_NoBridge : PySem.W.hasDictIn K C_NoBridge = true)
    (xha_NoBridge : PySem.W.findIn K (.ref C_NoBridge) "__class__" = some (some (.builtin "object.__class__")))
    (xhn_NoBridge : PySem.W.specialIn K (.builtin "object.__class__") "__get__" = some (some (.builtin "getset_descriptor.__get__")))
    (xht_NoBridge : PySem.W.takesIn K (.builtin "object.__class__") = some true)
    (xhm_NoBridge : PySem.W.mroIn K C_NoBridge (.type "object") = some true)
    (xga_NoWaits : PySem.W.findIn K (.ref C_NoWaits) "__getattribute__" = some (some (.builtin "BaseException.__getattribute__")))
    (xgg_NoWaits : PySem.W.findIn K (.ref C_NoWaits) "__getattr__" = some none)
    (xex_NoWaits : PySem.W.subIn K (.ref C_NoWaits) (.type "BaseException") = some true)
    (xhd_NoWaits : PySem.W.hasDictIn K C_NoWaits = true)
    (xha_NoWaits : PySem.W.findIn K (.ref C_NoWaits) "__class__" = some (some (.builtin "object.__class__")))
    (xhn_NoWaits : PySem.W.specialIn K (.builtin "object.__class__") "__get__" = some (some (.builtin "getset_descriptor.__get__")))
    (xht_NoWaits : PySem.W.takesIn K (.builtin "object.__class__") = some true)
    (xhm_NoWaits : PySem.W.mroIn K C_NoWaits (.type "object") = some true)
    (xl_NoWaits : K.lookup C_NoWaits = some (excClassObj nm_NoWaits q_NoWaits C_NoWaits N_NoWaits bs_NoWaits [.type "ZeroDivisionError", .type "ArithmeticError", .type "Exception", .type "BaseException", .type "object"] true sn_NoWaits sub_NoWaits ab_NoWaits col_NoWaits dd_NoWaits k0_NoWaits k1_NoWaits k2_NoWaits k3_NoWaits k5_NoWaits "ZeroDivisionError.__new__"))
    (xsa_NoWaits : PySem.W.findIn K (.ref C_NoWaits) "__setattr__" = some (some (.builtin "object.__setattr__")))
    (xty_NoWaits : PySem.W.typeIn K (.ref C_NoWaits) = some (.type "type"))
    (xkc_NoWaits : PySem.W.keepIn K (.ref C_NoWaits) = true)
    (a_NoWaits_init : PySem.W.findIn K (.ref C_NoWaits) "__init__" = some (some (.ref f_NoWaits_init)))
    (ti_NoWaits_init : PySem.W.typeIn K (.ref f_NoWaits_init) = some (.type "function"))
    (l_NoWaits_init : K.lookup f_NoWaits_init = some ⟨oc_NoWaits_init, od_NoWaits_init, .func (PySem.W.fnOf "__init__" "NoWaits.__init__" (defArgs s_NoWaits_init) (defBody s_NoWaits_init) (defScope s_NoWaits_init) .none kV_NoWaits_init dc_NoWaits_init pm_NoWaits_init an_NoWaits_init cd_NoWaits_init ct_NoWaits_init), sl_NoWaits_init⟩)
    (c_NoWaits_init : PySem.W.codeIn K cd_NoWaits_init "NoWaits.__init__" = true)
    (k_NoWaits_init : PySem.W.keepIn K (.ref f_NoWaits_init) = true)
    (zxn_NoWaits_many : PySem.W.findIn K (.ref C_NoWaits) "many" = some none)
    (xga_NoStretch : PySem.W.findIn K (.ref C_NoStretch) "__getattribute__" = some (some (.builtin "BaseException.__getattribute__")))
    (xgg_NoStretch : PySem.W.findIn K (.ref C_NoStretch) "__getattr__" = some none)
    (xex_NoStretch : PySem.W.subIn K (.ref C_NoStretch) (.type "BaseException") = some true)
    (xhd_NoStretch : PySem.W.hasDictIn K C_NoStretch = true)
    (xha_NoStretch : PySem.W.findIn K (.ref C_NoStretch) "__class__" = some (some (.builtin "object.__class__")))
    (xhn_NoStretch : PySem.W.specialIn K (.builtin "object.__class__") "__get__" = some (some (.builtin "getset_descriptor.__get__")))
    (xht_NoStretch : PySem.W.takesIn K (.builtin "object.__class__") = some true)
    (xhm_NoStretch : PySem.W.mroIn K C_NoStretch (.type "object") = some true)
    (xl_NoStretch : K.lookup C_NoStretch = some (excClassObj nm_NoStretch q_NoStretch C_NoStretch N_NoStretch bs_NoStretch [.type "ArithmeticError", .type "Exception", .type "BaseException", .type "object"] true sn_NoStretch sub_NoStretch ab_NoStretch col_NoStretch dd_NoStretch k0_NoStretch k1_NoStretch k2_NoStretch k3_NoStretch k5_NoStretch "ArithmeticError.__new__"))
    (xsa_NoStretch : PySem.W.findIn K (.ref C_NoStretch) "__setattr__" = some (some (.builtin "object.__setattr__")))
    (xty_NoStretch : PySem.W.typeIn K (.ref C_NoStretch) = some (.type "type"))
    (xkc_NoStretch : PySem.W.keepIn K (.ref C_NoStretch) = true)
    (a_NoStretch_init : PySem.W.findIn K (.ref C_NoStretch) "__init__" = some (some (.ref f_NoStretch_init)))
    (ti_NoStretch_init : PySem.W.typeIn K (.ref f_NoStretch_init) = some (.type "function"))
    (l_NoStretch_init : K.lookup f_NoStretch_init = some ⟨oc_NoStretch_init, od_NoStretch_init, .func (PySem.W.fnOf "__init__" "NoStretch.__init__" (defArgs s_NoStretch_init) (defBody s_NoStretch_init) (defScope s_NoStretch_init) .none kV_NoStretch_init dc_NoStretch_init pm_NoStretch_init an_NoStretch_init cd_NoStretch_init ct_NoStretch_init), sl_NoStretch_init⟩)
    (c_NoStretch_init : PySem.W.codeIn K cd_NoStretch_init "NoStretch.__init__" = true)
    (k_NoStretch_init : PySem.W.keepIn K (.ref f_NoStretch_init) = true)
    (zxn_NoStretch_first : PySem.W.findIn K (.ref C_NoStretch) "first" = some none)
    (zxn_NoStretch_behind : PySem.W.findIn K (.ref C_NoStretch) "behind" = some none)
    (xga_Overload : PySem.W.findIn K (.ref C_Overload) "__getattribute__" = some (some (.builtin "BaseException.__getattribute__")))
    (xgg_Overload : PySem.W.findIn K (.ref C_Overload) "__getattr__" = some none)
    (xex_Overload : PySem.W.subIn K (.ref C_Overload) (.type "BaseException") = some true)
    (xhd_Overload : PySem.W.hasDictIn K C_Overload = true)
    (xha_Overload : PySem.W.findIn K (.ref C_Overload) "__class__" = some (some (.builtin "object.__class__")))
    (xhn_Overload : PySem.W.specialIn K (.builtin "object.__class__") "__get__" = some (some (.builtin "getset_descriptor.__get__")))
    (xht_Overload : PySem.W.takesIn K (.builtin "object.__class__") = some true)
    (xhm_Overload : PySem.W.mroIn K C_Overload (.type "object") = some true)
    (xl_Overload : K.lookup C_Overload = some (excClassObj nm_Overload q_Overload C_Overload N_Overload bs_Overload [.type "OverflowError", .type "ArithmeticError", .type "Exception", .type "BaseException", .type "object"] true sn_Overload sub_Overload ab_Overload col_Overload dd_Overload k0_Overload k1_Overload k2_Overload k3_Overload k5_Overload "OverflowError.__new__"))
    (xsa_Overload : PySem.W.findIn K (.ref C_Overload) "__setattr__" = some (some (.builtin "object.__setattr__")))
    (xty_Overload : PySem.W.typeIn K (.ref C_Overload) = some (.type "type"))
    (xkc_Overload : PySem.W.keepIn K (.ref C_Overload) = true)
    (a_Overload_init : PySem.W.findIn K (.ref C_Overload) "__init__" = some (some (.ref f_Overload_init)))
    (ti_Overload_init : PySem.W.typeIn K (.ref f_Overload_init) = some (.type "function"))
    (l_Overload_init : K.lookup f_Overload_init = some ⟨oc_Overload_init, od_Overload_init, .func (PySem.W.fnOf "__init__" "Overload.__init__" (defArgs s_Overload_init) (defBody s_Overload_init) (defScope s_Overload_init) .none kV_Overload_init dc_Overload_init pm_Overload_init an_Overload_init cd_Overload_init ct_Overload_init), sl_Overload_init⟩)
    (c_Overload_init : PySem.W.codeIn K cd_Overload_init "Overload.__init__" = true)
    (k_Overload_init : PySem.W.keepIn K (.ref f_Overload_init) = true)
    (zxn_Overload_part : PySem.W.findIn K (.ref C_Overload) "part" = some none)
    (zxn_Overload_at : PySem.W.findIn K (.ref C_Overload) "at" = some none)
    (zxn_Overload_over : PySem.W.findIn K (.ref C_Overload) "over" = some none)
    (zxm_NoStretch_NoTime : PySem.W.subIn K (.ref C_NoTime) (.ref C_NoStretch) = some false)
    (zxm_NoStretch_NoBridge : PySem.W.subIn K (.ref C_NoBridge) (.ref C_NoStretch) = some false)
    (zxm_NoStretch_NoWaits : PySem.W.subIn K (.ref C_NoWaits) (.ref C_NoStretch) = some false)
    (zxm_NoStretch_NoStretch : PySem.W.subIn K (.ref C_NoStretch) (.ref C_NoStretch) = some true)
    (zxm_NoStretch_Overload : PySem.W.subIn K (.ref C_Overload) (.ref C_NoStretch) = some false)
    (zxk_NoTime_ArithmeticError : PySem.W.subIn K (.ref C_NoTime) (.type "ArithmeticError") = some false)
    (zxk_NoBridge_ArithmeticError : PySem.W.subIn K (.ref C_NoBridge) (.type "ArithmeticError") = some false)
    (zxk_NoWaits_ArithmeticError : PySem.W.subIn K (.ref C_NoWaits) (.type "ArithmeticError") = some true)
    (zxk_NoStretch_ArithmeticError : PySem.W.subIn K (.ref C_NoStretch) (.type "ArithmeticError") = some true)
    (zxk_Overload_ArithmeticError : PySem.W.subIn K (.ref C_Overload) (.type "ArithmeticError") = some true)
    (zxk_NoTime_NoBridge : PySem.W.subIn K (.ref C_NoTime) (.ref C_NoBridge) = some false)
    (yxk_NoTime_NoBridge : (Value.ref C_NoTime == Value.ref C_NoBridge) = false)
    (vxk_NoTime_NoBridge : PySem.W.isClsIn K C_NoBridge = true)
    (wxk_NoTime_NoBridge : PySem.W.typeIn K (.ref C_NoBridge) = some (.type "type"))
    (zxk_NoWaits_NoBridge : PySem.W.subIn K (.ref C_NoWaits) (.ref C_NoBridge) = some false)
    (yxk_NoWaits_NoBridge : (Value.ref C_NoWaits == Value.ref C_NoBridge) = false)
    (vxk_NoWaits_NoBridge : PySem.W.isClsIn K C_NoBridge = true)
    (wxk_NoWaits_NoBridge : PySem.W.typeIn K (.ref C_NoBridge) = some (.type "type"))
    (zxk_NoStretch_NoBridge : PySem.W.subIn K (.ref C_NoStretch) (.ref C_NoBridge) = some false)
    (yxk_NoStretch_NoBridge : (Value.ref C_NoStretch == Value.ref C_NoBridge) = false)
    (vxk_NoStretch_NoBridge : PySem.W.isClsIn K C_NoBridge = true)
    (wxk_NoStretch_NoBridge : PySem.W.typeIn K (.ref C_NoBridge) = some (.type "type"))
    (zxk_Overload_NoBridge : PySem.W.subIn K (.ref C_Overload) (.ref C_NoBridge) = some false)
    (yxk_Overload_NoBridge : (Value.ref C_Overload == Value.ref C_NoBridge) = false)
    (vxk_Overload_NoBridge : PySem.W.isClsIn K C_NoBridge = true)
    (wxk_Overload_NoBridge : PySem.W.typeIn K (.ref C_NoBridge) = some (.type "type"))
    (zxk_NoBridge_NoTime : PySem.W.subIn K (.ref C_NoBridge) (.ref C_NoTime) = some false)
    (yxk_NoBridge_NoTime : (Value.ref C_NoBridge == Value.ref C_NoTime) = false)
    (vxk_NoBridge_NoTime : PySem.W.isClsIn K C_NoTime = true)
    (wxk_NoBridge_NoTime : PySem.W.typeIn K (.ref C_NoTime) = some (.type "type"))
    (zxk_NoWaits_NoTime : PySem.W.subIn K (.ref C_NoWaits) (.ref C_NoTime) = some false)
    (yxk_NoWaits_NoTime : (Value.ref C_NoWaits == Value.ref C_NoTime) = false)
    (vxk_NoWaits_NoTime : PySem.W.isClsIn K C_NoTime = true)
    (wxk_NoWaits_NoTime : PySem.W.typeIn K (.ref C_NoTime) = some (.type "type"))
    (zxk_NoStretch_NoTime : PySem.W.subIn K (.ref C_NoStretch) (.ref C_NoTime) = some false)
    (yxk_NoStretch_NoTime : (Value.ref C_NoStretch == Value.ref C_NoTime) = false)
    (vxk_NoStretch_NoTime : PySem.W.isClsIn K C_NoTime = true)
    (wxk_NoStretch_NoTime : PySem.W.typeIn K (.ref C_NoTime) = some (.type "type"))
    (zxk_Overload_NoTime : PySem.W.subIn K (.ref C_Overload) (.ref C_NoTime) = some false)
    (yxk_Overload_NoTime : (Value.ref C_Overload == Value.ref C_NoTime) = false)
    (vxk_Overload_NoTime : PySem.W.isClsIn K C_NoTime = true)
    (wxk_Overload_NoTime : PySem.W.typeIn K (.ref C_NoTime) = some (.type "type"))
    (zxk_NoTime_NoWaits : PySem.W.subIn K (.ref C_NoTime) (.ref C_NoWaits) = some false)
    (yxk_NoTime_NoWaits : (Value.ref C_NoTime == Value.ref C_NoWaits) = false)
    (vxk_NoTime_NoWaits : PySem.W.isClsIn K C_NoWaits = true)
    (wxk_NoTime_NoWaits : PySem.W.typeIn K (.ref C_NoWaits) = some (.type "type"))
    (zxk_NoBridge_NoWaits : PySem.W.subIn K (.ref C_NoBridge) (.ref C_NoWaits) = some false)
    (yxk_NoBridge_NoWaits : (Value.ref C_NoBridge == Value.ref C_NoWaits) = false)
    (vxk_NoBridge_NoWaits : PySem.W.isClsIn K C_NoWaits = true)
    (wxk_NoBridge_NoWaits : PySem.W.typeIn K (.ref C_NoWaits) = some (.type "type"))
    (zxk_NoStretch_NoWaits : PySem.W.subIn K (.ref C_NoStretch) (.ref C_NoWaits) = some false)
    (yxk_NoStretch_NoWaits : (Value.ref C_NoStretch == Value.ref C_NoWaits) = false)
    (vxk_NoStretch_NoWaits : PySem.W.isClsIn K C_NoWaits = true)
    (wxk_NoStretch_NoWaits : PySem.W.typeIn K (.ref C_NoWaits) = some (.type "type"))
    (zxk_Overload_NoWaits : PySem.W.subIn K (.ref C_Overload) (.ref C_NoWaits) = some false)
    (yxk_Overload_NoWaits : (Value.ref C_Overload == Value.ref C_NoWaits) = false)
    (vxk_Overload_NoWaits : PySem.W.isClsIn K C_NoWaits = true)
    (wxk_Overload_NoWaits : PySem.W.typeIn K (.ref C_NoWaits) = some (.type "type"))
    (zxk_NoTime_Overload : PySem.W.subIn K (.ref C_NoTime) (.ref C_Overload) = some false)
    (yxk_NoTime_Overload : (Value.ref C_NoTime == Value.ref C_Overload) = false)
    (vxk_NoTime_Overload : PySem.W.isClsIn K C_Overload = true)
    (wxk_NoTime_Overload : PySem.W.typeIn K (.ref C_Overload) = some (.type "type"))
    (zxk_NoBridge_Overload : PySem.W.subIn K (.ref C_NoBridge) (.ref C_Overload) = some false)
    (yxk_NoBridge_Overload : (Value.ref C_NoBridge == Value.ref C_Overload) = false)
    (vxk_NoBridge_Overload : PySem.W.isClsIn K C_Overload = true)
    (wxk_NoBridge_Overload : PySem.W.typeIn K (.ref C_Overload) = some (.type "type"))
    (zxk_NoWaits_Overload : PySem.W.subIn K (.ref C_NoWaits) (.ref C_Overload) = some false)
    (yxk_NoWaits_Overload : (Value.ref C_NoWaits == Value.ref C_Overload) = false)
    (vxk_NoWaits_Overload : PySem.W.isClsIn K C_Overload = true)
    (wxk_NoWaits_Overload : PySem.W.typeIn K (.ref C_Overload) = some (.type "type"))
    (zxk_NoStretch_Overload : PySem.W.subIn K (.ref C_NoStretch) (.ref C_Overload) = some false)
    (yxk_NoStretch_Overload : (Value.ref C_NoStretch == Value.ref C_Overload) = false)
    (vxk_NoStretch_Overload : PySem.W.isClsIn K C_Overload = true)
    (wxk_NoStretch_Overload : PySem.W.typeIn K (.ref C_Overload) = some (.type "type"))
    (zno_ArithmeticError : PySem.W.nsIn K mainGlobals "ArithmeticError" = some none)
    (zno_bool : PySem.W.nsIn K mainGlobals "bool" = some none)
    (zno_divmod : PySem.W.nsIn K mainGlobals "divmod" = some none)
    (zno_int : PySem.W.nsIn K mainGlobals "int" = some none)
    (zno_isinstance : PySem.W.nsIn K mainGlobals "isinstance" = some none)
    (zno_len : PySem.W.nsIn K mainGlobals "len" = some none)
    (zno_list : PySem.W.nsIn K mainGlobals "list" = some none)
    (zno_max : PySem.W.nsIn K mainGlobals "max" = some none)
    (zno_min : PySem.W.nsIn K mainGlobals "min" = some none)
    (zno_range : PySem.W.nsIn K mainGlobals "range" = some none)
    (zno_repr : PySem.W.nsIn K mainGlobals "repr" = some none)
    (zno_str : PySem.W.nsIn K mainGlobals "str" = some none)
    (zc_DAY : PySem.W.nsIn K mainGlobals "DAY" = some (some (.int 1440 tc_DAY)))
    (zc_HOUR : PySem.W.nsIn K mainGlobals "HOUR" = some (some (.int 60 tc_HOUR)))
    (zf_Stretch_first : PySem.W.findIn K (.ref C_Stretch) "first" = some none)
    (zf_Stretch_behind : PySem.W.findIn K (.ref C_Stretch) "behind" = some none)
    (icl_Stretch : PySem.W.isClsIn K C_Stretch = true)
    (ity_Stretch : PySem.W.typeIn K (.ref C_Stretch) = some (.type "type"))
    (zkb_Stretch_NoneType : PySem.W.subIn K (.type "NoneType") (.ref C_Stretch) = some false)
    (zkb_Stretch_bool : PySem.W.subIn K (.type "bool") (.ref C_Stretch) = some false)
    (zkb_Stretch_int : PySem.W.subIn K (.type "int") (.ref C_Stretch) = some false)
    (zkb_Stretch_str : PySem.W.subIn K (.type "str") (.ref C_Stretch) = some false)
    (zkb_Stretch_tuple : PySem.W.subIn K (.type "tuple") (.ref C_Stretch) = some false)
    (zkb_Stretch_list : PySem.W.subIn K (.type "list") (.ref C_Stretch) = some false)
    (zkb_Stretch_dict : PySem.W.subIn K (.type "dict") (.ref C_Stretch) = some false)
    (nbo_Stretch : PySem.W.findIn K (.ref C_Stretch) "__bool__" = some none)
    (ea_Stretch_NoneType : PySem.W.subIn K (.type "NoneType") (.ref C_Stretch) = some false)
    (eb_Stretch_NoneType : PySem.W.subIn K (.ref C_Stretch) (.type "NoneType") = some false)
    (ea_Stretch_bool : PySem.W.subIn K (.type "bool") (.ref C_Stretch) = some false)
    (eb_Stretch_bool : PySem.W.subIn K (.ref C_Stretch) (.type "bool") = some false)
    (ea_Stretch_int : PySem.W.subIn K (.type "int") (.ref C_Stretch) = some false)
    (eb_Stretch_int : PySem.W.subIn K (.ref C_Stretch) (.type "int") = some false)
    (ea_Stretch_str : PySem.W.subIn K (.type "str") (.ref C_Stretch) = some false)
    (eb_Stretch_str : PySem.W.subIn K (.ref C_Stretch) (.type "str") = some false)
    (ea_Stretch_tuple : PySem.W.subIn K (.type "tuple") (.ref C_Stretch) = some false)
    (eb_Stretch_tuple : PySem.W.subIn K (.ref C_Stretch) (.type "tuple") = some false)
    (ea_Stretch_list : PySem.W.subIn K (.type "list") (.ref C_Stretch) = some false)
    (eb_Stretch_list : PySem.W.subIn K (.ref C_Stretch) (.type "list") = some false)
    (ea_Stretch_dict : PySem.W.subIn K (.type "dict") (.ref C_Stretch) = some false)
    (eb_Stretch_dict : PySem.W.subIn K (.ref C_Stretch) (.type "dict") = some false)
    (nne_Stretch : PySem.W.findIn K (.ref C_Stretch) "__ne__" = some (some (.builtin "object.__ne__")))
    (nob_Stretch : PySem.W.mroIn K C_Stretch (.type "object") = some true)
    (ia_Stretch : PySem.W.findIn K (.ref C_Stretch) "__class__" = some (some (.builtin "object.__class__")))
    (in_Stretch : PySem.W.specialIn K (.builtin "object.__class__") "__get__" = some (some (.builtin "getset_descriptor.__get__")))
    (it_Stretch : PySem.W.takesIn K (.builtin "object.__class__") = some true)
    (im_Stretch : PySem.W.mroIn K C_Stretch (.type "object") = some true) :
    ∃ fd : FuncData, (∀ (s : Shared) (v : Value), BindsTo s fd ⟨[v], []⟩ [("_law_script", v)]) ∧ ∀ base : Heap, K.In base → base.Ns mainGlobals mg → FnG l.prog w K mg base CX0 7 fa fd ["_law_script"] (spOf K sp_law) := by
  have T : Txt K mg ⟨C_NoTime, C_NoBridge, C_NoWaits, C_NoStretch, C_Overload, C_Stretch⟩ := ⟨⟨f_show_clock, _, ⟨⟨oc_show_clock, od_show_clock, _, kV_show_clock, dc_show_clock, pm_show_clock, an_show_clock, cd_show_clock, ct_show_clock, sl_show_clock, rfl, l_show_clock, c_show_clock, (.inl ⟨rfl, rfl⟩), .inl rfl⟩, k_show_clock⟩, PySem.W.mg_of X G a_show_clock⟩, ⟨f_show_time, _, ⟨⟨oc_show_time, od_show_time, _, kV_show_time, dc_show_time, pm_show_time, an_show_time, cd_show_time, ct_show_time, sl_show_time, rfl, l_show_time, c_show_time, (.inl ⟨rfl, rfl⟩), .inl rfl⟩, k_show_time⟩, PySem.W.mg_of X G a_show_time⟩, ⟨f_Stretch_init, _, ⟨⟨oc_Stretch_init, od_Stretch_init, _, kV_Stretch_init, dc_Stretch_init, pm_Stretch_init, an_Stretch_init, cd_Stretch_init, ct_Stretch_init, sl_Stretch_init, rfl, l_Stretch_init, c_Stretch_init, (.inr ⟨by simp, T_Stretch_init, _, _, dn_Stretch_init, rfl, d_Stretch_init, rfl, (.cons e_Stretch_init_0 .nil)⟩), .inl rfl⟩, k_Stretch_init⟩, ⟨mk_Stretch, a_Stretch_init, i_Stretch_init, kc_Stretch⟩⟩, ⟨f_Stretch_len, _, ⟨⟨oc_Stretch_len, od_Stretch_len, _, kV_Stretch_len, dc_Stretch_len, pm_Stretch_len, an_Stretch_len, cd_Stretch_len, ct_Stretch_len, sl_Stretch_len, rfl, l_Stretch_len, c_Stretch_len, (.inl ⟨rfl, rfl⟩), .inl rfl⟩, k_Stretch_len⟩, ⟨a_Stretch_len, i_Stretch_len, k_Stretch_len⟩⟩, ⟨f_Stretch_eq, _, ⟨⟨oc_Stretch_eq, od_Stretch_eq, _, kV_Stretch_eq, dc_Stretch_eq, pm_Stretch_eq, an_Stretch_eq, cd_Stretch_eq, ct_Stretch_eq, sl_Stretch_eq, rfl, l_Stretch_eq, c_Stretch_eq, (.inl ⟨rfl, rfl⟩), .inl rfl⟩, k_Stretch_eq⟩, ⟨a_Stretch_eq, i_Stretch_eq, k_Stretch_eq⟩⟩, ⟨f_Stretch_repr, _, ⟨⟨oc_Stretch_repr, od_Stretch_repr, _, kV_Stretch_repr, dc_Stretch_repr, pm_Stretch_repr, an_Stretch_repr, cd_Stretch_repr, ct_Stretch_repr, sl_Stretch_repr, rfl, l_Stretch_repr, c_Stretch_repr, (.inl ⟨rfl, rfl⟩), .inl rfl⟩, k_Stretch_repr⟩, ⟨a_Stretch_repr, i_Stretch_repr, k_Stretch_repr⟩⟩, ⟨f_Stretch_str, _, ⟨⟨oc_Stretch_str, od_Stretch_str, _, kV_Stretch_str, dc_Stretch_str, pm_Stretch_str, an_Stretch_str, cd_Stretch_str, ct_Stretch_str, sl_Stretch_str, rfl, l_Stretch_str, c_Stretch_str, (.inl ⟨rfl, rfl⟩), .inl rfl⟩, k_Stretch_str⟩, ⟨a_Stretch_str, i_Stretch_str, k_Stretch_str⟩⟩, ⟨f__law_tape, _, ⟨⟨oc__law_tape, od__law_tape, _, kV__law_tape, dc__law_tape, pm__law_tape, an__law_tape, cd__law_tape, ct__law_tape, sl__law_tape, rfl, l__law_tape, c__law_tape, (.inl ⟨rfl, rfl⟩), .inl rfl⟩, k__law_tape⟩, PySem.W.mg_of X G a__law_tape⟩, ⟨f__law_draw, _, ⟨⟨oc__law_draw, od__law_draw, _, kV__law_draw, dc__law_draw, pm__law_draw, an__law_draw, cd__law_draw, ct__law_draw, sl__law_draw, rfl, l__law_draw, c__law_draw, (.inl ⟨rfl, rfl⟩), .inl rfl⟩, k__law_draw⟩, PySem.W.mg_of X G a__law_draw⟩, ⟨f__law_pick, _, ⟨⟨oc__law_pick, od__law_pick, _, kV__law_pick, dc__law_pick, pm__law_pick, an__law_pick, cd__law_pick, ct__law_pick, sl__law_pick, rfl, l__law_pick, c__law_pick, (.inl ⟨rfl, rfl⟩), .inl rfl⟩, k__law_pick⟩, PySem.W.mg_of X G a__law_pick⟩, ⟨f__law_two, _, ⟨⟨oc__law_two, od__law_two, _, kV__law_two, dc__law_two, pm__law_two, an__law_two, cd__law_two, ct__law_two, sl__law_two, rfl, l__law_two, c__law_two, (.inl ⟨rfl, rfl⟩), .inl rfl⟩, k__law_two⟩, PySem.W.mg_of X G a__law_two⟩, ⟨f__law_time, _, ⟨⟨oc__law_time, od__law_time, _, kV__law_time, dc__law_time, pm__law_time, an__law_time, cd__law_time, ct__law_time, sl__law_time, rfl, l__law_time, c__law_time, (.inl ⟨rfl, rfl⟩), .inl rfl⟩, k__law_time⟩, PySem.W.mg_of X G a__law_time⟩, ⟨f__law_is_whole, _, ⟨⟨oc__law_is_whole, od__law_is_whole, _, kV__law_is_whole, dc__law_is_whole, pm__law_is_whole, an__law_is_whole, cd__law_is_whole, ct__law_is_whole, sl__law_is_whole, rfl, l__law_is_whole, c__law_is_whole, (.inl ⟨rfl, rfl⟩), .inl rfl⟩, k__law_is_whole⟩, PySem.W.mg_of X G a__law_is_whole⟩, ⟨f__law_refused, _, ⟨⟨oc__law_refused, od__law_refused, _, kV__law_refused, dc__law_refused, pm__law_refused, an__law_refused, cd__law_refused, ct__law_refused, sl__law_refused, rfl, l__law_refused, c__law_refused, (.inl ⟨rfl, rfl⟩), .inl rfl⟩, k__law_refused⟩, PySem.W.mg_of X G a__law_refused⟩, ⟨f__law_is, _, ⟨⟨oc__law_is, od__law_is, _, kV__law_is, dc__law_is, pm__law_is, an__law_is, cd__law_is, ct__law_is, sl__law_is, rfl, l__law_is, c__law_is, (.inl ⟨rfl, rfl⟩), .inl rfl⟩, k__law_is⟩, PySem.W.mg_of X G a__law_is⟩, ⟨f__law_pair, _, ⟨⟨oc__law_pair, od__law_pair, _, kV__law_pair, dc__law_pair, pm__law_pair, an__law_pair, cd__law_pair, ct__law_pair, sl__law_pair, rfl, l__law_pair, c__law_pair, (.inl ⟨rfl, rfl⟩), .inl rfl⟩, k__law_pair⟩, PySem.W.mg_of X G a__law_pair⟩, ⟨f__law_near, _, ⟨⟨oc__law_near, od__law_near, _, kV__law_near, dc__law_near, pm__law_near, an__law_near, cd__law_near, ct__law_near, sl__law_near, rfl, l__law_near, c__law_near, (.inl ⟨rfl, rfl⟩), .inl rfl⟩, k__law_near⟩, PySem.W.mg_of X G a__law_near⟩, ⟨f_law, _, ⟨⟨oc_law, od_law, _, kV_law, dc_law, pm_law, an_law, cd_law, ct_law, sl_law, rfl, l_law, c_law, (.inl ⟨rfl, rfl⟩), .inl rfl⟩, k_law⟩, PySem.W.mg_of X G a_law⟩, PySem.W.mg_of X G aC_Stretch, ⟨pg_Stretch, hd_Stretch, po_Stretch, sa_Stretch⟩, PySem.W.mg_of X G aC_NoTime, ⟨xga_NoTime, xgg_NoTime, xex_NoTime, xhd_NoTime, xha_NoTime, xhn_NoTime, xht_NoTime, xhm_NoTime⟩, ⟨PySem.F.excBase_ValueError, ⟨_, _, _, _, _, _, _, _, _, _, _, _, _, _, xl_NoTime⟩, fun self => by kernel_rfl, by decide +kernel, xsa_NoTime, xex_NoTime, xty_NoTime, xkc_NoTime⟩, ⟨f_NoTime_init, _, ⟨⟨oc_NoTime_init, od_NoTime_init, _, kV_NoTime_init, dc_NoTime_init, pm_NoTime_init, an_NoTime_init, cd_NoTime_init, ct_NoTime_init, sl_NoTime_init, rfl, l_NoTime_init, c_NoTime_init, (.inl ⟨rfl, rfl⟩), .inl rfl⟩, k_NoTime_init⟩, a_NoTime_init, ti_NoTime_init⟩, zxn_NoTime_word, PySem.W.mg_of X G aC_NoBridge, ⟨xga_NoBridge, xgg_NoBridge, xex_NoBridge, xhd_NoBridge, xha_NoBridge, xhn_NoBridge, xht_NoBridge, xhm_NoBridge⟩, PySem.W.mg_of X G aC_NoWaits, ⟨xga_NoWaits, xgg_NoWaits, xex_NoWaits, xhd_NoWaits, xha_NoWaits, xhn_NoWaits, xht_NoWaits, xhm_NoWaits⟩, ⟨PySem.F.excBase_ZeroDivisionError, ⟨_, _, _, _, _, _, _, _, _, _, _, _, _, _, xl_NoWaits⟩, fun self => by kernel_rfl, by decide +kernel, xsa_NoWaits, xex_NoWaits, xty_NoWaits, xkc_NoWaits⟩, ⟨f_NoWaits_init, _, ⟨⟨oc_NoWaits_init, od_NoWaits_init, _, kV_NoWaits_init, dc_NoWaits_init, pm_NoWaits_init, an_NoWaits_init, cd_NoWaits_init, ct_NoWaits_init, sl_NoWaits_init, rfl, l_NoWaits_init, c_NoWaits_init, (.inl ⟨rfl, rfl⟩), .inl rfl⟩, k_NoWaits_init⟩, a_NoWaits_init, ti_NoWaits_init⟩, zxn_NoWaits_many, PySem.W.mg_of X G aC_NoStretch, ⟨xga_NoStretch, xgg_NoStretch, xex_NoStretch, xhd_NoStretch, xha_NoStretch, xhn_NoStretch, xht_NoStretch, xhm_NoStretch⟩, ⟨PySem.F.excBase_ArithmeticError, ⟨_, _, _, _, _, _, _, _, _, _, _, _, _, _, xl_NoStretch⟩, fun self => by kernel_rfl, by decide +kernel, xsa_NoStretch, xex_NoStretch, xty_NoStretch, xkc_NoStretch⟩, ⟨f_NoStretch_init, _, ⟨⟨oc_NoStretch_init, od_NoStretch_init, _, kV_NoStretch_init, dc_NoStretch_init, pm_NoStretch_init, an_NoStretch_init, cd_NoStretch_init, ct_NoStretch_init, sl_NoStretch_init, rfl, l_NoStretch_init, c_NoStretch_init, (.inl ⟨rfl, rfl⟩), .inl rfl⟩, k_NoStretch_init⟩, a_NoStretch_init, ti_NoStretch_init⟩, zxn_NoStretch_first, zxn_NoStretch_behind, PySem.W.mg_of X G aC_Overload, ⟨xga_Overload, xgg_Overload, xex_Overload, xhd_Overload, xha_Overload, xhn_Overload, xht_Overload, xhm_Overload⟩, ⟨PySem.F.excBase_OverflowError, ⟨_, _, _, _, _, _, _, _, _, _, _, _, _, _, xl_Overload⟩, fun self => by kernel_rfl, by decide +kernel, xsa_Overload, xex_Overload, xty_Overload, xkc_Overload⟩, ⟨f_Overload_init, _, ⟨⟨oc_Overload_init, od_Overload_init, _, kV_Overload_init, dc_Overload_init, pm_Overload_init, an_Overload_init, cd_Overload_init, ct_Overload_init, sl_Overload_init, rfl, l_Overload_init, c_Overload_init, (.inl ⟨rfl, rfl⟩), .inl rfl⟩, k_Overload_init⟩, a_Overload_init, ti_Overload_init⟩, zxn_Overload_part, zxn_Overload_at, zxn_Overload_over, ⟨PySem.W.exm_ref xex_NoStretch xhd_NoStretch xty_NoStretch zxm_NoStretch_NoTime⟩, ⟨PySem.W.exm_ref xex_NoStretch xhd_NoStretch xty_NoStretch zxm_NoStretch_NoBridge⟩, ⟨PySem.W.exm_ref xex_NoStretch xhd_NoStretch xty_NoStretch zxm_NoStretch_NoWaits⟩, ⟨PySem.W.exm_ref xex_NoStretch xhd_NoStretch xty_NoStretch zxm_NoStretch_NoStretch⟩, ⟨PySem.W.exm_ref xex_NoStretch xhd_NoStretch xty_NoStretch zxm_NoStretch_Overload⟩, ⟨kitt zxk_NoTime_ArithmeticError (by decide +kernel)⟩, ⟨kitt zxk_NoBridge_ArithmeticError (by decide +kernel)⟩, ⟨kitt zxk_NoWaits_ArithmeticError (by decide +kernel)⟩, ⟨kitt zxk_NoStretch_ArithmeticError (by decide +kernel)⟩, ⟨kitt zxk_Overload_ArithmeticError (by decide +kernel)⟩, ⟨kit_mk vxk_NoTime_NoBridge wxk_NoTime_NoBridge zxk_NoTime_NoBridge yxk_NoTime_NoBridge⟩, ⟨kit_same⟩, ⟨kit_mk vxk_NoWaits_NoBridge wxk_NoWaits_NoBridge zxk_NoWaits_NoBridge yxk_NoWaits_NoBridge⟩, ⟨kit_mk vxk_NoStretch_NoBridge wxk_NoStretch_NoBridge zxk_NoStretch_NoBridge yxk_NoStretch_NoBridge⟩, ⟨kit_mk vxk_Overload_NoBridge wxk_Overload_NoBridge zxk_Overload_NoBridge yxk_Overload_NoBridge⟩, ⟨kit_same⟩, ⟨kit_mk vxk_NoBridge_NoTime wxk_NoBridge_NoTime zxk_NoBridge_NoTime yxk_NoBridge_NoTime⟩, ⟨kit_mk vxk_NoWaits_NoTime wxk_NoWaits_NoTime zxk_NoWaits_NoTime yxk_NoWaits_NoTime⟩, ⟨kit_mk vxk_NoStretch_NoTime wxk_NoStretch_NoTime zxk_NoStretch_NoTime yxk_NoStretch_NoTime⟩, ⟨kit_mk vxk_Overload_NoTime wxk_Overload_NoTime zxk_Overload_NoTime yxk_Overload_NoTime⟩, ⟨kit_mk vxk_NoTime_NoWaits wxk_NoTime_NoWaits zxk_NoTime_NoWaits yxk_NoTime_NoWaits⟩, ⟨kit_mk vxk_NoBridge_NoWaits wxk_NoBridge_NoWaits zxk_NoBridge_NoWaits yxk_NoBridge_NoWaits⟩, ⟨kit_same⟩, ⟨kit_mk vxk_NoStretch_NoWaits wxk_NoStretch_NoWaits zxk_NoStretch_NoWaits yxk_NoStretch_NoWaits⟩, ⟨kit_mk vxk_Overload_NoWaits wxk_Overload_NoWaits zxk_Overload_NoWaits yxk_Overload_NoWaits⟩, ⟨kit_mk vxk_NoTime_Overload wxk_NoTime_Overload zxk_NoTime_Overload yxk_NoTime_Overload⟩, ⟨kit_mk vxk_NoBridge_Overload wxk_NoBridge_Overload zxk_NoBridge_Overload yxk_NoBridge_Overload⟩, ⟨kit_mk vxk_NoWaits_Overload wxk_NoWaits_Overload zxk_NoWaits_Overload yxk_NoWaits_Overload⟩, ⟨kit_mk vxk_NoStretch_Overload wxk_NoStretch_Overload zxk_NoStretch_Overload yxk_NoStretch_Overload⟩, ⟨kit_same⟩, PySem.W.mg_none_of X G zno_ArithmeticError, PySem.W.mg_none_of X G zno_bool, PySem.W.mg_none_of X G zno_divmod, PySem.W.mg_none_of X G zno_int, PySem.W.mg_none_of X G zno_isinstance, PySem.W.mg_none_of X G zno_len, PySem.W.mg_none_of X G zno_list, PySem.W.mg_none_of X G zno_max, PySem.W.mg_none_of X G zno_min, PySem.W.mg_none_of X G zno_range, PySem.W.mg_none_of X G zno_repr, PySem.W.mg_none_of X G zno_str, ⟨tc_DAY, PySem.W.mg_of X G zc_DAY⟩, ⟨tc_HOUR, PySem.W.mg_of X G zc_HOUR⟩, ⟨⟨pg_Stretch, hd_Stretch, po_Stretch, sa_Stretch⟩, zf_Stretch_first⟩, ⟨⟨pg_Stretch, hd_Stretch, po_Stretch, sa_Stretch⟩, zf_Stretch_behind⟩, ⟨by intro b hb; simp only [basicT, List.mem_cons, List.not_mem_nil, or_false] at hb; rcases hb with rfl | rfl | rfl | rfl | rfl | rfl | rfl; exact kit_mk icl_Stretch ity_Stretch zkb_Stretch_NoneType rfl; exact kit_mk icl_Stretch ity_Stretch zkb_Stretch_bool rfl; exact kit_mk icl_Stretch ity_Stretch zkb_Stretch_int rfl; exact kit_mk icl_Stretch ity_Stretch zkb_Stretch_str rfl; exact kit_mk icl_Stretch ity_Stretch zkb_Stretch_tuple rfl; exact kit_mk icl_Stretch ity_Stretch zkb_Stretch_list rfl; exact kit_mk icl_Stretch ity_Stretch zkb_Stretch_dict rfl⟩, ⟨kit_same⟩, ⟨nbo_Stretch⟩, ⟨by intro b hb; simp only [basicT, List.mem_cons, List.not_mem_nil, or_false] at hb; rcases hb with rfl | rfl | rfl | rfl | rfl | rfl | rfl; exact ea_Stretch_NoneType; exact ea_Stretch_bool; exact ea_Stretch_int; exact ea_Stretch_str; exact ea_Stretch_tuple; exact ea_Stretch_list; exact ea_Stretch_dict, by intro b hb; simp only [basicT, List.mem_cons, List.not_mem_nil, or_false] at hb; rcases hb with rfl | rfl | rfl | rfl | rfl | rfl | rfl; exact eb_Stretch_NoneType; exact eb_Stretch_bool; exact eb_Stretch_int; exact eb_Stretch_str; exact eb_Stretch_tuple; exact eb_Stretch_list; exact eb_Stretch_dict⟩, ⟨nne_Stretch, nob_Stretch⟩, ⟨⟨pg_Stretch, hd_Stretch, po_Stretch, sa_Stretch⟩, ia_Stretch, in_Stretch, it_Stretch, im_Stretch⟩⟩
  obtain ⟨f0, fd, F, hm⟩ := T.b_law
  have e := hfa.symm.trans hm
  cases e
  refine ⟨fd, fun s v => ?_, fun base _ _ => fn_body0 F sc_law (by intro ds S q h; first | (cases h with | inl h => (first | (obtain ⟨rfl, _⟩ := h; rfl) | (obtain ⟨_, rfl, _⟩ := h; rfl) | (obtain ⟨_, _, rfl, _⟩ := h; rfl) | (obtain ⟨_, _, _, rfl, _⟩ := h; rfl) | (obtain ⟨_, _, _, _, rfl, _⟩ := h; rfl) | (obtain ⟨_, _, _, _, _, rfl, _⟩ := h; rfl) | (obtain ⟨_, _, _, _, _, _, rfl, _⟩ := h; rfl) | (obtain ⟨_, _, _, _, _, _, _, rfl, _⟩ := h; rfl) | (obtain ⟨_, _, _, _, _, _, _, _, rfl, _⟩ := h; rfl) | (obtain ⟨_, _, _, _, _, _, _, _, _, rfl, _⟩ := h; rfl) | (obtain ⟨_, _, _, _, _, _, _, _, _, _, rfl, _⟩ := h; rfl) | (obtain ⟨_, _, _, _, _, _, _, _, _, _, _, rfl, _⟩ := h; rfl) | (obtain ⟨_, _, _, _, _, _, _, _, _, _, _, _, rfl, _⟩ := h; rfl) | (obtain ⟨_, _, _, _, _, _, _, _, _, _, _, _, _, rfl, _⟩ := h; rfl) | exact Mt.tk_len rfl h | (obtain ⟨_, h⟩ := h; exact Mt.tk_len rfl h) | (obtain ⟨_, _, h⟩ := h; exact Mt.tk_len rfl h) | (obtain ⟨_, _, _, h⟩ := h; exact Mt.tk_len rfl h) | (obtain ⟨_, _, _, _, h⟩ := h; exact Mt.tk_len rfl h) | (obtain ⟨_, _, _, _, _, h⟩ := h; exact Mt.tk_len rfl h)) | inr h => (first | (obtain ⟨rfl, _⟩ := h; rfl) | (obtain ⟨_, rfl, _⟩ := h; rfl) | (obtain ⟨_, _, rfl, _⟩ := h; rfl) | (obtain ⟨_, _, _, rfl, _⟩ := h; rfl) | (obtain ⟨_, _, _, _, rfl, _⟩ := h; rfl) | (obtain ⟨_, _, _, _, _, rfl, _⟩ := h; rfl) | (obtain ⟨_, _, _, _, _, _, rfl, _⟩ := h; rfl) | (obtain ⟨_, _, _, _, _, _, _, rfl, _⟩ := h; rfl) | (obtain ⟨_, _, _, _, _, _, _, _, rfl, _⟩ := h; rfl) | (obtain ⟨_, _, _, _, _, _, _, _, _, rfl, _⟩ := h; rfl) | (obtain ⟨_, _, _, _, _, _, _, _, _, _, rfl, _⟩ := h; rfl) | (obtain ⟨_, _, _, _, _, _, _, _, _, _, _, rfl, _⟩ := h; rfl) | (obtain ⟨_, _, _, _, _, _, _, _, _, _, _, _, rfl, _⟩ := h; rfl) | (obtain ⟨_, _, _, _, _, _, _, _, _, _, _, _, _, rfl, _⟩ := h; rfl) | exact Mt.tk_len rfl h | (obtain ⟨_, h⟩ := h; exact Mt.tk_len rfl h) | (obtain ⟨_, _, h⟩ := h; exact Mt.tk_len rfl h) | (obtain ⟨_, _, _, h⟩ := h; exact Mt.tk_len rfl h) | (obtain ⟨_, _, _, _, h⟩ := h; exact Mt.tk_len rfl h) | (obtain ⟨_, _, _, _, _, h⟩ := h; exact Mt.tk_len rfl h))) | (first | (obtain ⟨rfl, _⟩ := h; rfl) | (obtain ⟨_, rfl, _⟩ := h; rfl) | (obtain ⟨_, _, rfl, _⟩ := h; rfl) | (obtain ⟨_, _, _, rfl, _⟩ := h; rfl) | (obtain ⟨_, _, _, _, rfl, _⟩ := h; rfl) | (obtain ⟨_, _, _, _, _, rfl, _⟩ := h; rfl) | (obtain ⟨_, _, _, _, _, _, rfl, _⟩ := h; rfl) | (obtain ⟨_, _, _, _, _, _, _, rfl, _⟩ := h; rfl) | (obtain ⟨_, _, _, _, _, _, _, _, rfl, _⟩ := h; rfl) | (obtain ⟨_, _, _, _, _, _, _, _, _, rfl, _⟩ := h; rfl) | (obtain ⟨_, _, _, _, _, _, _, _, _, _, rfl, _⟩ := h; rfl) | (obtain ⟨_, _, _, _, _, _, _, _, _, _, _, rfl, _⟩ := h; rfl) | (obtain ⟨_, _, _, _, _, _, _, _, _, _, _, _, rfl, _⟩ := h; rfl) | (obtain ⟨_, _, _, _, _, _, _, _, _, _, _, _, _, rfl, _⟩ := h; rfl) | exact Mt.tk_len rfl h | (obtain ⟨_, h⟩ := h; exact Mt.tk_len rfl h) | (obtain ⟨_, _, h⟩ := h; exact Mt.tk_len rfl h) | (obtain ⟨_, _, _, h⟩ := h; exact Mt.tk_len rfl h) | (obtain ⟨_, _, _, _, h⟩ := h; exact Mt.tk_len rfl h) | (obtain ⟨_, _, _, _, _, h⟩ := h; exact Mt.tk_len rfl h))) (g_law K ⟨C_NoTime, C_NoBridge, C_NoWaits, C_NoStretch, C_Overload, C_Stretch⟩) (fun cdv A outer s H E hr => t_law T (ok_Stretch_eq T) (ok_Stretch_init T) (ok_Stretch_repr T) (ok_Stretch_str T) (ok__law_draw T) (ok__law_is T) (ok__law_near T) (ok__law_pair T) (ok__law_refused T) (ok__law_tape T) hr) (fun ds S q _ _ h => r_law T ds S q h)⟩
  obtain ⟨oc, od, dV, kV, doc, pm, an, cdv, ct, osl, rfl, lk, hcd, df, kw⟩ := F.ex
  rcases df with ⟨_, rfl⟩ | ⟨z, _⟩
  · exact .of_eq rfl
  · exact absurd rfl z
theorem start_law {K : PySem.W.Frag} {H : Hp} {a : Addr} {ns : List Int} (hS : SqL K H a (ns.map V.int)) : spOf K sp_law [.ref a] H (fun v _ => v = .bl true) fun _ _ _ => False := by
  have hv : ∀ b o, H b = some o → vis (fun _ => a) [] (fun _ => False) H b = some o := fun b o e => vis_of e (fun z => z) fun n ⟨o, l⟩ => by simp at l
  refine ⟨fun _ => a, [], fun _ => False, [.ksq (ns.map .int)], fun d _ => d = .bl true, Wd0.u0 ⟨fun i j ⟨o, l⟩ => by simp at l, fun i ⟨o, l⟩ => by simp at l, fun b z => z.elim, fun i o l => by simp at l⟩, ?_, ⟨ns, rfl, rfl, fun _ => rfl⟩, ?_⟩
  · exact Reps.one (by rw [Rep]; exact ⟨a, _, rfl, SqL.sub hv hS, Reps.ofInts ns⟩)
  · intro v H' m' d S' e w r hd
    subst hd
    exact r
theorem walk {l : PySem.W.OpenLaw} {q : Program} {loose : List Str} {XP : (Str → Option Value) → Heap → Prop} {YP : World → Heap → Prop} {d : DefRec} {K : Params → PySem.W.Frag} (hn : l.most = some 63) (hdf : d.params.defaults = [])
    (hY : ∀ (w : World) (h : Heap), YP w h → (K w.params).In h)
    (F : ∀ (w : World) (mg : Str → Option Value) (fa : Addr) (h : Heap), (K w.params).In h → h.Ns mainGlobals mg → mg d.name = some (.ref fa) →
      ∃ fd : FuncData, (∀ (s : Shared) (u : Value), BindsTo s fd ⟨[u], []⟩ [("_law_script", u)]) ∧ ∀ base : Heap, (K w.params).In base → base.Ns mainGlobals mg → FnG l.prog w (K w.params) mg base CX0 7 fa fd ["_law_script"] (spOf (K w.params) sp_law)) :
    PySem.W.WalkO q loose XP YP l.row.toRowW d [] (fun f vs => PySem.call f vs) :=
  Dl.walk_ofG (n := 63) (k := 7) (x := "_law_script") (CX := fun _ => CX0) (sp := fun w => spOf (K w.params) sp_law) hn (by decide) hdf ⟨rfl, by decide, by decide⟩ hY F (fun _ _ a ns hl _ hS => start_law hS) fun _ _ _ _ _ z => z
end Lw

open PySem PySem.W PyProof.Rows in
set_option maxRecDepth 100000 in
set_option maxHeartbeats 0 in
theorem PySem.Challenge.cw_boatbridge_k03_stretches_as_objects_holds : PySem.Challenge.rw_boatbridge_k03_stretches_as_objects.Holds := by
  w_on; o_law; k_head; (case hw => w_witness2)
  k_fill
  refine Lw.walk (l := PySem.Challenge.rw_boatbridge_k03_stretches_as_objects) rfl rfl (fun w h Y => PySem.W.kIn_of Y) ?F
  case F =>
    intro w mg fa h KX G hmg
    refine' Lw.all_mk KX G hmg ?aC_NoTime ?aC_NoBridge ?aC_NoWaits ?aC_NoStretch ?aC_Overload ?aC_Stretch ?a_show_clock ?l_show_clock ?c_show_clock ?k_show_clock ?a_show_time ?l_show_time ?c_show_time ?k_show_time ?a_Stretch_init ?i_Stretch_init ?l_Stretch_init ?c_Stretch_init ?k_Stretch_init ?d_Stretch_init ?e_Stretch_init_0 ?a_Stretch_len ?i_Stretch_len ?l_Stretch_len ?c_Stretch_len ?k_Stretch_len ?a_Stretch_eq ?i_Stretch_eq ?l_Stretch_eq ?c_Stretch_eq ?k_Stretch_eq ?a_Stretch_repr ?i_Stretch_repr ?l_Stretch_repr ?c_Stretch_repr ?k_Stretch_repr ?a_Stretch_str ?i_Stretch_str ?l_Stretch_str ?c_Stretch_str ?k_Stretch_str ?a__law_tape ?l__law_tape ?c__law_tape ?k__law_tape ?a__law_draw ?l__law_draw ?c__law_draw ?k__law_draw ?a__law_pick ?l__law_pick ?c__law_pick ?k__law_pick ?a__law_two ?l__law_two ?c__law_two ?k__law_two ?a__law_time ?l__law_time ?c__law_time ?k__law_time ?a__law_is_whole ?l__law_is_whole ?c__law_is_whole ?k__law_is_whole ?a__law_refused ?l__law_refused ?c__law_refused ?k__law_refused ?a__law_is ?l__law_is ?c__law_is ?k__law_is ?a__law_pair ?l__law_pair ?c__law_pair ?k__law_pair ?a__law_near ?l__law_near ?c__law_near ?k__law_near ?a_law ?l_law ?c_law ?k_law ?pg_Stretch ?hd_Stretch ?po_Stretch ?sa_Stretch ?mk_Stretch ?kc_Stretch ?xga_NoTime ?xgg_NoTime ?xex_NoTime ?xhd_NoTime ?xha_NoTime ?xhn_NoTime ?xht_NoTime ?xhm_NoTime ?xl_NoTime ?xsa_NoTime ?xty_NoTime ?xkc_NoTime ?a_NoTime_init ?ti_NoTime_init ?l_NoTime_init ?c_NoTime_init ?k_NoTime_init ?zxn_NoTime_word ?xga_NoBridge ?xgg_NoBridge ?xex_NoBridge ?xhd_NoBridge ?xha_NoBridge ?xhn_NoBridge ?xht_NoBridge ?xhm_NoBridge ?xga_NoWaits ?xgg_NoWaits ?xex_NoWaits ?xhd_NoWaits ?xha_NoWaits ?xhn_NoWaits ?xht_NoWaits ?xhm_NoWaits ?xl_NoWaits ?xsa_NoWaits ?xty_NoWaits ?xkc_NoWaits ?a_NoWaits_init ?ti_NoWaits_init ?l_NoWaits_init ?c_NoWaits_init ?k_NoWaits_init ?zxn_NoWaits_many ?xga_NoStretch ?xgg_NoStretch ?xex_NoStretch ?xhd_NoStretch ?xha_NoStretch ?xhn_NoStretch ?xht_NoStretch ?xhm_NoStretch ?xl_NoStretch ?xsa_NoStretch ?xty_NoStretch ?xkc_NoStretch ?a_NoStretch_init ?ti_NoStretch_init ?l_NoStretch_init ?c_NoStretch_init ?k_NoStretch_init ?zxn_NoStretch_first ?zxn_NoStretch_behind ?xga_Overload ?xgg_Overload ?xex_Overload ?xhd_Overload ?xha_Overload ?xhn_Overload ?xht_Overload ?xhm_Overload ?xl_Overload ?xsa_Overload ?xty_Overload ?xkc_Overload ?a_Overload_init ?ti_Overload_init ?l_Overload_init ?c_Overload_init ?k_Overload_init ?zxn_Overload_part ?zxn_Overload_at ?zxn_Overload_over ?zxm_NoStretch_NoTime ?zxm_NoStretch_NoBridge ?zxm_NoStretch_NoWaits ?zxm_NoStretch_NoStretch ?zxm_NoStretch_Overload ?zxk_NoTime_ArithmeticError ?zxk_NoBridge_ArithmeticError ?zxk_NoWaits_ArithmeticError ?zxk_NoStretch_ArithmeticError ?zxk_Overload_ArithmeticError ?zxk_NoTime_NoBridge ?yxk_NoTime_NoBridge ?vxk_NoTime_NoBridge ?wxk_NoTime_NoBridge ?zxk_NoWaits_NoBridge ?yxk_NoWaits_NoBridge ?vxk_NoWaits_NoBridge ?wxk_NoWaits_NoBridge ?zxk_NoStretch_NoBridge ?yxk_NoStretch_NoBridge ?vxk_NoStretch_NoBridge ?wxk_NoStretch_NoBridge ?zxk_Overload_NoBridge ?yxk_Overload_NoBridge ?vxk_Overload_NoBridge ?wxk_Overload_NoBridge ?zxk_NoBridge_NoTime ?yxk_NoBridge_NoTime ?vxk_NoBridge_NoTime ?wxk_NoBridge_NoTime ?zxk_NoWaits_NoTime ?yxk_NoWaits_NoTime ?vxk_NoWaits_NoTime ?wxk_NoWaits_NoTime ?zxk_NoStretch_NoTime ?yxk_NoStretch_NoTime ?vxk_NoStretch_NoTime ?wxk_NoStretch_NoTime ?zxk_Overload_NoTime ?yxk_Overload_NoTime ?vxk_Overload_NoTime ?wxk_Overload_NoTime ?zxk_NoTime_NoWaits ?yxk_NoTime_NoWaits ?vxk_NoTime_NoWaits ?wxk_NoTime_NoWaits ?zxk_NoBridge_NoWaits ?yxk_NoBridge_NoWaits ?vxk_NoBridge_NoWaits ?wxk_NoBridge_NoWaits ?zxk_NoStretch_NoWaits ?yxk_NoStretch_NoWaits ?vxk_NoStretch_NoWaits ?wxk_NoStretch_NoWaits ?zxk_Overload_NoWaits ?yxk_Overload_NoWaits ?vxk_Overload_NoWaits ?wxk_Overload_NoWaits ?zxk_NoTime_Overload ?yxk_NoTime_Overload ?vxk_NoTime_Overload ?wxk_NoTime_Overload ?zxk_NoBridge_Overload ?yxk_NoBridge_Overload ?vxk_NoBridge_Overload ?wxk_NoBridge_Overload ?zxk_NoWaits_Overload ?yxk_NoWaits_Overload ?vxk_NoWaits_Overload ?wxk_NoWaits_Overload ?zxk_NoStretch_Overload ?yxk_NoStretch_Overload ?vxk_NoStretch_Overload ?wxk_NoStretch_Overload ?zno_ArithmeticError ?zno_bool ?zno_divmod ?zno_int ?zno_isinstance ?zno_len ?zno_list ?zno_max ?zno_min ?zno_range ?zno_repr ?zno_str ?zc_DAY ?zc_HOUR ?zf_Stretch_first ?zf_Stretch_behind ?icl_Stretch ?ity_Stretch ?zkb_Stretch_NoneType ?zkb_Stretch_bool ?zkb_Stretch_int ?zkb_Stretch_str ?zkb_Stretch_tuple ?zkb_Stretch_list ?zkb_Stretch_dict ?nbo_Stretch ?ea_Stretch_NoneType ?eb_Stretch_NoneType ?ea_Stretch_bool ?eb_Stretch_bool ?ea_Stretch_int ?eb_Stretch_int ?ea_Stretch_str ?eb_Stretch_str ?ea_Stretch_tuple ?eb_Stretch_tuple ?ea_Stretch_list ?eb_Stretch_list ?ea_Stretch_dict ?eb_Stretch_dict ?nne_Stretch ?nob_Stretch ?ia_Stretch ?in_Stretch ?it_Stretch ?im_Stretch

    (case aC_NoTime => k_is)
    (case aC_NoBridge => k_is)
    (case aC_NoWaits => k_is)
    (case aC_NoStretch => k_is)
    (case aC_Overload => k_is)
    (case aC_Stretch => k_is)
    (case a_show_clock => k_is)
    (case l_show_clock => k_is)
    (case c_show_clock => k_is)
    (case k_show_clock => k_is)
    (case a_show_time => k_is)
    (case l_show_time => k_is)
    (case c_show_time => k_is)
    (case k_show_time => k_is)
    (case a_Stretch_init => k_is)
    (case i_Stretch_init => k_is)
    (case l_Stretch_init => k_is)
    (case c_Stretch_init => k_is)
    (case k_Stretch_init => k_is)
    (case d_Stretch_init => k_is)
    (case e_Stretch_init_0 => first | exact rfl | exact ⟨_, rfl⟩)
    (case a_Stretch_len => k_is)
    (case i_Stretch_len => k_is)
    (case l_Stretch_len => k_is)
    (case c_Stretch_len => k_is)
    (case k_Stretch_len => k_is)
    (case a_Stretch_eq => k_is)
    (case i_Stretch_eq => k_is)
    (case l_Stretch_eq => k_is)
    (case c_Stretch_eq => k_is)
    (case k_Stretch_eq => k_is)
    (case a_Stretch_repr => k_is)
    (case i_Stretch_repr => k_is)
    (case l_Stretch_repr => k_is)
    (case c_Stretch_repr => k_is)
    (case k_Stretch_repr => k_is)
    (case a_Stretch_str => k_is)
    (case i_Stretch_str => k_is)
    (case l_Stretch_str => k_is)
    (case c_Stretch_str => k_is)
    (case k_Stretch_str => k_is)
    (case a__law_tape => k_is)
    (case l__law_tape => k_is)
    (case c__law_tape => k_is)
    (case k__law_tape => k_is)
    (case a__law_draw => k_is)
    (case l__law_draw => k_is)
    (case c__law_draw => k_is)
    (case k__law_draw => k_is)
    (case a__law_pick => k_is)
    (case l__law_pick => k_is)
    (case c__law_pick => k_is)
    (case k__law_pick => k_is)
    (case a__law_two => k_is)
    (case l__law_two => k_is)
    (case c__law_two => k_is)
    (case k__law_two => k_is)
    (case a__law_time => k_is)
    (case l__law_time => k_is)
    (case c__law_time => k_is)
    (case k__law_time => k_is)
    (case a__law_is_whole => k_is)
    (case l__law_is_whole => k_is)
    (case c__law_is_whole => k_is)
    (case k__law_is_whole => k_is)
    (case a__law_refused => k_is)
    (case l__law_refused => k_is)
    (case c__law_refused => k_is)
    (case k__law_refused => k_is)
    (case a__law_is => k_is)
    (case l__law_is => k_is)
    (case c__law_is => k_is)
    (case k__law_is => k_is)
    (case a__law_pair => k_is)
    (case l__law_pair => k_is)
    (case c__law_pair => k_is)
    (case k__law_pair => k_is)
    (case a__law_near => k_is)
    (case l__law_near => k_is)
    (case c__law_near => k_is)
    (case k__law_near => k_is)
    (case a_law => k_is)
    (case l_law => k_is)
    (case c_law => k_is)
    (case k_law => k_is)
    (case pg_Stretch => k_is)
    (case hd_Stretch => k_is)
    (case po_Stretch => k_is)
    (case sa_Stretch => k_is)
    (case mk_Stretch => k_is)
    (case kc_Stretch => k_is)
    (case xga_NoTime => k_is)
    (case xgg_NoTime => k_is)
    (case xex_NoTime => k_is)
    (case xhd_NoTime => k_is)
    (case xha_NoTime => k_is)
    (case xhn_NoTime => k_is)
    (case xht_NoTime => k_is)
    (case xhm_NoTime => k_is)
    (case xl_NoTime => k_is)
    (case xsa_NoTime => k_is)
    (case xty_NoTime => k_is)
    (case xkc_NoTime => k_is)
    (case a_NoTime_init => k_is)
    (case ti_NoTime_init => k_is)
    (case l_NoTime_init => k_is)
    (case c_NoTime_init => k_is)
    (case k_NoTime_init => k_is)
    (case zxn_NoTime_word => k_is)
    (case xga_NoBridge => k_is)
    (case xgg_NoBridge => k_is)
    (case xex_NoBridge => k_is)
    (case xhd_NoBridge => k_is)
    (case xha_NoBridge => k_is)
    (case xhn_NoBridge => k_is)
    (case xht_NoBridge => k_is)
    (case xhm_NoBridge => k_is)
    (case xga_NoWaits => k_is)
    (case xgg_NoWaits => k_is)
    (case xex_NoWaits => k_is)
    (case xhd_NoWaits => k_is)
    (case xha_NoWaits => k_is)
    (case xhn_NoWaits => k_is)
    (case xht_NoWaits => k_is)
    (case xhm_NoWaits => k_is)
    (case xl_NoWaits => k_is)
    (case xsa_NoWaits => k_is)
    (case xty_NoWaits => k_is)
    (case xkc_NoWaits => k_is)
    (case a_NoWaits_init => k_is)
    (case ti_NoWaits_init => k_is)
    (case l_NoWaits_init => k_is)
    (case c_NoWaits_init => k_is)
    (case k_NoWaits_init => k_is)
    (case zxn_NoWaits_many => k_is)
    (case xga_NoStretch => k_is)
    (case xgg_NoStretch => k_is)
    (case xex_NoStretch => k_is)
    (case xhd_NoStretch => k_is)
    (case xha_NoStretch => k_is)
    (case xhn_NoStretch => k_is)
    (case xht_NoStretch => k_is)
    (case xhm_NoStretch => k_is)
    (case xl_NoStretch => k_is)
    (case xsa_NoStretch => k_is)
    (case xty_NoStretch => k_is)
    (case xkc_NoStretch => k_is)
    (case a_NoStretch_init => k_is)
    (case ti_NoStretch_init => k_is)
    (case l_NoStretch_init => k_is)
    (case c_NoStretch_init => k_is)
    (case k_NoStretch_init => k_is)
    (case zxn_NoStretch_first => k_is)
    (case zxn_NoStretch_behind => k_is)
    (case xga_Overload => k_is)
    (case xgg_Overload => k_is)
    (case xex_Overload => k_is)
    (case xhd_Overload => k_is)
    (case xha_Overload => k_is)
    (case xhn_Overload => k_is)
    (case xht_Overload => k_is)
    (case xhm_Overload => k_is)
    (case xl_Overload => k_is)
    (case xsa_Overload => k_is)
    (case xty_Overload => k_is)
    (case xkc_Overload => k_is)
    (case a_Overload_init => k_is)
    (case ti_Overload_init => k_is)
    (case l_Overload_init => k_is)
    (case c_Overload_init => k_is)
    (case k_Overload_init => k_is)
    (case zxn_Overload_part => k_is)
    (case zxn_Overload_at => k_is)
    (case zxn_Overload_over => k_is)
    (case zxm_NoStretch_NoTime => k_is)
    (case zxm_NoStretch_NoBridge => k_is)
    (case zxm_NoStretch_NoWaits => k_is)
    (case zxm_NoStretch_NoStretch => k_is)
    (case zxm_NoStretch_Overload => k_is)
    (case zxk_NoTime_ArithmeticError => k_is)
    (case zxk_NoBridge_ArithmeticError => k_is)
    (case zxk_NoWaits_ArithmeticError => k_is)
    (case zxk_NoStretch_ArithmeticError => k_is)
    (case zxk_Overload_ArithmeticError => k_is)
    (case zxk_NoTime_NoBridge => k_is)
    (case yxk_NoTime_NoBridge => rfl)
    (case vxk_NoTime_NoBridge => k_is)
    (case wxk_NoTime_NoBridge => k_is)
    (case zxk_NoWaits_NoBridge => k_is)
    (case yxk_NoWaits_NoBridge => rfl)
    (case vxk_NoWaits_NoBridge => k_is)
    (case wxk_NoWaits_NoBridge => k_is)
    (case zxk_NoStretch_NoBridge => k_is)
    (case yxk_NoStretch_NoBridge => rfl)
    (case vxk_NoStretch_NoBridge => k_is)
    (case wxk_NoStretch_NoBridge => k_is)
    (case zxk_Overload_NoBridge => k_is)
    (case yxk_Overload_NoBridge => rfl)
    (case vxk_Overload_NoBridge => k_is)
    (case wxk_Overload_NoBridge => k_is)
    (case zxk_NoBridge_NoTime => k_is)
    (case yxk_NoBridge_NoTime => rfl)
    (case vxk_NoBridge_NoTime => k_is)
    (case wxk_NoBridge_NoTime => k_is)
    (case zxk_NoWaits_NoTime => k_is)
    (case yxk_NoWaits_NoTime => rfl)
    (case vxk_NoWaits_NoTime => k_is)
    (case wxk_NoWaits_NoTime => k_is)
    (case zxk_NoStretch_NoTime => k_is)
    (case yxk_NoStretch_NoTime => rfl)
    (case vxk_NoStretch_NoTime => k_is)
    (case wxk_NoStretch_NoTime => k_is)
    (case zxk_Overload_NoTime => k_is)
    (case yxk_Overload_NoTime => rfl)
    (case vxk_Overload_NoTime => k_is)
    (case wxk_Overload_NoTime => k_is)
    (case zxk_NoTime_NoWaits => k_is)
    (case yxk_NoTime_NoWaits => rfl)
    (case vxk_NoTime_NoWaits => k_is)
    (case wxk_NoTime_NoWaits => k_is)
    (case zxk_NoBridge_NoWaits => k_is)
    (case yxk_NoBridge_NoWaits => rfl)
    (case vxk_NoBridge_NoWaits => k_is)
    (case wxk_NoBridge_NoWaits => k_is)
    (case zxk_NoStretch_NoWaits => k_is)
    (case yxk_NoStretch_NoWaits => rfl)
    (case vxk_NoStretch_NoWaits => k_is)
    (case wxk_NoStretch_NoWaits => k_is)
    (case zxk_Overload_NoWaits => k_is)
    (case yxk_Overload_NoWaits => rfl)
    (case vxk_Overload_NoWaits => k_is)
    (case wxk_Overload_NoWaits => k_is)
    (case zxk_NoTime_Overload => k_is)
    (case yxk_NoTime_Overload => rfl)
    (case vxk_NoTime_Overload => k_is)
    (case wxk_NoTime_Overload => k_is)
    (case zxk_NoBridge_Overload => k_is)
    (case yxk_NoBridge_Overload => rfl)
    (case vxk_NoBridge_Overload => k_is)
    (case wxk_NoBridge_Overload => k_is)
    (case zxk_NoWaits_Overload => k_is)
    (case yxk_NoWaits_Overload => rfl)
    (case vxk_NoWaits_Overload => k_is)
    (case wxk_NoWaits_Overload => k_is)
    (case zxk_NoStretch_Overload => k_is)
    (case yxk_NoStretch_Overload => rfl)
    (case vxk_NoStretch_Overload => k_is)
    (case wxk_NoStretch_Overload => k_is)
    (case zno_ArithmeticError => k_is)
    (case zno_bool => k_is)
    (case zno_divmod => k_is)
    (case zno_int => k_is)
    (case zno_isinstance => k_is)
    (case zno_len => k_is)
    (case zno_list => k_is)
    (case zno_max => k_is)
    (case zno_min => k_is)
    (case zno_range => k_is)
    (case zno_repr => k_is)
    (case zno_str => k_is)
    (case zc_DAY => k_is)
    (case zc_HOUR => k_is)
    (case zf_Stretch_first => k_is)
    (case zf_Stretch_behind => k_is)
    (case icl_Stretch => k_is)
    (case ity_Stretch => k_is)
    (case zkb_Stretch_NoneType => k_is)
    (case zkb_Stretch_bool => k_is)
    (case zkb_Stretch_int => k_is)
    (case zkb_Stretch_str => k_is)
    (case zkb_Stretch_tuple => k_is)
    (case zkb_Stretch_list => k_is)
    (case zkb_Stretch_dict => k_is)
    (case nbo_Stretch => k_is)
    (case ea_Stretch_NoneType => k_is)
    (case eb_Stretch_NoneType => k_is)
    (case ea_Stretch_bool => k_is)
    (case eb_Stretch_bool => k_is)
    (case ea_Stretch_int => k_is)
    (case eb_Stretch_int => k_is)
    (case ea_Stretch_str => k_is)
    (case eb_Stretch_str => k_is)
    (case ea_Stretch_tuple => k_is)
    (case eb_Stretch_tuple => k_is)
    (case ea_Stretch_list => k_is)
    (case eb_Stretch_list => k_is)
    (case ea_Stretch_dict => k_is)
    (case eb_Stretch_dict => k_is)
    (case nne_Stretch => k_is)
    (case nob_Stretch => k_is)
    (case ia_Stretch => k_is)
    (case in_Stretch => k_is)
    (case it_Stretch => k_is)
    (case im_Stretch => k_is)
#print axioms PySem.Challenge.cw_boatbridge_k03_stretches_as_objects_holds
