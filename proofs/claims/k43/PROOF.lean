import PyProof.Rows.All
import Wide.All
import OpenK.AllK
import Wide.FinOn
import HandS.ForMost
import HandS.TupAny
import HandS.Codes
import HandS.Flow
import HandS.Defaults
import HandS.MakeKw
import HandS.ExcOwn
import HandS.Wide
import HandS.FStr
import HandS.StrMore
import HandS.IsInst
import HandS.Small
import HandS.Style
import KE.SortData
import KE.DataFind
import OpenK.KOps
import HandS.OwnEq
import PyProof.InstEq
import HandS.Sort
import HandS.More
import PyProof.ReprRoads
import PyProof.StrLawsRepr
import HandS.IntHex
import HandS.Exc
import HandS.ListItems
import HandS.TryOnly
import HandS.SortKw
import KE.DataMinMax
import KE.KDictItemsList
import KE.KDictExact
import HandS.Set
import HandS.SetFor
import HandS.Strs
import HandS.Deep
import HandS.ExcInit
import HandS.ExcSuper
import HandS.ExcBuiltin
import HandS.ExcField
import KE.KExcIs
import HandS.WordsExc
import HandS.ExcIs
import PyProof.ExcBaseAll.NotImplementedError
import PyProof.ExcBaseAll.OverflowError
import PyProof.ExcBaseAll.ArithmeticError
import PyProof.ExcBaseAll.TypeError
import PyProof.ExcBaseAll.ValueError
import PyProof.ExcBaseAll.ZeroDivisionError
import PyProof.ExcBaseAll.RuntimeError
import PyProof.ExcBaseAll.Exception
import PyProof.ExcBaseAll.IndexError
import PyProof.ExcBaseAll.LookupError
import KE.KStateDown
import HandS.Head0
import HandS.Head1
import HandS.Head2
import HandS.HeadEnd
import HandS.HeadHook1
import HandS.HeadHook2
import PySem.Challenge.RW_boatbridge_k43_stands_within_stretches
set_option Elab.async false
set_option linter.all false
set_option maxRecDepth 100000
set_option maxHeartbeats 4000000
namespace Dl
open PySem L2
/-- an exception's class: an own one, a built-in one -/
inductive XC where
  | own (C : Addr) | blt (n : String)
  deriving DecidableEq
def XC.val : XC → Value
  | .own C => .ref C
  | .blt n => .type n
/-- plain data -/
inductive D where
  | non | bl (b : Bool) | int (i : Int) | str (x : Str)
  | tup (ds : List D) | lst (ds : List D) | ksq (ds : List D)
  | obj (C : Addr) (ks : List Str) (ds : List D)
  | dic (ks : List Key) (ds : List D)
  | loc (n : Nat) | ref (a : Addr) | ty (n : String)
  | exc (c : XC) (ks : List Str) (ds : List D)
/-- mutable objects -/
inductive MO where
  | lst (ds : List D)
  | obj (C : Addr) (ks : List Str) (ds : List D)
  | dic (ks : List Key) (ds : List D)
  | dicT (ks : List (List Key)) (ds : List D)
  /-- a dict while it is walked: its raw object, what stands there -/
  | lck (ob : Obj) (u : HO) (ks : List Key) (ds : List D)
  | lckT (ob : Obj) (u : HO) (ks : List (List Key)) (ds : List D)
abbrev Sto := List (Option MO)
abbrev Env_ := List (Option D)
/-- an exception's object that is kept -/
def excO (cls : Value) (d : Option Addr) (a : Addr) : HO := .ext fun h => ∃ (oe : Obj) (vs : Array Value), h.get? a = some oe ∧ oe.cls = cls ∧ oe.dict = d ∧ oe.data = .fields vs
/-- its fields -/
def Xd (Hv : Hp) (d : Option Addr) (fs : List (Str × V)) : Prop := match d with
  | some dd => Hv dd = some (.xd fs)
  | none => fs = []
theorem Xd.sub {H H' : Hp} {d : Option Addr} {fs : List (Str × V)} (h : ∀ a o, H a = some o → H' a = some o) (r : Xd H d fs) : Xd H' d fs := by
  cases d with
  | none => exact r
  | some dd => exact h _ _ r
section
variable (K : PySem.W.Frag) (m : Nat → Addr) (N : Nat) (Hv : Hp)
mutual
def Rep : D → V → Prop
  | .non, v => v = .non
  | .bl b, v => v = .bl b
  | .int i, v => v = .int i
  | .str x, v => v = .str x
  | .tup ds, v => ∃ a vs, v = .ref a ∧ SqT K Hv a vs ∧ Reps ds vs
  | .lst ds, v => ∃ a vs, v = .ref a ∧ Hv a = some (.lst vs) ∧ Reps ds vs
  | .ksq ds, v => ∃ a vs, v = .ref a ∧ SqL K Hv a vs ∧ Reps ds vs
  | .obj C ks ds, v => ∃ a dx vs, v = .ref a ∧ Hv a = some (.ins C dx (ks.zip vs)) ∧ ks.length = vs.length ∧ Reps ds vs
  | .dic ks ds, v => ∃ a vs, v = .ref a ∧ Hv a = some (.dK (ks.zip vs)) ∧ ks.length = vs.length ∧ Reps ds vs
  | .loc n, v => v = .ref (m n) ∧ n < N
  | .ref a, v => v = .ref a
  | .ty n, v => v = .ty n
  | .exc c ks ds, v => ∃ a dd vs, v = .ref a ∧ Hv a = some (excO c.val dd a) ∧ Xd Hv dd (ks.zip vs) ∧ ks.length = vs.length ∧ Reps ds vs
def Reps : List D → List V → Prop
  | [], vs => vs = []
  | d :: ds, vs => ∃ v r, vs = v :: r ∧ Rep d v ∧ Reps ds r
end
end
theorem SqT.sub {K : PySem.W.Frag} {H H' : Hp} {a : Addr} {vs : List V} (h : ∀ a o, H a = some o → H' a = some o) (r : SqT K H a vs) : SqT K H' a vs := by
  rcases r with (r | ⟨o, r⟩) | r
  · exact .inl (.inl (h _ _ r))
  · exact .inl (.inr ⟨o, h _ _ r⟩)
  · exact .inr r
theorem SqL.sub {K : PySem.W.Frag} {H H' : Hp} {a : Addr} {vs : List V} (h : ∀ a o, H a = some o → H' a = some o) (r : SqL K H a vs) : SqL K H' a vs := by
  rcases r with (r | ⟨o, r⟩) | r
  · exact .inl (.inl (h _ _ r))
  · exact .inl (.inr ⟨o, h _ _ r⟩)
  · exact .inr r
section
variable {K : PySem.W.Frag} {m m' : Nat → Addr} {N N' : Nat} {H H' : Hp}
mutual
theorem Rep.mono (hm : ∀ i, i < N → m' i = m i) (hN : N ≤ N') (hh : ∀ a o, H a = some o → H' a = some o) : ∀ {d : D} {v : V}, Rep K m N H d v → Rep K m' N' H' d v
  | .non, _, r => r
  | .bl _, _, r => r
  | .int _, _, r => r
  | .str _, _, r => r
  | .tup ds, _, r => by
    obtain ⟨a, vs, e, s, q⟩ := r
    exact ⟨a, vs, e, SqT.sub hh s, Reps.mono hm hN hh q⟩
  | .lst ds, _, r => by
    obtain ⟨a, vs, e, s, q⟩ := r
    exact ⟨a, vs, e, hh _ _ s, Reps.mono hm hN hh q⟩
  | .ksq ds, _, r => by
    obtain ⟨a, vs, e, s, q⟩ := r
    exact ⟨a, vs, e, SqL.sub hh s, Reps.mono hm hN hh q⟩
  | .obj C ks ds, _, r => by
    obtain ⟨a, dx, vs, e, s, l, q⟩ := r
    exact ⟨a, dx, vs, e, hh _ _ s, l, Reps.mono hm hN hh q⟩
  | .dic ks ds, _, r => by
    obtain ⟨a, vs, e, s, l, q⟩ := r
    exact ⟨a, vs, e, hh _ _ s, l, Reps.mono hm hN hh q⟩
  | .loc n, _, r => ⟨by rw [r.1, hm n r.2], Nat.lt_of_lt_of_le r.2 hN⟩
  | .ref _, _, r => r
  | .ty _, _, r => r
  | .exc c ks ds, _, r => by
    obtain ⟨a, dd, vs, e, s, x, l, q⟩ := r
    exact ⟨a, dd, vs, e, hh _ _ s, x.sub hh, l, Reps.mono hm hN hh q⟩
theorem Reps.mono (hm : ∀ i, i < N → m' i = m i) (hN : N ≤ N') (hh : ∀ a o, H a = some o → H' a = some o) : ∀ {ds : List D} {vs : List V}, Reps K m N H ds vs → Reps K m' N' H' ds vs
  | [], _, r => r
  | d :: ds, _, r => by
    obtain ⟨v, q, e, r1, r2⟩ := r
    exact ⟨v, q, e, Rep.mono hm hN hh r1, Reps.mono hm hN hh r2⟩
end
theorem Reps.len : ∀ {ds : List D} {vs : List V}, Reps K m N H ds vs → vs.length = ds.length
  | [], _, r => by rw [show _ = [] from r]; rfl
  | d :: ds, _, r => by
    obtain ⟨v, q, e, r1, r2⟩ := r
    rw [e, List.length_cons, List.length_cons, Reps.len r2]
theorem Reps.get : ∀ {ds : List D} {vs : List V} {i : Nat} {d : D}, Reps K m N H ds vs → ds[i]? = some d → ∃ v, vs[i]? = some v ∧ Rep K m N H d v
  | [], _, _, _, _, e => by simp at e
  | d :: ds, _, 0, _, r, e => by
    obtain ⟨v, q, e1, r1, r2⟩ := r
    rw [List.getElem?_cons_zero] at e
    cases e
    exact ⟨v, by rw [e1]; rfl, r1⟩
  | d :: ds, _, i + 1, _, r, e => by
    obtain ⟨v, q, e1, r1, r2⟩ := r
    rw [List.getElem?_cons_succ] at e
    obtain ⟨w, h1, h2⟩ := Reps.get r2 e
    exact ⟨w, by rw [e1, List.getElem?_cons_succ]; exact h1, h2⟩
theorem Reps.append : ∀ {ds es : List D} {vs ws : List V}, Reps K m N H ds vs → Reps K m N H es ws → Reps K m N H (ds ++ es) (vs ++ ws)
  | [], _, _, _, r, s => by rw [show _ = [] from r]; exact s
  | d :: ds, _, _, _, r, s => by
    obtain ⟨v, q, e1, r1, r2⟩ := r
    rw [e1]
    exact ⟨v, _, rfl, r1, Reps.append r2 s⟩
theorem Reps.nil : Reps K m N H [] [] := rfl
theorem Reps.one {d : D} {v : V} (r : Rep K m N H d v) : Reps K m N H [d] [v] := ⟨v, [], rfl, r, rfl⟩
theorem Reps.cons {d : D} {v : V} {ds : List D} {vs : List V} (r : Rep K m N H d v) (s : Reps K m N H ds vs) : Reps K m N H (d :: ds) (v :: vs) := ⟨v, vs, rfl, r, s⟩
theorem Reps.take : ∀ {ds : List D} {vs : List V} (n : Nat), Reps K m N H ds vs → Reps K m N H (ds.take n) (vs.take n)
  | [], _, n, r => by rw [show _ = [] from r]; simp [Reps]
  | d :: ds, _, 0, r => by simp [Reps]
  | d :: ds, _, n + 1, r => by
    obtain ⟨v, q, e1, r1, r2⟩ := r
    rw [e1]
    exact ⟨v, _, rfl, r1, Reps.take n r2⟩
theorem Reps.drop : ∀ {ds : List D} {vs : List V} (n : Nat), Reps K m N H ds vs → Reps K m N H (ds.drop n) (vs.drop n)
  | [], _, n, r => by rw [show _ = [] from r]; simp [Reps]
  | d :: ds, _, 0, r => r
  | d :: ds, _, n + 1, r => by
    obtain ⟨v, q, e1, r1, r2⟩ := r
    rw [e1]
    exact Reps.drop n r2
theorem Reps.set : ∀ {ds : List D} {vs : List V} (n : Nat) {d : D} {v : V}, Reps K m N H ds vs → Rep K m N H d v → Reps K m N H (ds.set n d) (vs.set n v)
  | [], _, n, _, _, r, _ => by rw [show _ = [] from r]; simp [Reps]
  | d :: ds, _, 0, _, _, r, s => by
    obtain ⟨v, q, e1, r1, r2⟩ := r
    rw [e1]
    exact ⟨_, _, rfl, s, r2⟩
  | d :: ds, _, n + 1, _, _, r, s => by
    obtain ⟨v, q, e1, r1, r2⟩ := r
    rw [e1]
    exact ⟨v, _, rfl, r1, Reps.set n r2 s⟩
/-- ints, texts -/
theorem Reps.ints : ∀ {ns : List Int} {vs : List V}, Reps K m N H (ns.map D.int) vs → vs = ns.map V.int
  | [], _, r => r
  | n :: ns, _, r => by
    obtain ⟨v, q, e1, r1, r2⟩ := r
    rw [e1, show v = V.int n from r1, Reps.ints r2]
    rfl
theorem Reps.ofInts : ∀ (ns : List Int), Reps K m N H (ns.map D.int) (ns.map V.int)
  | [] => rfl
  | n :: ns => ⟨_, _, rfl, rfl, Reps.ofInts ns⟩
end
def Live (S : Sto) (n : Nat) : Prop := ∃ o, S[n]? = some (some o)
open Classical in
noncomputable def vis (m : Nat → Addr) (S : Sto) (Z : Addr → Prop) (H : Hp) : Hp := fun a => if Z a ∨ (∃ n, Live S n ∧ m n = a) then none else H a
theorem vis_sub {m : Nat → Addr} {S : Sto} {Z : Addr → Prop} {H : Hp} {a : Addr} {o : HO} (h : vis m S Z H a = some o) : H a = some o := by
  unfold vis at h
  split at h
  · cases h
  · exact h
theorem vis_of {m : Nat → Addr} {S : Sto} {Z : Addr → Prop} {H : Hp} {a : Addr} {o : HO} (h : H a = some o) (hz : ¬ Z a) (hl : ∀ n, Live S n → m n ≠ a) : vis m S Z H a = some o := by
  unfold vis
  rw [if_neg]
  · exact h
  · rintro (z | ⟨n, l, e⟩)
    · exact hz z
    · exact hl n l e
theorem vis_not {m : Nat → Addr} {S : Sto} {Z : Addr → Prop} {H : Hp} {a : Addr} {o : HO} (h : vis m S Z H a = some o) : ¬ Z a ∧ ∀ n, Live S n → m n ≠ a := by
  unfold vis at h
  split at h
  · cases h
  · rename_i q
    exact ⟨fun z => q (.inl z), fun n l e => q (.inr ⟨n, l, e⟩)⟩
section
variable (K : PySem.W.Frag) (m : Nat → Addr) (N : Nat) (Hv H : Hp)
def RepM : MO → Addr → Prop
  | .lst ds, a => ∃ vs, H a = some (.lst vs) ∧ Reps K m N Hv ds vs
  | .obj C ks ds, a => ∃ dx vs, H a = some (.ins C dx (ks.zip vs)) ∧ ks.length = vs.length ∧ Reps K m N Hv ds vs
  | .dic ks ds, a => ∃ vs, H a = some (.dK (ks.zip vs)) ∧ ks.length = vs.length ∧ Reps K m N Hv ds vs
  | .dicT ks ds, a => ∃ vs, H a = some (.dT (ks.zip vs)) ∧ ks.length = vs.length ∧ Reps K m N Hv ds vs
  | .lck ob u ks ds, a => ∃ vs, u = .dK (ks.zip vs) ∧ H a = some (.frz ob u) ∧ ks.length = vs.length ∧ Reps K m N Hv ds vs
  | .lckT ob u ks ds, a => ∃ vs, u = .dT (ks.zip vs) ∧ H a = some (.frz ob u) ∧ ks.length = vs.length ∧ Reps K m N Hv ds vs
end
theorem RepM.mono {K : PySem.W.Frag} {m m' : Nat → Addr} {N N' : Nat} {Hv Hv' H H' : Hp} {o : MO} {a a' : Addr} (hm : ∀ i, i < N → m' i = m i) (hN : N ≤ N') (hh : ∀ a o, Hv a = some o → Hv' a = some o) (ha : H' a' = H a)
    (r : RepM K m N Hv H o a) : RepM K m' N' Hv' H' o a' := by
  cases o with
  | lst ds => obtain ⟨vs, e, q⟩ := r; exact ⟨vs, ha.trans e, Reps.mono hm hN hh q⟩
  | obj C ks ds => obtain ⟨dx, vs, e, l, q⟩ := r; exact ⟨dx, vs, ha.trans e, l, Reps.mono hm hN hh q⟩
  | dic ks ds => obtain ⟨vs, e, l, q⟩ := r; exact ⟨vs, ha.trans e, l, Reps.mono hm hN hh q⟩
  | dicT ks ds => obtain ⟨vs, e, l, q⟩ := r; exact ⟨vs, ha.trans e, l, Reps.mono hm hN hh q⟩
  | lck ob u ks ds => obtain ⟨vs, eu, e, l, q⟩ := r; exact ⟨vs, eu, ha.trans e, l, Reps.mono hm hN hh q⟩
  | lckT ob u ks ds => obtain ⟨vs, eu, e, l, q⟩ := r; exact ⟨vs, eu, ha.trans e, l, Reps.mono hm hN hh q⟩
theorem RepM.there {K : PySem.W.Frag} {m : Nat → Addr} {N : Nat} {Hv H : Hp} {o : MO} {a : Addr} (r : RepM K m N Hv H o a) : ∃ u, H a = some u := by
  cases o with
  | lst ds => obtain ⟨vs, e, q⟩ := r; exact ⟨_, e⟩
  | obj C ks ds => obtain ⟨dx, vs, e, l, q⟩ := r; exact ⟨_, e⟩
  | dic ks ds => obtain ⟨vs, e, l, q⟩ := r; exact ⟨_, e⟩
  | dicT ks ds => obtain ⟨vs, e, l, q⟩ := r; exact ⟨_, e⟩
  | lck ob u ks ds => obtain ⟨vs, eu, e, l, q⟩ := r; exact ⟨_, e⟩
  | lckT ob u ks ds => obtain ⟨vs, eu, e, l, q⟩ := r; exact ⟨_, e⟩
structure Wd0 (K : PySem.W.Frag) (m : Nat → Addr) (S : Sto) (Z : Addr → Prop) (H : Hp) : Prop where
  inj : ∀ i j, Live S i → Live S j → m i = m j → i = j
  zz : ∀ i, Live S i → ¬ Z (m i)
  zh : ∀ a, Z a → ∃ o, H a = some o
  rep : ∀ i o, S[i]? = some (some o) → RepM K m S.length (vis m S Z H) H o (m i)
structure Ext (m : Nat → Addr) (S : Sto) (Z : Addr → Prop) (H : Hp) (m' : Nat → Addr) (S' : Sto) (H' : Hp) : Prop where
  len : S.length ≤ S'.length
  loc : ∀ i, i < S.length → m' i = m i
  vis : ∀ a o, vis m S Z H a = some o → vis m' S' Z H' a = some o
  zed : ∀ a, Z a → H' a = H a
section
variable {K : PySem.W.Frag} {m m1 m2 : Nat → Addr} {S S1 S2 : Sto} {Z : Addr → Prop} {H H1 H2 : Hp}
theorem Ext.refl : Ext m S Z H m S H := ⟨Nat.le_refl _, fun _ _ => rfl, fun _ _ h => h, fun _ _ => rfl⟩
theorem Ext.trans (a : Ext m S Z H m1 S1 H1) (b : Ext m1 S1 Z H1 m2 S2 H2) : Ext m S Z H m2 S2 H2 :=
  ⟨Nat.le_trans a.len b.len, fun i h => (b.loc i (Nat.lt_of_lt_of_le h a.len)).trans (a.loc i h), fun x o h => b.vis x o (a.vis x o h), fun x h => (b.zed x h).trans (a.zed x h)⟩
theorem Rep.ext {d : D} {v : V} (e : Ext m S Z H m1 S1 H1) (r : Rep K m S.length (vis m S Z H) d v) : Rep K m1 S1.length (vis m1 S1 Z H1) d v := Rep.mono e.loc e.len e.vis r
theorem Reps.ext {d : List D} {v : List V} (e : Ext m S Z H m1 S1 H1) (r : Reps K m S.length (vis m S Z H) d v) : Reps K m1 S1.length (vis m1 S1 Z H1) d v := Reps.mono e.loc e.len e.vis r
theorem Wd0.live (w : Wd0 K m S Z H) {i : Nat} (l : Live S i) : ∃ o, H (m i) = some o := by
  obtain ⟨o, e⟩ := l
  exact (w.rep i o e).there
theorem Wd0.fresh (w : Wd0 K m S Z H) {p : Addr} (hp : H p = none) : ¬ Z p ∧ ∀ n, Live S n → m n ≠ p := by
  refine ⟨fun z => ?_, fun n l e => ?_⟩
  · obtain ⟨o, q⟩ := w.zh p z
    rw [hp] at q; cases q
  · obtain ⟨o, q⟩ := w.live l
    rw [e, hp] at q; cases q
/-- a new object that is no part of the store -/
theorem Wd0.new (w : Wd0 K m S Z H) {p : Addr} {o : HO} (hp : H p = none) : Wd0 K m S Z (upd H p o) ∧ Ext m S Z H m S (upd H p o) ∧ vis m S Z (upd H p o) p = some o := by
  obtain ⟨nz, nl⟩ := w.fresh hp
  have hv : ∀ a u, vis m S Z H a = some u → vis m S Z (upd H p o) a = some u := fun a u h => by
    obtain ⟨z1, z2⟩ := vis_not h
    exact vis_of (by rw [upd_ne (ne_of_none (vis_sub h) hp)]; exact vis_sub h) z1 z2
  have hz : ∀ a, Z a → upd H p o a = H a := fun a z => upd_ne (fun e => nz (e ▸ z))
  refine ⟨⟨w.inj, w.zz, fun a z => ?_, fun i x e => ?_⟩, ⟨Nat.le_refl _, fun _ _ => rfl, hv, hz⟩, vis_of upd_same nz nl⟩
  · rw [hz a z]; exact w.zh a z
  · exact (w.rep i x e).mono (fun _ _ => rfl) (Nat.le_refl _) hv (upd_ne (nl i ⟨x, e⟩))
/-- a new object of the store -/
theorem Wd0.add (w : Wd0 K m S Z H) {p : Addr} {o : HO} {mo : MO} (hp : H p = none) (hr : ∀ m1 N1 Hv1, (∀ i, i < S.length → m1 i = m i) → S.length ≤ N1 → (∀ a u, vis m S Z H a = some u → Hv1 a = some u) → RepM K m1 N1 Hv1 (upd H p o) mo p) :
    ∃ m', m' S.length = p ∧ Wd0 K m' (S ++ [some mo]) Z (upd H p o) ∧ Ext m S Z H m' (S ++ [some mo]) (upd H p o) := by
  obtain ⟨nz, nl⟩ := w.fresh hp
  let m' : Nat → Addr := fun i => if i = S.length then p else m i
  have e0 : m' S.length = p := if_pos rfl
  have e1 : ∀ i, i < S.length → m' i = m i := fun i h => if_neg (Nat.ne_of_lt h)
  have lv : ∀ i, Live (S ++ [some mo]) i → (i < S.length ∧ Live S i) ∨ i = S.length := fun i ⟨x, e⟩ => by
    by_cases h : i < S.length
    · exact .inl ⟨h, x, by rw [List.getElem?_append_left h] at e; exact e⟩
    · right
      have := (List.getElem?_eq_some_iff.mp e).1
      rw [List.length_append, List.length_singleton] at this
      omega
  have hv : ∀ a u, vis m S Z H a = some u → vis m' (S ++ [some mo]) Z (upd H p o) a = some u := fun a u h => by
    obtain ⟨z1, z2⟩ := vis_not h
    have nap : a ≠ p := ne_of_none (vis_sub h) hp
    refine vis_of (by rw [upd_ne nap]; exact vis_sub h) z1 fun n l => ?_
    rcases lv n l with ⟨hn, l⟩ | rfl
    · rw [e1 n hn]; exact z2 n l
    · rw [e0]; exact nap.symm
  have hz : ∀ a, Z a → upd H p o a = H a := fun a z => upd_ne (fun e => nz (e ▸ z))
  have len : (S ++ [some mo]).length = S.length + 1 := by simp
  refine ⟨m', e0, ⟨fun i j li lj e => ?_, fun i li => ?_, fun a z => by rw [hz a z]; exact w.zh a z, fun i x e => ?_⟩, ⟨by omega, e1, hv, hz⟩⟩
  · rcases lv i li with ⟨hi, li⟩ | rfl <;> rcases lv j lj with ⟨hj, lj⟩ | rfl
    · rw [e1 i hi, e1 j hj] at e; exact w.inj i j li lj e
    · rw [e1 i hi, e0] at e; exact absurd e (nl i li)
    · rw [e0, e1 j hj] at e; exact absurd e.symm (nl j lj)
    · rfl
  · rcases lv i li with ⟨hi, li⟩ | rfl
    · rw [e1 i hi]; exact w.zz i li
    · rw [e0]; exact nz
  · rw [len]
    rcases lv i ⟨x, e⟩ with ⟨hi, li⟩ | rfl
    · rw [List.getElem?_append_left hi] at e
      exact (w.rep i x e).mono e1 (Nat.le_succ _) hv (by rw [e1 i hi]; exact upd_ne (nl i li))
    · rw [List.getElem?_append_right (Nat.le_refl _), Nat.sub_self, List.getElem?_cons_zero] at e
      cases e
      rw [e0]
      exact hr m' _ _ e1 (Nat.le_succ _) hv
/-- an object of the store changes -/
theorem Wd0.upd (w : Wd0 K m S Z H) {n : Nat} {o : HO} {mo : MO} (l : Live S n) (hr : RepM K m S.length (vis m S Z H) (upd H (m n) o) mo (m n)) :
    Wd0 K m (S.set n (some mo)) Z (upd H (m n) o) ∧ Ext m S Z H m (S.set n (some mo)) (upd H (m n) o) ∧ vis m (S.set n (some mo)) Z (upd H (m n) o) = vis m S Z H := by
  have hn : n < S.length := by obtain ⟨x, e⟩ := l; exact (List.getElem?_eq_some_iff.mp e).1
  have lv : ∀ i, Live (S.set n (some mo)) i ↔ Live S i := fun i => by
    unfold Live
    by_cases h : n = i
    · subst h
      rw [List.getElem?_set_self hn]
      exact ⟨fun _ => l, fun _ => ⟨_, rfl⟩⟩
    · rw [List.getElem?_set_ne h]
  have hv : vis m (S.set n (some mo)) Z (L2.upd H (m n) o) = vis m S Z H := by
    funext a
    unfold vis
    have e : (∃ k, Live (S.set n (some mo)) k ∧ m k = a) ↔ ∃ k, Live S k ∧ m k = a := ⟨fun ⟨k, q, e⟩ => ⟨k, (lv k).mp q, e⟩, fun ⟨k, q, e⟩ => ⟨k, (lv k).mpr q, e⟩⟩
    by_cases c : Z a ∨ ∃ k, Live S k ∧ m k = a
    · rw [if_pos c, if_pos (by rw [e]; exact c)]
    · rw [if_neg c, if_neg (by rw [e]; exact c)]
      exact upd_ne (fun q => c (.inr ⟨n, l, q.symm⟩))
  have hz : ∀ a, Z a → L2.upd H (m n) o a = H a := fun a z => upd_ne (fun e => w.zz n l (e ▸ z))
  refine ⟨⟨fun i j li lj => w.inj i j ((lv i).mp li) ((lv j).mp lj), fun i li => w.zz i ((lv i).mp li), fun a z => by rw [hz a z]; exact w.zh a z, fun i x e => ?_⟩, ⟨by rw [List.length_set]; exact Nat.le_refl _, fun _ _ => rfl, fun a u h => by rw [hv]; exact h, hz⟩, hv⟩
  rw [hv, List.length_set]
  by_cases h : n = i
  · subst h
    rw [List.getElem?_set_self hn] at e
    cases e
    exact hr
  · rw [List.getElem?_set_ne h] at e
    exact (w.rep i x e).mono (fun _ _ => rfl) (Nat.le_refl _) (fun _ _ q => q) (upd_ne (fun q => h (w.inj i n ⟨x, e⟩ l q).symm))
end
mutual
def D.under (n : Nat) : D → Bool
  | .tup ds => D.unders n ds
  | .lst ds => D.unders n ds
  | .ksq ds => D.unders n ds
  | .obj _ _ ds => D.unders n ds
  | .dic _ ds => D.unders n ds
  | .loc k => decide (k < n)
  | .exc _ _ ds => D.unders n ds
  | .non => true | .bl _ => true | .int _ => true | .str _ => true | .ref _ => true | .ty _ => true
def D.unders (n : Nat) : List D → Bool
  | [] => true
  | d :: ds => D.under n d && D.unders n ds
end
def MO.under (n : Nat) : MO → Bool
  | .lst ds => D.unders n ds
  | .obj _ _ ds => D.unders n ds
  | .dic _ ds => D.unders n ds
  | .dicT _ ds => D.unders n ds
  | .lck _ _ _ ds => D.unders n ds
  | .lckT _ _ _ ds => D.unders n ds
def Sto.under (n : Nat) (S : Sto) : Bool := S.all fun o => match o with | none => true | some x => x.under n
section
variable {K : PySem.W.Frag} {m : Nat → Addr} {N n : Nat} {H : Hp}
mutual
theorem Rep.cut (hn : n ≤ N) : ∀ {d : D} {v : V}, Rep K m N H d v → d.under n = true → Rep K m n H d v
  | .non, _, r, _ => r
  | .bl _, _, r, _ => r
  | .int _, _, r, _ => r
  | .str _, _, r, _ => r
  | .tup ds, _, r, b => by
    obtain ⟨a, vs, e, s, q⟩ := r
    exact ⟨a, vs, e, s, Reps.cut hn q b⟩
  | .lst ds, _, r, b => by
    obtain ⟨a, vs, e, s, q⟩ := r
    exact ⟨a, vs, e, s, Reps.cut hn q b⟩
  | .ksq ds, _, r, b => by
    obtain ⟨a, vs, e, s, q⟩ := r
    exact ⟨a, vs, e, s, Reps.cut hn q b⟩
  | .obj C ks ds, _, r, b => by
    obtain ⟨a, dx, vs, e, s, l, q⟩ := r
    exact ⟨a, dx, vs, e, s, l, Reps.cut hn q b⟩
  | .dic ks ds, _, r, b => by
    obtain ⟨a, vs, e, s, l, q⟩ := r
    exact ⟨a, vs, e, s, l, Reps.cut hn q b⟩
  | .loc k, _, r, b => ⟨r.1, by simpa [D.under] using b⟩
  | .ref _, _, r, _ => r
  | .ty _, _, r, _ => r
  | .exc c ks ds, _, r, b => by
    obtain ⟨a, dd, vs, e, s, x, l, q⟩ := r
    exact ⟨a, dd, vs, e, s, x, l, Reps.cut hn q b⟩
theorem Reps.cut (hn : n ≤ N) : ∀ {ds : List D} {vs : List V}, Reps K m N H ds vs → D.unders n ds = true → Reps K m n H ds vs
  | [], _, r, _ => r
  | d :: ds, _, r, b => by
    obtain ⟨v, q, e, r1, r2⟩ := r
    have b' : D.under n d = true ∧ D.unders n ds = true := by simpa [D.unders] using b
    exact ⟨v, q, e, Rep.cut hn r1 b'.1, Reps.cut hn r2 b'.2⟩
end
mutual
theorem Rep.below : ∀ {d : D} {v : V}, Rep K m N H d v → d.under N = true
  | .non, _, _ => by simp [D.under]
  | .bl _, _, _ => by simp [D.under]
  | .int _, _, _ => by simp [D.under]
  | .str _, _, _ => by simp [D.under]
  | .tup ds, _, r => by
    obtain ⟨a, vs, e, s, q⟩ := r
    simpa [D.under] using Reps.below q
  | .lst ds, _, r => by
    obtain ⟨a, vs, e, s, q⟩ := r
    simpa [D.under] using Reps.below q
  | .ksq ds, _, r => by
    obtain ⟨a, vs, e, s, q⟩ := r
    simpa [D.under] using Reps.below q
  | .obj C ks ds, _, r => by
    obtain ⟨a, dx, vs, e, s, l, q⟩ := r
    simpa [D.under] using Reps.below q
  | .dic ks ds, _, r => by
    obtain ⟨a, vs, e, s, l, q⟩ := r
    simpa [D.under] using Reps.below q
  | .loc k, _, r => by simpa [D.under] using r.2
  | .ref _, _, _ => by simp [D.under]
  | .ty _, _, _ => by simp [D.under]
  | .exc c ks ds, _, r => by
    obtain ⟨a, dd, vs, e, s, x, l, q⟩ := r
    simpa [D.under] using Reps.below q
theorem Reps.below : ∀ {ds : List D} {vs : List V}, Reps K m N H ds vs → D.unders N ds = true
  | [], _, _ => by simp [D.unders]
  | d :: ds, _, r => by
    obtain ⟨v, q, e, r1, r2⟩ := r
    simp [D.unders, Rep.below r1, Reps.below r2]
end
theorem RepM.cut {Hv : Hp} (hn : n ≤ N) {o : MO} {a : Addr} (r : RepM K m N Hv H o a) (b : o.under n = true) : RepM K m n Hv H o a := by
  cases o with
  | lst ds => obtain ⟨vs, e, q⟩ := r; exact ⟨vs, e, Reps.cut hn q b⟩
  | obj C ks ds => obtain ⟨dx, vs, e, l, q⟩ := r; exact ⟨dx, vs, e, l, Reps.cut hn q b⟩
  | dic ks ds => obtain ⟨vs, e, l, q⟩ := r; exact ⟨vs, e, l, Reps.cut hn q b⟩
  | dicT ks ds => obtain ⟨vs, e, l, q⟩ := r; exact ⟨vs, e, l, Reps.cut hn q b⟩
  | lck ob u ks ds => obtain ⟨vs, eu, e, l, q⟩ := r; exact ⟨vs, eu, e, l, Reps.cut hn q b⟩
  | lckT ob u ks ds => obtain ⟨vs, eu, e, l, q⟩ := r; exact ⟨vs, eu, e, l, Reps.cut hn q b⟩
end
section
variable {K : PySem.W.Frag} {m m0 : Nat → Addr} {S S0 : Sto} {Z : Addr → Prop} {H H0 : Hp} {n : Nat}
theorem live_take {i : Nat} (h : Live (S.take n) i) : i < n ∧ Live S i := by
  obtain ⟨x, e⟩ := h
  have h1 : i < (S.take n).length := (List.getElem?_eq_some_iff.mp e).1
  rw [List.length_take] at h1
  have h2 : i < n := by omega
  refine ⟨h2, x, ?_⟩
  rw [List.getElem?_take_of_lt h2] at e
  exact e
theorem vis_take {a : Addr} {o : HO} (h : vis m S Z H a = some o) : vis m (S.take n) Z H a = some o := by
  obtain ⟨z1, z2⟩ := vis_not h
  exact vis_of (vis_sub h) z1 fun k l => z2 k (live_take l).2
/-- the store is cut: what lies beyond n is forgotten -/
theorem Wd0.take (w : Wd0 K m S Z H) (hn : n ≤ S.length) (hb : Sto.under n (S.take n) = true) : Wd0 K m (S.take n) Z H := by
  have len : (S.take n).length = n := by rw [List.length_take]; omega
  refine ⟨fun i j li lj => w.inj i j (live_take li).2 (live_take lj).2, fun i li => w.zz i (live_take li).2, w.zh, fun i x e => ?_⟩
  have h := live_take ⟨x, e⟩
  have e' := e
  rw [List.getElem?_take_of_lt h.1] at e'
  rw [len]
  have bx : x.under n = true := by
    have hm : some x ∈ S.take n := List.mem_of_getElem? e
    have := List.all_eq_true.mp hb _ hm
    exact this
  exact ((w.rep i x e').mono (fun _ _ => rfl) (Nat.le_refl _) (fun a o q => vis_take (n := n) q) rfl).cut hn bx
theorem Ext.take (e : Ext m0 S0 Z H0 m S H) (h : S0.length ≤ n) (hn : n ≤ S.length) : Ext m0 S0 Z H0 m (S.take n) H :=
  ⟨by rw [List.length_take]; omega, e.loc, fun a o q => vis_take (e.vis a o q), e.zed⟩
/-- an object of the store is given up: from here on it is seen, and never changes -/
theorem live_setN {i k : Nat} (h : Live (S.set k none) i) : i ≠ k ∧ Live S i := by
  obtain ⟨x, e⟩ := h
  by_cases q : k = i
  · subst q
    by_cases hk : k < S.length
    · rw [List.getElem?_set_self hk] at e; cases e
    · rw [List.getElem?_eq_none_iff.mpr (by rw [List.length_set]; omega)] at e; cases e
  · rw [List.getElem?_set_ne q] at e
    exact ⟨fun z => q z.symm, x, e⟩
theorem vis_setN {a : Addr} {o : HO} {k : Nat} (h : vis m S Z H a = some o) : vis m (S.set k none) Z H a = some o := by
  obtain ⟨z1, z2⟩ := vis_not h
  exact vis_of (vis_sub h) z1 fun j l => z2 j (live_setN l).2
/-- the list at k, given up, as data -/
theorem Wd0.frozen_lst (w : Wd0 K m S Z H) {k : Nat} {ds : List D} (e : S[k]? = some (some (.lst ds))) : Rep K m (S.set k none).length (vis m (S.set k none) Z H) (.lst ds) (.ref (m k)) := by
  obtain ⟨vs, h, r⟩ := w.rep k _ e
  refine ⟨m k, vs, rfl, vis_of h (w.zz k ⟨_, e⟩) fun j l q => ?_, ?_⟩
  · have h2 := live_setN l
    exact h2.1 (w.inj j k h2.2 ⟨_, e⟩ q)
  · rw [List.length_set]
    exact Reps.mono (fun _ _ => rfl) (Nat.le_refl _) (fun a o q => vis_setN q) r
theorem Wd0.frozen_obj (w : Wd0 K m S Z H) {k : Nat} {C : Addr} {ks : List Str} {ds : List D} (e : S[k]? = some (some (.obj C ks ds))) : Rep K m (S.set k none).length (vis m (S.set k none) Z H) (.obj C ks ds) (.ref (m k)) := by
  obtain ⟨dx, vs, h, hl, r⟩ := w.rep k _ e
  refine ⟨m k, dx, vs, rfl, vis_of h (w.zz k ⟨_, e⟩) fun j l q => ?_, hl, ?_⟩
  · have h2 := live_setN l
    exact h2.1 (w.inj j k h2.2 ⟨_, e⟩ q)
  · rw [List.length_set]
    exact Reps.mono (fun _ _ => rfl) (Nat.le_refl _) (fun a o q => vis_setN q) r
theorem Wd0.frozen_dic (w : Wd0 K m S Z H) {k : Nat} {ks : List Key} {ds : List D} (e : S[k]? = some (some (.dic ks ds))) : Rep K m (S.set k none).length (vis m (S.set k none) Z H) (.dic ks ds) (.ref (m k)) := by
  obtain ⟨vs, h, hl, r⟩ := w.rep k _ e
  refine ⟨m k, vs, rfl, vis_of h (w.zz k ⟨_, e⟩) fun j l q => ?_, hl, ?_⟩
  · have h2 := live_setN l
    exact h2.1 (w.inj j k h2.2 ⟨_, e⟩ q)
  · rw [List.length_set]
    exact Reps.mono (fun _ _ => rfl) (Nat.le_refl _) (fun a o q => vis_setN q) r
end
def RelS (K : PySem.W.Frag) (m : Nat → Addr) (N : Nat) (Hv : Hp) (ρ : Env_) (σ : St) : Prop :=
  ρ.length = σ.length ∧ ∀ (i : Nat) (d : D), ρ[i]? = some (some d) → ∃ v : V, σ[i]? = some (some v) ∧ Rep K m N Hv d v
/-- a wish of exceptions, by data: class, fields, slots, store -/
abbrev XW := XC → List Str → List D → Env_ → Sto → Prop
structure Wi where
  W : Value → Option Addr → St → Hp → Prop
  D : XW
/-- none is let out -/
def U0 : Wi := ⟨fun _ _ _ _ => False, fun _ _ _ _ _ => False⟩
def Up (K : PySem.W.Frag) (U : Wi) (m : Nat → Addr) (S : Sto) (Z : Addr → Prop) (H : Hp) : Prop :=
  ∀ (H' : Hp) (m' : Nat → Addr) (S' : Sto) (σ' : St) (ρ' : Env_) (c : XC) (dd : Option Addr) (ks : List Str) (ds : List D) (vs : List V), Ext m S Z H m' S' H' → Wd0 K m' S' Z H' → RelS K m' S'.length (vis m' S' Z H') ρ' σ' →
    Xd (vis m' S' Z H') dd (ks.zip vs) → ks.length = vs.length → Reps K m' S'.length (vis m' S' Z H') ds vs → U.D c ks ds ρ' S' → U.W c.val dd σ' H'
structure Wd (K : PySem.W.Frag) (U : Wi) (m : Nat → Addr) (S : Sto) (Z : Addr → Prop) (H : Hp) : Prop extends Wd0 K m S Z H where
  up : Up K U m S Z H
section
variable {K : PySem.W.Frag} {U : Wi} {m m1 : Nat → Addr} {S S1 : Sto} {Z : Addr → Prop} {H H1 : Hp}
theorem Wd0.u0 (w : Wd0 K m S Z H) : Wd K U0 m S Z H := ⟨w, fun _ _ _ _ _ _ _ _ _ _ _ _ _ _ _ _ z => z.elim⟩
/-- a later world -/
theorem Wd.on (w : Wd K U m S Z H) (e : Ext m S Z H m1 S1 H1) (w1 : Wd0 K m1 S1 Z H1) : Wd K U m1 S1 Z H1 := ⟨w1, fun H' m' S' σ' ρ' c dd ks ds vs e' => w.up H' m' S' σ' ρ' c dd ks ds vs (e.trans e')⟩
theorem Wd.new (w : Wd K U m S Z H) {p : Addr} {o : HO} (hp : H p = none) : Wd K U m S Z (upd H p o) ∧ Ext m S Z H m S (upd H p o) ∧ vis m S Z (upd H p o) p = some o := by
  obtain ⟨a, b, c⟩ := w.toWd0.new (o := o) hp
  exact ⟨w.on b a, b, c⟩
theorem Wd.add (w : Wd K U m S Z H) {p : Addr} {o : HO} {mo : MO} (hp : H p = none) (hr : ∀ m1 N1 Hv1, (∀ i, i < S.length → m1 i = m i) → S.length ≤ N1 → (∀ a u, vis m S Z H a = some u → Hv1 a = some u) → RepM K m1 N1 Hv1 (upd H p o) mo p) :
    ∃ m', m' S.length = p ∧ Wd K U m' (S ++ [some mo]) Z (upd H p o) ∧ Ext m S Z H m' (S ++ [some mo]) (upd H p o) := by
  obtain ⟨m', e0, a, b⟩ := w.toWd0.add (o := o) (mo := mo) hp hr
  exact ⟨m', e0, w.on b a, b⟩
theorem Wd.upd (w : Wd K U m S Z H) {n : Nat} {o : HO} {mo : MO} (l : Live S n) (hr : RepM K m S.length (vis m S Z H) (upd H (m n) o) mo (m n)) :
    Wd K U m (S.set n (some mo)) Z (L2.upd H (m n) o) ∧ Ext m S Z H m (S.set n (some mo)) (L2.upd H (m n) o) ∧ vis m (S.set n (some mo)) Z (L2.upd H (m n) o) = vis m S Z H := by
  obtain ⟨a, b, c⟩ := w.toWd0.upd (o := o) (mo := mo) l hr
  exact ⟨w.on b a, b, c⟩
end
end Dl
namespace Dl
open PySem L2
section
variable {K : PySem.W.Frag} {m : Nat → Addr} {N : Nat} {Hv : Hp}
theorem rep_non : Rep K m N Hv .non .non := by simp [Rep]
theorem rep_bl {b : Bool} : Rep K m N Hv (.bl b) (.bl b) := by simp [Rep]
theorem rep_int {b : Int} : Rep K m N Hv (.int b) (.int b) := by simp [Rep]
theorem rep_str {b : Str} : Rep K m N Hv (.str b) (.str b) := by simp [Rep]
theorem rep_tup {a : Addr} {vs : List V} {ds : List D} (h : SqT K Hv a vs) (r : Reps K m N Hv ds vs) : Rep K m N Hv (.tup ds) (.ref a) := by rw [Rep]; exact ⟨a, vs, rfl, h, r⟩
theorem rep_lst {a : Addr} {vs : List V} {ds : List D} (h : Hv a = some (.lst vs)) (r : Reps K m N Hv ds vs) : Rep K m N Hv (.lst ds) (.ref a) := by rw [Rep]; exact ⟨a, vs, rfl, h, r⟩
theorem rep_loc {a : Addr} {n : Nat} (e : m n = a) (h : n < N) : Rep K m N Hv (.loc n) (.ref a) := by rw [Rep]; exact ⟨by rw [e], h⟩
theorem reps_nil : Reps K m N Hv [] [] := by simp [Reps]
end
/-- what is wanted behind a step, by data -/
def Outs {A B : Type} (m : Nat → Addr) (S : Sto) (Z : Addr → Prop) (H : Hp) (K : PySem.W.Frag) (U : Wi) (rel : (Nat → Addr) → Nat → Hp → A → B → Prop) (q : A → Sto → Prop) (Q : B → Hp → Prop) : Prop :=
  ∀ b H' m' a S', Ext m S Z H m' S' H' → Wd K U m' S' Z H' → rel m' S'.length (vis m' S' Z H') a b → q a S' → Q b H'
abbrev rD (K : PySem.W.Frag) : (Nat → Addr) → Nat → Hp → D → V → Prop := fun m N Hv d v => Rep K m N Hv d v
abbrev rDs (K : PySem.W.Frag) : (Nat → Addr) → Nat → Hp → List D → List V → Prop := fun m N Hv d v => Reps K m N Hv d v
abbrev rEq {A : Type} : (Nat → Addr) → Nat → Hp → A → A → Prop := fun _ _ _ a b => a = b
/-- a step by data -/
abbrev G (A : Type) := Env_ → Sto → (A → Sto → Prop) → Prop
def tof {A B : Type} (K : PySem.W.Frag) (U : Wi) (rel : (Nat → Addr) → Nat → Hp → A → B → Prop) (g : G A) : St → Hp → (B → Hp → Prop) → Prop := fun σ H Q =>
  ∃ m S Z ρ q, Wd K U m S Z H ∧ RelS K m S.length (vis m S Z H) ρ σ ∧ g ρ S q ∧ Outs m S Z H K U rel q Q
abbrev tofE (K : PySem.W.Frag) (U : Wi) (g : G D) : TE := tof K U (rD K) g
abbrev tofB (K : PySem.W.Frag) (U : Wi) (g : G Bool) : TT := tof K U rEq g
abbrev tofA (K : PySem.W.Frag) (U : Wi) (g : G (List D)) : TA := tof K U (rDs K) g
abbrev tofO (K : PySem.W.Frag) (U : Wi) (g : G (Option Int)) : TO := tof K U rEq g
section
variable {A B : Type} {K : PySem.W.Frag} {m m1 : Nat → Addr} {S S1 : Sto} {Z : Addr → Prop} {H H1 : Hp} {rel : (Nat → Addr) → Nat → Hp → A → B → Prop} {q : A → Sto → Prop} {Q : B → Hp → Prop} {ρ : Env_} {σ : St}
theorem Outs.ext (e : Ext m S Z H m1 S1 H1) (k : Outs m S Z H K U rel q Q) : Outs m1 S1 Z H1 K U rel q Q := fun b H' m' a S' e' w r h => k b H' m' a S' (e.trans e') w r h
theorem Outs.now (k : Outs m S Z H K U rel q Q) (w : Wd K U m S Z H) {a : A} {b : B} (r : rel m S.length (vis m S Z H) a b) (h : q a S) : Q b H := k b H m a S Ext.refl w r h
theorem Outs.at (k : Outs m S Z H K U rel q Q) (e : Ext m S Z H m1 S1 H1) (w : Wd K U m1 S1 Z H1) {a : A} {b : B} (r : rel m1 S1.length (vis m1 S1 Z H1) a b) (h : q a S1) : Q b H1 := k b H1 m1 a S1 e w r h
theorem RelS.ext (e : Ext m S Z H m1 S1 H1) (r : RelS K m S.length (vis m S Z H) ρ σ) : RelS K m1 S1.length (vis m1 S1 Z H1) ρ σ :=
  ⟨r.1, fun i d h => let ⟨v, h1, h2⟩ := r.2 i d h; ⟨v, h1, h2.ext e⟩⟩
theorem RelS.set {i : Nat} {d : D} {v : V} {N : Nat} {Hv : Hp} (r : RelS K m N Hv ρ σ) (h : Rep K m N Hv d v) : RelS K m N Hv (ρ.set i (some d)) (σ.set i (some v)) := by
  refine ⟨by rw [List.length_set, List.length_set]; exact r.1, fun j x e => ?_⟩
  by_cases hj : i = j
  · subst hj
    have hl : i < ρ.length := by
      have := (List.getElem?_eq_some_iff.mp e).1
      rw [List.length_set] at this; exact this
    rw [List.getElem?_set_self hl] at e
    cases e
    exact ⟨v, List.getElem?_set_self (by rw [← r.1]; exact hl), h⟩
  · rw [List.getElem?_set_ne hj] at e
    obtain ⟨w, h1, h2⟩ := r.2 j x e
    exact ⟨w, by rw [List.getElem?_set_ne hj]; exact h1, h2⟩
theorem tof_in {g : G A} (w : Wd K U m S Z H) (r : RelS K m S.length (vis m S Z H) ρ σ) (h : g ρ S q) (k : Outs m S Z H K U rel q Q) : tof K U rel g σ H Q := ⟨m, S, Z, ρ, q, w, r, h, k⟩
end
section
variable {X : Cx} {e : Expr} {t t' : TE}
theorem weakE (h : PE X e t) (k : ∀ σ H Q, t' σ H Q → t σ H Q) : PE X e t' := ⟨fun pins s σ H Q I q => h.run pins s σ H Q I (k σ H Q q)⟩
theorem weakT {u u' : TT} (h : PT X e u) (k : ∀ σ H Q, u' σ H Q → u σ H Q) : PT X e u' := ⟨fun pins s σ H Q I q => h.run pins s σ H Q I (k σ H Q q)⟩
theorem weakW {u u' : TT} (h : PW X e u) (k : ∀ σ H Q, u' σ H Q → u σ H Q) : PW X e u' := ⟨fun wh pins s σ H Q I q => h.run wh pins s σ H Q I (k σ H Q q)⟩
theorem weakA {es : List Expr} {u u' : TA} (h : PA X es u) (k : ∀ σ H Q, u' σ H Q → u σ H Q) : PA X es u' := ⟨fun pos pins s σ H Q I q => h.run pos pins s σ H Q I (k σ H Q q)⟩
theorem weakO {e : Option Expr} {u u' : TO} (h : PO X e u) (k : ∀ σ H Q, u' σ H Q → u σ H Q) : PO X e u' := ⟨fun pins s σ H Q I q => h.run pins s σ H Q I (k σ H Q q)⟩
theorem weakS {st : Stmt} {u u' : TS} (h : PS X st u) (k : ∀ E σ H, u' E σ H → u E σ H) : PS X st u' := ⟨fun pins s σ H E I q => h.run pins s σ H E I (k E σ H q)⟩
theorem weakSs {st : List Stmt} {u u' : TS} (h : PSs X st u) (k : ∀ E σ H, u' E σ H → u E σ H) : PSs X st u' := ⟨fun pins s σ H E I q => h.run pins s σ H E I (k E σ H q)⟩
theorem deadS {st : Stmt} : PS X st (fun _ _ _ => False) := ⟨fun _ _ _ _ _ _ h => h.elim⟩
end
def gVar (i : Nat) : G D := fun ρ S q => ∃ d : D, ρ[i]? = some (some d) ∧ q d S
def gC (d : D) : G D := fun _ S q => q d S
section
variable {X : Cx} {pos : Pos}
theorem d_var (i : Nat) {x : Str} (hN : X.N[i]? = some x := by rfl) (hv : Vis X.env.scope x := by first | exact Or.inl rfl | exact Or.inr (Or.inl rfl) | exact Or.inr (Or.inr rfl)) (hd : (x == ("__debug__" : Str)) = false := by decide)
    (hcd : (x == ("__classdict__" : Str)) = false := by decide) : PE X (.Name x pos) (tofE X.K U (gVar i)) :=
  weakE (pe_var hN hv hd hcd) fun σ H Q ⟨m, S, Z, ρ, q, w, r, ⟨d, e, h⟩, k⟩ => by
    obtain ⟨v, h1, h2⟩ := r.2 i d e
    exact ⟨v, h1, k.now w h2 h⟩
theorem ofC {e : Expr} {d : D} {v : V} (h : PE X e (tC v)) (hr : ∀ K m N Hv, Rep K m N Hv d v) : PE X e (tofE X.K U (gC d)) :=
  weakE h fun σ H Q ⟨m, S, Z, ρ, q, w, r, h, k⟩ => k.now w (hr _ _ _ _) h
theorem d_int {i j} : PE X (.Constant (.int i) j pos) (tofE X.K U (gC (.int i))) := ofC pe_int fun _ _ _ _ => rfl
theorem d_bl {b j} : PE X (.Constant (.bool b) j pos) (tofE X.K U (gC (.bl b))) := ofC pe_bl fun _ _ _ _ => rfl
theorem d_non {j} : PE X (.Constant .none j pos) (tofE X.K U (gC .non)) := ofC pe_non fun _ _ _ _ => rfl
theorem d_str {x j} : PE X (.Constant (.str x) j pos) (tofE X.K U (gC (.str x))) := ofC pe_str fun _ _ _ _ => rfl
theorem d_gref {x : Str} {a : Addr} (hg : Gl X x) (hm : X.mg x = some (.ref a)) (hd : (x == ("__debug__" : Str)) = false := by decide) : PE X (.Name x pos) (tofE X.K U (gC (.ref a))) :=
  ofC (pe_glob (v := .ref a) hg hm rfl hd) fun _ _ _ _ => rfl
end
abbrev R2D := D → D → Sto → (D → Sto → Prop) → Prop
abbrev R1D := D → Sto → (D → Sto → Prop) → Prop
abbrev RND := List D → Sto → (D → Sto → Prop) → Prop
def gB2 (r : R2D) (ga gb : G D) : G D := fun ρ S q => ga ρ S fun a S1 => gb ρ S1 fun b S2 => r a b S2 q
def gU (r : R1D) (ga : G D) : G D := fun ρ S q => ga ρ S fun a S1 => r a S1 q
def VR2 (K : PySem.W.Frag) (r : R2) (g : R2D) : Prop := ∀ {U : Wi} {m : Nat → Addr} {S : Sto} {Z : Addr → Prop} {H : Hp} {a b : D} {v u : V} {q : D → Sto → Prop} {Q : VK}, Wd K U m S Z H → Rep K m S.length (vis m S Z H) a v → Rep K m S.length (vis m S Z H) b u →
  g a b S q → Outs m S Z H K U (rD K) q Q → r v u H Q
def VR1 (K : PySem.W.Frag) (r : V → Hp → VK → Prop) (g : R1D) : Prop := ∀ {U : Wi} {m : Nat → Addr} {S : Sto} {Z : Addr → Prop} {H : Hp} {a : D} {v : V} {q : D → Sto → Prop} {Q : VK}, Wd K U m S Z H → Rep K m S.length (vis m S Z H) a v →
  g a S q → Outs m S Z H K U (rD K) q Q → r v H Q
def VRN (K : PySem.W.Frag) (r : List V → Hp → VK → Prop) (g : RND) : Prop := ∀ {U : Wi} {m : Nat → Addr} {S : Sto} {Z : Addr → Prop} {H : Hp} {a : List D} {v : List V} {q : D → Sto → Prop} {Q : VK}, Wd K U m S Z H → Reps K m S.length (vis m S Z H) a v →
  g a S q → Outs m S Z H K U (rD K) q Q → r v H Q
section
variable {X : Cx} {pos : Pos} {a b c e : Expr} {ga gb gc : G D} {r r' : R2} {g g' : R2D}
theorem two_in {K : PySem.W.Frag} (hv : VR2 K r g) {σ : St} {H : Hp} {Q : VK} (h : tofE K U (gB2 g ga gb) σ H Q) : tOp r (tofE K U ga) (tofE K U gb) σ H Q := by
  obtain ⟨m, S, Z, ρ, q, w, rs, h, k⟩ := h
  exact tof_in w rs h fun v1 H1 m1 d1 S1 e1 w1 r1 h1 => tof_in w1 (rs.ext e1) h1 fun v2 H2 m2 d2 S2 e2 w2 r2 h2 => hv w2 (r1.ext e2) r2 h2 (k.ext (e1.trans e2))
theorem d_op {op : Operator} (ho : OpR X (binaryOp op) r) (hv : VR2 X.K r g) (ha : PE X a (tofE X.K U ga)) (hb : PE X b (tofE X.K U gb)) : PE X (.BinOp a op b pos) (tofE X.K U (gB2 g ga gb)) :=
  weakE (pe_op ho ha hb) fun _ _ _ h => two_in hv h
theorem d_cmp {op : CmpOp} (ho : OpR X (compareOp op) r) (hv : VR2 X.K r g) (ha : PE X a (tofE X.K U ga)) (hb : PE X b (tofE X.K U gb)) (hm : behindInMarks op b = false := by first | rfl | exact nomark _) : PE X (.Compare a [op] [b] pos) (tofE X.K U (gB2 g ga gb)) :=
  weakE (pe_cmpR ho ha hb hm) fun _ _ _ h => two_in hv h
/-- a comparison as a test -/
def gTest (g : G D) : G Bool := fun ρ S q => g ρ S fun d S1 => ∃ k, d = .bl k ∧ q k S1
theorem d_test {t : TE} (h : PE X e t) (ht : PT X e (tTest t)) {g : G D} (k : ∀ σ H Q, tofE X.K U g σ H Q → t σ H Q) : PT X e (tofB X.K U (gTest g)) :=
  weakT ht fun σ H Q ⟨m, S, Z, ρ, q, w, rs, h, kk⟩ => k σ H _ (tof_in w rs h fun v1 H1 m1 d1 S1 e1 w1 r1 h1 => by
    obtain ⟨b, e, h1⟩ := h1
    subst e
    exact ⟨b, r1, kk.at e1 w1 rfl h1⟩)
theorem d_tcmp {op : CmpOp} (ho : OpR X (compareOp op) r) (hv : VR2 X.K r g) (ha : PE X a (tofE X.K U ga)) (hb : PE X b (tofE X.K U gb)) (hm : behindInMarks op b = false := by first | rfl | exact nomark _) : PT X (.Compare a [op] [b] pos) (tofB X.K U (gTest (gB2 g ga gb))) :=
  d_test (pe_cmpR (pos := pos) ho ha hb hm) (pt_cmpR ho ha hb hm) fun _ _ _ h => two_in hv h
theorem VR2.or {K : PySem.W.Frag} (h : VR2 K r g) (h' : VR2 K r' g') : VR2 K (fun x y H Q => r x y H Q ∨ r' x y H Q) (fun a b S q => g a b S q ∨ g' a b S q) := fun w r1 r2 x k => x.elim (fun x => .inl (h w r1 r2 x k)) (fun x => .inr (h' w r1 r2 x k))
theorem VR2.imp {K : PySem.W.Frag} (h : VR2 K r g) (i : ∀ a b S q, g' a b S q → g a b S q) : VR2 K r g' := fun w r1 r2 x k => h w r1 r2 (i _ _ _ _ x) k
/-- a chain a < b < c -/
def gChain (g g' : R2D) (ga gb gc : G D) : G D := fun ρ S q => ga ρ S fun a S1 => gb ρ S1 fun b S2 => g a b S2 fun z S3 => ∃ k, z = .bl k ∧ (if k = true then gc ρ S3 fun c S4 => g' b c S4 q else q (.bl false) S3)
theorem chain_in {K : PySem.W.Frag} (hv : VR2 K r g) (hv' : VR2 K r' g') {σ : St} {H : Hp} {Q : VK} (h : tofE K U (gChain g g' ga gb gc) σ H Q) : tChain r r' (tofE K U ga) (tofE K U gb) (tofE K U gc) σ H Q := by
  obtain ⟨m, S, Z, ρ, q, w, rs, h, k⟩ := h
  refine tof_in w rs h fun v1 H1 m1 d1 S1 e1 w1 r1 h1 => tof_in w1 (rs.ext e1) h1 fun v2 H2 m2 d2 S2 e2 w2 r2 h2 => hv w2 (r1.ext e2) r2 h2 fun v3 H3 m3 d3 S3 e3 w3 r3 h3 => ?_
  obtain ⟨b, e, h3⟩ := h3
  subst e
  refine ⟨b, r3, ?_⟩
  cases b with
  | true => exact tof_in w3 (rs.ext ((e1.trans e2).trans e3)) h3 fun v4 H4 m4 d4 S4 e4 w4 r4 h4 => hv' w4 (r2.ext (e3.trans e4)) r4 h4 (k.ext (((e1.trans e2).trans e3).trans e4))
  | false => exact k.at ((e1.trans e2).trans e3) w3 (show Rep K m3 S3.length (vis m3 S3 Z H3) (.bl false) (.bl false) from by simp [Rep]) h3
theorem d_tchain {op op' : CmpOp} (ho : OpR X (compareOp op) r) (ho' : OpR X (compareOp op') r') (hv : VR2 X.K r g) (hv' : VR2 X.K r' g') (ha : PE X a (tofE X.K U ga)) (hb : PE X b (tofE X.K U gb)) (hc : PE X c (tofE X.K U gc)) (hm : lastMarks [op, op'] [b, c] = false := by with_unfolding_all rfl) :
    PT X (.Compare a [op, op'] [b, c] pos) (tofB X.K U (gTest (gChain g g' ga gb gc))) :=
  d_test (pe_chain (pos := pos) ho ho' ha hb hc hm) (pt_chain ho ho' ha hb hc hm) fun _ _ _ h => chain_in hv hv' h
theorem d_un {op : UnaryOp} {u : V → Hp → VK → Prop} {g1 : R1D} (ho : UnR X (unaryOp op) u) (hv : VR1 X.K u g1) (ha : PE X a (tofE X.K U ga)) : PE X (.UnaryOp op a pos) (tofE X.K U (gU g1 ga)) :=
  weakE (pe_un ho ha) fun _ _ _ ⟨m, S, Z, ρ, q, w, rs, h, k⟩ => tof_in w rs h fun v1 H1 m1 d1 S1 e1 w1 r1 h1 => hv w1 r1 h1 (k.ext e1)
end
section
variable {X : Cx} {pos : Pos} {a b c e : Expr} {ga gb gc : G D} {rest : List Expr} {ta tb : G Bool}
/-- an expression whose value is a bool, as a test -/
theorem d_val (h : PE X e (tofE X.K U ga)) (he : ∀ whole, isTrue e X.env whole = (do let v ← whole; standAt e.pos; holding [v] (truthy v)) := by intro _; rfl) : PT X e (tofB X.K U (gTest ga)) :=
  d_test (t := tofE X.K U ga) h (weakT (pt_val h he) fun _ _ _ h => h) fun _ _ _ h => h
def gAndB (ta tb : G Bool) : G Bool := fun ρ S q => ta ρ S fun c S1 => if c = true then tb ρ S1 q else q false S1
def gOrB (ta tb : G Bool) : G Bool := fun ρ S q => ta ρ S fun c S1 => if c = true then q true S1 else tb ρ S1 q
def gNotB (ta : G Bool) : G Bool := fun ρ S q => ta ρ S fun c S1 => q (!c) S1
theorem d_and1 (ha : PT X a (tofB X.K U ta)) : PW X (.BoolOp .And [a] pos) (tofB X.K U ta) := pw_and1 ha
theorem d_or1 (ha : PT X a (tofB X.K U ta)) : PW X (.BoolOp .Or [a] pos) (tofB X.K U ta) := pw_or1 ha
theorem d_and (ha : PT X a (tofB X.K U ta)) (hb : PW X (.BoolOp .And (b :: rest) pos) (tofB X.K U tb)) : PW X (.BoolOp .And (a :: b :: rest) pos) (tofB X.K U (gAndB ta tb)) :=
  weakW (pw_and ha hb) fun σ H Q ⟨m, S, Z, ρ, q, w, rs, h, k⟩ => tof_in w rs h fun v1 H1 m1 d1 S1 e1 w1 r1 h1 => by
    cases (show d1 = v1 from r1)
    cases v1 with
    | true => exact tof_in w1 (rs.ext e1) h1 (k.ext e1)
    | false => exact k.at e1 w1 rfl h1
theorem d_or (ha : PT X a (tofB X.K U ta)) (hb : PW X (.BoolOp .Or (b :: rest) pos) (tofB X.K U tb)) : PW X (.BoolOp .Or (a :: b :: rest) pos) (tofB X.K U (gOrB ta tb)) :=
  weakW (pw_or ha hb) fun σ H Q ⟨m, S, Z, ρ, q, w, rs, h, k⟩ => tof_in w rs h fun v1 H1 m1 d1 S1 e1 w1 r1 h1 => by
    cases (show d1 = v1 from r1)
    cases v1 with
    | true => exact k.at e1 w1 rfl h1
    | false => exact tof_in w1 (rs.ext e1) h1 (k.ext e1)
theorem d_not (ha : PT X a (tofB X.K U ta)) : PT X (.UnaryOp .Not a pos) (tofB X.K U (gNotB ta)) :=
  weakT (pt_not ha) fun σ H Q ⟨m, S, Z, ρ, q, w, rs, h, k⟩ => tof_in w rs h fun v1 H1 m1 d1 S1 e1 w1 r1 h1 => by
    cases (show d1 = v1 from r1)
    exact k.at e1 w1 rfl h1
/-- and, or, not as values: bools -/
def gAndV (ga gb : G D) : G D := fun ρ S q => ga ρ S fun a S1 => ∃ c, a = .bl c ∧ if c = true then gb ρ S1 q else q (.bl false) S1
def gOrV (ga gb : G D) : G D := fun ρ S q => ga ρ S fun a S1 => ∃ c, a = .bl c ∧ if c = true then q (.bl true) S1 else gb ρ S1 q
def gNotV (ga : G D) : G D := fun ρ S q => ga ρ S fun a S1 => ∃ c, a = .bl c ∧ q (.bl (!c)) S1
theorem d_oneV {op} (h : PE X a (tofE X.K U ga)) : PE X (.BoolOp op [a] pos) (tofE X.K U ga) := pe_one h
theorem d_andV (ha : PE X a (tofE X.K U ga)) (hb : PE X (.BoolOp .And (b :: rest) pos) (tofE X.K U gb)) : PE X (.BoolOp .And (a :: b :: rest) pos) (tofE X.K U (gAndV ga gb)) :=
  weakE (pe_and ha hb) fun σ H Q ⟨m, S, Z, ρ, q, w, rs, h, k⟩ => tof_in w rs h fun v1 H1 m1 d1 S1 e1 w1 r1 h1 => by
    obtain ⟨c, e, h1⟩ := h1
    subst e
    refine ⟨c, r1, ?_⟩
    cases c with
    | true => exact tof_in w1 (rs.ext e1) h1 (k.ext e1)
    | false => exact k.at e1 w1 rep_bl h1
def gIf (t : G Bool) (ga gb : G D) : G D := fun ρ S q => t ρ S fun c S1 => if c = true then ga ρ S1 q else gb ρ S1 q
theorem d_ifExp (hc : PT X c (tofB X.K U ta)) (ha : PE X a (tofE X.K U ga)) (hb : PE X b (tofE X.K U gb)) : PE X (.IfExp c a b pos) (tofE X.K U (gIf ta ga gb)) :=
  weakE (pe_ifExp hc ha hb) fun σ H Q ⟨m, S, Z, ρ, q, w, rs, h, k⟩ => tof_in w rs h fun v1 H1 m1 d1 S1 e1 w1 r1 h1 => by
    cases (show d1 = v1 from r1)
    cases v1 with
    | true => exact tof_in w1 (rs.ext e1) h1 (k.ext e1)
    | false => exact tof_in w1 (rs.ext e1) h1 (k.ext e1)
/-- is None -/
def D.isNon : D → Bool
  | .non => true
  | _ => false
theorem Rep.isNon {K : PySem.W.Frag} {m : Nat → Addr} {N : Nat} {Hv : Hp} {d : D} {v : V} (r : Rep K m N Hv d v) : decide (v = .non) = d.isNon := by
  cases d with
  | non => rw [show v = .non from r]; rfl
  | bl b => rw [show v = .bl b from r]; rfl
  | int b => rw [show v = .int b from r]; rfl
  | str b => rw [show v = .str b from r]; rfl
  | tup b => obtain ⟨a, vs, e, _⟩ := r; rw [e]; rfl
  | lst b => obtain ⟨a, vs, e, _⟩ := r; rw [e]; rfl
  | ksq b => obtain ⟨a, vs, e, _⟩ := r; rw [e]; rfl
  | obj b => obtain ⟨a, dx, vs, e, _⟩ := r; rw [e]; rfl
  | dic b => obtain ⟨a, vs, e, _⟩ := r; rw [e]; rfl
  | loc n => rw [r.1]; rfl
  | ref a => rw [show v = .ref a from r]; rfl
  | ty a => rw [show v = .ty a from r]; rfl
  | exc c ks ds => obtain ⟨a, dd, vs, e, _⟩ := r; rw [e]; rfl
def gIsN (ga : G D) : G D := fun ρ S q => ga ρ S fun a S1 => q (.bl a.isNon) S1
def gNotN (ga : G D) : G D := fun ρ S q => ga ρ S fun a S1 => q (.bl (!a.isNon)) S1
theorem d_tisN {j pos'} (ha : PE X a (tofE X.K U ga)) : PT X (.Compare a [.Is] [.Constant .none j pos'] pos) (tofB X.K U (gTest (gIsN ga))) :=
  weakT (pt_cmp (pc_isN ha)) fun σ H Q ⟨m, S, Z, ρ, q, w, rs, h, k⟩ => tof_in w rs h fun v1 H1 m1 d1 S1 e1 w1 r1 ⟨b, e, h1⟩ => ⟨_, by rw [Rep.isNon r1], k.at e1 w1 (by cases e; rfl) h1⟩
end
def gNil : G (List D) := fun _ S q => q [] S
def gCons (ga : G D) (gr : G (List D)) : G (List D) := fun ρ S q => ga ρ S fun a S1 => gr ρ S1 fun as S2 => q (a :: as) S2
/-- a new list: given up at once, or of the store -/
def newL (fz : Bool) (ds : List D) (S : Sto) (q : D → Sto → Prop) : Prop := if fz = true then q (.lst ds) S else q (.loc S.length) (S ++ [some (.lst ds)])
section
variable {K : PySem.W.Frag} {m : Nat → Addr} {S : Sto} {Z : Addr → Prop} {H : Hp} {q : D → Sto → Prop} {Q : VK} {ds : List D} {vs : List V} {fz : Bool} {p : Addr}
theorem out_newL (w : Wd K U m S Z H) (r : Reps K m S.length (vis m S Z H) ds vs) (h : newL fz ds S q) (k : Outs m S Z H K U (rD K) q Q) (hp : H p = none) : Q (.ref p) (upd H p (.lst vs)) := by
  cases fz with
  | true =>
    obtain ⟨w1, e1, hv⟩ := w.new (o := .lst vs) hp
    exact k.at e1 w1 (rep_lst hv (r.ext e1)) h
  | false =>
    obtain ⟨m', e0, w1, e1⟩ := w.add (o := .lst vs) (mo := .lst ds) hp fun m1 N1 Hv1 h1 h2 h3 => ⟨vs, upd_same, Reps.mono h1 h2 h3 r⟩
    exact k.at e1 w1 (rep_loc e0 (by simp)) h
theorem out_newT (w : Wd K U m S Z H) (r : Reps K m S.length (vis m S Z H) ds vs) (h : q (.tup ds) S) (k : Outs m S Z H K U (rD K) q Q) (hp : H p = none) : Q (.ref p) (upd H p (.tup vs)) := by
  obtain ⟨w1, e1, hv⟩ := w.new (o := .tup vs) hp
  exact k.at e1 w1 (rep_tup (SqT.of hv) (r.ext e1)) h
end
section
variable {X : Cx} {pos : Pos} {e : Expr} {es : List Expr} {ga : G D} {gr : G (List D)}
theorem d_nil : PA X [] (tofA X.K U gNil) := weakA pa_nil fun σ H Q ⟨m, S, Z, ρ, q, w, rs, h, k⟩ => k.now w reps_nil h
theorem d_cons (ha : PE X e (tofE X.K U ga)) (hr : PA X es (tofA X.K U gr)) (hs : starEach (e :: es) X.env = (false, eval e X.env) :: starEach es X.env := by rfl) : PA X (e :: es) (tofA X.K U (gCons ga gr)) :=
  weakA (pa_cons ha hr hs) fun σ H Q ⟨m, S, Z, ρ, q, w, rs, h, k⟩ => tof_in w rs h fun v1 H1 m1 d1 S1 e1 w1 r1 h1 => tof_in w1 (rs.ext e1) h1 fun v2 H2 m2 d2 S2 e2 w2 r2 h2 => k.at (e1.trans e2) w2 (Reps.cons (r1.ext e2) r2) h2
def gTup (gs : G (List D)) : G D := fun ρ S q => gs ρ S fun ds S1 => ds.length ≤ sizeLine ∧ q (.tup ds) S1
def gLst (fz : Bool) (gs : G (List D)) : G D := fun ρ S q => gs ρ S fun ds S1 => ds.length ≤ sizeLine ∧ newL fz ds S1 q
theorem d_tup {x1} (h : PA X es (tofA X.K U gr)) : PE X (.Tuple es x1 pos) (tofE X.K U (gTup gr)) :=
  weakE (pe_tup h) fun σ H Q ⟨m, S, Z, ρ, q, w, rs, h, k⟩ => tof_in w rs h fun v1 H1 m1 d1 S1 e1 w1 r1 h1 => ⟨by rw [Reps.len r1]; exact h1.1, fun p hp => out_newT w1 r1 h1.2 (k.ext e1) hp⟩
theorem d_lst (fz : Bool) (h : PA X es (tofA X.K U gr)) : PE X (.List es pos) (tofE X.K U (gLst fz gr)) :=
  weakE (pe_lst h) fun σ H Q ⟨m, S, Z, ρ, q, w, rs, h, k⟩ => tof_in w rs h fun v1 H1 m1 d1 S1 e1 w1 r1 h1 => ⟨by rw [Reps.len r1]; exact h1.1, fun p hp => out_newL w1 r1 h1.2 (k.ext e1) hp⟩
/-- a built-in by its name -/
def gCB (r : RND) (gs : G (List D)) : G D := fun ρ S q => gs ρ S fun ds S1 => r ds S1 q
theorem d_callB {x : Str} {id : String} {p : Pos} {r : List V → Hp → VK → Prop} {g : RND} (hc : CallR X (.builtin id) r) (hv : VRN X.K r g) (hg : Gl X x) (hm : X.mg x = none) (hb : bootBuiltins x = some (.builtin id)) (ha : PA X (e :: es) (tofA X.K U gr)) (hn : x ≠ "__name__" := by decide) (hdb : (x == ("__debug__" : Str)) = false := by decide)
    (hs : starEach (e :: es) X.env = (false, eval e X.env) :: starEach es X.env := by rfl) (hpl : (backTo pos (starEach es X.env)).any (·.1) = false := by rfl) : PE X (.Call (.Name x p) (e :: es) [] pos) (tofE X.K U (gCB g gr)) :=
  weakE (pe_callB hc hg hm hb ha hn hdb hs hpl) fun σ H Q ⟨m, S, Z, ρ, q, w, rs, h, k⟩ => tof_in w rs h fun v1 H1 m1 d1 S1 e1 w1 r1 h1 => hv w1 r1 h1 (k.ext e1)
theorem d_callTy {x : Str} {T : String} {p : Pos} {r : List V → Hp → VK → Prop} {g : RND} (hc : CallR X (.type T) r) (hv : VRN X.K r g) (hg : Gl X x) (hm : X.mg x = none) (hb : bootBuiltins x = some (.type T)) (ha : PA X (e :: es) (tofA X.K U gr)) (hn : x ≠ "__name__" := by decide) (hdb : (x == ("__debug__" : Str)) = false := by decide)
    (hs : starEach (e :: es) X.env = (false, eval e X.env) :: starEach es X.env := by rfl) (hpl : (backTo pos (starEach es X.env)).any (·.1) = false := by rfl) : PE X (.Call (.Name x p) (e :: es) [] pos) (tofE X.K U (gCB g gr)) :=
  weakE (pe_callTy hc hg hm hb ha hn hdb hs hpl) fun σ H Q ⟨m, S, Z, ρ, q, w, rs, h, k⟩ => tof_in w rs h fun v1 H1 m1 d1 S1 e1 w1 r1 h1 => hv w1 r1 h1 (k.ext e1)
def VRM (K : PySem.W.Frag) (T : String) (r : V → List V → Hp → VK → Prop) (g : D → RND) : Prop := (∀ {U : Wi} {m : Nat → Addr} {S : Sto} {Z : Addr → Prop} {H : Hp} {o : D} {u : V} {a : List D} {v : List V} {q : D → Sto → Prop} {Q : VK}, Wd K U m S Z H → Rep K m S.length (vis m S Z H) o u → Reps K m S.length (vis m S Z H) a v →
  g o a S q → Outs m S Z H K U (rD K) q Q → r u v H Q)
/-- the receiver's kind -/
def isTy (T : String) (S : Sto) : D → Bool
  | .str _ => T == "str"
  | .lst _ => T == "list"
  | .ksq _ => T == "list"
  | .tup _ => T == "tuple"
  | .int _ => T == "int"
  | .loc k => match S[k]? with
    | some (some (.lst _)) => T == "list"
    | some (some (.dic _ _)) => T == "dict"
    | some (some (.dicT _ _)) => T == "dict"
    | _ => false
  | .dic _ _ => T == "dict"
  | _ => false
end
end Dl
namespace Dl
open PySem L2
/-- what is wanted behind a statement, by data -/
structure DE where
  nx : Env_ → Sto → Prop
  rt : D → Sto → Prop
  bk : Env_ → Sto → Prop := fun _ _ => False
  ct : Env_ → Sto → Prop := fun _ _ => False
abbrev GS := DE → Env_ → Sto → Prop
abbrev rS (K : PySem.W.Frag) : (Nat → Addr) → Nat → Hp → Env_ → St → Prop := fun m N Hv ρ σ => RelS K m N Hv ρ σ
structure OutE (m : Nat → Addr) (S : Sto) (Z : Addr → Prop) (H : Hp) (K : PySem.W.Frag) (U : Wi) (E : DE) (De : Ends) : Prop where
  nx : Outs m S Z H K U (rS K) E.nx De.nx
  rt : Outs m S Z H K U (rD K) E.rt De.rt
  bk : Outs m S Z H K U (rS K) E.bk De.bk
  ct : Outs m S Z H K U (rS K) E.ct De.ct
def tofS (K : PySem.W.Frag) (U : Wi) (g : GS) : TS := fun De σ H => ∃ m S Z ρ E, Wd K U m S Z H ∧ RelS K m S.length (vis m S Z H) ρ σ ∧ g E ρ S ∧ OutE m S Z H K U E De
section
variable {K : PySem.W.Frag} {m m1 : Nat → Addr} {S S1 : Sto} {Z : Addr → Prop} {H H1 : Hp} {E : DE} {De : Ends} {ρ : Env_} {σ : St}
theorem OutE.ext (e : Ext m S Z H m1 S1 H1) (k : OutE m S Z H K U E De) : OutE m1 S1 Z H1 K U E De := ⟨k.nx.ext e, k.rt.ext e, k.bk.ext e, k.ct.ext e⟩
theorem tofS_in {g : GS} (w : Wd K U m S Z H) (r : RelS K m S.length (vis m S Z H) ρ σ) (h : g E ρ S) (k : OutE m S Z H K U E De) : tofS K U g De σ H := ⟨m, S, Z, ρ, E, w, r, h, k⟩
end
def gNext : GS := fun E ρ S => E.nx ρ S
def gSeq (g1 g2 : GS) : GS := fun E ρ S => g1 { E with nx := g2 E } ρ S
def gBreak : GS := fun E ρ S => E.bk ρ S
def gCont : GS := fun E ρ S => E.ct ρ S
def gDrop (ge : G D) : GS := fun E ρ S => ge ρ S fun _ S1 => E.nx ρ S1
def gRet (ge : G D) : GS := fun E ρ S => ge ρ S E.rt
def gRetN : GS := fun E ρ S => E.rt .non S
def gIfS (gt : G Bool) (g1 g2 : GS) : GS := fun E ρ S => gt ρ S fun b S1 => if b = true then g1 E ρ S1 else g2 E ρ S1
def gDead : GS := fun _ _ _ => False
section
variable {X : Cx} {pos : Pos} {st : Stmt} {rest : List Stmt} {e c : Expr} {ge : G D} {gt : G Bool} {g1 g2 : GS}
theorem d_dead : PS X st (tofS X.K U gDead) := weakS deadS fun E σ H ⟨m, S, Z, ρ, D, w, rs, h, k⟩ => h
theorem ds_nil : PSs X [] (tofS X.K U gNext) := weakSs pss_nil fun E σ H ⟨m, S, Z, ρ, D, w, rs, h, k⟩ => k.nx.now w rs h
theorem ds_cons (h1 : PS X st (tofS X.K U g1)) (h2 : PSs X rest (tofS X.K U g2)) : PSs X (st :: rest) (tofS X.K U (gSeq g1 g2)) :=
  weakSs (pss_cons h1 h2) fun E σ H ⟨m, S, Z, ρ, D, w, rs, h, k⟩ => tofS_in (E := { D with nx := g2 D }) w rs h ⟨fun σ1 H1 m1 ρ1 S1 e1 w1 r1 h1 => tofS_in w1 r1 h1 (k.ext e1), k.rt, k.bk, k.ct⟩
theorem ds_one (h1 : PS X st (tofS X.K U g1)) : PSs X [st] (tofS X.K U g1) := pss_one h1
theorem d_expr (he : PE X e (tofE X.K U ge)) (hs : swapsWith e none pos.line X.env = pure false := by rfl) : PS X (.Expr e pos) (tofS X.K U (gDrop ge)) :=
  weakS (ps_expr he hs) fun E σ H ⟨m, S, Z, ρ, D, w, rs, h, k⟩ => tof_in w rs h fun v1 H1 m1 d1 S1 e1 w1 r1 h1 => k.nx.at e1 w1 (rs.ext e1) h1
theorem d_ret (he : PE X e (tofE X.K U ge)) : PS X (.Return (some e) pos) (tofS X.K U (gRet ge)) :=
  weakS (ps_ret he) fun E σ H ⟨m, S, Z, ρ, D, w, rs, h, k⟩ => tof_in w rs h k.rt
theorem d_if {a b : List Stmt} (hc : PT X c (tofB X.K U gt)) (ha : PSs X a (tofS X.K U g1)) (hb : PSs X b (tofS X.K U g2)) : PS X (.If c a b pos) (tofS X.K U (gIfS gt g1 g2)) :=
  weakS (ps_if hc ha hb) fun E σ H ⟨m, S, Z, ρ, D, w, rs, h, k⟩ => tof_in w rs h fun v1 H1 m1 d1 S1 e1 w1 r1 h1 => by
    cases (show d1 = v1 from r1)
    cases v1 with
    | true => exact tofS_in w1 (rs.ext e1) h1 (k.ext e1)
    | false => exact tofS_in w1 (rs.ext e1) h1 (k.ext e1)
end
inductive Tgt where
  | nm (i : Nat) | tp (ts : List Tgt)
mutual
def Tgt.bind : Tgt → D → Env_ → Option Env_
  | .nm i, d, ρ => some (ρ.set i (some d))
  | .tp ts, .tup ds, ρ => Tgt.binds ts ds ρ
  | .tp _, _, _ => none
def Tgt.binds : List Tgt → List D → Env_ → Option Env_
  | [], [], ρ => some ρ
  | t :: ts, d :: ds, ρ => (Tgt.bind t d ρ).bind fun ρ' => Tgt.binds ts ds ρ'
  | _, _, _ => none
end
mutual
def Tgt.gof (K : PySem.W.Frag) : Tgt → TG
  | .nm i => gName i
  | .tp ts => L2.gTup K ts.length (Tgt.gofs K ts)
def Tgt.gofs (K : PySem.W.Frag) : List Tgt → TGs
  | [] => L2.gNil
  | t :: ts => L2.gCons (Tgt.gof K t) (Tgt.gofs K ts)
end
mutual
def Tgt.slots : Tgt → List Nat
  | .nm i => [i]
  | .tp ts => Tgt.slotss ts
def Tgt.slotss : List Tgt → List Nat
  | [] => []
  | t :: ts => Tgt.slots t ++ Tgt.slotss ts
end
theorem wipe_swap (σ : St) (v : Nat) : ∀ vs : List Nat, wipe (σ.set v none) vs = (wipe σ vs).set v none
  | [] => rfl
  | u :: us => by
    show (wipe (σ.set v none) us).set u none = ((wipe σ us).set u none).set v none
    rw [wipe_swap σ v us]
    by_cases h : u = v
    · subst h; rfl
    · exact List.set_comm _ _ (fun z => h z.symm)
theorem wipe_set {σ : St} {i : Nat} {x : Option V} : ∀ {vs : List Nat}, i ∈ vs → wipe (σ.set i x) vs = wipe σ vs
  | [], h => by cases h
  | v :: vs, h => by
    show (wipe (σ.set i x) vs).set v none = (wipe σ vs).set v none
    by_cases hv : i = v
    · subst hv
      rw [← wipe_swap, ← wipe_swap, List.set_set]
    · rcases List.mem_cons.mp h with e | h
      · exact absurd e hv
      · rw [wipe_set h]
theorem wipe_wipe {σ : St} : ∀ {vs : List Nat} (ws : List Nat), (∀ v ∈ vs, v ∈ ws) → wipe (wipe σ vs) ws = wipe σ ws
  | [], ws, _ => rfl
  | v :: vs, ws, h => by
    show wipe ((wipe σ vs).set v none) ws = wipe σ ws
    rw [wipe_set (h v (List.mem_cons_self ..)), wipe_wipe ws fun u hu => h u (List.mem_cons_of_mem _ hu)]
section
variable {K : PySem.W.Frag} {m : Nat → Addr} {N : Nat} {Hv H : Hp} {vs : List Nat}
mutual
theorem Tgt.ok (hH : ∀ a o, Hv a = some o → H a = some o) : ∀ {t : Tgt} {d : D} {v : V} {ρ ρ' : Env_} {σ : St} {Q : St → Hp → Prop}, t.bind d ρ = some ρ' → Rep K m N Hv d v → RelS K m N Hv ρ σ →
    (∀ σ', RelS K m N Hv ρ' σ' → ((∀ i ∈ t.slots, i ∈ vs) → wipe σ' vs = wipe σ vs) → Q σ' H) → t.gof K v σ H Q
  | .nm i, d, v, ρ, ρ', σ, Q, e, r, rs, k => by
    rw [Tgt.bind] at e
    cases e
    rw [Tgt.gof]
    exact k _ (rs.set r) fun h => wipe_set (h i (by rw [Tgt.slots]; exact List.mem_singleton.mpr rfl))
  | .tp ts, .tup ds, v, ρ, ρ', σ, Q, e, r, rs, k => by
    rw [Tgt.bind] at e
    rw [Rep] at r
    obtain ⟨a, xs, ev, hs, hr⟩ := r
    rw [Tgt.gof]
    have hl : ds.length = ts.length := Tgt.binds_len e
    refine ⟨a, xs, ev, SqT.sub hH hs, by rw [Reps.len hr, hl], Tgt.oks hH e hr rs fun σ' r' hw => k σ' r' fun h => hw fun i hi => h i (by rw [Tgt.slots]; exact hi)⟩
  | .tp ts, .non, v, ρ, ρ', σ, Q, e, r, rs, k => by rw [Tgt.bind] at e <;> first | cases e | (intro _ z; cases z)
  | .tp ts, .bl _, v, ρ, ρ', σ, Q, e, r, rs, k => by rw [Tgt.bind] at e <;> first | cases e | (intro _ z; cases z)
  | .tp ts, .int _, v, ρ, ρ', σ, Q, e, r, rs, k => by rw [Tgt.bind] at e <;> first | cases e | (intro _ z; cases z)
  | .tp ts, .str _, v, ρ, ρ', σ, Q, e, r, rs, k => by rw [Tgt.bind] at e <;> first | cases e | (intro _ z; cases z)
  | .tp ts, .lst _, v, ρ, ρ', σ, Q, e, r, rs, k => by rw [Tgt.bind] at e <;> first | cases e | (intro _ z; cases z)
  | .tp ts, .ksq _, v, ρ, ρ', σ, Q, e, r, rs, k => by rw [Tgt.bind] at e <;> first | cases e | (intro _ z; cases z)
  | .tp ts, .obj _ _ _, v, ρ, ρ', σ, Q, e, r, rs, k => by rw [Tgt.bind] at e <;> first | cases e | (intro _ z; cases z)
  | .tp ts, .dic _ _, v, ρ, ρ', σ, Q, e, r, rs, k => by rw [Tgt.bind] at e <;> first | cases e | (intro _ z; cases z)
  | .tp ts, .loc _, v, ρ, ρ', σ, Q, e, r, rs, k => by rw [Tgt.bind] at e <;> first | cases e | (intro _ z; cases z)
  | .tp ts, .ref _, v, ρ, ρ', σ, Q, e, r, rs, k => by rw [Tgt.bind] at e <;> first | cases e | (intro _ z; cases z)
  | .tp ts, .ty _, v, ρ, ρ', σ, Q, e, r, rs, k => by rw [Tgt.bind] at e <;> first | cases e | (intro _ z; cases z)
  | .tp ts, .exc _ _ _, v, ρ, ρ', σ, Q, e, r, rs, k => by rw [Tgt.bind] at e <;> first | cases e | (intro _ z; cases z)
theorem Tgt.oks (hH : ∀ a o, Hv a = some o → H a = some o) : ∀ {ts : List Tgt} {ds : List D} {xs : List V} {ρ ρ' : Env_} {σ : St} {Q : St → Hp → Prop}, Tgt.binds ts ds ρ = some ρ' → Reps K m N Hv ds xs → RelS K m N Hv ρ σ →
    (∀ σ', RelS K m N Hv ρ' σ' → ((∀ i ∈ Tgt.slotss ts, i ∈ vs) → wipe σ' vs = wipe σ vs) → Q σ' H) → Tgt.gofs K ts xs σ H Q
  | [], [], xs, ρ, ρ', σ, Q, e, r, rs, k => by
    rw [Tgt.binds] at e
    cases e
    rw [Reps] at r
    rw [Tgt.gofs]
    exact ⟨r, k σ rs fun _ => rfl⟩
  | t :: ts, d :: ds, xs, ρ, ρ', σ, Q, e, r, rs, k => by
    rw [Tgt.binds] at e
    rw [Reps] at r
    obtain ⟨v, q, ev, r1, r2⟩ := r
    rw [Tgt.gofs]
    cases h1 : t.bind d ρ with
    | none => rw [h1] at e; cases e
    | some ρ1 =>
      rw [h1] at e
      refine ⟨v, q, ev, Tgt.ok hH h1 r1 rs fun σ1 rs1 hw1 => Tgt.oks hH e r2 rs1 fun σ2 rs2 hw2 => k σ2 rs2 fun h => ?_⟩
      rw [hw2 fun i hi => h i (by rw [Tgt.slotss]; exact List.mem_append_right _ hi), hw1 fun i hi => h i (by rw [Tgt.slotss]; exact List.mem_append_left _ hi)]
  | [], _ :: _, xs, ρ, ρ', σ, Q, e, r, rs, k => by rw [Tgt.binds] at e <;> first | cases e | (intros; simp_all)
  | _ :: _, [], xs, ρ, ρ', σ, Q, e, r, rs, k => by rw [Tgt.binds] at e <;> first | cases e | (intros; simp_all)
theorem Tgt.binds_len : ∀ {ts : List Tgt} {ds : List D} {ρ ρ' : Env_}, Tgt.binds ts ds ρ = some ρ' → ds.length = ts.length
  | [], [], _, _, _ => rfl
  | t :: ts, d :: ds, ρ, ρ', e => by
    rw [Tgt.binds] at e
    cases h1 : t.bind d ρ with
    | none => rw [h1] at e; cases e
    | some ρ1 =>
      rw [h1] at e
      rw [List.length_cons, List.length_cons, Tgt.binds_len e]
  | [], _ :: _, ρ, ρ', e => by rw [Tgt.binds] at e <;> first | cases e | (intros; simp_all)
  | _ :: _, [], ρ, ρ', e => by rw [Tgt.binds] at e <;> first | cases e | (intros; simp_all)
end
end
/-- name(s) = e -/
def gAsg (t : Tgt) (ge : G D) : GS := fun E ρ S => ge ρ S fun d S1 => ∃ ρ', t.bind d ρ = some ρ' ∧ E.nx ρ' S1
def gSet (i : Nat) (ge : G D) : GS := fun E ρ S => ge ρ S fun d S1 => E.nx (ρ.set i (some d)) S1
/-- name op= e -/
def gAug (i : Nat) (r : R2D) (ge : G D) : GS := fun E ρ S => ∃ x : D, ρ[i]? = some (some x) ∧ ge ρ S fun y S1 => r x y S1 fun z S2 => E.nx (ρ.set i (some z)) S2
theorem vis_le {m : Nat → Addr} {S : Sto} {Z : Addr → Prop} {H : Hp} : ∀ a o, vis m S Z H a = some o → H a = some o := fun _ _ h => vis_sub h
section
variable {X : Cx} {pos : Pos} {e tg : Expr} {ge : G D}
theorem d_set {i : Nat} {x : Str} {pos' : Pos} (hN : X.N.Nodup) (hi : X.N[i]? = some x) (hx : Loc X.env.scope x) (he : PE X e (tofE X.K U ge)) (hs : swapsWith e (some (.Name x pos')) pos.line X.env = pure false := by rfl)
    (hf : X.fn x = true ∨ X.env.scope.names.lookup x = some .local := by first | exact .inl rfl | exact .inr rfl | assumption) : PS X (.Assign [.Name x pos'] e pos) (tofS X.K U (gSet i ge)) :=
  weakS (ps_set hN hi hx he hs hf) fun E σ H ⟨m, S, Z, ρ, D, w, rs, h, k⟩ => tof_in w rs h fun v1 H1 m1 d1 S1 e1 w1 r1 h1 => k.nx.at e1 w1 ((rs.ext e1).set r1) h1
end
structure Lt (m : Nat → Addr) (S : Sto) (Z : Addr → Prop) (H : Hp) (m' : Nat → Addr) (S' : Sto) (Z' : Addr → Prop) (H' : Hp) : Prop where
  len : S.length ≤ S'.length
  loc : ∀ i, i < S.length → m' i = m i
  vis : ∀ a o, Dl.vis m S Z H a = some o → Dl.vis m' S' Z' H' a = some o
theorem Ext.lt {m m' : Nat → Addr} {S S' : Sto} {Z : Addr → Prop} {H H' : Hp} (e : Ext m S Z H m' S' H') : Lt m S Z H m' S' Z H' := ⟨e.len, e.loc, e.vis⟩
structure Yl (K : PySem.W.Frag) (J : It) (m : Nat → Addr) (S : Sto) (Z : Addr → Prop) (H : Hp) (ds : List D) (chk : Sto → Prop) : Prop where
  go : ∀ {U : Wi} {m' : Nat → Addr} {S' : Sto} {Z' : Addr → Prop} {H' : Hp} {i : Nat}, Lt m S Z H m' S' Z' H' → Wd K U m' S' Z' H' → chk S' → i < ds.length → J.go i H' ∧ ∀ x H2, J.yld i H' x H2 → ∃ d, ds[i]? = some d ∧ Wd K U m' S' Z' H2 ∧ Ext m' S' Z' H' m' S' H2 ∧ Rep K m' S'.length (vis m' S' Z' H2) d x
  stop : ∀ {U : Wi} {m' : Nat → Addr} {S' : Sto} {Z' : Addr → Prop} {H' : Hp}, Lt m S Z H m' S' Z' H' → Wd K U m' S' Z' H' → chk S' → J.stop ds.length H'
abbrev GI := Env_ → Sto → (List D → (Sto → Prop) → Sto → Prop) → Prop
def tofI (K : PySem.W.Frag) (U : Wi) (gi : GI) : TI := fun σ H R => ∃ m S Z ρ q, Wd K U m S Z H ∧ RelS K m S.length (vis m S Z H) ρ σ ∧ gi ρ S q ∧
  ∀ J H' m' S' ds chk, Ext m S Z H m' S' H' → Wd K U m' S' Z H' → Yl K J m' S' Z H' ds chk → q ds chk S' → R J H'
def gFor (gi : GI) (t : Tgt) (gb : GS) : GS := fun E ρ S => gi ρ S fun ds chk S1 => ∃ I : Nat → Env_ → Sto → Prop, I 0 ρ S1 ∧
  (∀ i d ρ S, ds[i]? = some d → I i ρ S → chk S ∧ ∃ ρ', t.bind d ρ = some ρ' ∧ gb { nx := I (i + 1), rt := E.rt, ct := I (i + 1), bk := E.nx } ρ' S) ∧ ∀ ρ S, I ds.length ρ S → chk S ∧ E.nx ρ S
section
variable {X : Cx} {pos : Pos} {tg iter : Expr} {gi : GI} {t : Tgt} {gb : GS} {body : List Stmt}
theorem weakI {w w' : TI} (h : PI X tg iter w) (k : ∀ σ H R, w' σ H R → w σ H R) : PI X tg iter w' := ⟨fun pins s σ H R I q => h.run pins s σ H R I (k σ H R q)⟩
theorem d_for (hp : PassesOwn (model X.prog X.w) X.A X.env X.xe) (hc : X.calm = true) (hi : PI X tg iter (tofI X.K U gi)) (hg : PG X tg (t.gof X.K)) (hb : PSs X body (tofS X.K U gb)) (hs : ∀ x, foldedSetIterable iter X.env x = pure x := by intro _; rfl) :
    PS X (.For tg iter body [] pos) (tofS X.K U (gFor gi t gb)) := by
  refine weakS (ps_for hp hc hi hg hb hs) fun De σ H ⟨m, S, Z, ρ, E, w, rs, h, k⟩ => ?_
  refine ⟨m, S, Z, ρ, _, w, rs, h, fun J H1 m1 S1 ds chk e1 w1 Y ⟨I, h0, hstep, hend⟩ => ?_⟩
  refine ⟨fun i n σ' H' => n = ds.length - i ∧ i ≤ ds.length ∧ ∃ m' S' ρ', Ext m1 S1 Z H1 m' S' H' ∧ Wd X.K U m' S' Z H' ∧ RelS X.K m' S'.length (vis m' S' Z H') ρ' σ' ∧ I i ρ' S', ⟨ds.length, by simp, Nat.zero_le _, m1, S1, ρ, Ext.refl, w1, rs.ext e1, h0⟩, ?_⟩
  rintro i n σ2 H2 ⟨rfl, hi2, m2, S2, ρ2, e2, w2, rs2, I2⟩
  by_cases hlt : i < ds.length
  · right
    obtain ⟨d, hd⟩ : ∃ d, ds[i]? = some d := ⟨ds[i], by simp [hlt]⟩
    obtain ⟨hchk, ρ3, hbind, hbody⟩ := hstep i d ρ2 S2 hd I2
    obtain ⟨g1, g2⟩ := Y.go e2.lt w2 hchk hlt
    refine ⟨g1, fun σ' H' => ∃ m' S' ρ', Ext m1 S1 Z H1 m' S' H' ∧ Wd X.K U m' S' Z H' ∧ RelS X.K m' S'.length (vis m' S' Z H') ρ' σ' ∧ I (i + 1) ρ' S', fun σ' H' hN => ⟨ds.length - (i + 1), by omega, rfl, hlt, hN⟩, fun x H3 hy => ?_⟩
    obtain ⟨d', hd', w3, e3, r3⟩ := g2 x H3 hy
    rw [hd] at hd'; cases hd'
    refine Tgt.ok (vs := []) vis_le hbind r3 (rs2.ext e3) fun σ4 rs4 _ => ?_
    have e23 := e2.trans e3
    exact tofS_in w3 rs4 hbody ⟨fun σ5 H5 m5 ρ5 S5 e5 w5 r5 h5 => ⟨m5, S5, ρ5, e23.trans e5, w5, r5, h5⟩, k.rt.ext (e1.trans e23), k.nx.ext (e1.trans e23), fun σ5 H5 m5 ρ5 S5 e5 w5 r5 h5 => ⟨m5, S5, ρ5, e23.trans e5, w5, r5, h5⟩⟩
  · left
    have ei : i = ds.length := by omega
    subst ei
    obtain ⟨hchk, hnx⟩ := hend ρ2 S2 I2
    exact ⟨Y.stop e2.lt w2 hchk, k.nx.at (e1.trans e2) w2 rs2 hnx⟩
end
end Dl
namespace Dl
open PySem L2 PyProof.Rows
/-- from this level on no repr is under way -/
abbrev GK : Nat := 160
structure RoomG (k : Nat) (A : Around) : Prop extends Room k A where
  gd : ∃ g, A.guards = some g
  g0 : GK ≤ k → A.guards = some []
theorem RoomG.mono {j k : Nat} {A : Around} (r : RoomG k A) (h : j ≤ k) : RoomG j A := ⟨r.toRoom.mono h, r.gd, fun z => r.g0 (Nat.le_trans z h)⟩
theorem RoomG.deeper {k : Nat} {A : Around} (r : RoomG (k + 1) A) (env : Env) : RoomG k (A.deeper env) := ⟨r.toRoom.deeper env, r.gd, fun z => r.g0 (Nat.le_succ_of_le z)⟩
theorem RoomG.in1 {k : Nat} {A : Around} (r : RoomG (k + 1) A) : RoomG k A.in1 := ⟨r.toRoom.in1, r.gd, fun z => r.g0 (Nat.le_succ_of_le z)⟩
theorem make_guards {A : Around} {C : Addr} {us : List Value} {kw : List (Str × Value)} {g : List Code} (h : A.guards = some g) : (A.under (.builtin "type.__call__" ⟨.ref C :: us, kw⟩)).guards = some g := by
  simp [Around.under, Code.guards, Code.isGuard, guardIds, pushGuards, h]
theorem RoomG.make {k : Nat} {A : Around} (r : RoomG (k + 1) A) (C : Addr) (us : List Value) (kw : List (Str × Value)) : RoomG k (A.under (.builtin "type.__call__" ⟨.ref C :: us, kw⟩)) := ⟨r.toRoom.make C us kw, r.gd.imp fun _ => make_guards, fun z => make_guards (r.g0 (Nat.le_succ_of_le z))⟩
structure SubG (X : Cx) (n : Nat) (A : Around) : Prop where
  room : RoomG n A
  fr : A.frames = X.A.frames
theorem SubG.in1 {X : Cx} {n : Nat} {A : Around} (s : SubG X (n + 1) A) : SubG X n A.in1 := ⟨s.room.in1, s.fr⟩
theorem SubG.mono {X : Cx} {n m : Nat} {A : Around} (s : SubG X n A) (h : m ≤ n) : SubG X m A := ⟨s.room.mono h, s.fr⟩
/-- a def that keeps a promise wherever no repr is under way -/
structure FnG (P : Program) (w : World) (K : PySem.W.Frag) (mg : Str → Option Value) (base : Heap) (CX : CXT) (k : Nat) (f : Addr) (fd : FuncData) (ps : List Str) (sp : Sp) : Prop where
  len : ∀ vs H Q E, sp vs H Q E → vs.length = ps.length
  run : ∀ (A : Around) (outer : List Env) (s : Shared) (H : Hp) (args : Args) (us : List Value) (vs : List V) (Q : VK) (E : XK), RoomG k A → Env0 P w K mg base A outer s H → BindsTo s fd args (ps.zip us) → Vals vs us →
    sp vs H Q E → codeAny (model P w) A (.call (.ref f) args) (CR CX outer P w H s Q E) s
section
variable {P : Program} {w : World} {K : PySem.W.Frag} {mg : Str → Option Value} {base : Heap} {CX : CXT} {k : Nat} {f : Addr} {fd : FuncData} {ps : List Str} {sp sp' : Sp}
theorem FnG.mono {j : Nat} (F : FnG P w K mg base CX j f fd ps sp) (h : j ≤ k) : FnG P w K mg base CX k f fd ps sp where
  len := F.len
  run A outer s H args us vs Q E hr := F.run A outer s H args us vs Q E (hr.mono h)
theorem FnG.imp (F : FnG P w K mg base CX k f fd ps sp) (h : ∀ vs H Q E, sp' vs H Q E → sp vs H Q E) : FnG P w K mg base CX k f fd ps sp' where
  len vs H Q E q := F.len vs H Q E (h vs H Q E q)
  run A outer s H args us vs Q E hr e0 hb hv hs := F.run A outer s H args us vs Q E hr e0 hb hv (h vs H Q E hs)
/-- by its body -/
theorem FnG.by_body {x qual : Str} {params : Arguments} {body : List Stmt} {scope : Scope} {dvs : List V} {kws : List (Str × V)} {N : List Str} (F : FunD K x qual params body scope dvs kws f fd) (S : FnScope N ps scope) (len : ∀ vs H Q E, sp vs H Q E → vs.length = ps.length)
    (go : ∀ (cdv : Value) (A : Around) (outer : List Env) (s : Shared) (H : Hp) (vs : List V) (Q : VK) (E : XK), RoomG k (A.deeper (envOfC qual scope s.heap.objs.size f cdv)) → sp vs H Q E →
      ∃ t, PSs (cxOf CX P w K mg base N qual scope f cdv A outer s H E) body t ∧ t { nx := fun _ H' => Q .non H', rt := Q } (L2.start N vs) H) : FnG P w K mg base CX (k + 1) f fd ps sp := by
  obtain ⟨oc, od, dV, kV, doc, pm, an, cdv, ct, osl, rfl, lk, hcd, _, _⟩ := F.ex
  constructor
  · exact len
  intro A outer s H args us vs Q E hr e0 hb hv hsp
  have kept : ∀ b o, base.get? b = some o → s.heap.get? b = some o := fun b o e => (e0.bs b o e).1
  have inK := e0.mod.kin.keeps kept
  refine codeAny_call_function hr.toRoom.depth (inK _ _ lk) rfl S.co S.gen rfl (PySem.W.codeRec_of inK hcd) (hb _ _ _ _ ?_)
  refine wpAny_newFunctionEnv_cells S.kind (fun y hy => ?_) fun env he s1 x => ?_
  · rcases S.par y.1 (List.of_mem_zip (a := y.1) (b := y.2) hy).1 with q | q
    · left; exact q
    · right; exact ⟨q, PySem.W.cellsFrom_some _ _ _ (.inl q)⟩
  subst he
  obtain ⟨t, ht, hq⟩ := go cdv A outer s H vs Q E (hr.deeper _) hsp
  refine ⟨(e0.mod.nolimit.keeps kept).keeps x.toInCall.keep, codeAny_func (wpAny_mono (ht.run [] s1 _ H _ (inv_start S hr.hd e0 (len _ _ _ _ hsp) hv x) hq) (fun fl s' hs => ?_) fun e s' hs => hs)⟩
  cases fl with
  | ret u => obtain ⟨v, σ', H', J, rv, q⟩ := hs; exact ⟨v, H', J.os, J.bare, J.base, J.hok, rv, q⟩
  | next => obtain ⟨σ', H', J, q⟩ := hs; exact ⟨.non, H', J.os, J.bare, J.base, J.hok, rfl, q⟩
  | brk => obtain ⟨σ', H', J, q⟩ := hs; exact q.elim
  | cont => obtain ⟨σ', H', J, q⟩ := hs; exact q.elim
end
section
variable {X : Cx} {CX : CXT} {k n : Nat} {f C : Addr} {fd : FuncData} {ps ks : List Str} {sp : Sp} {E : XK} {g : List Value → List Value → List Value} {gV : List V → List V → List V}
/-- a def's end, told to its caller -/
theorem told {pins : List (Addr × Obj)} {σ : L2.St} {H : Hp} {s : Shared} {Q : VK} (hx : PassesAt CX X σ E) (I : Inv X pins σ H s) (r : Result) (s' : Shared) (h : CR CX X.stack X.prog X.w H s Q E r s') :
    (match r with | .ok (.ret u) => EP X pins σ Q u s' | .ok _ => False | .error e => X.xe e s') := by
  cases r with
  | error e => exact hx pins H s e s' I h
  | ok fl =>
    cases fl with
    | ret u => exact I.after h
    | next => exact h
    | brk => exact h
    | cont => exact h
theorem run_fnS' {pins : List (Addr × Obj)} {σ : L2.St} {H : Hp} {s : Shared} {Q : VK} {us ws : List Value} {vs zs : List V} (F : FnG X.prog X.w X.K X.mg X.base CX k f fd ps sp) (hr : RoomG k X.A) (hb : KBn X.K fd ps n ks g gV) (hx : PassesAt CX X σ E)
    (I : Inv X pins σ H s) (r : Vals vs us) (rz : Vals zs ws) (l1 : vs.length = n) (l2 : zs.length = ks.length) (h : sp (gV vs zs) H Q E) : wpAny (model X.prog X.w) X.A (call (.ref f) us (ks.zip ws)) (EP X pins σ Q) X.xe s := by
  refine wpAny_call (codeAny_mono (F.run X.A X.stack s H ⟨us, ks.zip ws⟩ (g us ws) (gV vs zs) Q E hr I.env0 (hb.to s us ws I.kIn (r.length.symm.trans l1) (rz.length.symm.trans l2)) (hb.rel r rz) h) fun r s' q => ?_)
  have z := told hx I r s' q
  cases r with
  | error e => exact z
  | ok fl => cases fl <;> exact z
theorem passAll {σ : L2.St} (hx : Passes CX X E) : PassesAt CX X σ E := fun pins H s e s' => hx pins σ H s e s'
theorem run_fnG {pins : List (Addr × Obj)} {σ : L2.St} {H : Hp} {s : Shared} {Q : VK} {us ws : List Value} {vs zs : List V} (F : FnG X.prog X.w X.K X.mg X.base CX k f fd ps sp) (hr : RoomG k X.A) (hb : KBn X.K fd ps n ks g gV) (hx : Passes CX X E)
    (I : Inv X pins σ H s) (r : Vals vs us) (rz : Vals zs ws) (l1 : vs.length = n) (l2 : zs.length = ks.length) (h : sp (gV vs zs) H Q E) : wpAny (model X.prog X.w) X.A (call (.ref f) us (ks.zip ws)) (EP X pins σ Q) X.xe s :=
  run_fnS' F hr hb (passAll hx) I r rz l1 l2 h
/-- C(..) -/
theorem run_makeS {pins : List (Addr × Obj)} {σ : L2.St} {H : Hp} {s : Shared} {Q : VK} {us ws : List Value} {vs zs : List V} (M : Mk X.K C f) (F : FnG X.prog X.w X.K X.mg X.base CX k f fd ps sp) (hr : RoomG (k + 1) X.A) (hb : KBn X.K fd ps (n + 1) ks g gV)
    (hx : PassesAt CX X σ E) (I : Inv X pins σ H s) (r : Vals vs us) (rz : Vals zs ws) (l1 : vs.length = n) (l2 : zs.length = ks.length)
    (h : ∀ x dx, H x = none → H dx = none → dx ≠ x → sp (gV (.ref x :: vs) zs) (upd (upd H dx (.own x)) x (.ins C dx [])) (fun v H2 => v = .non ∧ Q (.ref x) H2) E) :
    wpAny (model X.prog X.w) X.A (call (.ref C) us (ks.zip ws)) (EP X pins σ Q) X.xe s := by
  let sz := s.heap.objs.size
  have hq := h (sz + 1) sz (I.hok.fresh (Nat.le_succ _)) (I.hok.fresh (Nat.le_refl _)) (Nat.ne_of_lt (Nat.lt_succ_self _))
  have I2 := Inv.made (C := C) I
  have r1 : Vals (V.ref (sz + 1) :: vs) (Value.ref (sz + 1) :: us) := .cons rfl r
  have b2 := hb.to _ (Value.ref (sz + 1) :: us) ws I2.kIn (r1.length.symm.trans (congrArg Nat.succ l1)) (rz.length.symm.trans l2)
  have run := F.run _ X.stack _ _ ⟨Value.ref (sz + 1) :: us, ks.zip ws⟩ (g (Value.ref (sz + 1) :: us) ws) _ _ E (hr.make C us (ks.zip ws)) (I2.env0.make C us (ks.zip ws)) b2 (hb.rel r1 rz) hq
  refine wpAny_call (make_map (f := f) I.kIn M.makes M.init (beq_iff_eq.mp M.fn) (codeAny_mono run fun r s' q => ?_))
  have z := told hx I2 r s' q
  cases r with
  | error e => exact z
  | ok fl =>
    cases fl with
    | ret u =>
      obtain ⟨v, H', I3, rv, ev, q3⟩ := z
      subst ev
      exact ⟨rv, ⟨V.ref (sz + 1), H', I3, rfl, q3⟩⟩
    | next => exact z
    | brk => exact z
    | cont => exact z
theorem run_makeG {pins : List (Addr × Obj)} {σ : L2.St} {H : Hp} {s : Shared} {Q : VK} {us ws : List Value} {vs zs : List V} (M : Mk X.K C f) (F : FnG X.prog X.w X.K X.mg X.base CX k f fd ps sp) (hr : RoomG (k + 1) X.A) (hb : KBn X.K fd ps (n + 1) ks g gV)
    (hx : Passes CX X E) (I : Inv X pins σ H s) (r : Vals vs us) (rz : Vals zs ws) (l1 : vs.length = n) (l2 : zs.length = ks.length)
    (h : ∀ x dx, H x = none → H dx = none → dx ≠ x → sp (gV (.ref x :: vs) zs) (upd (upd H dx (.own x)) x (.ins C dx [])) (fun v H2 => v = .non ∧ Q (.ref x) H2) E) :
    wpAny (model X.prog X.w) X.A (call (.ref C) us (ks.zip ws)) (EP X pins σ Q) X.xe s := run_makeS M F hr hb (passAll hx) I r rz l1 l2 h
end
end Dl
namespace Dl
open PySem L2
abbrev DSp := List D → Sto → (D → Sto → Prop) → Prop
theorem Outs.to0 {A B : Type} {K : PySem.W.Frag} {U : Wi} {m : Nat → Addr} {S : Sto} {Z : Addr → Prop} {H : Hp} {rel : (Nat → Addr) → Nat → Hp → A → B → Prop} {q : A → Sto → Prop} {Q : B → Hp → Prop} (w : Wd K U m S Z H) (k : Outs m S Z H K U rel q Q) : Outs m S Z H K U0 rel q Q :=
  fun b H' m' a S' e w0 r h => k b H' m' a S' e (w.on e w0.toWd0) r h
theorem Wd.w0 {K : PySem.W.Frag} {U : Wi} {m : Nat → Addr} {S : Sto} {Z : Addr → Prop} {H : Hp} (w : Wd K U m S Z H) : Wd K U0 m S Z H := w.toWd0.u0
def spOf (K : PySem.W.Frag) (dsp : DSp) : Sp := fun vs H Q _ => ∃ m S Z ds q, Wd K U0 m S Z H ∧ Reps K m S.length (vis m S Z H) ds vs ∧ dsp ds S q ∧ Outs m S Z H K U0 (rD K) q Q
def startD (N : List Str) (ds : List D) : Env_ := ds.map some ++ List.replicate (N.length - ds.length) none
theorem relS_start {K : PySem.W.Frag} {m : Nat → Addr} {n : Nat} {Hv : Hp} {N : List Str} {ds : List D} {vs : List V} (r : Reps K m n Hv ds vs) : RelS K m n Hv (startD N ds) (L2.start N vs) := by
  have hl := Reps.len r
  refine ⟨by unfold startD L2.start; simp [hl], fun i d e => ?_⟩
  unfold startD at e
  by_cases hi : i < ds.length
  · rw [List.getElem?_append_left (by simpa using hi), List.getElem?_map] at e
    cases h1 : ds[i]? with
    | none => rw [h1] at e; cases e
    | some x =>
      rw [h1] at e
      cases e
      obtain ⟨v, h2, h3⟩ := Reps.get r h1
      refine ⟨v, ?_, h3⟩
      unfold L2.start
      rw [List.getElem?_append_left (by rw [List.length_map, hl]; exact hi), List.getElem?_map, h2]
      rfl
  · rw [List.getElem?_append_right (by simpa using Nat.le_of_not_lt hi), List.getElem?_replicate] at e
    split at e <;> cases e
theorem Wd.under {K : PySem.W.Frag} {m : Nat → Addr} {S : Sto} {Z : Addr → Prop} {H : Hp} (w : Wd K U m S Z H) : Sto.under S.length S = true := by
  refine List.all_eq_true.mpr fun o ho => ?_
  cases o with
  | none => rfl
  | some x =>
    obtain ⟨i, hi⟩ := List.getElem?_of_mem ho
    have r := w.rep i x hi
    show x.under S.length = true
    cases x with
    | lst ds => obtain ⟨vs, _, r⟩ := r; exact Reps.below r
    | obj C ks ds => obtain ⟨dx, vs, _, _, r⟩ := r; exact Reps.below r
    | dic ks ds => obtain ⟨vs, _, _, r⟩ := r; exact Reps.below r
    | dicT ks ds => obtain ⟨vs, _, _, r⟩ := r; exact Reps.below r
    | lck ob u ks ds => obtain ⟨vs, _, _, _, r⟩ := r; exact Reps.below r
    | lckT ob u ks ds => obtain ⟨vs, _, _, _, r⟩ := r; exact Reps.below r
/-- a def's end: the store cut back to what it was, a list of its own given up -/
def fin (n : Nat) (q : D → Sto → Prop) (d : D) (S' : Sto) : Prop :=
  Sto.under n (S'.take n) = true ∧ match d with
  | .loc k => if k < n then q (.loc k) (S'.take n) else match S'[k]? with
    | some (some (.lst ds)) => D.unders n ds = true ∧ q (.lst ds) (S'.take n)
    | some (some (.dic ks ds)) => D.unders n ds = true ∧ q (.dic ks ds) (S'.take n)
    | some (some (.obj C ks ds)) => D.unders n ds = true ∧ q (.obj C ks ds) (S'.take n)
    | _ => False
  | d => d.under n = true ∧ q d (S'.take n)
theorem take_setN {S : Sto} {k n : Nat} (h : n ≤ k) : (S.set k none).take n = S.take n := by
  apply List.ext_getElem?
  intro i
  by_cases hi : i < n
  · rw [List.getElem?_take_of_lt hi, List.getElem?_take_of_lt hi, List.getElem?_set_ne (by omega)]
  · rw [List.getElem?_eq_none_iff.mpr (by rw [List.length_take]; omega), List.getElem?_eq_none_iff.mpr (by rw [List.length_take]; omega)]
theorem out_fin {K : PySem.W.Frag} {m : Nat → Addr} {S : Sto} {Z : Addr → Prop} {H : Hp} {q : D → Sto → Prop} {Q : VK} (w0 : Wd K U m S Z H) (k : Outs m S Z H K U (rD K) q Q) : Outs m S Z H K U (rD K) (fin S.length q) Q := by
  intro v H' m' d S' e w r ⟨hu, h⟩
  have e2 := e.take (Nat.le_refl _) e.len
  have w2 := w0.on e2 (w.toWd0.take e.len hu)
  have len : (S'.take S.length).length = S.length := by rw [List.length_take]; have := e.len; omega
  have key : ∀ {d : D}, Rep K m' S'.length (vis m' S' Z H') d v → d.under S.length = true → Rep K m' (S'.take S.length).length (vis m' (S'.take S.length) Z H') d v := fun {d} r hb => by
    rw [len]
    exact Rep.cut e.len (Rep.mono (fun _ _ => rfl) (Nat.le_refl _) (fun a o z => vis_take z) r) hb
  have key2 : ∀ {j : Nat} {d : D}, S.length ≤ j → v = V.ref (m' j) → Rep K m' (S'.set j none).length (vis m' (S'.set j none) Z H') d (.ref (m' j)) → d.under S.length = true →
      Rep K m' (S'.take S.length).length (vis m' (S'.take S.length) Z H') d v := fun {j d} hj hv r hb => by
    rw [hv, len]
    have r2 := Rep.cut (n := S.length) (by rw [List.length_set]; exact e.len) (Rep.mono (fun _ _ => rfl) (Nat.le_refl _) (fun a o z => vis_take (n := S.length) z) r) hb
    rw [take_setN hj] at r2
    exact r2
  cases d with
  | loc j =>
    by_cases hj : j < S.length
    · have h' : q (.loc j) (S'.take S.length) := by simpa [hj] using h
      exact k.at e2 w2 (key r (by simp [D.under, hj])) h'
    · have h' : match S'[j]? with
        | some (some (.lst ds)) => D.unders S.length ds = true ∧ q (.lst ds) (S'.take S.length)
        | some (some (.dic ks ds)) => D.unders S.length ds = true ∧ q (.dic ks ds) (S'.take S.length)
        | some (some (.obj C ks ds)) => D.unders S.length ds = true ∧ q (.obj C ks ds) (S'.take S.length)
        | _ => False := by simpa [hj] using h
      have hv : v = V.ref (m' j) := by
        have r' : Rep K m' S'.length (vis m' S' Z H') (.loc j) v := r
        rw [Rep] at r'
        exact r'.1
      have hj' := Nat.le_of_not_lt hj
      cases ho : S'[j]? with
      | none => rw [ho] at h'; exact h'.elim
      | some o =>
        cases o with
        | none => rw [ho] at h'; exact h'.elim
        | some o =>
          rw [ho] at h'
          cases o with
          | lst ds => exact k.at e2 w2 (key2 hj' hv (w.frozen_lst ho) (by simpa [D.under] using h'.1)) h'.2
          | dic ks ds => exact k.at e2 w2 (key2 hj' hv (w.frozen_dic ho) (by simpa [D.under] using h'.1)) h'.2
          | obj C ks ds => exact k.at e2 w2 (key2 hj' hv (w.frozen_obj ho) (by simpa [D.under] using h'.1)) h'.2
          | dicT ks ds => exact h'.elim
          | lck ob u ks ds => exact h'.elim
          | lckT ob u ks ds => exact h'.elim
  | non => exact k.at e2 w2 (key r h.1) h.2
  | bl b => exact k.at e2 w2 (key r h.1) h.2
  | int b => exact k.at e2 w2 (key r h.1) h.2
  | str b => exact k.at e2 w2 (key r h.1) h.2
  | tup b => exact k.at e2 w2 (key r h.1) h.2
  | lst b => exact k.at e2 w2 (key r h.1) h.2
  | ksq b => exact k.at e2 w2 (key r h.1) h.2
  | obj C b c => exact k.at e2 w2 (key r h.1) h.2
  | dic b c => exact k.at e2 w2 (key r h.1) h.2
  | ref b => exact k.at e2 w2 (key r h.1) h.2
  | ty b => exact k.at e2 w2 (key r h.1) h.2
  | exc a b c => exact k.at e2 w2 (key r h.1) h.2
inductive Src where
  | p (i : Nat) | d (i : Nat) | k (i : Nat)
def pick {A : Type} (us its ws : List A) : Src → Option A
  | .p i => us[i]?
  | .d i => its[i]?
  | .k i => ws[i]?
def gat {A : Type} (src : List Src) (us its ws : List A) : List A := src.filterMap (pick us its ws)
theorem paired_at {A B : Type} {F : A → B → Prop} : ∀ {l : List A} {l' : List B}, Paired F l l' → ∀ i : Nat, (l[i]? = none ∧ l'[i]? = none) ∨ ∃ (a : A) (b : B), l[i]? = some a ∧ l'[i]? = some b ∧ F a b
  | _, _, .nil, i => .inl (by simp)
  | _, _, .cons r t, 0 => .inr ⟨_, _, rfl, rfl, r⟩
  | _, _, .cons r t, i + 1 => by simpa using paired_at t i
theorem gat_pair {A B : Type} {F : A → B → Prop} {us its ws : List A} {us' its' ws' : List B} (h1 : Paired F us us') (h2 : Paired F its its') (h3 : Paired F ws ws') : ∀ src : List Src, Paired F (gat src us its ws) (gat src us' its' ws')
  | [] => .nil
  | x :: xs => by
    have ih := gat_pair h1 h2 h3 xs
    unfold gat at *
    have : (pick us its ws x = none ∧ pick us' its' ws' x = none) ∨ ∃ a b, pick us its ws x = some a ∧ pick us' its' ws' x = some b ∧ F a b := by
      cases x with
      | p i => exact paired_at h1 i
      | d i => exact paired_at h2 i
      | k i => exact paired_at h3 i
    rcases this with ⟨e1, e2⟩ | ⟨a, b, e1, e2, r⟩
    · rw [List.filterMap_cons_none e1, List.filterMap_cons_none e2]; exact ih
    · rw [List.filterMap_cons_some e1, List.filterMap_cons_some e2]; exact .cons r ih
theorem Reps.paired {K : PySem.W.Frag} {m : Nat → Addr} {N : Nat} {H : Hp} : ∀ {ds : List D} {vs : List V}, Reps K m N H ds vs → Paired (fun d v => Rep K m N H d v) ds vs
  | [], _, r => by rw [show _ = [] from r]; exact .nil
  | d :: ds, _, r => by
    obtain ⟨v, q, e, r1, r2⟩ := r
    rw [e]
    exact .cons r1 (Reps.paired r2)
theorem Reps.of_paired {K : PySem.W.Frag} {m : Nat → Addr} {N : Nat} {H : Hp} : ∀ {ds : List D} {vs : List V}, Paired (fun d v => Rep K m N H d v) ds vs → Reps K m N H ds vs
  | _, _, .nil => reps_nil
  | _, _, .cons r t => Reps.cons r (Reps.of_paired t)
/-- how a call with n values and keywords ks binds; nd defaults -/
inductive Bnd (x qual : Str) (st : Stmt) (ps : List Str) (n : Nat) (ks : List Str) (src : List Src) : Nat → Prop where
  | zero (h : ∀ (kV doc pm : Value) (an : Option Addr) (cdv ct : Value) (us ws : List Value), us.length = n → ws.length = ks.length →
      bindArgs (PySem.W.fnOf x qual (defArgs st) (defBody st) (defScope st) .none kV doc pm an cdv ct) ⟨us, ks.zip ws⟩ = pure (ps.zip (gat src us [] ws))) : Bnd x qual st ps n ks src 0
  | more (nd : Nat) (h : ∀ (T : Addr) (kV doc pm : Value) (an : Option Addr) (cdv ct : Value) (us its ws : List Value), us.length = n → its.length = nd + 1 → ws.length = ks.length →
      ∃ k, bindArgs (PySem.W.fnOf x qual (defArgs st) (defBody st) (defScope st) (.ref T) kV doc pm an cdv ct) ⟨us, ks.zip ws⟩ = seqItems? (.ref T) >>= k ∧ k (some its.toArray) = pure (ps.zip (gat src us its ws))) : Bnd x qual st ps n ks src (nd + 1)
abbrev FunS (K : PySem.W.Frag) (x qual : Str) (st : Stmt) (dvs : List V) (f : Addr) (fd : FuncData) : Prop := FunD K x qual (defArgs st) (defBody st) (defScope st) dvs [] f fd
theorem kbn_of {K : PySem.W.Frag} {x qual : Str} {st : Stmt} {dvs : List V} {f : Addr} {fd : FuncData} {ps ks : List Str} {n : Nat} {src : List Src} (F : FunS K x qual st dvs f fd) (b : Bnd x qual st ps n ks src dvs.length) :
    ∃ its : List Value, KBn K fd ps n ks (fun us ws => gat src us its ws) (fun vs zs => gat src vs dvs zs) := by
  obtain ⟨oc, od, dV, kV, doc, pm, an, cdv, ct, osl, rfl, lk, hcd, hD, hK⟩ := F.ex
  rcases hD with ⟨rfl, rfl⟩ | ⟨hne, T, o, its, mm, rfl, lT, oT, rT⟩
  · cases b with
    | zero h => exact ⟨[], ⟨fun s us ws X l1 l2 => .of_eq (h kV doc pm an cdv ct us ws l1 l2), fun r1 r2 => gat_pair r1 .nil r2 src⟩⟩
  · have hb : ∃ nd, dvs.length = nd + 1 := by
      cases dvs with
      | nil => exact absurd rfl hne
      | cons _ r => exact ⟨r.length, rfl⟩
    obtain ⟨nd, e⟩ := hb
    rw [e] at b
    cases b with
    | more _ h =>
      refine ⟨its, ⟨fun s us ws X l1 l2 => ?_, fun r1 r2 => gat_pair r1 rT r2 src⟩⟩
      obtain ⟨k, e1, e2⟩ := h T kV doc pm an cdv ct us its ws l1 (rT.length.symm.trans e) l2
      refine BindsTo.of_looks fun M => ?_
      rw [e1]
      exact looks_items X lT oT (.of_pure e2)
abbrev GA := Env_ → Sto → (List D → List D → Sto → Prop) → Prop
def gArgs (ga gk : G (List D)) : GA := fun ρ S q => ga ρ S fun as S1 => gk ρ S1 fun ks S2 => q as ks S2
abbrev TA2 := St → Hp → (List V → List V → Hp → Prop) → Prop
structure PArgs (X : Cx) (es : List Expr) (kws : List Keyword) (pos : Pos) (ks : List Str) (t : TA2) : Prop where
  run : ∀ (pins : List (Addr × Obj)) (s : Shared) (σ : St) (H : Hp) (Q : List V → List V → Hp → Prop) (f : Value) (first : List Value) (R : Value → Shared → Prop), Inv X pins σ H s → PySem.W.keepIn X.K f = true → t σ H Q →
    (∀ us ws vs zs s' H', Inv X pins σ H' s' → Vals vs us → Vals zs ws → Q vs zs H' → wpAny (model X.prog X.w) X.A (call f (first ++ us) (ks.zip ws)) R X.xe s') →
    wpAny (model X.prog X.w) X.A (callWith pos f first (backTo pos (starEach es X.env)) (backToKw pos (keywordEach kws X.env))) R X.xe s
def tof2 (K : PySem.W.Frag) (U : Wi) (g : GA) : TA2 := fun σ H Q => ∃ m S Z ρ q, Wd K U m S Z H ∧ RelS K m S.length (vis m S Z H) ρ σ ∧ g ρ S q ∧
  ∀ vs zs H' m' as ks S', Ext m S Z H m' S' H' → Wd K U m' S' Z H' → Reps K m' S'.length (vis m' S' Z H') as vs → Reps K m' S'.length (vis m' S' Z H') ks zs → q as ks S' → Q vs zs H'
section
variable {X : Cx} {pos : Pos} {e : Expr} {es : List Expr} {kws : List Keyword} {ks : List Str} {ga gk : G (List D)}
theorem tof2_in {K : PySem.W.Frag} {σ : St} {H : Hp} {Q : List V → List V → Hp → Prop} (h : tof2 K U (gArgs ga gk) σ H Q) : tofA K U ga σ H fun vs H1 => tofA K U gk σ H1 fun zs H2 => Q vs zs H2 := by
  obtain ⟨m, S, Z, ρ, q, w, rs, h, k⟩ := h
  exact tof_in w rs h fun v1 H1 m1 d1 S1 e1 w1 r1 h1 => tof_in w1 (rs.ext e1) h1 fun v2 H2 m2 d2 S2 e2 w2 r2 h2 => k v1 v2 H2 m2 d1 d2 S2 (e1.trans e2) w2 (r1.ext e2) r2 h2
theorem dk_nil : PK X [] (tofA X.K U gNil) := ⟨fun pos pins s σ H Q I ⟨m, S, Z, ρ, q, w, rs, h, k⟩ => (pk_nil (X := X)).run pos pins s σ H Q I (k.now w reps_nil h)⟩
theorem dk_cons {nm : Option Str} {kpos : Pos} {ge : G D} (ha : PE X e (tofE X.K U ge)) (hr : PK X kws (tofA X.K U gk)) : PK X (⟨nm, e, kpos⟩ :: kws) (tofA X.K U (gCons ge gk)) :=
  ⟨fun pos pins s σ H Q I ⟨m, S, Z, ρ, q, w, rs, h, k⟩ => (pk_cons (nm := nm) (kpos := kpos) ha hr).run pos pins s σ H Q I
    (tof_in w rs h fun v1 H1 m1 d1 S1 e1 w1 r1 h1 => tof_in w1 (rs.ext e1) h1 fun v2 H2 m2 d2 S2 e2 w2 r2 h2 => k.at (e1.trans e2) w2 (Reps.cons (r1.ext e2) r2) h2)⟩
theorem da_00 : PArgs X [] [] pos [] (tof2 X.K U (gArgs gNil gNil)) := ⟨fun pins s σ H Q f first R I hk h go => by
  obtain ⟨m, S, Z, ρ, q, w, rs, h, k⟩ := h
  exact PySem.W.callWith_K0 I.kIn hk (go [] [] [] [] s H I .nil .nil (k [] [] H m [] [] S Ext.refl w reps_nil reps_nil h))⟩
theorem da_p0 (ha : PA X (e :: es) (tofA X.K U ga)) (he : starEach (e :: es) X.env = (false, eval e X.env) :: starEach es X.env := by rfl) (hpl : (backTo pos (starEach es X.env)).any (·.1) = false := by rfl) :
    PArgs X (e :: es) [] pos [] (tof2 X.K U (gArgs ga gNil)) := ⟨fun pins s σ H Q f first R I hk h go => by
  obtain ⟨m, S, Z, ρ, q, w, rs, h, k⟩ := h
  refine PySem.W.callWith_K (h₀ := X.base) I.ok.mod.kin hk (thn (ha.run pos pins s σ H (fun vs H1 => Q vs [] H1) I (tof_in w rs h fun v1 H1 m1 d1 S1 e1 w1 r1 h1 => k v1 [] H1 m1 d1 [] S1 e1 w1 r1 reps_nil h1)) fun us s1 ⟨vs, H1, I1, r, q⟩ => ⟨I1.kIn, ?_⟩) he hpl
  exact go us [] vs [] s1 H1 I1 r .nil q⟩
theorem da_0k (hkw : PK X kws (tofA X.K U gk)) (hall : (backToKw pos (keywordEach kws X.env)).all (·.1.isSome) = true := by rfl) (hks : (backToKw pos (keywordEach kws X.env)).filterMap (·.1) = ks := by rfl)
    (hpl : ((backTo pos (starEach [] X.env)).any (·.1) || (backToKw pos (keywordEach kws X.env)).any (·.1.isNone)) = false := by rfl) : PArgs X [] kws pos ks (tof2 X.K U (gArgs gNil gk)) := ⟨fun pins s σ H Q f first R I hk h go => by
  obtain ⟨m, S, Z, ρ, q, w, rs, h, k⟩ := h
  refine PySem.W.callWith_KW0 (h₀ := X.base) I.ok.mod.kin hk hall (thn (hkw.run pos pins s σ H (fun zs H1 => Q [] zs H1) I (tof_in w rs h fun v1 H1 m1 d1 S1 e1 w1 r1 h1 => k [] v1 H1 m1 [] d1 S1 e1 w1 reps_nil r1 h1)) fun ws s1 ⟨zs, H1, I1, r, q⟩ => ⟨I1.kIn, ?_⟩) hpl
  rw [hks]
  exact go [] ws [] zs s1 H1 I1 .nil r q⟩
theorem da_pk (ha : PA X (e :: es) (tofA X.K U ga)) (hkw : PK X kws (tofA X.K U gk)) (hall : (backToKw pos (keywordEach kws X.env)).all (·.1.isSome) = true := by rfl) (hks : (backToKw pos (keywordEach kws X.env)).filterMap (·.1) = ks := by rfl)
    (he : starEach (e :: es) X.env = (false, eval e X.env) :: starEach es X.env := by rfl)
    (hpl : ((backTo pos (starEach (e :: es) X.env)).any (·.1) || (backToKw pos (keywordEach kws X.env)).any (·.1.isNone)) = false := by rfl) : PArgs X (e :: es) kws pos ks (tof2 X.K U (gArgs ga gk)) := ⟨fun pins s σ H Q f first R I hk h go => by
  refine PySem.W.callWith_KW (h₀ := X.base) I.ok.mod.kin hk hall (thn (ha.run pos pins s σ H _ I (tof2_in h)) fun us s1 ⟨vs, H1, I1, r, q⟩ => thn (hkw.run pos pins s1 σ H1 _ I1 q) fun ws s2 ⟨zs, H2, I2, rz, q2⟩ => ⟨I2.kIn, ?_⟩) hpl he
  rw [hks]
  exact go us ws vs zs s2 H2 I2 r rz q2⟩
end
/-- a def of the top with its promise -/
structure Fnc (P : Program) (w : World) (K : PySem.W.Frag) (mg : Str → Option Value) (base : Heap) (x : Str) (st : Stmt) (dvs : List V) (k : Nat) (ps : List Str) (dsp : DSp) : Prop where
  ex : ∃ f fd, FunS K x x st dvs f fd ∧ mg x = some (.ref f) ∧ FnG P w K mg base CX0 k f fd ps (spOf K dsp)
def DfV (dds : List D) (dvs : List V) : Prop := ∀ K m N Hv, Reps K m N Hv dds dvs
theorem dfv_nil : DfV [] [] := fun _ _ _ _ => reps_nil
/-- f(..): n values, keywords -/
def gCall (n nk : Nat) (src : List Src) (dds : List D) (dsp : DSp) (ga : GA) : G D := fun ρ S q => ga ρ S fun as ks S1 => as.length = n ∧ ks.length = nk ∧ dsp (gat src as dds ks) S1 q
section
variable {X : Cx} {pos p apos : Pos} {x m qual : Str} {st : Stmt} {dvs : List V} {dds : List D} {k n : Nat} {ps ks : List Str} {dsp : DSp} {es : List Expr} {kws : List Keyword} {src : List Src} {ga : GA}
theorem gat_reps {K : PySem.W.Frag} {mm : Nat → Addr} {N : Nat} {Hv : Hp} {as zs : List D} {vs ws : List V} (r1 : Reps K mm N Hv as vs) (hd : DfV dds dvs) (r2 : Reps K mm N Hv zs ws) : Reps K mm N Hv (gat src as dds zs) (gat src vs dvs ws) :=
  Reps.of_paired (gat_pair (Reps.paired r1) (Reps.paired (hd K mm N Hv)) (Reps.paired r2) src)
theorem d_call (F : Fnc X.prog X.w X.K X.mg X.base x st dvs k ps dsp) (hr : RoomG k X.A) (hg : Gl X x) (b : Bnd x x st ps n ks src dvs.length) (hd : DfV dds dvs) (ha : PArgs X es kws pos ks (tof2 X.K U ga)) (hdb : (x == ("__debug__" : Str)) = false := by decide) :
    PE X (.Call (.Name x p) es kws pos) (tofE X.K U (gCall n ks.length src dds dsp ga)) := by
  refine ⟨fun pins s σ H Q I ⟨mm, S, Z, ρ, q, w, rs, h, kk⟩ => ?_⟩
  obtain ⟨f, fd, FS, hm, FO⟩ := F.ex
  obtain ⟨its, KB⟩ := kbn_of FS b
  refine wpAny_Call_Name_kw (ld_glob I hg hm ?_ hdb)
  refine ha.run pins s σ H (fun vs zs H1 => vs.length = n ∧ zs.length = ks.length ∧ spOf X.K dsp (gat src vs dvs zs) H1 Q fun _ _ _ => False) (.ref f) [] _ I FS.kp ⟨mm, S, Z, ρ, _, w, rs, h, fun vs zs H1 m1 as zd S1 e1 w1 r1 r2 h1 => ?_⟩ fun us ws vs zs s1 H1 I1 rv rz ⟨l1, l2, hs⟩ => ?_
  · exact ⟨by rw [Reps.len r1]; exact h1.1, by rw [Reps.len r2]; exact h1.2.1, m1, S1, Z, gat src as dds zd, q, w1.w0, gat_reps r1 hd r2, h1.2.2, (kk.ext e1).to0 w1⟩
  · exact run_fnG FO hr KB pass0 I1 rv rz l1 l2 hs
end
end Dl
namespace Dl
open PySem L2
def putK (f : Str) : List Str → List Str
  | [] => [f]
  | g :: ks => if g = f then g :: ks else g :: putK f ks
def putX {A : Type} (f : Str) (y : A) : List Str → List A → List A
  | [], _ => [y]
  | g :: ks, x :: xs => if g = f then y :: xs else x :: putX f y ks xs
  | _ :: _, [] => []
theorem putF_zip (f : Str) (v : V) : ∀ (ks : List Str) (vs : List V), ks.length = vs.length → putF f v (ks.zip vs) = (putK f ks).zip (putX f v ks vs) ∧ (putK f ks).length = (putX f v ks vs).length
  | [], [], _ => ⟨rfl, rfl⟩
  | g :: ks, x :: vs, h => by
    have ih := putF_zip f v ks vs (by simpa using h)
    rw [List.zip_cons_cons, putF, putK, putX]
    by_cases e : g = f
    · rw [if_pos e, if_pos e, if_pos e, List.zip_cons_cons]
      exact ⟨rfl, by simpa using h⟩
    · rw [if_neg e, if_neg e, if_neg e, List.zip_cons_cons, ih.1]
      exact ⟨rfl, by simp [ih.2]⟩
  | [], _ :: _, h => by simp at h
  | _ :: _, [], h => by simp at h
def fget (f : Str) (ks : List Str) (ds : List D) : Option D := (ks.zip ds).lookup f
section
variable {K : PySem.W.Frag} {m : Nat → Addr} {N : Nat} {Hv : Hp}
theorem reps_putX {f : Str} {d : D} {v : V} (r : Rep K m N Hv d v) : ∀ {ks : List Str} {ds : List D} {vs : List V}, ks.length = vs.length → Reps K m N Hv ds vs → Reps K m N Hv (putX f d ks ds) (putX f v ks vs)
  | [], _, _, _, _ => Reps.one r
  | g :: ks, [], _, h, q => by rw [show _ = [] from q] at h; simp at h
  | g :: ks, x :: ds, _, h, q => by
    obtain ⟨u, us, e, r1, r2⟩ := q
    rw [e] at h ⊢
    rw [putX, putX]
    by_cases e1 : g = f
    · rw [if_pos e1, if_pos e1]; exact Reps.cons r r2
    · rw [if_neg e1, if_neg e1]; exact Reps.cons r1 (reps_putX r (by simpa using h) r2)
theorem reps_fget {f : Str} : ∀ {ks : List Str} {ds : List D} {vs : List V} {d : D}, Reps K m N Hv ds vs → fget f ks ds = some d → ∃ v, (ks.zip vs).lookup f = some v ∧ Rep K m N Hv d v
  | [], _, _, _, _, h => by simp [fget] at h
  | _ :: _, [], _, _, _, h => by simp [fget] at h
  | g :: ks, x :: ds, _, d, q, h => by
    obtain ⟨u, us, e, r1, r2⟩ := q
    rw [e]
    unfold fget at h
    rw [List.zip_cons_cons, List.lookup_cons] at h ⊢
    by_cases e1 : f == g
    · rw [e1] at h ⊢
      cases h
      exact ⟨u, rfl, r1⟩
    · rw [Bool.eq_false_iff.mpr e1] at h ⊢
      exact reps_fget r2 h
theorem zip_lookup_none {f : Str} : ∀ {ks : List Str} {vs : List V}, ks.contains f = false → (ks.zip vs).lookup f = none
  | [], _, _ => rfl
  | _ :: _, [], _ => rfl
  | g :: ks, x :: vs, h => by
    rw [List.contains_cons] at h
    have h1 : (f == g) = false := by cases q : f == g <;> simp_all
    have h2 : ks.contains f = false := by cases q : ks.contains f <;> simp_all
    rw [List.zip_cons_cons, List.lookup_cons, h1]
    exact zip_lookup_none h2
end
def objOf (S : Sto) : D → Option (Addr × List Str × List D)
  | .obj C ks ds => some (C, ks, ds)
  | .loc n => match S[n]? with
    | some (some (.obj C ks ds)) => some (C, ks, ds)
    | _ => none
  | _ => none
theorem objOf_rep {K : PySem.W.Frag} {m : Nat → Addr} {S : Sto} {Z : Addr → Prop} {H : Hp} {d : D} {v : V} {C : Addr} {ks : List Str} {ds : List D} (w : Wd K U m S Z H) (r : Rep K m S.length (vis m S Z H) d v) (h : objOf S d = some (C, ks, ds)) :
    ∃ a dx vs, v = .ref a ∧ H a = some (.ins C dx (ks.zip vs)) ∧ ks.length = vs.length ∧ Reps K m S.length (vis m S Z H) ds vs := by
  cases d with
  | obj C' ks' ds' =>
    cases h
    rw [Rep] at r
    obtain ⟨a, dx, vs, e, h1, h2, h3⟩ := r
    exact ⟨a, dx, vs, e, vis_sub h1, h2, h3⟩
  | loc n =>
    rw [Rep] at r
    rw [objOf] at h
    cases hS : S[n]? with
    | none => rw [hS] at h; cases h
    | some o =>
      cases o with
      | none => rw [hS] at h; cases h
      | some o =>
        cases o with
        | obj C' ks' ds' =>
          rw [hS] at h
          cases h
          obtain ⟨dx, vs, h1, h2, h3⟩ := w.rep n _ hS
          exact ⟨m n, dx, vs, r.1, h1, h2, h3⟩
        | lst _ => rw [hS] at h; cases h
        | dic _ _ => rw [hS] at h; cases h
        | dicT _ _ => rw [hS] at h; cases h
        | lck _ _ _ _ => rw [hS] at h; cases h
        | lckT _ _ _ _ => rw [hS] at h; cases h
  | non => cases h
  | bl _ => cases h
  | int _ => cases h
  | str _ => cases h
  | tup _ => cases h
  | lst _ => cases h
  | ksq _ => cases h
  | dic _ _ => cases h
  | ref _ => cases h
  | ty _ => cases h
  | exc _ _ _ => cases h
structure FldOk (K : PySem.W.Frag) (C : Addr) (f : Str) : Prop where
  cl : Cls K C
  no : NoAttr K C f
def gFld (K : PySem.W.Frag) (f : Str) (go : G D) : G D := fun ρ S q => go ρ S fun o S1 => ∃ C ks ds d, objOf S1 o = some (C, ks, ds) ∧ FldOk K C f ∧ fget f ks ds = some d ∧ q d S1
def gFldSet (K : PySem.W.Frag) (f : Str) (go gv : G D) : GS := fun E ρ S => gv ρ S fun y S1 => go ρ S1 fun o S2 => ∃ n C ks ds, o = .loc n ∧ S2[n]? = some (some (.obj C ks ds)) ∧ FldOk K C f ∧ ks.length < 1000 ∧
  E.nx ρ (S2.set n (some (.obj C (putK f ks) (putX f y ks ds))))
section
variable {X : Cx} {pos pos' : Pos} {e o value : Expr} {f : Str} {go gv : G D}
theorem d_fld (he : PE X e (tofE X.K U go)) (hb : attributeBase e f X.env (eval e X.env) = eval e X.env := by rfl) : PE X (.Attribute e f pos) (tofE X.K U (gFld X.K f go)) :=
  weakE (pe_fld he hb) fun σ H Q ⟨m, S, Z, ρ, q, w, rs, h, k⟩ => tof_in w rs h fun v1 H1 m1 d1 S1 e1 w1 r1 ⟨C, ks, ds, d, h1, h2, h3, h4⟩ => by
    obtain ⟨a, dx, vs, ev, ha, hl, hr⟩ := objOf_rep w1 r1 h1
    obtain ⟨v, hv, rv⟩ := reps_fget hr h3
    exact ⟨a, C, dx, _, v, ev, ha, h2.cl, h2.no, hv, k.at e1 w1 rv h4⟩
theorem d_fldset (ho : PE X o (tofE X.K U go)) (hv : PE X value (tofE X.K U gv)) (hs : swapsWith value (some (.Attribute o f pos')) pos.line X.env = pure false := by rfl) : PS X (.Assign [.Attribute o f pos'] value pos) (tofS X.K U (gFldSet X.K f go gv)) :=
  weakS (ps_fld ho hv hs) fun De σ H ⟨m, S, Z, ρ, E, w, rs, h, k⟩ => tof_in w rs h fun v1 H1 m1 d1 S1 e1 w1 r1 h1 => tof_in w1 (rs.ext e1) h1 fun v2 H2 m2 d2 S2 e2 w2 r2 ⟨n, C, ks, ds, ed, hS, h2, hl, h3⟩ => by
    subst ed
    obtain ⟨dx, vs, ha, hlen, hr⟩ := w2.rep n _ hS
    have r2' : Rep X.K m2 S2.length (vis m2 S2 Z H2) (.loc n) v2 := r2
    rw [Rep] at r2'
    refine ⟨m2 n, C, dx, _, r2'.1, ha, h2.cl, h2.no, by rw [List.length_zip, ← hlen, Nat.min_self]; exact hl, ?_⟩
    obtain ⟨z1, z2⟩ := putF_zip f v1 ks vs hlen
    rw [z1]
    obtain ⟨w3, e3, hv3⟩ := w2.upd (o := .ins C dx ((putK f ks).zip (putX f v1 ks vs))) (mo := .obj C (putK f ks) (putX f d1 ks ds)) ⟨_, hS⟩ ⟨dx, _, upd_same, z2, reps_putX (r1.ext e2) hlen hr⟩
    exact k.nx.at ((e1.trans e2).trans e3) w3 (rs.ext ((e1.trans e2).trans e3)) h3
end
structure MFn (P : Program) (w : World) (K : PySem.W.Frag) (mg : Str → Option Value) (base : Heap) (C : Addr) (m qual : Str) (st : Stmt) (dvs : List V) (k : Nat) (ps : List Str) (dsp : DSp) : Prop where
  cl : Cls K C
  ex : ∃ f fd, FunS K m qual st dvs f fd ∧ Meth K C m f ∧ FnG P w K mg base CX0 k f fd ps (spOf K dsp)
structure CFn (P : Program) (w : World) (K : PySem.W.Frag) (mg : Str → Option Value) (base : Heap) (x : Str) (C : Addr) (qual : Str) (st : Stmt) (dvs : List V) (k : Nat) (ps : List Str) (dsp : DSp) : Prop where
  mC : mg x = some (.ref C)
  ex : ∃ f fd, FunS K "__init__" qual st dvs f fd ∧ Mk K C f ∧ FnG P w K mg base CX0 k f fd ps (spOf K dsp)
def gMeth (C : Addr) (m : Str) (n nk : Nat) (src : List Src) (dds : List D) (dsp : DSp) (go : G D) (ga : GA) : G D := fun ρ S q => go ρ S fun o S1 => ∃ ks ds, objOf S1 o = some (C, ks, ds) ∧ ks.contains m = false ∧
  ga ρ S1 fun as zs S2 => as.length = n ∧ zs.length = nk ∧ dsp (gat src (o :: as) dds zs) S2 q
/-- C(..), the new instance of the store -/
def gMake (C : Addr) (n nk : Nat) (src : List Src) (dds : List D) (dsp : DSp) (ga : GA) : G D := fun ρ S q => ga ρ S fun as zs S1 => as.length = n ∧ zs.length = nk ∧
  dsp (gat src (.loc S1.length :: as) dds zs) (S1 ++ [some (.obj C [] [])]) fun v S2 => v = .non ∧ q (.loc S1.length) S2
/-- C(..), the new instance given up at once -/
def gMakeF (C : Addr) (n nk : Nat) (src : List Src) (dds : List D) (dsp : DSp) (ga : GA) : G D := fun ρ S q => ga ρ S fun as zs S1 => as.length = n ∧ zs.length = nk ∧ (D.unders S1.length as = true → D.unders S1.length zs = true →
  dsp (gat src (.loc S1.length :: as) dds zs) (S1 ++ [some (.obj C [] [])]) fun v S2 => v = .non ∧ ∃ ks ds, S2 = S1 ++ [some (.obj C ks ds)] ∧ D.unders S1.length ds = true ∧ q (.obj C ks ds) S1)
section
variable {X : Cx} {pos p apos : Pos} {x m qual : Str} {st : Stmt} {dvs : List V} {dds : List D} {k n : Nat} {ps ks : List Str} {dsp : DSp} {es : List Expr} {kws : List Keyword} {src : List Src} {ga : GA} {o : Expr} {go : G D} {C : Addr}
theorem d_meth {pl : Sem Bool} (F : MFn X.prog X.w X.K X.mg X.base C m qual st dvs k ps dsp) (hr : RoomG k X.A) (b : Bnd m qual st ps (n + 1) ks src dvs.length) (hd : DfV dds dvs) (ho : PE X o (tofE X.K U go)) (ha : PArgs X es kws pos ks (tof2 X.K U ga))
    (ht : eval (.Call (.Attribute o m apos) es kws pos) X.env = (do
      let ov ← eval o X.env
      standAt apos.atName
      let (f, first) ← holding [ov] (getMethod ov m pl)
      callWith pos f first (backTo pos (starEach es X.env)) (backToKw pos (keywordEach kws X.env))) := by rfl) :
    PE X (.Call (.Attribute o m apos) es kws pos) (tofE X.K U (gMeth C m n ks.length src dds dsp go ga)) := by
  refine ⟨fun pins s σ H Q I ⟨mm, S, Z, ρ, q, w, rs, h, kk⟩ => ?_⟩
  obtain ⟨f, fd, FS, hm, FO⟩ := F.ex
  obtain ⟨its, KB⟩ := kbn_of FS b
  refine PySem.W.methodCall_KW (pl := pl) (thn (ho.run pins s σ H (fun x H1 => ∃ a dx fs, x = .ref a ∧ H1 a = some (.ins C dx fs) ∧ fs.lookup m = none ∧ tof2 X.K U ga σ H1 fun vs zs H2 => vs.length = n ∧ zs.length = ks.length ∧ spOf X.K dsp (gat src (x :: vs) dvs zs) H2 Q fun _ _ _ => False) I
    (tof_in w rs h fun v1 H1 m1 d1 S1 e1 w1 r1 ⟨kf, df, h1, h2, h3⟩ => ?_)) fun u s1 ⟨x, H1, I1, rx, a, dx, fs, ex, ea, l, q⟩ => ?_) ht
  · obtain ⟨a, dx, vs, ev, hha, hlen, hrr⟩ := objOf_rep w1 r1 h1
    refine ⟨a, dx, _, ev, hha, zip_lookup_none h2, m1, S1, Z, ρ, _, w1, rs.ext e1, h3, fun vs zs H2 m2 as zd S2 e2 w2 r2 r3 h4 => ?_⟩
    exact ⟨by rw [Reps.len r2]; exact h4.1, by rw [Reps.len r3]; exact h4.2.1, m2, S2, Z, gat src (d1 :: as) dds zd, _, w2.w0, gat_reps (Reps.cons (r1.ext e2) r2) hd r3, h4.2.2, (kk.ext (e1.trans e2)).to0 w2⟩
  · subst ex
    obtain rfl : u = Value.ref a := rx
    refine getmeth_ok I1 ea F.cl hm l ?_
    refine ha.run pins s1 σ H1 _ (.ref f) [.ref a] _ I1 hm.kp q fun us ws vs zs s2 H2 I2 rv rz ⟨l1, l2, hs⟩ => ?_
    exact run_fnG FO hr KB pass0 I2 (us := .ref a :: us) (vs := .ref a :: vs) (.cons rfl rv) rz (congrArg Nat.succ l1) l2 hs
theorem spOf_len {K : PySem.W.Frag} (hl : ∀ ds S q, dsp ds S q → ds.length = ps.length) : ∀ vs H Q E, spOf K dsp vs H Q E → vs.length = ps.length := fun vs H Q E ⟨m, S, Z, ds, q, w, r, h, k⟩ => by rw [Reps.len r]; exact hl ds S q h
theorem run_makeD {P : Program} {wo : World} (M : ∃ f fd, FunS X.K "__init__" qual st dvs f fd ∧ Mk X.K C f ∧ FnG X.prog X.w X.K X.mg X.base CX0 k f fd ps (spOf X.K dsp)) (hm : X.mg x = some (.ref C)) (hr : RoomG (k + 1) X.A) (hg : Gl X x) (b : Bnd "__init__" qual st ps (n + 1) ks src dvs.length)
    (ha : PArgs X es kws pos ks (tof2 X.K U ga)) (hdb : (x == ("__debug__" : Str)) = false) {g : G D}
    (hgo : ∀ σ H Q, tofE X.K U g σ H Q → tof2 X.K U ga σ H fun vs zs H2 => vs.length = n ∧ zs.length = ks.length ∧ ∀ x dx, H2 x = none → H2 dx = none → dx ≠ x → spOf X.K dsp (gat src (.ref x :: vs) dvs zs) (upd (upd H2 dx (.own x)) x (.ins C dx [])) (fun v H3 => v = .non ∧ Q (.ref x) H3) fun _ _ _ => False) :
    PE X (.Call (.Name x p) es kws pos) (tofE X.K U g) := by
  refine ⟨fun pins s σ H Q I h => ?_⟩
  obtain ⟨f, fd, FS, MK, FO⟩ := M
  obtain ⟨its, KB⟩ := kbn_of FS b
  refine wpAny_Call_Name_kw (ld_glob I hg hm ?_ hdb)
  refine ha.run pins s σ H _ (.ref C) [] _ I MK.kp (hgo σ H Q h) fun us ws vs zs s1 H1 I1 rv rz ⟨l1, l2, hs⟩ => ?_
  exact run_makeG MK FO hr KB pass0 I1 rv rz l1 l2 hs
theorem made_in {K : PySem.W.Frag} {mm : Nat → Addr} {S : Sto} {Z : Addr → Prop} {H : Hp} {a dx : Addr} (w : Wd K U mm S Z H) (ha : H a = none) (hdx : H dx = none) (hne : dx ≠ a) :
    ∃ m', m' S.length = a ∧ Wd K U m' (S ++ [some (.obj C [] [])]) Z (upd (upd H dx (.own a)) a (.ins C dx [])) ∧ Ext mm S Z H m' (S ++ [some (.obj C [] [])]) (upd (upd H dx (.own a)) a (.ins C dx [])) := by
  obtain ⟨w1, e1, _⟩ := w.new (o := .own a) hdx
  obtain ⟨m', e0, w2, e2⟩ := w1.add (p := a) (o := .ins C dx []) (mo := .obj C [] []) (by rw [upd_ne hne.symm]; exact ha) fun m1 N1 Hv1 h1 h2 h3 => ⟨dx, [], upd_same, rfl, reps_nil⟩
  exact ⟨m', e0, w2, e1.trans e2⟩
theorem d_makeF (F : CFn X.prog X.w X.K X.mg X.base x C qual st dvs k ps dsp) (hr : RoomG (k + 1) X.A) (hg : Gl X x) (b : Bnd "__init__" qual st ps (n + 1) ks src dvs.length) (hd : DfV dds dvs) (ha : PArgs X es kws pos ks (tof2 X.K U ga)) (hdb : (x == ("__debug__" : Str)) = false := by decide) :
    PE X (.Call (.Name x p) es kws pos) (tofE X.K U (gMakeF C n ks.length src dds dsp ga)) :=
  run_makeD (P := X.prog) (wo := X.w) F.ex F.mC hr hg b ha hdb fun σ H Q ⟨mm, S, Z, ρ, q, w, rs, h, kk⟩ => ⟨mm, S, Z, ρ, _, w, rs, h, fun vs zs H2 m2 as zd S2 e2 w2 r2 r3 h4 => by
    refine ⟨by rw [Reps.len r2]; exact h4.1, by rw [Reps.len r3]; exact h4.2.1, fun a dx ha hdx hne => ?_⟩
    obtain ⟨m', e0, w3, e3⟩ := made_in (C := C) w2 ha hdx hne
    refine ⟨m', _, Z, gat src (.loc S2.length :: as) dds zd, _, w3.w0, gat_reps (Reps.cons (rep_loc e0 (by simp)) (r2.ext e3)) hd (r3.ext e3), h4.2.2 (Reps.below r2) (Reps.below r3), fun v H5 m5 d5 S5 e5 w5 r5 ⟨hv, kf, df, eS, hu, h5⟩ => ?_⟩
    subst hv
    refine ⟨r5, ?_⟩
    subst eS
    have hN : (S2 ++ [some (MO.obj C kf df)])[S2.length]? = some (some (.obj C kf df)) := by simp
    have ht : (S2 ++ [some (MO.obj C kf df)]).take S2.length = S2 := by simp
    have hle : S2.length ≤ (S2 ++ [some (MO.obj C kf df)]).length := by simp
    have w6 := w5.toWd0.take (n := S2.length) hle (by rw [ht]; exact w2.under)
    have e6 := (e3.trans e5).take (n := S2.length) (Nat.le_refl _) hle
    have r6 := w5.frozen_obj hN
    rw [ht] at w6 e6
    have em : m5 S2.length = a := by rw [e5.loc _ (by simp), e0]
    have r7 : Rep X.K m5 S2.length (vis m5 S2 Z H5) (.obj C kf df) (.ref a) := by
      have z := Rep.cut (n := S2.length) (by rw [List.length_set]; exact hle) (Rep.mono (fun _ _ => rfl) (Nat.le_refl _) (fun a o z => vis_take (n := S2.length) z) r6) (by simpa [D.under] using hu)
      rw [take_setN (Nat.le_refl _), ht, em] at z
      exact z
    exact kk.at (e2.trans e6) (w2.on e6 w6) r7 h5⟩
end
section
variable {P : Program} {w : World} {K : PySem.W.Frag} {mg : Str → Option Value} {base : Heap} {x qual : Str} {st : Stmt} {dvs : List V} {f : Addr} {fd : FuncData} {N ps : List Str} {k : Nat} {dsp : DSp}
theorem fn_body (F : FunS K x qual st dvs f fd) (S : FnScope N ps (defScope st)) (len : ∀ ds S q, dsp ds S q → ds.length = ps.length) (g : GS)
    (hbody : ∀ (cdv : Value) (A : Around) (outer : List Env) (s : Shared) (H : Hp) (E : XK), RoomG k (A.deeper (PyProof.Rows.envOfC qual (defScope st) s.heap.objs.size f cdv)) →
      PSs (cxOf CX0 P w K mg base N qual (defScope st) f cdv A outer s H E).nox (defBody st) (tofS K U0 g))
    (hread : ∀ ds S q, D.unders S.length ds = true → Sto.under S.length S = true → dsp ds S q → g { nx := fun _ S' => fin S.length q .non S', rt := fin S.length q } (startD N ds) S) : FnG P w K mg base CX0 (k + 1) f fd ps (spOf K dsp) := by
  refine FnG.by_body F S (spOf_len len) fun cdv A outer s H vs Q E hr ⟨m, St', Z, ds, q, wd, rd, hd, kk⟩ => ?_
  refine ⟨_, (hbody cdv A outer s H E hr).nox, m, St', Z, startD N ds, _, wd, relS_start rd, hread ds St' q (Reps.below rd) wd.under hd, ⟨?_, out_fin wd kk, ?_, ?_⟩⟩
  · exact fun σ' H' m' ρ' S' e' w' _ h' => out_fin wd kk .non H' m' .non S' e' w' rep_non h'
  · exact fun _ _ _ _ _ _ _ _ h => h.elim
  · exact fun _ _ _ _ _ _ _ _ h => h.elim
end
end Dl
namespace Dl
open PySem L2
def seqOf (S : Sto) : D → Option (List D)
  | .lst ds => some ds
  | .ksq ds => some ds
  | .tup ds => some ds
  | .loc n => match S[n]? with
    | some (some (.lst ds)) => some ds
    | _ => none
  | _ => none
def D.isTup : D → Bool
  | .tup _ => true
  | _ => false
theorem loc_lst {S : Sto} {n : Nat} {ds : List D} (h : seqOf S (.loc n) = some ds) : S[n]? = some (some (.lst ds)) := by
  rw [seqOf] at h
  cases hS : S[n]? with
  | none => rw [hS] at h; cases h
  | some o =>
    cases o with
    | none => rw [hS] at h; cases h
    | some o =>
      cases o with
      | lst _ => rw [hS] at h; cases h; rfl
      | obj _ _ _ => rw [hS] at h; cases h
      | dic _ _ => rw [hS] at h; cases h
      | dicT _ _ => rw [hS] at h; cases h
      | lck _ _ _ _ => rw [hS] at h; cases h
      | lckT _ _ _ _ => rw [hS] at h; cases h
theorem seqOf_rep {K : PySem.W.Frag} {m : Nat → Addr} {S : Sto} {Z : Addr → Prop} {H : Hp} {d : D} {v : V} {ds : List D} (w : Wd K U m S Z H) (r : Rep K m S.length (vis m S Z H) d v) (h : seqOf S d = some ds) :
    ∃ a vs, v = .ref a ∧ Reps K m S.length (vis m S Z H) ds vs ∧ (d.isTup = true → SqT K H a vs) ∧ (d.isTup = false → SqL K H a vs) := by
  cases d with
  | lst ds' => cases h; rw [Rep] at r; obtain ⟨a, vs, e, h1, h2⟩ := r; exact ⟨a, vs, e, h2, fun z => (by cases z), fun _ => SqL.of (vis_sub h1)⟩
  | ksq ds' => cases h; rw [Rep] at r; obtain ⟨a, vs, e, h1, h2⟩ := r; exact ⟨a, vs, e, h2, fun z => (by cases z), fun _ => SqL.sub vis_le h1⟩
  | tup ds' => cases h; rw [Rep] at r; obtain ⟨a, vs, e, h1, h2⟩ := r; exact ⟨a, vs, e, h2, fun _ => SqT.sub vis_le h1, fun z => (by cases z)⟩
  | loc n =>
    rw [Rep] at r
    obtain ⟨vs, h1, h2⟩ := w.rep n _ (loc_lst h)
    exact ⟨m n, vs, r.1, h2, fun z => (by cases z), fun _ => SqL.of h1⟩
  | non => cases h
  | bl _ => cases h
  | int _ => cases h
  | str _ => cases h
  | obj _ _ _ => cases h
  | dic _ _ => cases h
  | ref _ => cases h
  | ty _ => cases h
  | exc _ _ _ => cases h
theorem Rep.lt {K : PySem.W.Frag} {m m' : Nat → Addr} {S S' : Sto} {Z Z' : Addr → Prop} {H H' : Hp} {d : D} {v : V} (e : Lt m S Z H m' S' Z' H') (r : Rep K m S.length (vis m S Z H) d v) : Rep K m' S'.length (vis m' S' Z' H') d v := Rep.mono e.loc e.len e.vis r
theorem Reps.lt {K : PySem.W.Frag} {m m' : Nat → Addr} {S S' : Sto} {Z Z' : Addr → Prop} {H H' : Hp} {d : List D} {v : List V} (e : Lt m S Z H m' S' Z' H') (r : Reps K m S.length (vis m S Z H) d v) : Reps K m' S'.length (vis m' S' Z' H') d v := Reps.mono e.loc e.len e.vis r
def rngD (lo : Int) (n : Nat) : List D := (List.range n).map fun i => .int (lo + ((i : Nat) : Int))
def gRng1 (ga : G (List D)) : GI := fun ρ S q => ga ρ S fun as S1 => ∃ j : Int, as = [.int j] ∧ -(2 ^ 62) ≤ j ∧ j < 2 ^ 62 ∧ q (rngD 0 j.toNat) (fun _ => True) S1
def gRng2 (ga : G (List D)) : GI := fun ρ S q => ga ρ S fun as S1 => ∃ i j : Int, as = [.int i, .int j] ∧ (-(2 ^ 62) ≤ i ∧ i < 2 ^ 62 ∧ -(2 ^ 62) ≤ j ∧ j < 2 ^ 62) ∧ q (rngD i (j - i).toNat) (fun _ => True) S1
def signsD (x : Str) : List D := x.cps.toList.map fun c => .str ⟨#[c]⟩
def enumD (ds : List D) : List D := ds.zipIdx.map fun p => .tup [.int (p.2 : Nat), p.1]
def gEnum (ga : G (List D)) : GI := fun ρ S q => ga ρ S fun as S1 => ∃ d ds, as = [d] ∧ d.isTup = false ∧ seqOf S1 d = some ds ∧ q (enumD ds) (fun S' => seqOf S' d = some ds) S1
def zipD (ds es : List D) : List D := List.zipWith (fun a b => .tup [a, b]) ds es
def gZip (ga : G (List D)) : GI := fun ρ S q => ga ρ S fun as S1 => ∃ d e ds es, as = [d, e] ∧ d.isTup = false ∧ e.isTup = false ∧ seqOf S1 d = some ds ∧ seqOf S1 e = some es ∧ q (zipD ds es) (fun S' => seqOf S' d = some ds ∧ seqOf S' e = some es) S1
section
variable {X : Cx} {pos p tpos : Pos} {tg e e2 : Expr} {ge : G D} {ga : G (List D)}
theorem yl_list {K : PySem.W.Frag} {m : Nat → Addr} {S : Sto} {Z : Addr → Prop} {H : Hp} {d : D} {a : Addr} {ds : List D} (ht : d.isTup = false) (r : Rep K m S.length (vis m S Z H) d (.ref a)) : Yl K (Itl K a) m S Z H ds (fun S' => seqOf S' d = some ds) := by
  refine ⟨fun {_ m' S' Z' H' i} l w hc hi => ?_, fun {_ m' S' Z' H'} l w hc => ?_⟩
  · obtain ⟨a', vs, e, hr, _, hs⟩ := seqOf_rep w (r.lt l) hc
    cases e
    obtain ⟨d', hd⟩ : ∃ d', ds[i]? = some d' := ⟨ds[i], by simp [hi]⟩
    obtain ⟨v, hv, rv⟩ := Reps.get hr hd
    refine ⟨⟨vs, v, hs ht, hv⟩, fun x H2 ⟨e2, hx⟩ => ?_⟩
    subst e2
    have := hx vs (hs ht)
    rw [hv] at this; cases this
    exact ⟨d', hd, w, Ext.refl, rv⟩
  · obtain ⟨a', vs, e, hr, _, hs⟩ := seqOf_rep w (r.lt l) hc
    cases e
    exact ⟨vs, hs ht, by rw [Reps.len hr]; exact Nat.le_refl _⟩
theorem yl_tup {K : PySem.W.Frag} {m : Nat → Addr} {S : Sto} {Z : Addr → Prop} {H : Hp} {d : D} {a : Addr} {ds : List D} (ht : d.isTup = true) (r : Rep K m S.length (vis m S Z H) d (.ref a)) : Yl K (Itt K a) m S Z H ds (fun S' => seqOf S' d = some ds) := by
  refine ⟨fun {_ m' S' Z' H' i} l w hc hi => ?_, fun {_ m' S' Z' H'} l w hc => ?_⟩
  · obtain ⟨a', vs, e, hr, hs, _⟩ := seqOf_rep w (r.lt l) hc
    cases e
    obtain ⟨d', hd⟩ : ∃ d', ds[i]? = some d' := ⟨ds[i], by simp [hi]⟩
    obtain ⟨v, hv, rv⟩ := Reps.get hr hd
    refine ⟨⟨vs, v, hs ht, hv⟩, fun x H2 ⟨e2, hx⟩ => ?_⟩
    subst e2
    have := hx vs (hs ht)
    rw [hv] at this; cases this
    exact ⟨d', hd, w, Ext.refl, rv⟩
  · obtain ⟨a', vs, e, hr, hs, _⟩ := seqOf_rep w (r.lt l) hc
    cases e
    exact ⟨vs, hs ht, by rw [Reps.len hr]; exact Nat.le_refl _⟩
/-- what a for walks: a list, a tuple, a text -/
theorem pi_seq {tl : TE} (hl : PE X e tl) : PI X tg e (fun σ H R => tl σ H fun x H1 => (∃ a, x = .ref a ∧ (∃ xs, SqL X.K H1 a xs) ∧ R (Itl X.K a) H1) ∨ (∃ a, x = .ref a ∧ (∃ xs, SqT X.K H1 a xs) ∧ R (Itt X.K a) H1) ∨ ∃ z, x = .str z ∧ R (Its z) H1) := by
  refine ⟨fun pins s σ H R I h => ?_⟩
  refine thn (hl.run pins s σ H _ I h) fun v s1 ⟨x, H1, I1, r1, q1⟩ => ?_
  rcases q1 with ⟨a, e, ⟨xs, hq⟩, q⟩ | ⟨a, e, ⟨xs, hq⟩, q⟩ | ⟨z, e, q⟩
  · subst e
    cases r1
    obtain ⟨its, rv, p, hz⟩ := I1.list hq
    refine wpAny_pyIter_list p.isList ?_
    refine ⟨s1.heap.objs.size, [s1.heap.objs.size], _, _, H1, rfl, I1.kept (t' := s1.toks) fun b o e => Heap.get?_push_of_some _ e, turn_list a _, ⟨_, Heap.get?_push_size _ rfl, rfl, rfl⟩, fun b hb => ?_, q⟩
    have e : b = s1.heap.objs.size := by simpa using hb
    subst e
    exact I1.fpOk (Nat.le_refl _) (I1.hok.fresh (Nat.le_refl _))
  · subst e
    cases r1
    obtain ⟨its, rv, p, hz⟩ := I1.tuple hq
    refine wpAny_pyIter_tuple (show s1.heap.IsTuple a its.toArray from p) ?_
    refine ⟨s1.heap.objs.size, [s1.heap.objs.size], _, _, H1, rfl, I1.kept (t' := s1.toks) fun b o e => Heap.get?_push_of_some _ e, turn_tuple a _, ⟨_, Heap.get?_push_size _ rfl, rfl, rfl⟩, fun b hb => ?_, q⟩
    have e : b = s1.heap.objs.size := by simpa using hb
    subst e
    exact I1.fpOk (Nat.le_refl _) (I1.hok.fresh (Nat.le_refl _))
  · subst e
    obtain ⟨t, rfl⟩ := r1
    cases ha : z.cps.all (· < 128)
    · exact wpAny_pyIter_wide ha (pi_one (tk := s1.toks) I1 _ (turn_str _ z t "str_iterator" (.inr rfl)) ⟨_, Heap.get?_push_size _ rfl, rfl, rfl⟩ q)
    · exact wpAny_pyIter_ascii ha (pi_one (tk := s1.toks) I1 _ (turn_str _ z t "str_ascii_iterator" (.inl rfl)) ⟨_, Heap.get?_push_size _ rfl, rfl, rfl⟩ q)
def gIt (ge : G D) : GI := fun ρ S q => ge ρ S fun d S1 => match d with
  | .str x => q (signsD x) (fun _ => True) S1
  | d => ∃ ds, seqOf S1 d = some ds ∧ q ds (fun S' => seqOf S' d = some ds) S1
theorem di_seq (h : PE X e (tofE X.K U ge)) : PI X tg e (tofI X.K U (gIt ge)) :=
  weakI (pi_seq h) fun σ H R ⟨m, S, Z, ρ, q, w, rs, h, k⟩ => tof_in w rs h fun v1 H1 m1 d1 S1 e1 w1 r1 h1 => by
    have go : ∀ ds, seqOf S1 d1 = some ds → q ds (fun S' => seqOf S' d1 = some ds) S1 → (∃ a, v1 = .ref a ∧ (∃ xs, SqL X.K H1 a xs) ∧ R (Itl X.K a) H1) ∨ (∃ a, v1 = .ref a ∧ (∃ xs, SqT X.K H1 a xs) ∧ R (Itt X.K a) H1) ∨ ∃ z, v1 = .str z ∧ R (Its z) H1 := fun ds hq hk => by
      obtain ⟨a, vs, e, hr, ht, hl⟩ := seqOf_rep w1 r1 hq
      subst e
      cases hd : d1.isTup with
      | false => exact .inl ⟨a, rfl, ⟨vs, hl hd⟩, k _ _ _ _ _ _ e1 w1 (yl_list hd r1) hk⟩
      | true => exact .inr (.inl ⟨a, rfl, ⟨vs, ht hd⟩, k _ _ _ _ _ _ e1 w1 (yl_tup hd r1) hk⟩)
    cases d1 with
    | str x =>
      have r1' : Rep X.K m1 S1.length (vis m1 S1 Z H1) (.str x) v1 := r1
      rw [Rep] at r1'
      refine .inr (.inr ⟨x, r1', k _ _ _ _ _ _ e1 w1 ⟨fun {_ m' S' Z' H' i} l w hc hi => ?_, fun {_ m' S' Z' H'} l w hc => ?_⟩ h1⟩)
      · have hi' : i < x.cps.size := by simpa [signsD] using hi
        refine ⟨hi', fun y H2 ⟨e2, c, hc, ey⟩ => ?_⟩
        subst e2 ey
        refine ⟨.str ⟨#[c]⟩, ?_, w, Ext.refl, rep_str⟩
        unfold signsD
        rw [List.getElem?_map, Array.getElem?_toList, hc]
        rfl
      · show x.cps.size ≤ (signsD x).length
        simp [signsD]
    | lst _ => obtain ⟨ds, hq, hk⟩ := h1; exact go ds hq hk
    | ksq _ => obtain ⟨ds, hq, hk⟩ := h1; exact go ds hq hk
    | tup _ => obtain ⟨ds, hq, hk⟩ := h1; exact go ds hq hk
    | loc _ => obtain ⟨ds, hq, hk⟩ := h1; exact go ds hq hk
    | non => obtain ⟨ds, hq, hk⟩ := h1; cases hq
    | bl _ => obtain ⟨ds, hq, hk⟩ := h1; cases hq
    | int _ => obtain ⟨ds, hq, hk⟩ := h1; cases hq
    | obj _ _ _ => obtain ⟨ds, hq, hk⟩ := h1; cases hq
    | dic _ _ => obtain ⟨ds, hq, hk⟩ := h1; cases hq
    | ref _ => obtain ⟨ds, hq, hk⟩ := h1; cases hq
    | ty _ => obtain ⟨ds, hq, hk⟩ := h1; cases hq
    | exc _ _ _ => obtain ⟨ds, hq, hk⟩ := h1; cases hq
theorem yl_rng {K : PySem.W.Frag} {m : Nat → Addr} {S : Sto} {Z : Addr → Prop} {H : Hp} {lo : Int} {n : Nat} : Yl K (Itr lo n) m S Z H (rngD lo n) (fun _ => True) := by
  have len : (rngD lo n).length = n := by simp [rngD]
  refine ⟨fun {_ m' S' Z' H' i} l w hc hi => ?_, fun {_ m' S' Z' H'} l w hc => ?_⟩
  · rw [len] at hi
    refine ⟨hi, fun y H2 ⟨e2, ey⟩ => ?_⟩
    subst e2 ey
    exact ⟨.int (lo + (i : Int)), by unfold rngD; rw [List.getElem?_map, List.getElem?_range hi]; rfl, w, Ext.refl, rep_int⟩
  · show n ≤ (rngD lo n).length
    rw [len]
    exact Nat.le_refl _
theorem reps1 {K : PySem.W.Frag} {m : Nat → Addr} {N : Nat} {Hv : Hp} {d : D} {vs : List V} (r : Reps K m N Hv [d] vs) : ∃ v, vs = [v] ∧ Rep K m N Hv d v := by
  obtain ⟨v, q, e, r1, r2⟩ := r
  exact ⟨v, by rw [e, show q = [] from r2], r1⟩
theorem reps2 {K : PySem.W.Frag} {m : Nat → Addr} {N : Nat} {Hv : Hp} {d d' : D} {vs : List V} (r : Reps K m N Hv [d, d'] vs) : ∃ v v', vs = [v, v'] ∧ Rep K m N Hv d v ∧ Rep K m N Hv d' v' := by
  obtain ⟨v, q, e, r1, r2⟩ := r
  obtain ⟨v', e', r'⟩ := reps1 r2
  exact ⟨v, v', by rw [e, e'], r1, r'⟩
theorem di_rng1 {a : Expr} (hg : Gl X "range") (hm : X.mg "range" = none) (ha : PA X [a] (tofA X.K U ga)) (hs : starEach [a] X.env = [(false, eval a X.env)] := by rfl) : PI X tg (.Call (.Name "range" p) [a] [] pos) (tofI X.K U (gRng1 ga)) :=
  weakI (pi_range1 hg hm ha hs) fun σ H R ⟨m, S, Z, ρ, q, w, rs, h, k⟩ => tof_in w rs h fun v1 H1 m1 d1 S1 e1 w1 r1 ⟨j, ed, h1, h2, h3⟩ => by
    subst ed
    obtain ⟨v, ev, rv⟩ := reps1 r1
    rw [Rep] at rv
    exact ⟨j, by rw [ev, rv], h1, h2, k _ _ _ _ _ _ e1 w1 yl_rng h3⟩
theorem di_zip {elts : List Expr} {kk : Nat} (hg : Gl X "zip") (hm : X.mg "zip" = none) (ha : PA X [e, e2] (tofA X.K U ga))
    (hs : starEach [e, e2] X.env = (false, eval e X.env) :: starEach [e2] X.env := by rfl) (hpl : (backTo pos (starEach [e2] X.env)).any (·.1) = false := by rfl) : PI X (.Tuple elts kk tpos) (.Call (.Name "zip" p) [e, e2] [] pos) (tofI X.K U (gZip ga)) :=
  weakI (pi_zip hg hm ha hs hpl) fun σ H R ⟨m, S, Z, ρ, q, w, rs, h, k⟩ => tof_in w rs h fun v1 H1 m1 d1 S1 e1 w1 r1 ⟨d, e, ds, es, ed, hd, he, hq, hq2, h1⟩ => by
    subst ed
    obtain ⟨v, v', ev, rv, rv'⟩ := reps2 r1
    obtain ⟨a, vs, ea, hr, _, hl⟩ := seqOf_rep w1 rv hq
    obtain ⟨b, ws, eb, hr2, _, hl2⟩ := seqOf_rep w1 rv' hq2
    subst ea eb
    refine ⟨a, b, vs, ws, ev, hl hd, hl2 he, k _ _ _ _ _ _ e1 w1 ⟨fun {_ m' S' Z' H' i} l w hc hi => ?_, fun {_ m' S' Z' H'} l w hc => ?_⟩ h1⟩
    · obtain ⟨a', vs', e', hr', _, hl'⟩ := seqOf_rep w (rv.lt l) hc.1
      obtain ⟨b', ws', e'', hr'', _, hl''⟩ := seqOf_rep w (rv'.lt l) hc.2
      cases e'
      cases e''
      have hi' : i < ds.length ∧ i < es.length := by
        have z : i < min ds.length es.length := by simpa [zipD] using hi
        omega
      obtain ⟨d', hd'⟩ : ∃ d', ds[i]? = some d' := ⟨ds[i]'hi'.1, by simp [hi'.1]⟩
      obtain ⟨f', hf'⟩ : ∃ f', es[i]? = some f' := ⟨es[i]'hi'.2, by simp [hi'.2]⟩
      obtain ⟨u, hu, ru⟩ := Reps.get hr' hd'
      obtain ⟨u', hu', ru'⟩ := Reps.get hr'' hf'
      refine ⟨⟨vs', ws', u, u', hl' hd, hl'' he, hu, hu'⟩, fun x H2 ⟨T, x', y', ex, hT, eH, hx, hy⟩ => ?_⟩
      have := hx vs' (hl' hd)
      rw [hu] at this; cases this
      have := hy ws' (hl'' he)
      rw [hu'] at this; cases this
      subst ex eH
      obtain ⟨w3, e3, hv3⟩ := w.new (o := .tup [u, u']) hT
      refine ⟨.tup [d', f'], ?_, w3, e3, rep_tup (SqT.of hv3) (Reps.cons (ru.ext e3) (Reps.one (ru'.ext e3)))⟩
      unfold zipD
      rw [List.getElem?_zipWith, hd', hf']
    · obtain ⟨a', vs', e', hr', _, hl'⟩ := seqOf_rep w (rv.lt l) hc.1
      obtain ⟨b', ws', e'', hr'', _, hl''⟩ := seqOf_rep w (rv'.lt l) hc.2
      cases e'
      cases e''
      refine ⟨vs', ws', hl' hd, hl'' he, ?_⟩
      rw [Reps.len hr', Reps.len hr'']
      simp only [zipD, List.length_zipWith]
      omega
end
def wipeD (ρ : Env_) : List Nat → Env_
  | [] => ρ
  | v :: vs => (wipeD ρ vs).set v none
theorem relS_wipe {K : PySem.W.Frag} {m : Nat → Addr} {N : Nat} {Hv : Hp} {ρ : Env_} {σ : L2.St} (r : RelS K m N Hv ρ σ) : ∀ vs : List Nat, RelS K m N Hv (wipeD ρ vs) (wipe σ vs)
  | [] => r
  | v :: vs => by
    have ih := relS_wipe r vs
    refine ⟨by unfold wipeD wipe; rw [List.length_set, List.length_set]; exact ih.1, fun i d e => ?_⟩
    unfold wipeD at e
    by_cases h : v = i
    · subst h
      by_cases hl : v < (wipeD ρ vs).length
      · rw [List.getElem?_set_self hl] at e; cases e
      · rw [List.getElem?_eq_none_iff.mpr (by rw [List.length_set]; omega)] at e; cases e
    · rw [List.getElem?_set_ne h] at e
      obtain ⟨u, h1, h2⟩ := ih.2 i d e
      exact ⟨u, by unfold wipe; rw [List.getElem?_set_ne h]; exact h1, h2⟩
def gYes : G Bool := fun _ S q => q true S
def gLc (fz : Bool) (gi : GI) (t : Tgt) (gt : G Bool) (ge : G D) (vs : List Nat) : G D := fun ρ S q => gi ρ S fun ds chk S1 => ∃ I : Nat → List D → Sto → Prop, I 0 [] S1 ∧
  (∀ i d acc S, ds[i]? = some d → I i acc S → chk S ∧ ∃ ρ', t.bind d (wipeD ρ vs) = some ρ' ∧ gt ρ' S fun b S2 => if b = true then ge ρ' S2 fun y S3 => acc.length < sizeLine ∧ I (i + 1) (acc ++ [y]) S3 else I (i + 1) acc S2) ∧
  ∀ acc S, I ds.length acc S → chk S ∧ newL fz acc S q
theorem Wd0.hide {K : PySem.W.Frag} {m : Nat → Addr} {S : Sto} {Z : Addr → Prop} {H : Hp} (w : Wd0 K m S Z H) {p : Addr} {o : HO} (hp : H p = none) : Wd0 K m S (fun a => Z a ∨ a = p) (L2.upd H p o) ∧ Lt m S Z H m S (fun a => Z a ∨ a = p) (L2.upd H p o) := by
  obtain ⟨nz, nl⟩ := w.fresh hp
  have hv : ∀ a u, vis m S Z H a = some u → vis m S (fun a => Z a ∨ a = p) (L2.upd H p o) a = some u := fun a u h => by
    obtain ⟨z1, z2⟩ := vis_not h
    have nap : a ≠ p := ne_of_none (vis_sub h) hp
    exact vis_of (by rw [L2.upd_ne nap]; exact vis_sub h) (fun z => z.elim z1 nap) z2
  refine ⟨⟨w.inj, fun i l => ?_, fun a z => ?_, fun i x e => ?_⟩, ⟨Nat.le_refl _, fun _ _ => rfl, hv⟩⟩
  · rintro (z | z)
    · exact w.zz i l z
    · exact nl i l z
  · by_cases e : a = p
    · rw [e, L2.upd_same]; exact ⟨_, rfl⟩
    · rcases z with z | z
      · rw [L2.upd_ne e]; exact w.zh a z
      · exact absurd z e
  · exact (w.rep i x e).mono (fun _ _ => rfl) (Nat.le_refl _) hv (L2.upd_ne (nl i ⟨x, e⟩))
/-- a hidden object changes -/
theorem Wd0.hid {K : PySem.W.Frag} {m : Nat → Addr} {S : Sto} {Z : Addr → Prop} {H : Hp} (w : Wd0 K m S Z H) {p : Addr} {o : HO} (hz : Z p) : Wd0 K m S Z (L2.upd H p o) ∧ vis m S Z (L2.upd H p o) = vis m S Z H := by
  have hv : vis m S Z (L2.upd H p o) = vis m S Z H := by
    funext a
    unfold vis
    by_cases c : Z a ∨ ∃ k, Live S k ∧ m k = a
    · rw [if_pos c, if_pos c]
    · rw [if_neg c, if_neg c]
      exact upd_ne (fun q => c (.inl (q ▸ hz)))
  refine ⟨⟨w.inj, w.zz, fun a z => ?_, fun i x e => ?_⟩, hv⟩
  · by_cases e : a = p
    · rw [e, upd_same]; exact ⟨_, rfl⟩
    · rw [upd_ne e]; exact w.zh a z
  · rw [hv]
    exact (w.rep i x e).mono (fun _ _ => rfl) (Nat.le_refl _) (fun _ _ q => q) (upd_ne (fun q => w.zz i ⟨x, e⟩ (q ▸ hz)))
theorem vis_unhide {m : Nat → Addr} {S : Sto} {Z Z' : Addr → Prop} {H : Hp} (hz : ∀ a, Z a → Z' a) {a : Addr} {o : HO} (h : vis m S Z' H a = some o) : vis m S Z H a = some o := by
  obtain ⟨z1, z2⟩ := vis_not h
  exact vis_of (vis_sub h) (fun z => z1 (hz a z)) z2
theorem Wd0.unhide {K : PySem.W.Frag} {m : Nat → Addr} {S : Sto} {Z Z' : Addr → Prop} {H : Hp} (hz : ∀ a, Z a → Z' a) (w : Wd0 K m S Z' H) : Wd0 K m S Z H :=
  ⟨w.inj, fun i l z => w.zz i l (hz _ z), fun a z => w.zh a (hz a z), fun i x e => (w.rep i x e).mono (fun _ _ => rfl) (Nat.le_refl _) (fun _ _ q => vis_unhide hz q) rfl⟩
theorem Wd0.adopt {K : PySem.W.Frag} {m : Nat → Addr} {S : Sto} {Z : Addr → Prop} {H : Hp} {p : Addr} {ds : List D} {vs : List V} (nz : ¬ Z p) (w : Wd0 K m S (fun a => Z a ∨ a = p) H) (hp : H p = some (.lst vs)) (r : Reps K m S.length (vis m S (fun a => Z a ∨ a = p) H) ds vs) :
    ∃ m', m' S.length = p ∧ Wd0 K m' (S ++ [some (.lst ds)]) Z H ∧ (∀ i, i < S.length → m' i = m i) ∧ ∀ a u, vis m S (fun a => Z a ∨ a = p) H a = some u → vis m' (S ++ [some (.lst ds)]) Z H a = some u := by
  let m' : Nat → Addr := fun i => if i = S.length then p else m i
  have e0 : m' S.length = p := if_pos rfl
  have e1 : ∀ i, i < S.length → m' i = m i := fun i h => if_neg (Nat.ne_of_lt h)
  have lv : ∀ i, Live (S ++ [some (MO.lst ds)]) i → (i < S.length ∧ Live S i) ∨ i = S.length := fun i ⟨x, e⟩ => by
    by_cases h : i < S.length
    · exact .inl ⟨h, x, by rw [List.getElem?_append_left h] at e; exact e⟩
    · right
      have := (List.getElem?_eq_some_iff.mp e).1
      rw [List.length_append, List.length_singleton] at this
      omega
  have nl : ∀ i, Live S i → m i ≠ p := fun i l e => w.zz i l (.inr e)
  have hv : ∀ a u, vis m S (fun a => Z a ∨ a = p) H a = some u → vis m' (S ++ [some (.lst ds)]) Z H a = some u := fun a u h => by
    obtain ⟨z1, z2⟩ := vis_not h
    refine vis_of (vis_sub h) (fun z => z1 (.inl z)) fun n l => ?_
    rcases lv n l with ⟨hn, l⟩ | rfl
    · rw [e1 n hn]; exact z2 n l
    · rw [e0]; exact fun q => z1 (.inr q.symm)
  have len : (S ++ [some (MO.lst ds)]).length = S.length + 1 := by simp
  refine ⟨m', e0, ⟨fun i j li lj e => ?_, fun i li => ?_, fun a z => w.zh a (.inl z), fun i x e => ?_⟩, e1, hv⟩
  · rcases lv i li with ⟨hi, li⟩ | rfl <;> rcases lv j lj with ⟨hj, lj⟩ | rfl
    · rw [e1 i hi, e1 j hj] at e; exact w.inj i j li lj e
    · rw [e1 i hi, e0] at e; exact absurd e (nl i li)
    · rw [e0, e1 j hj] at e; exact absurd e.symm (nl j lj)
    · rfl
  · rcases lv i li with ⟨hi, li⟩ | rfl
    · rw [e1 i hi]; exact fun z => w.zz i li (.inl z)
    · rw [e0]; exact nz
  · rw [len]
    rcases lv i ⟨x, e⟩ with ⟨hi, li⟩ | rfl
    · rw [List.getElem?_append_left hi] at e
      exact (w.rep i x e).mono e1 (Nat.le_succ _) hv (by rw [e1 i hi])
    · rw [List.getElem?_append_right (Nat.le_refl _), Nat.sub_self, List.getElem?_cons_zero] at e
      cases e
      exact ⟨vs, by rw [e0]; exact hp, Reps.mono e1 (Nat.le_succ _) hv r⟩
section
variable {K : PySem.W.Frag} {gi : GI} {t : Tgt} {gt : G Bool} {ge : G D} {vs : List Nat} {fz : Bool}
theorem lc_in (hsub : ∀ i ∈ t.slots, i ∈ vs) {σ : L2.St} {H : Hp} {Q : VK} (h : tofE K U (gLc fz gi t gt ge vs) σ H Q) : tLc (tofI K U gi) (t.gof K) (tofB K U0 gt) (tofE K U0 ge) vs σ H Q := by
  obtain ⟨m, S, Z, ρ, q, w, rs, h, k⟩ := h
  refine ⟨m, S, Z, ρ, _, w, rs, h, fun J H1 m1 S1 ds chk e1 w1 Y ⟨I, h0, hstep, hend⟩ p hp => ?_⟩
  obtain ⟨nz, nl⟩ := w1.fresh hp
  obtain ⟨w1', l1⟩ := w1.toWd0.hide (o := .lst []) hp
  let Z' : Addr → Prop := fun a => Z a ∨ a = p
  have hzp : Z' p := .inr rfl
  have hz1 : ∀ a, Z a → upd H1 p (.lst []) a = H1 a := fun a z => upd_ne (fun e => nz (e ▸ z))
  refine ⟨fun i n H' => n = ds.length - i ∧ i ≤ ds.length ∧ ∃ m' S' acc av, Lt m1 S1 Z H1 m' S' Z' H' ∧ (∀ a, Z a → H' a = H1 a) ∧ Wd K U0 m' S' Z' H' ∧ H' p = some (.lst av) ∧ Reps K m' S'.length (vis m' S' Z' H') acc av ∧ I i acc S',
    ⟨ds.length, by simp, Nat.zero_le _, m1, S1, [], [], l1, hz1, w1'.u0, upd_same, reps_nil, h0⟩, ?_⟩
  rintro i n H2 ⟨rfl, hi2, m2, S2, acc, av, l2, z2, w2, hp2, ra, I2⟩
  by_cases hlt : i < ds.length
  · right
    obtain ⟨d, hd⟩ : ∃ d, ds[i]? = some d := ⟨ds[i], by simp [hlt]⟩
    obtain ⟨hchk, ρ3, hbind, hbody⟩ := hstep i d acc S2 hd I2
    obtain ⟨g1, g2⟩ := Y.go l2 w2 hchk hlt
    refine ⟨g1, fun H' => ∃ m' S' acc av, Lt m1 S1 Z H1 m' S' Z' H' ∧ (∀ a, Z a → H' a = H1 a) ∧ Wd K U0 m' S' Z' H' ∧ H' p = some (.lst av) ∧ Reps K m' S'.length (vis m' S' Z' H') acc av ∧ I (i + 1) acc S', fun H' hN => ⟨ds.length - (i + 1), by omega, rfl, hlt, hN⟩, fun x H3 hy => ?_⟩
    obtain ⟨d', hd', w3, e3, r3⟩ := g2 x H3 hy
    rw [hd] at hd'; cases hd'
    have rs2 : RelS K m2 S2.length (vis m2 S2 Z' H2) ρ σ := by
      have z := rs.ext e1
      exact ⟨z.1, fun i d h => let ⟨v, h1, h2⟩ := z.2 i d h; ⟨v, h1, h2.lt l2⟩⟩
    refine Tgt.ok (vs := vs) vis_le hbind r3 (relS_wipe (rs2.ext e3) vs) fun σ4 rs4 hw4 => ⟨?_, ?_⟩
    · rw [hw4 hsub, wipe_wipe vs fun v hv => hv]
    · have lt_of : ∀ {m' S' H'}, Ext m2 S2 Z' H2 m' S' H' → Lt m1 S1 Z H1 m' S' Z' H' ∧ (∀ a, Z a → H' a = H1 a) := fun {m' S' H'} e => ⟨⟨Nat.le_trans l2.len e.len, fun i hi => (e.loc i (Nat.lt_of_lt_of_le hi l2.len)).trans (l2.loc i hi), fun a o q => e.vis a o (l2.vis a o q)⟩, fun a z => (e.zed a (.inl z)).trans (z2 a z)⟩
      refine tof_in w3 rs4 hbody fun b H4 m4 b' S4 e4 w4 hb h4 => ?_
      cases (show b' = b from hb)
      cases b with
      | true =>
        refine tof_in w4 (rs4.ext e4) h4 fun y H5 m5 dy S5 e5 w5 ry h5 => ?_
        have e25 := (e3.trans e4).trans e5
        have hp5 : H5 p = some (.lst av) := (e25.zed p hzp).trans hp2
        obtain ⟨w6, hv6⟩ := w5.toWd0.hid (o := .lst (av ++ [y])) hzp
        obtain ⟨l5, z5⟩ := lt_of e25
        refine ⟨av, hp5, by rw [Reps.len ra]; exact h5.1, m5, S5, acc ++ [dy], av ++ [y], ⟨l5.len, l5.loc, fun a o q => by rw [hv6]; exact l5.vis a o q⟩, fun a z => (upd_ne (show a ≠ p from fun e => nz (e ▸ z))).trans (z5 a z), w6.u0, upd_same, ?_, h5.2⟩
        rw [hv6]
        exact (ra.ext e25).append (Reps.one ry)
      | false =>
        have e24 := e3.trans e4
        obtain ⟨l4, z4⟩ := lt_of e24
        exact ⟨m4, S4, acc, av, l4, z4, w4, (e24.zed p hzp).trans hp2, ra.ext e24, h4⟩
  · left
    have ei : i = ds.length := by omega
    subst ei
    obtain ⟨hchk, hnew⟩ := hend acc S2 I2
    refine ⟨Y.stop l2 w2 hchk, ?_⟩
    cases fz with
    | true =>
      have wu : Wd0 K m2 S2 Z H2 := Wd0.unhide (fun a z => .inl z) w2.toWd0
      have eu : Ext m1 S1 Z H1 m2 S2 H2 := ⟨l2.len, l2.loc, fun a o q => vis_unhide (fun a z => .inl z) (l2.vis a o q), z2⟩
      refine k.at (e1.trans eu) (w1.on eu wu) (rep_lst (vis_of hp2 nz fun n l e => w2.zz n l (.inr e)) (Reps.mono (fun _ _ => rfl) (Nat.le_refl _) (fun a o q => vis_unhide (fun a z => .inl z) q) ra)) hnew
    | false =>
      obtain ⟨m3, e0, w3, em, hv3⟩ := Wd0.adopt nz w2.toWd0 hp2 ra
      have eu : Ext m1 S1 Z H1 m3 (S2 ++ [some (.lst acc)]) H2 := ⟨by rw [List.length_append]; exact Nat.le_trans l2.len (Nat.le_add_right _ _), fun i hi => (em i (Nat.lt_of_lt_of_le hi l2.len)).trans (l2.loc i hi), fun a o q => hv3 a o (l2.vis a o q), z2⟩
      exact k.at (e1.trans eu) (w1.on eu w3) (rep_loc e0 (by simp)) hnew
end
section
variable {X : Cx} {elt tg iter c : Expr} {ifs : List Expr} {scope : Scope} {own : List (Str × Nat)} {pos spos : Pos} {gi : GI} {t : Tgt} {gt : G Bool} {ge : G D}
theorem dt_nil : PTs X [] (tofB X.K U gYes) := ⟨fun pins s σ H Q I ⟨m, S, Z, ρ, q, w, rs, h, k⟩ => (pts_nil (X := X)).run pins s σ H Q I (k.now w rfl h)⟩
theorem dt_one (h : PT X c (tofB X.K U gt)) : PTs X [c] (tofB X.K U gt) := pts_one h
theorem d_lc (fz : Bool) (hc : X.calm = true) (hN : X.N.Nodup) (hi : PI X tg iter (tofI X.K U gi)) (ok : BlkOk X.N X.env.scope scope own) (hsub : ∀ i ∈ t.slots, i ∈ own.map (·.2))
    (hg : ∀ (s : Shared) (H : Hp) (C : Addr) (cl : List (Str × Addr)) (fp : List Addr), PG (X.blk s H scope (compEnvC scope cl C X.env) fp) tg (t.gof X.K)) (ht : ∀ (s : Shared) (H : Hp) (C : Addr) (cl : List (Str × Addr)) (fp : List Addr), PTs (X.blk s H scope (compEnvC scope cl C X.env) fp) ifs (tofB X.K U0 gt))
    (he : ∀ (s : Shared) (H : Hp) (C : Addr) (cl : List (Str × Addr)) (fp : List Addr), PE (X.blk s H scope (compEnvC scope cl C X.env) fp) elt (tofE X.K U0 ge)) (hs : ∀ x, foldedSetIterable iter X.env x = pure x := by intro _; rfl) :
    PE X (.ListComp elt [⟨tg, iter, ifs, 0⟩] scope pos) (tofE X.K U (gLc fz gi t gt ge (own.map (·.2)))) :=
  weakE (pe_lc hc hN hi ok hg ht he hs) fun _ _ _ h => lc_in hsub h
/-- name = [..] -/
theorem d_setLc (fz : Bool) {i : Nat} {y : Str} {py : Pos} (hc : X.calm = true) (hN : X.N.Nodup) (hy : X.N[i]? = some y) (hyl : X.env.scope.names.lookup y = some .local)
    (hsw : swapsWith (.ListComp elt [⟨tg, iter, ifs, 0⟩] scope pos) (some (.Name y py)) spos.line X.env = pure true) (hi : PI X tg iter (tofI X.K U gi)) (ok : BlkOk X.N X.env.scope scope own) (hsub : ∀ i ∈ t.slots, i ∈ own.map (·.2))
    (hg : ∀ (s : Shared) (H : Hp) (C : Addr) (cl : List (Str × Addr)) (fp : List Addr), PG (X.blk s H scope (compEnvC scope cl C X.env) fp) tg (t.gof X.K)) (ht : ∀ (s : Shared) (H : Hp) (C : Addr) (cl : List (Str × Addr)) (fp : List Addr), PTs (X.blk s H scope (compEnvC scope cl C X.env) fp) ifs (tofB X.K U0 gt))
    (he : ∀ (s : Shared) (H : Hp) (C : Addr) (cl : List (Str × Addr)) (fp : List Addr), PE (X.blk s H scope (compEnvC scope cl C X.env) fp) elt (tofE X.K U0 ge)) (hs : ∀ x, foldedSetIterable iter X.env x = pure x := by intro _; rfl) :
    PS X (.Assign [.Name y py] (.ListComp elt [⟨tg, iter, ifs, 0⟩] scope pos) spos) (tofS X.K U (gSet i (gLc fz gi t gt ge (own.map (·.2))))) :=
  weakS (ps_setLc hc hN hy hyl hsw hi ok hg ht he hs) fun E σ H ⟨m, S, Z, ρ, D, w, rs, h, k⟩ => lc_in hsub (tof_in w rs h fun v1 H1 m1 d1 S1 e1 w1 r1 h1 => k.nx.at e1 w1 ((rs.ext e1).set r1) h1)
end
end Dl
namespace Dl
open PySem L2
abbrev rIntA : List V → Hp → VK → Prop := fun xs H Q => (∃ a n, xs = [.str a] ∧ PySem.intText? a = some n ∧ a.length ≤ 640 ∧ Q (.int n) H) ∨ ((∃ i, xs = [.int i] ∧ Q (.int i) H) ∨ ∃ k, xs = [.bl k] ∧ Q (.int (if k then 1 else 0)) H)
abbrev rMx2 : List V → Hp → VK → Prop := fun xs H Q => ∃ i j, xs = [.int i, .int j] ∧ Q (.int (if j > i then j else i)) H
abbrev rLstOf (K : PySem.W.Frag) : List V → Hp → VK → Prop := fun xs H Q => ∃ p ys, xs = [.ref p] ∧ (SqL K H p ys ∨ SqT K H p ys) ∧ ∀ l, H l = none → Q (.ref l) (upd H l (.lst ys))
abbrev showI (i : Int) : Str := ((toString i : String) : Str)
section
variable {K : PySem.W.Frag}
def aI2 (C : Int → Int → Prop) (f : Int → Int → D) : R2D := fun a b S q => ∃ i j, a = .int i ∧ b = .int j ∧ C i j ∧ q (f i j) S
theorem vr_I2 {C : Int → Int → Prop} {g : Int → Int → V} {f : Int → Int → D} (hf : ∀ m N Hv i j, Rep K m N Hv (f i j) (g i j)) : VR2 K (rI C g) (aI2 C f) := fun w r1 r2 ⟨i, j, e1, e2, h1, h2⟩ k => by
  subst e1 e2
  rw [Rep] at r1 r2
  exact ⟨i, j, r1, r2, h1, k.now w (hf _ _ _ _ _) h2⟩
theorem vr_I20 {g : Int → Int → V} {f : Int → Int → D} (hf : ∀ m N Hv i j, Rep K m N Hv (f i j) (g i j)) : VR2 K (rI0 g) (aI2 (fun _ _ => True) f) := fun w r1 r2 ⟨i, j, e1, e2, h1, h2⟩ k => by
  subst e1 e2
  rw [Rep] at r1 r2
  exact ⟨i, j, r1, r2, k.now w (hf _ _ _ _ _) h2⟩
def listOf (S : Sto) : D → Option (List D)
  | .lst ds => some ds
  | .loc n => match S[n]? with
    | some (some (.lst ds)) => some ds
    | _ => none
  | _ => none
theorem listOf_rep {m : Nat → Addr} {S : Sto} {Z : Addr → Prop} {H : Hp} {d : D} {v : V} {ds : List D} (w : Wd K U m S Z H) (r : Rep K m S.length (vis m S Z H) d v) (h : listOf S d = some ds) :
    ∃ a vs, v = .ref a ∧ H a = some (.lst vs) ∧ Reps K m S.length (vis m S Z H) ds vs := by
  cases d with
  | lst ds' => cases h; rw [Rep] at r; obtain ⟨a, vs, e, h1, h2⟩ := r; exact ⟨a, vs, e, vis_sub h1, h2⟩
  | loc n =>
    rw [Rep] at r
    obtain ⟨vs, h1, h2⟩ := w.rep n _ (loc_lst h)
    exact ⟨m n, vs, r.1, h1, h2⟩
  | non => cases h
  | bl _ => cases h
  | int _ => cases h
  | str _ => cases h
  | tup _ => cases h
  | ksq _ => cases h
  | obj _ _ _ => cases h
  | dic _ _ => cases h
  | ref _ => cases h
  | ty _ => cases h
  | exc _ _ _ => cases h
def aAdd (fz : Bool) : R2D := fun a b S q => match a, b with
  | .int i, .int j => q (.int (i + j)) S
  | .str x, .str y => x.length + y.length ≤ sizeLine ∧ q (.str (x ++ y)) S
  | .tup xs, .tup ys => xs.length + ys.length ≤ sizeLine ∧ q (.tup (xs ++ ys)) S
  | a, b => ∃ xs ys, listOf S a = some xs ∧ listOf S b = some ys ∧ xs.length + ys.length ≤ sizeLine ∧ newL fz (xs ++ ys) S q
abbrev rAddA (K : PySem.W.Frag) : R2 := fun x y H Q => rI0 (fun i j => .int (i + j)) x y H Q ∨ (∃ i j, x = .str i ∧ y = .str j ∧ i.length + j.length ≤ sizeLine ∧ Q (.str (i ++ j)) H) ∨ rCatA K x y H Q ∨ rCat x y H Q
theorem or_add {X : Cx} : OpR X (binaryOp .Add) (rAddA X.K) := op_add.or (op_add_str.or (op_catA.or op_cat))
theorem vr_add {fz : Bool} : VR2 K (rAddA K) (aAdd fz) := fun {_ m S Z H a b v u q Q} w r1 r2 h k => by
  have lists : (∃ xs ys, listOf S a = some xs ∧ listOf S b = some ys ∧ xs.length + ys.length ≤ sizeLine ∧ newL fz (xs ++ ys) S q) → rAddA K v u H Q := fun ⟨xs, ys, h1, h2, h3, h4⟩ => by
    obtain ⟨a1, vs, e1, hh1, q1⟩ := listOf_rep w r1 h1
    obtain ⟨a2, us, e2, hh2, q2⟩ := listOf_rep w r2 h2
    exact .inr (.inr (.inr ⟨a1, a2, vs, us, e1, e2, hh1, hh2, by rw [Reps.len q1, Reps.len q2]; exact h3, fun p hp => out_newL w (q1.append q2) h4 k hp⟩))
  cases a <;> cases b <;> first
    | (rw [Rep] at r1 r2; exact .inl ⟨_, _, r1, r2, k.now w rep_int h⟩)
    | (rw [Rep] at r1 r2; exact .inr (.inl ⟨_, _, r1, r2, h.1, k.now w rep_str h.2⟩))
    | exact lists h
    | skip
  case tup.tup xs ys =>
    rw [Rep] at r1 r2
    obtain ⟨a1, vs, e1, s1, q1⟩ := r1
    obtain ⟨a2, us, e2, s2, q2⟩ := r2
    subst e1 e2
    have l1 := Reps.len q1
    have l2 := Reps.len q2
    refine .inr (.inr (.inl ⟨a1, a2, vs, us, rfl, rfl, SqT.sub vis_le s1, SqT.sub vis_le s2, by rw [l1, l2]; exact h.1, fun e => ?_, fun _ e => ?_, fun _ _ p hp => ?_⟩))
    · subst e
      have e' : xs = [] := List.eq_nil_of_length_eq_zero (by simpa using l1.symm)
      subst e'
      exact k.now w (rep_tup s2 q2) h.2
    · subst e
      have e' : ys = [] := List.eq_nil_of_length_eq_zero (by simpa using l2.symm)
      subst e'
      have h2 := h.2
      rw [List.append_nil] at h2
      exact k.now w (rep_tup s1 q1) h2
    · exact out_newT w (q1.append q2) h.2 k hp
def aSub : R2D := aI2 (fun _ _ => True) fun i j => .int (i - j)
theorem vr_sub : VR2 K (rI0 fun i j => .int (i - j)) aSub := vr_I20 fun _ _ _ _ _ => rep_int
def mulOk (i j : Int) : Prop := CMul i j ∨ CMulW i j
abbrev rMulA : R2 := fun x y H Q => rI CMul (fun i j => .int (i * j)) x y H Q ∨ rI CMulW (fun i j => .int (i * j)) x y H Q ∨ rRep x y H Q
theorem or_mul {X : Cx} : OpR X (binaryOp .Mult) rMulA := op_mul.or (op_mulW.or op_rep)
def aMul (fz : Bool) : R2D := fun a b S q => match a, b with
  | .int i, .int j => mulOk i j ∧ q (.int (i * j)) S
  | a, .int k => ∃ xs, listOf S a = some xs ∧ -(2 ^ 63) ≤ k ∧ k < 2 ^ 63 ∧ xs.length * k.toNat ≤ sizeLine ∧ newL fz (List.replicate k.toNat xs).flatten S q
  | _, _ => False
theorem reps_rep {m : Nat → Addr} {N : Nat} {Hv : Hp} {ds : List D} {vs : List V} (r : Reps K m N Hv ds vs) : ∀ n : Nat, Reps K m N Hv (List.replicate n ds).flatten (List.replicate n vs).flatten
  | 0 => reps_nil
  | n + 1 => by rw [List.replicate_succ, List.replicate_succ, List.flatten_cons, List.flatten_cons]; exact r.append (reps_rep r n)
theorem vr_mul {fz : Bool} : VR2 K rMulA (aMul fz) := fun {_ m S Z H a b v u q Q} w r1 r2 h k => by
  cases b with
  | int j =>
    rw [Rep] at r2
    have lists : (∃ xs, listOf S a = some xs ∧ -(2 ^ 63) ≤ j ∧ j < 2 ^ 63 ∧ xs.length * j.toNat ≤ sizeLine ∧ newL fz (List.replicate j.toNat xs).flatten S q) → rMulA v u H Q := fun ⟨xs, h1, h2, h3, h4, h5⟩ => by
      obtain ⟨a1, vs, e1, hh1, q1⟩ := listOf_rep w r1 h1
      exact .inr (.inr ⟨a1, j, vs, e1, r2, hh1, h2, h3, by rw [Reps.len q1]; exact h4, fun p hp => out_newL w (reps_rep q1 _) h5 k hp⟩)
    cases a <;> first
      | (rw [Rep] at r1
         rcases h.1 with h1 | h1
         · exact .inl ⟨_, _, r1, r2, h1, k.now w rep_int h.2⟩
         · exact .inr (.inl ⟨_, _, r1, r2, h1, k.now w rep_int h.2⟩))
      | exact lists h
  | non => cases a <;> exact False.elim h
  | bl _ => cases a <;> exact False.elim h
  | str _ => cases a <;> exact False.elim h
  | tup _ => cases a <;> exact False.elim h
  | lst _ => cases a <;> exact False.elim h
  | ksq _ => cases a <;> exact False.elim h
  | obj _ _ _ => cases a <;> exact False.elim h
  | dic _ _ => cases a <;> exact False.elim h
  | loc _ => cases a <;> exact False.elim h
  | ref _ => cases a <;> exact False.elim h
  | ty _ => cases a <;> exact False.elim h
  | exc _ _ _ => cases a <;> exact False.elim h
def divOk (i j : Int) : Prop := CDiv i j ∨ CDivW i j
def aFdiv : R2D := aI2 divOk fun i j => .int (i / j)
abbrev rDivA : R2 := fun x y H Q => rI CDiv (fun i j => .int (i / j)) x y H Q ∨ rI CDivW (fun i j => .int (i / j)) x y H Q
theorem or_fdiv {X : Cx} : OpR X (binaryOp .FloorDiv) rDivA := op_fdiv.or op_fdivW
theorem vr_fdiv : VR2 K rDivA aFdiv := fun w r1 r2 ⟨i, j, e1, e2, h1, h2⟩ k => by
  subst e1 e2
  rw [Rep] at r1 r2
  rcases h1 with h1 | h1
  · exact .inl ⟨i, j, r1, r2, h1, k.now w rep_int h2⟩
  · exact .inr ⟨i, j, r1, r2, h1, k.now w rep_int h2⟩
def aMod : R2D := aI2 (fun _ j => 0 < j) fun i j => .int (i % j)
theorem vr_mod : VR2 K (rI (fun _ j => 0 < j) fun i j => .int (i % j)) aMod := vr_I2 fun _ _ _ _ _ => rep_int
def aPow : R2D := aI2 CPow fun i j => .int (i ^ j.toNat)
theorem vr_pow : VR2 K (rI CPow fun i j => .int (i ^ j.toNat)) aPow := vr_I2 fun _ _ _ _ _ => rep_int
def aShr : R2D := aI2 (fun _ j => 0 ≤ j) fun i j => .int (i / 2 ^ j.toNat)
def aLt : R2D := aI2 (fun _ _ => True) fun i j => .bl (decide (i < j))
def aLe : R2D := aI2 (fun _ _ => True) fun i j => .bl (decide (i ≤ j))
def aGt : R2D := aI2 (fun _ _ => True) fun i j => .bl (decide (j < i))
def aGe : R2D := aI2 (fun _ _ => True) fun i j => .bl (decide (j ≤ i))
theorem vr_lt : VR2 K (rI0 fun i j => .bl (decide (i < j))) aLt := vr_I20 fun _ _ _ _ _ => rep_bl
theorem vr_le : VR2 K (rI0 fun i j => .bl (decide (i ≤ j))) aLe := vr_I20 fun _ _ _ _ _ => rep_bl
theorem vr_gt : VR2 K (rI0 fun i j => .bl (decide (j < i))) aGt := vr_I20 fun _ _ _ _ _ => rep_bl
theorem vr_ge : VR2 K (rI0 fun i j => .bl (decide (j ≤ i))) aGe := vr_I20 fun _ _ _ _ _ => rep_bl
/-- - of one int -/
def aNeg : R1D := fun a S q => ∃ i, a = .int i ∧ q (.int (-i)) S
theorem vr_neg : VR1 K (rU fun i => .int (-i)) aNeg := fun w r1 ⟨i, e1, h⟩ k => by
  subst e1
  rw [Rep] at r1
  exact ⟨i, r1, k.now w rep_int h⟩
end
mutual
def toPy : D → Option PyData
  | .non => some .none
  | .bl b => some (.bool b)
  | .int i => some (.int i)
  | .str x => some (.str x)
  | .tup ds => (toPys ds).map .tuple
  | .lst ds => (toPys ds).map .list
  | .ksq ds => (toPys ds).map .list
  | .obj _ _ _ => none
  | .dic _ _ => none
  | .loc _ => none
  | .ref _ => none
  | .ty _ => none
  | .exc _ _ _ => none
def toPys : List D → Option (List PyData)
  | [] => some []
  | d :: ds => match toPy d, toPys ds with
    | some p, some ps => some (p :: ps)
    | _, _ => none
end
def toPyS (S : Sto) : D → Option PyData
  | .loc n => match S[n]? with
    | some (some (.lst ds)) => (toPys ds).map .list
    | _ => none
  | d => toPy d
section
variable {K : PySem.W.Frag} {m : Nat → Addr} {N : Nat} {Hv : Hp}
mutual
theorem dp_of : ∀ {d : D} {v : V} {p : PyData}, Rep K m N Hv d v → toPy d = some p → Dp K Hv v p
  | .non, _, _, r, e => by rw [Rep] at r; rw [toPy] at e; cases e; rw [r]; exact .non
  | .bl _, _, _, r, e => by rw [Rep] at r; rw [toPy] at e; cases e; rw [r]; exact .bl _
  | .int _, _, _, r, e => by rw [Rep] at r; rw [toPy] at e; cases e; rw [r]; exact .int _
  | .str _, _, _, r, e => by rw [Rep] at r; rw [toPy] at e; cases e; rw [r]; exact .str _
  | .tup ds, _, _, r, e => by
    rw [Rep] at r
    rw [toPy] at e
    obtain ⟨a, vs, ev, h1, h2⟩ := r
    obtain ⟨ps, hp, rfl⟩ := Option.map_eq_some_iff.mp e
    rw [ev]
    exact .tup h1 (dps_of h2 hp)
  | .lst ds, _, _, r, e => by
    rw [Rep] at r
    rw [toPy] at e
    obtain ⟨a, vs, ev, h1, h2⟩ := r
    obtain ⟨ps, hp, rfl⟩ := Option.map_eq_some_iff.mp e
    rw [ev]
    exact .lst (SqL.of h1) (dps_of h2 hp)
  | .ksq ds, _, _, r, e => by
    rw [Rep] at r
    rw [toPy] at e
    obtain ⟨a, vs, ev, h1, h2⟩ := r
    obtain ⟨ps, hp, rfl⟩ := Option.map_eq_some_iff.mp e
    rw [ev]
    exact .lst h1 (dps_of h2 hp)
  | .obj _ _ _, _, _, _, e => by rw [toPy] at e; cases e
  | .dic _ _, _, _, _, e => by rw [toPy] at e; cases e
  | .loc _, _, _, _, e => by rw [toPy] at e; cases e
  | .ref _, _, _, _, e => by rw [toPy] at e; cases e
  | .ty _, _, _, _, e => by rw [toPy] at e; cases e
  | .exc _ _ _, _, _, _, e => by rw [toPy] at e; cases e
theorem dps_of : ∀ {ds : List D} {vs : List V} {ps : List PyData}, Reps K m N Hv ds vs → toPys ds = some ps → DpAll K Hv vs ps
  | [], _, _, r, e => by rw [Reps] at r; rw [toPys] at e; cases e; rw [r]; exact .nil
  | d :: ds, _, _, r, e => by
    rw [Reps] at r
    obtain ⟨v, q, ev, r1, r2⟩ := r
    rw [toPys] at e
    cases h1 : toPy d with
    | none => rw [h1] at e; cases e
    | some p =>
      cases h2 : toPys ds with
      | none => rw [h1, h2] at e; cases e
      | some ps =>
        rw [h1, h2] at e
        cases e
        rw [ev]
        exact .cons (dp_of r1 h1) (dps_of r2 h2)
end
mutual
theorem Dp.sub {H H' : Hp} (hh : ∀ a o, H a = some o → H' a = some o) : ∀ {v : V} {p : PyData}, Dp K H v p → Dp K H' v p
  | _, _, .non => .non
  | _, _, .bl b => .bl b
  | _, _, .int b => .int b
  | _, _, .str b => .str b
  | _, _, .lst h r => .lst (SqL.sub hh h) (DpAll.sub hh r)
  | _, _, .tup h r => .tup (SqT.sub hh h) (DpAll.sub hh r)
theorem DpAll.sub {H H' : Hp} (hh : ∀ a o, H a = some o → H' a = some o) : ∀ {v : List V} {p : List PyData}, DpAll K H v p → DpAll K H' v p
  | _, _, .nil => .nil
  | _, _, .cons h r => .cons (Dp.sub hh h) (DpAll.sub hh r)
end
theorem dpS_of {S : Sto} {Z : Addr → Prop} {H : Hp} {d : D} {v : V} {p : PyData} (w : Wd K U m S Z H) (r : Rep K m S.length (vis m S Z H) d v) (e : toPyS S d = some p) : Dp K H v p := by
  cases d with
  | loc n =>
    rw [toPyS] at e
    rw [Rep] at r
    cases hS : S[n]? with
    | none => rw [hS] at e; cases e
    | some o =>
      cases o with
      | none => rw [hS] at e; cases e
      | some o =>
        cases o with
        | lst ds =>
          rw [hS] at e
          obtain ⟨ps, hp, rfl⟩ := Option.map_eq_some_iff.mp e
          obtain ⟨vs, h1, h2⟩ := w.rep n _ hS
          rw [r.1]
          exact .lst (SqL.of h1) (DpAll.sub vis_le (dps_of h2 hp))
        | obj _ _ _ => rw [hS] at e; cases e
        | dic _ _ => rw [hS] at e; cases e
        | dicT _ _ => rw [hS] at e; cases e
        | lck _ _ _ _ => rw [hS] at e; cases e
        | lckT _ _ _ _ => rw [hS] at e; cases e
  | non => exact Dp.sub vis_le (dp_of r e)
  | bl _ => exact Dp.sub vis_le (dp_of r e)
  | int _ => exact Dp.sub vis_le (dp_of r e)
  | str _ => exact Dp.sub vis_le (dp_of r e)
  | tup _ => exact Dp.sub vis_le (dp_of r e)
  | lst _ => exact Dp.sub vis_le (dp_of r e)
  | ksq _ => exact Dp.sub vis_le (dp_of r e)
  | obj _ _ _ => exact Dp.sub vis_le (dp_of r e)
  | dic _ _ => exact Dp.sub vis_le (dp_of r e)
  | ref _ => exact Dp.sub vis_le (dp_of r e)
  | ty _ => exact Dp.sub vis_le (dp_of r e)
  | exc _ _ _ => exact Dp.sub vis_le (dp_of r e)
end
def aEq : R2D := fun a b S q => ∃ p p', toPyS S a = some p ∧ toPyS S b = some p' ∧ SeqAt.shaped p = true ∧ SeqAt.shaped p' = true ∧ q (.bl (PyData.eqv p p')) S
def aNe : R2D := fun a b S q => ∃ p p', toPyS S a = some p ∧ toPyS S b = some p' ∧ SeqAt.shaped p = true ∧ SeqAt.shaped p' = true ∧ q (.bl (!PyData.eqv p p')) S
section
variable {K : PySem.W.Frag}
theorem vr_eq : VR2 K (rEqD K) aEq := fun w r1 r2 ⟨p, p', h1, h2, h3, h4, h5⟩ k => ⟨p, p', dpS_of w r1 h1, dpS_of w r2 h2, h3, h4, k.now w rep_bl h5⟩
theorem vr_ne : VR2 K (rNeD K) aNe := fun w r1 r2 ⟨p, p', h1, h2, h3, h4, h5⟩ k => ⟨p, p', dpS_of w r1 h1, dpS_of w r2 h2, h3, h4, k.now w rep_bl h5⟩
def aInS : R2D := fun a b S q => ∃ (c : Nat) (z : Str), a = .str ⟨#[c]⟩ ∧ b = .str z ∧ q (.bl (decide (c ∈ z.cps.toList))) S
theorem vrn_of1 {r : List V → Hp → VK → Prop} {g : RND} (P : D → Sto → (D → Sto → Prop) → Prop) (hg : ∀ as S q, g as S q → ∃ d, as = [d] ∧ P d S q)
    (h : ∀ {U : Wi} {m : Nat → Addr} {S : Sto} {Z : Addr → Prop} {H : Hp} {d : D} {v : V} {q : D → Sto → Prop} {Q : VK}, Wd K U m S Z H → Rep K m S.length (vis m S Z H) d v → P d S q → Outs m S Z H K U (rD K) q Q → r [v] H Q) : VRN K r g := fun w rs hh k => by
  obtain ⟨d, e, hp⟩ := hg _ _ _ hh
  subst e
  obtain ⟨v, ev, rv⟩ := reps1 rs
  rw [ev]
  exact h w rv hp k
def a1 (P : D → Sto → (D → Sto → Prop) → Prop) : RND := fun as S q => ∃ d, as = [d] ∧ P d S q
def a2 (P : D → D → Sto → (D → Sto → Prop) → Prop) : RND := fun as S q => ∃ d e, as = [d, e] ∧ P d e S q
theorem vrn1 {r : List V → Hp → VK → Prop} {P : R1D} (h : ∀ {U : Wi} {m : Nat → Addr} {S : Sto} {Z : Addr → Prop} {H : Hp} {d : D} {v : V} {q : D → Sto → Prop} {Q : VK}, Wd K U m S Z H → Rep K m S.length (vis m S Z H) d v → P d S q → Outs m S Z H K U (rD K) q Q → r [v] H Q) : VRN K r (a1 P) :=
  vrn_of1 P (fun _ _ _ h => h) h
theorem vrn2 {r : List V → Hp → VK → Prop} {P : R2D} (h : ∀ {U : Wi} {m : Nat → Addr} {S : Sto} {Z : Addr → Prop} {H : Hp} {d e : D} {v u : V} {q : D → Sto → Prop} {Q : VK}, Wd K U m S Z H → Rep K m S.length (vis m S Z H) d v → Rep K m S.length (vis m S Z H) e u → P d e S q → Outs m S Z H K U (rD K) q Q → r [v, u] H Q) : VRN K r (a2 P) := fun w rs ⟨d, e, ed, hh⟩ k => by
  subst ed
  obtain ⟨v, u, ev, rv, ru⟩ := reps2 rs
  rw [ev]
  exact h w rv ru hh k
def aLen : R1D := fun d S q => match d with
  | .str x => x.length ≤ sizeLine ∧ q (.int x.length) S
  | d => ∃ ds, seqOf S d = some ds ∧ q (.int ds.length) S
abbrev rLenA (K : PySem.W.Frag) : List V → Hp → VK → Prop := fun xs H Q => (∃ p ys, xs = [.ref p] ∧ (SqL K H p ys ∨ SqT K H p ys) ∧ Q (.int ys.length) H) ∨ (∃ z, xs = [.str z] ∧ z.length ≤ sizeLine ∧ Q (.int z.length) H)
theorem or_len {X : Cx} : CallR X (.builtin "len") (rLenA X.K) := call_len_seq.or call_len_str
theorem seq_any {m : Nat → Addr} {S : Sto} {Z : Addr → Prop} {H : Hp} {d : D} {v : V} {ds : List D} (w : Wd K U m S Z H) (r : Rep K m S.length (vis m S Z H) d v) (h : seqOf S d = some ds) :
    ∃ a vs, v = .ref a ∧ Reps K m S.length (vis m S Z H) ds vs ∧ (SqL K H a vs ∨ SqT K H a vs) := by
  obtain ⟨a, vs, e, hr, ht, hl⟩ := seqOf_rep w r h
  refine ⟨a, vs, e, hr, ?_⟩
  cases hd : d.isTup with
  | true => exact .inr (ht hd)
  | false => exact .inl (hl hd)
theorem vr_len : VRN K (rLenA K) (a1 aLen) := vrn1 fun {_ m S Z H d v q Q} w r h k => by
  have go : (∃ ds, seqOf S d = some ds ∧ q (.int ds.length) S) → rLenA K [v] H Q := fun ⟨ds, h1, h2⟩ => by
    obtain ⟨a, vs, e, hr, hs⟩ := seq_any w r h1
    exact .inl ⟨a, vs, by rw [e], hs, k.now w (by rw [Reps.len hr]; exact rep_int) h2⟩
  cases d <;> first
    | (rw [Rep] at r; exact .inr ⟨_, by rw [r], h.1, k.now w rep_int h.2⟩)
    | exact go h
/-- str(int), int(text), int(bool), abs -/
def aStr : R1D := fun d S q => ∃ i, d = .int i ∧ i.natAbs.log2 < 1920 ∧ q (.str (showI i)) S
def aInt : R1D := fun d S q => match d with
  | .str x => ∃ n, PySem.intText? x = some n ∧ x.length ≤ 640 ∧ q (.int n) S
  | .int i => q (.int i) S
  | .bl b => q (.int (if b then 1 else 0)) S
  | _ => False
theorem vr_int : VRN K rIntA (a1 aInt) := vrn1 fun {_ m S Z H d v q Q} w r h k => by
  cases d <;> first
    | exact False.elim h
    | (rw [Rep] at r; obtain ⟨n, h1, h2, h3⟩ := h; exact .inl ⟨_, n, by rw [r], h1, h2, k.now w rep_int h3⟩)
    | (rename_i i; rw [Rep] at r; subst r; exact .inr (.inl ⟨i, rfl, k.now w rep_int h⟩))
    | (rename_i b; rw [Rep] at r; subst r; exact .inr (.inr ⟨b, rfl, k.now w rep_int h⟩))
theorem or_int {X : Cx} : CallR X (.type "int") rIntA := call_int_str.or call_int1
/-- divmod -/
def aDivmod : R2D := fun a b S q => ∃ i j, a = .int i ∧ b = .int j ∧ CDiv i j ∧ q (.tup [.int (i / j), .int (i % j)]) S
/-- max, min of two ints; of a list of ints -/
def aMax2 : R2D := fun a b S q => ∃ i j, a = .int i ∧ b = .int j ∧ q (.int (max i j)) S
def aMin2 : R2D := fun a b S q => ∃ i j, a = .int i ∧ b = .int j ∧ q (.int (min i j)) S
theorem vr_max2 : VRN K rMx2 (a2 aMax2) := vrn2 fun w r1 r2 ⟨i, j, e1, e2, h2⟩ k => by
  subst e1 e2; rw [Rep] at r1 r2
  refine ⟨i, j, by rw [r1, r2], k.now w ?_ h2⟩
  have e : (if j > i then j else i) = max i j := by by_cases h : j > i <;> simp [h] <;> omega
  rw [e]; exact rep_int
/-- list(x), tuple(x) -/
def aList (fz : Bool) : R1D := fun d S q => ∃ ds, seqOf S d = some ds ∧ newL fz ds S q
theorem vr_list {fz : Bool} : VRN K (rLstOf K) (a1 (aList fz)) := vrn1 fun w r ⟨ds, h1, h2⟩ k => by
  obtain ⟨a, vs, e, hr, hs⟩ := seq_any w r h1
  exact ⟨a, vs, by rw [e], hs, fun p hp => out_newL w hr h2 k hp⟩
/-- isinstance of a built-in class -/
def tyN (S : Sto) : D → Option String
  | .non => some "NoneType"
  | .bl _ => some "bool"
  | .int _ => some "int"
  | .str _ => some "str"
  | .tup _ => some "tuple"
  | .lst _ => some "list"
  | .loc n => match S[n]? with
    | some (some (.lst _)) => some "list"
    | some (some (.dic _ _)) => some "dict"
    | some (some (.dicT _ _)) => some "dict"
    | _ => none
  | .dic _ _ => some "dict"
  | _ => none
def isiB (a b : String) : Bool := a == b || (a == "bool" && b == "int")
def basicT : List String := ["bool", "int", "str", "tuple", "list", "dict"]
def aIsi : R2D := fun d c S q => ∃ a b, tyN S d = some a ∧ c = .ty b ∧ basicT.contains b = true ∧ q (.bl (isiB a b)) S
theorem kit_basic : ∀ a ∈ "NoneType" :: basicT, ∀ b ∈ basicT, L2.kitB a b = some (isiB a b) := by decide +kernel
theorem tyX_of {m : Nat → Addr} {S : Sto} {Z : Addr → Prop} {H : Hp} {d : D} {v : V} {a : String} (w : Wd K U m S Z H) (r : Rep K m S.length (vis m S Z H) d v) (h : tyN S d = some a) : TyX K H v (.type a) ∧ a ∈ "NoneType" :: basicT := by
  cases d with
  | non => cases h; rw [Rep] at r; rw [r]; exact ⟨.base .non, by decide⟩
  | bl _ => cases h; rw [Rep] at r; rw [r]; exact ⟨.base (.bl _), by decide⟩
  | int _ => cases h; rw [Rep] at r; rw [r]; exact ⟨.base (.int _), by decide⟩
  | str _ => cases h; rw [Rep] at r; rw [r]; exact ⟨.base (.str _), by decide⟩
  | tup _ =>
    cases h
    rw [Rep] at r
    obtain ⟨p, vs, e, h1, _⟩ := r
    rw [e]
    refine ⟨?_, by decide⟩
    rcases h1 with (h1 | ⟨o, h1⟩) | ⟨o, its, n, h1, h2, _⟩
    · exact .base (.tup (vis_sub h1))
    · exact .fTuple (vis_sub h1)
    · exact .kTuple h1 h2
  | lst _ =>
    cases h
    rw [Rep] at r
    obtain ⟨p, vs, e, h1, _⟩ := r
    rw [e]
    exact ⟨.base (.lst (vis_sub h1)), by decide⟩
  | dic _ _ =>
    cases h
    rw [Rep] at r
    obtain ⟨p, vs, e, h1, _⟩ := r
    rw [e]
    exact ⟨.base (.dK (vis_sub h1)), by decide⟩
  | loc n =>
    rw [Rep] at r
    rw [tyN] at h
    rw [r.1]
    cases hS : S[n]? with
    | none => rw [hS] at h; cases h
    | some o =>
      cases o with
      | none => rw [hS] at h; cases h
      | some o =>
        rw [hS] at h
        cases o with
        | lst ds => cases h; obtain ⟨vs, h1, _⟩ := w.rep n _ hS; exact ⟨.base (.lst h1), by decide⟩
        | obj _ _ _ => cases h
        | dic _ _ => cases h; obtain ⟨vs, h1, _⟩ := w.rep n _ hS; exact ⟨.base (.dK h1), by decide⟩
        | dicT _ _ => cases h; obtain ⟨vs, h1, _⟩ := w.rep n _ hS; exact ⟨.base (.dT h1), by decide⟩
        | lck _ _ _ _ => cases h
        | lckT _ _ _ _ => cases h
  | ksq _ => cases h
  | obj _ _ _ => cases h
  | ref _ => cases h
  | ty _ => cases h
  | exc _ _ _ => cases h
theorem vr_isi : VRN K (rIsi K) (a2 aIsi) := vrn2 fun {_ m S Z H d e v u q Q} w r1 r2 ⟨a, b, h1, e2, h3, h4⟩ k => by
  subst e2
  rw [Rep] at r2
  subst r2
  obtain ⟨h5, h6⟩ := tyX_of w r1 h1
  exact ⟨v, .ty b, .type a, .type b, isiB a b, rfl, .ty b, h5, kit_ty (kit_basic a h6 b (List.contains_iff_mem.mp h3)), k.now w rep_bl h4⟩
def aIx : R2D := fun a b S q => ∃ i, b = .int i ∧ match a with
  | .str z => z.length ≤ sizeLine ∧ ∃ c, atI z.cps.toList i = some c ∧ q (.str ⟨#[c]⟩) S
  | a => ∃ ds d, seqOf S a = some ds ∧ atI ds i = some d ∧ q d S
theorem atI_reps {m : Nat → Addr} {N : Nat} {Hv : Hp} {ds : List D} {vs : List V} {i : Int} {d : D} (r : Reps K m N Hv ds vs) (h : atI ds i = some d) : ∃ v, atI vs i = some v ∧ Rep K m N Hv d v := by
  unfold atI at h ⊢
  rw [Reps.len r]
  cases hx : ixN ds.length i with
  | none => rw [hx] at h; cases h
  | some j =>
    rw [hx] at h
    exact Reps.get r h
theorem vr_ix : VR2 K (rIx K) aIx := fun {_ m S Z H a b v u q Q} w r1 r2 ⟨i, e2, h⟩ k => by
  subst e2
  rw [Rep] at r2
  have go : (∃ ds d, seqOf S a = some ds ∧ atI ds i = some d ∧ q d S) → rIx K v u H Q := fun ⟨ds, d, h1, h2, h3⟩ => by
    obtain ⟨p, vs, e, hr, hs⟩ := seq_any w r1 h1
    obtain ⟨x, hx, rx⟩ := atI_reps hr h2
    rcases hs with hs | hs
    · exact .inl ⟨p, vs, i, x, e, r2, hs, hx, k.now w rx h3⟩
    · exact .inr (.inl ⟨p, vs, i, x, e, r2, hs, hx, k.now w rx h3⟩)
  cases a <;> first
    | (rw [Rep] at r1; obtain ⟨h1, c, h2, h3⟩ := h; exact .inr (.inr ⟨_, i, c, r1, r2, h1, h2, k.now w rep_str h3⟩))
    | exact go h
def cutD (ds : List D) (lo hi : Option Int) : List D := (ds.drop (HT.sIx ds.length 0 lo)).take (HT.sIx ds.length ds.length hi - HT.sIx ds.length 0 lo)
def aSl (fz : Bool) (a : D) (lo hi : Option Int) (S : Sto) (q : D → Sto → Prop) : Prop := match a with
  | .str z => z.length ≤ sizeLine ∧ q (.str (cutS z lo hi)) S
  | .tup ds => q (.tup (cutD ds lo hi)) S
  | a => ∃ ds, seqOf S a = some ds ∧ newL fz (cutD ds lo hi) S q
abbrev rSlAll (K : PySem.W.Frag) : V → Option Int → Option Int → Hp → VK → Prop := fun x lo hi H Q => rSlL K x lo hi H Q ∨ rSlS x lo hi H Q ∨ rSlA K x lo hi H Q
theorem or_sl {X : Cx} : SlR X (rSlAll X.K) := sl_list.or (sl_str.or sl_tupA)
theorem reps_cut {m : Nat → Addr} {N : Nat} {Hv : Hp} {ds : List D} {vs : List V} {lo hi : Option Int} (r : Reps K m N Hv ds vs) : Reps K m N Hv (cutD ds lo hi) (cutV vs lo hi) := by
  unfold cutD cutV
  rw [← Reps.len r]
  exact (r.drop _).take _
theorem vr_sl {fz : Bool} {m : Nat → Addr} {S : Sto} {Z : Addr → Prop} {H : Hp} {a : D} {v : V} {lo hi : Option Int} {q : D → Sto → Prop} {Q : VK} (w : Wd K U m S Z H) (r1 : Rep K m S.length (vis m S Z H) a v) (h : aSl fz a lo hi S q) (k : Outs m S Z H K U (rD K) q Q) : rSlAll K v lo hi H Q := by
  have go : a.isTup = false → (∃ ds, seqOf S a = some ds ∧ newL fz (cutD ds lo hi) S q) → rSlAll K v lo hi H Q := fun ht ⟨ds, h1, h2⟩ => by
    obtain ⟨p, vs, e, hr, _, hl⟩ := seqOf_rep w r1 h1
    exact .inl ⟨p, vs, e, hl ht, fun p hp => out_newL w (reps_cut hr) h2 k hp⟩
  cases a with
  | str z => rw [Rep] at r1; exact .inr (.inl ⟨z, r1, h.1, k.now w rep_str h.2⟩)
  | tup ds =>
    obtain ⟨p, vs, e, hr, ht, _⟩ := seqOf_rep (ds := ds) w r1 rfl
    refine .inr (.inr ⟨p, vs, e, ht rfl, fun hw => ?_, fun _ p hp => out_newT w (reps_cut hr) h k hp⟩)
    have e2 : cutD ds lo hi = ds := by
      unfold cutD
      rw [← Reps.len hr, hw.1, hw.2, List.drop_zero, Nat.sub_zero, Reps.len hr, List.take_length]
    have h' : q (.tup (cutD ds lo hi)) S := h
    rw [e2] at h'
    rw [← e]
    exact k.now w r1 h'
  | lst _ => exact go rfl h
  | ksq _ => exact go rfl h
  | loc _ => exact go rfl h
  | non => exact go rfl h
  | bl _ => exact go rfl h
  | int _ => exact go rfl h
  | obj _ _ _ => exact go rfl h
  | dic _ _ => exact go rfl h
  | ref _ => exact go rfl h
  | ty _ => exact go rfl h
  | exc _ _ _ => exact go rfl h
end
abbrev GO := G (Option Int)
def gNoP : GO := fun _ S q => q none S
def gPart (ge : G D) : GO := fun ρ S q => ge ρ S fun d S1 => ∃ i, d = .int i ∧ q (some i) S1
def gIx (ga gb : G D) : G D := gB2 aIx ga gb
def gSl (fz : Bool) (ga : G D) (gl gh : GO) : G D := fun ρ S q => ga ρ S fun a S1 => gl ρ S1 fun lo S2 => gh ρ S2 fun hi S3 => aSl fz a lo hi S3 q
section
variable {X : Cx} {pos p2 : Pos} {a b e : Expr} {ga gb ge : G D} {gl gh : GO} {lo hi : Option Expr}
theorem d_ix (ha : PE X a (tofE X.K U ga)) (hb : PE X b (tofE X.K U gb)) (hs : PlainIx b := by intro _ _; rfl) : PE X (.Subscript a b pos) (tofE X.K U (gIx ga gb)) :=
  weakE (pe_ix ix_seq ha hb hs) fun _ _ _ h => two_in vr_ix h
theorem do_none : PO X none (tofO X.K U gNoP) := weakO po_none fun σ H Q ⟨m, S, Z, ρ, q, w, rs, h, k⟩ => k.now w rfl h
theorem do_some (h : PE X e (tofE X.K U ge)) : PO X (some e) (tofO X.K U (gPart ge)) := weakO (po_some h) fun σ H Q ⟨m, S, Z, ρ, q, w, rs, h, k⟩ => tof_in w rs h fun v1 H1 m1 d1 S1 e1 w1 r1 ⟨i, ed, h1⟩ => by
  subst ed
  have r1' : Rep X.K m1 S1.length (vis m1 S1 Z H1) (.int i) v1 := r1
  rw [Rep] at r1'
  exact ⟨i, r1', k.at e1 w1 rfl h1⟩
theorem d_sl (fz : Bool) (ha : PE X a (tofE X.K U ga)) (hl : PO X lo (tofO X.K U gl)) (hh : PO X hi (tofO X.K U gh)) : PE X (.Subscript a (.Slice lo hi none p2) pos) (tofE X.K U (gSl fz ga gl gh)) :=
  weakE (pe_slice or_sl ha hl hh) fun σ H Q ⟨m, S, Z, ρ, q, w, rs, h, k⟩ => tof_in w rs h fun v1 H1 m1 d1 S1 e1 w1 r1 h1 => tof_in w1 (rs.ext e1) h1 fun v2 H2 m2 d2 S2 e2 w2 r2 h2 => tof_in w2 (rs.ext (e1.trans e2)) h2 fun v3 H3 m3 d3 S3 e3 w3 r3 h3 => by
    cases (show d2 = v2 from r2)
    cases (show d3 = v3 from r3)
    exact vr_sl w3 (r1.ext (e2.trans e3)) h3 (k.ext ((e1.trans e2).trans e3))
/-- a built-in class as a value -/
theorem d_gty {x : Str} {T : String} (hg : Gl X x) (hm : X.mg x = none) (hb : bootBuiltins x = some (.type T)) (hn : x ≠ "__name__" := by decide) (hd : (x == ("__debug__" : Str)) = false := by decide) : PE X (.Name x pos) (tofE X.K U (gC (.ty T))) :=
  ofC (pe_bltn (v := .ty T) hg hm hb rfl hn hd) fun _ _ _ _ => by simp [Rep]
end
def gFmt (ge : G D) : G D := fun ρ S q => ge ρ S fun d S1 => match d with
  | .str y => y.length ≤ sizeLine ∧ q (.str y) S1
  | .int i => i.natAbs.log2 < 1920 ∧ q (.str (showI i)) S1
  | _ => False
def gJs : List (G D) → Str → Env_ → Sto → (Str → Sto → Prop) → Prop
  | [], acc, _, S, q => q acc S
  | g :: gs, acc, ρ, S, q => g ρ S fun d S1 => ∃ y, d = .str y ∧ (acc ++ y).length ≤ sizeLine ∧ gJs gs (acc ++ y) ρ S1 q
def gJoined (gs : List (G D)) : G D := fun ρ S q => gJs gs Str.empty ρ S fun out S1 => q (.str out) S1
inductive DJ (X : Cx) (U : Wi) : List Expr → List (G D) → Prop where
  | nil : DJ X U [] []
  | cons {e : Expr} {g : G D} {es : List Expr} {gs : List (G D)} (h : PE X e (tofE X.K U g)) (r : DJ X U es gs) : DJ X U (e :: es) (g :: gs)
theorem DJ.pj {X : Cx} {es : List Expr} {gs : List (G D)} (h : DJ X U es gs) : PJ X es (gs.map (tofE X.K U)) := by
  induction h with
  | nil => exact .nil
  | cons h _ ih => exact .cons h ih
theorem js_in {K : PySem.W.Frag} {ρ : Env_} {σ : L2.St} : ∀ {gs : List (G D)} {acc : Str} {m : Nat → Addr} {S : Sto} {Z : Addr → Prop} {H : Hp} {q : D → Sto → Prop} {Q : VK}, Wd K U m S Z H → RelS K m S.length (vis m S Z H) ρ σ →
    gJs gs acc ρ S (fun out S1 => q (.str out) S1) → Outs m S Z H K U (rD K) q Q → tJs (gs.map (tofE K U)) acc σ H fun out H1 => Q (.str out) H1
  | [], _, _, _, _, _, _, _, w, rs, h, k => k.now w rep_str h
  | g :: gs, _, _, _, _, _, _, _, w, rs, h, k => tof_in w rs h fun v1 H1 m1 d1 S1 e1 w1 r1 ⟨y, ed, h1, h2⟩ => by
    subst ed
    rw [rD, Rep] at r1
    exact ⟨y, r1, h1, js_in w1 (rs.ext e1) h2 (k.ext e1)⟩
section
variable {X : Cx} {pos : Pos} {e v1 v2 : Expr} {rest : List Expr} {ge : G D} {gs : List (G D)}
theorem d_fmt (he : PE X e (tofE X.K U ge)) : PE X (.FormattedValue e (-1) none pos) (tofE X.K U (gFmt ge)) :=
  weakE (pe_fmt he) fun σ H Q ⟨m, S, Z, ρ, q, w, rs, h, k⟩ => tof_in w rs h fun u1 H1 m1 d1 S1 e1 w1 r1 h1 => by
    cases d1 <;> first
      | exact False.elim h1
      | (rw [rD, Rep] at r1; exact .inl ⟨_, r1, h1.1, k.at e1 w1 rep_str h1.2⟩)
      | (rw [rD, Rep] at r1; exact .inr ⟨_, r1, h1.1, k.at e1 w1 rep_str h1.2⟩)
theorem d_joined (h : DJ X U (v1 :: v2 :: rest) gs) : PE X (.JoinedStr (v1 :: v2 :: rest) pos) (tofE X.K U (gJoined gs)) :=
  weakE (pe_joined h.pj) fun σ H Q ⟨m, S, Z, ρ, q, w, rs, h, k⟩ => js_in w rs h k
end
section
variable {K : PySem.W.Frag}
theorem tyV_of {m : Nat → Addr} {S : Sto} {Z : Addr → Prop} {H : Hp} {T : String} {d : D} {v : V} (w : Wd K U m S Z H) (r : Rep K m S.length (vis m S Z H) d v) (hT : T ≠ "tuple") (h : isTy T S d = true) : tyV K T v H := by
  cases d with
  | str _ => rw [Rep] at r; rw [r]; exact beq_iff_eq.mp h
  | int _ => rw [Rep] at r; rw [r]; exact beq_iff_eq.mp h
  | lst _ => rw [Rep] at r; obtain ⟨a, vs, e, h1, _⟩ := r; rw [e]; exact .inl ⟨beq_iff_eq.mp h, vs, SqL.of (vis_sub h1)⟩
  | ksq _ => rw [Rep] at r; obtain ⟨a, vs, e, h1, _⟩ := r; rw [e]; exact .inl ⟨beq_iff_eq.mp h, vs, SqL.sub vis_le h1⟩
  | dic _ _ => rw [Rep] at r; obtain ⟨a, vs, e, h1, _⟩ := r; rw [e]; exact .inr (.inr (.inl ⟨beq_iff_eq.mp h, .inl ⟨_, vis_sub h1⟩⟩))
  | tup _ => exact absurd (beq_iff_eq.mp h) hT
  | loc n =>
    rw [Rep] at r
    rw [isTy] at h
    rw [r.1]
    cases hS : S[n]? with
    | none => rw [hS] at h; cases h
    | some o =>
      cases o with
      | none => rw [hS] at h; cases h
      | some o =>
        rw [hS] at h
        cases o with
        | lst ds => obtain ⟨vs, h1, _⟩ := w.rep n _ hS; exact .inl ⟨beq_iff_eq.mp h, vs, SqL.of h1⟩
        | obj _ _ _ => cases h
        | dic _ _ => obtain ⟨vs, h1, _⟩ := w.rep n _ hS; exact .inr (.inr (.inl ⟨beq_iff_eq.mp h, .inl ⟨_, h1⟩⟩))
        | dicT _ _ => obtain ⟨vs, h1, _⟩ := w.rep n _ hS; exact .inr (.inr (.inl ⟨beq_iff_eq.mp h, .inr ⟨_, h1⟩⟩))
        | lck _ _ _ _ => cases h
        | lckT _ _ _ _ => cases h
  | non => cases h
  | bl _ => cases h
  | obj _ _ _ => cases h
  | ref _ => cases h
  | ty _ => cases h
  | exc _ _ _ => cases h
end
def gMt (T : String) (r : D → RND) (go : G D) (gs : G (List D)) : G D := fun ρ S q => go ρ S fun o S1 => isTy T S1 o = true ∧ gs ρ S1 fun ds S2 => r o ds S2 q
section
variable {X : Cx} {o e : Expr} {es : List Expr} {go : G D} {gs : G (List D)} {name : Str} {apos cpos : Pos} {T id : String} {r : V → List V → Hp → VK → Prop} {g : D → RND}
theorem d_bm (hT : T ≠ "tuple") (pa : PlainAttrs T) (slot : Slot T name id) (hty : typeOf (.builtin id) = pure (.type "method_descriptor")) (hm : MtR X id r) (hv : VRM X.K T r g) (ho : PE X o (tofE X.K U go)) (ha : PA X (e :: es) (tofA X.K U gs))
    (hbase : attributeBase o name X.env (eval o X.env) = eval o X.env := by rfl)
    (hfew : ((backTo cpos (starEach (e :: es) X.env)).all (fun x => !x.1) && (backToKw cpos (keywordEach [] X.env)).all (fun x => x.1.isSome)
      && decide ((e :: es).length + ([] : List Keyword).length + (if ([] : List Keyword).isEmpty then 0 else 1) < 30)) = true := by rfl)
    (hline : (apos.endLine == cpos.line) = true := by rfl) (hs : starEach (e :: es) X.env = (false, eval e X.env) :: starEach es X.env := by rfl) (hplain : (backTo cpos (starEach es X.env)).any (·.1) = false := by rfl) :
    PE X (.Call (.Attribute o name apos) (e :: es) [] cpos) (tofE X.K U (gMt T g go gs)) :=
  weakE (pe_bm pa slot hty hm ho ha hbase hfew hline hs hplain) fun σ H Q ⟨m, S, Z, ρ, q, w, rs, h, k⟩ => tof_in w rs h fun v1 H1 m1 d1 S1 e1 w1 r1 h1 => ⟨tyV_of w1 r1 hT h1.1, tof_in w1 (rs.ext e1) h1.2 fun v2 H2 m2 d2 S2 e2 w2 r2 h2 => hv w2 (r1.ext e2) r2 h2 (k.ext (e1.trans e2))⟩
theorem d_bm0 (hT : T ≠ "tuple") (pa : PlainAttrs T) (slot : Slot T name id) (hty : typeOf (.builtin id) = pure (.type "method_descriptor")) (hm : MtR X id r) (hv : VRM X.K T r g) (ho : PE X o (tofE X.K U go))
    (hbase : attributeBase o name X.env (eval o X.env) = eval o X.env := by rfl) (hline : (apos.endLine == cpos.line) = true := by rfl) : PE X (.Call (.Attribute o name apos) [] [] cpos) (tofE X.K U (gMt T g go gNil)) :=
  weakE (pe_bm0 pa slot hty hm ho hbase hline) fun σ H Q ⟨m, S, Z, ρ, q, w, rs, h, k⟩ => tof_in w rs h fun v1 H1 m1 d1 S1 e1 w1 r1 h1 => ⟨tyV_of w1 r1 hT h1.1, hv w1 r1 reps_nil h1.2 (k.ext e1)⟩
end
section
variable {K : PySem.W.Frag}
/-- xs.append(y) -/
def aAppend : D → RND := fun o as S q => ∃ n ds y, o = .loc n ∧ as = [y] ∧ S[n]? = some (some (.lst ds)) ∧ ds.length < sizeLine ∧ q .non (S.set n (some (.lst (ds ++ [y]))))
theorem vm_append : VRM K "list" rAppend aAppend := fun {_ m S Z H o u a v q Q} w r rs ⟨n, ds, y, e1, e2, hS, hl, h⟩ k => by
  subst e1 e2
  rw [Rep] at r
  obtain ⟨x, ex, rx⟩ := reps1 rs
  obtain ⟨vs, h1, h2⟩ := w.rep n _ hS
  obtain ⟨w3, e3, hv3⟩ := w.upd (o := .lst (vs ++ [x])) (mo := .lst (ds ++ [y])) ⟨_, hS⟩ ⟨_, upd_same, h2.append (Reps.one rx)⟩
  exact ⟨m n, vs, x, r.1, ex, h1, by rw [Reps.len h2]; exact hl, k.at e3 w3 rep_non h⟩
/-- text methods with a text or an int -/
def aS1 (C : Str → Str → Prop) (f : Str → Str → D) : D → RND := fun o as S q => ∃ x y, o = .str x ∧ as = [.str y] ∧ C x y ∧ q (f x y) S
def aS0 (C : Str → Prop) (f : Str → D) : D → RND := fun o as S q => ∃ x, o = .str x ∧ as = [] ∧ C x ∧ q (f x) S
def aSI (C : Str → Int → Prop) (f : Str → Int → D) : D → RND := fun o as S q => ∃ x y, o = .str x ∧ as = [.int y] ∧ C x y ∧ q (f x y) S
end
/-- xs[i] = v -/
def gSetIx (go gi gv : G D) : GS := fun E ρ S => gv ρ S fun v S1 => go ρ S1 fun o S2 => gi ρ S2 fun i S3 => ∃ n ds k j, o = .loc n ∧ i = .int k ∧ S3[n]? = some (some (.lst ds)) ∧ ixN ds.length k = some j ∧ E.nx ρ (S3.set n (some (.lst (ds.set j v))))
section
variable {X : Cx} {pos pos' : Pos} {o i value : Expr} {go gi gv : G D}
theorem d_setix (ho : PE X o (tofE X.K U go)) (hi : PE X i (tofE X.K U gi)) (hv : PE X value (tofE X.K U gv))
    (ha : ∀ v, assign (.Subscript o i pos') X.env v = (do
      let ov ← holding [v] (eval o X.env)
      let iv ← holding [v, ov] (eval i X.env)
      standAt pos'
      holding [v, ov, iv] (setItem ov iv v)
      release [v, ov, iv] []) := by intro _; rfl)
    (hs : swapsWithSole [.Subscript o i pos'] value pos.line X.env = pure false := by rfl) (hw : swappedStores [.Subscript o i pos'] value X.env = pure none := by rfl)
    (h1 : (assignEach [.Subscript o i pos'] X.env).map (·.2) = [assign (.Subscript o i pos') X.env] := by rfl) : PS X (.Assign [.Subscript o i pos'] value pos) (tofS X.K U (gSetIx go gi gv)) :=
  weakS (ps_asg hv (pg_sub ho hi set_list ha) hs hw h1) fun E σ H ⟨m, S, Z, ρ, D, w, rs, h, k⟩ => tof_in w rs h fun v1 H1 m1 d1 S1 e1 w1 r1 h1 => tof_in w1 (rs.ext e1) h1 fun v2 H2 m2 d2 S2 e2 w2 r2 h2 => tof_in w2 (rs.ext (e1.trans e2)) h2 fun v3 H3 m3 d3 S3 e3 w3 r3 ⟨n, ds, kk, j, eo, ei, hS, hj, h3⟩ => by
    subst eo ei
    have r2' := r2.ext e3
    rw [Rep] at r2'
    rw [rD, Rep] at r3
    obtain ⟨vs, hh, hr⟩ := w3.rep n _ hS
    obtain ⟨w4, e4, hv4⟩ := w3.upd (o := .lst (vs.set j v1)) (mo := .lst (ds.set j d1)) ⟨_, hS⟩ ⟨_, upd_same, hr.set j (r1.ext (e2.trans e3))⟩
    refine ⟨m3 n, vs, kk, j, r2'.1, r3, hh, by rw [Reps.len hr]; exact hj, k.nx.at (((e1.trans e2).trans e3).trans e4) w4 (rs.ext (((e1.trans e2).trans e3).trans e4)) h3⟩
end
end Dl
namespace Dl
open PySem L2
structure FnB (K : PySem.W.Frag) (mg : Str → Option Value) (x : Str) (st : Stmt) (dvs : List V) : Prop where
  ex : ∃ f fd, FunS K x x st dvs f fd ∧ mg x = some (.ref f)
structure MtB (K : PySem.W.Frag) (C : Addr) (m qual : Str) (st : Stmt) (dvs : List V) : Prop where
  ex : ∃ f fd, FunS K m qual st dvs f fd ∧ Meth K C m f
structure MkB (K : PySem.W.Frag) (C : Addr) (qual : Str) (st : Stmt) (dvs : List V) : Prop where
  ex : ∃ f fd, FunS K "__init__" qual st dvs f fd ∧ Mk K C f
section
variable {P : Program} {w : World} {K : PySem.W.Frag} {mg : Str → Option Value} {base : Heap} {x m qual : Str} {st : Stmt} {dvs : List V} {N ps : List Str} {k : Nat} {dsp : DSp} {C : Addr}
theorem fn_body0 {f : Addr} {fd : FuncData} (F : FunS K x qual st dvs f fd) (S : FnScope N ps (defScope st)) (len : ∀ ds S q, dsp ds S q → ds.length = ps.length) (g : GS)
    (hbody : ∀ (cdv : Value) (A : Around) (outer : List Env) (s : Shared) (H : Hp) (E : XK), RoomG k (A.deeper (PyProof.Rows.envOfC qual (defScope st) s.heap.objs.size f cdv)) →
      PSs (cxOf CX0 P w K mg base N qual (defScope st) f cdv A outer s H E).nox (defBody st) (tofS K U0 g))
    (hread : ∀ ds S q, D.unders S.length ds = true → Sto.under S.length S = true → dsp ds S q → g { nx := fun _ S' => q .non S', rt := q } (startD N ds) S) : FnG P w K mg base CX0 (k + 1) f fd ps (spOf K dsp) := by
  refine FnG.by_body F S (spOf_len len) fun cdv A outer s H vs Q E hr ⟨m, St', Z, ds, q, wd, rd, hd, kk⟩ => ?_
  refine ⟨_, (hbody cdv A outer s H E hr).nox, m, St', Z, startD N ds, _, wd, relS_start rd, hread ds St' q (Reps.below rd) wd.under hd, ⟨?_, kk, ?_, ?_⟩⟩
  · exact fun σ' H' m' ρ' S' e' w' _ h' => kk .non H' m' .non S' e' w' rep_non h'
  · exact fun _ _ _ _ _ _ _ _ h => h.elim
  · exact fun _ _ _ _ _ _ _ _ h => h.elim
theorem fnc_of (B : FnB K mg x st dvs) (S : FnScope N ps (defScope st)) (len : ∀ ds S q, dsp ds S q → ds.length = ps.length) (g : GS)
    (hbody : ∀ (f : Addr) (cdv : Value) (A : Around) (outer : List Env) (s : Shared) (H : Hp) (E : XK), RoomG k (A.deeper (PyProof.Rows.envOfC x (defScope st) s.heap.objs.size f cdv)) →
      PSs (cxOf CX0 P w K mg base N x (defScope st) f cdv A outer s H E).nox (defBody st) (tofS K U0 g))
    (hread : ∀ ds S q, D.unders S.length ds = true → Sto.under S.length S = true → dsp ds S q → g { nx := fun _ S' => fin S.length q .non S', rt := fin S.length q } (startD N ds) S) : Fnc P w K mg base x st dvs (k + 1) ps dsp := by
  obtain ⟨f, fd, F, hm⟩ := B.ex
  exact ⟨f, fd, F, hm, fn_body F S len g (hbody f) hread⟩
theorem fnc_of0 (B : FnB K mg x st dvs) (S : FnScope N ps (defScope st)) (len : ∀ ds S q, dsp ds S q → ds.length = ps.length) (g : GS)
    (hbody : ∀ (f : Addr) (cdv : Value) (A : Around) (outer : List Env) (s : Shared) (H : Hp) (E : XK), RoomG k (A.deeper (PyProof.Rows.envOfC x (defScope st) s.heap.objs.size f cdv)) →
      PSs (cxOf CX0 P w K mg base N x (defScope st) f cdv A outer s H E).nox (defBody st) (tofS K U0 g))
    (hread : ∀ ds S q, D.unders S.length ds = true → Sto.under S.length S = true → dsp ds S q → g { nx := fun _ S' => q .non S', rt := q } (startD N ds) S) : Fnc P w K mg base x st dvs (k + 1) ps dsp := by
  obtain ⟨f, fd, F, hm⟩ := B.ex
  exact ⟨f, fd, F, hm, fn_body0 F S len g (hbody f) hread⟩
theorem mfn_of (c : Cls K C) (B : MtB K C m qual st dvs) (S : FnScope N ps (defScope st)) (len : ∀ ds S q, dsp ds S q → ds.length = ps.length) (g : GS)
    (hbody : ∀ (f : Addr) (cdv : Value) (A : Around) (outer : List Env) (s : Shared) (H : Hp) (E : XK), RoomG k (A.deeper (PyProof.Rows.envOfC qual (defScope st) s.heap.objs.size f cdv)) →
      PSs (cxOf CX0 P w K mg base N qual (defScope st) f cdv A outer s H E).nox (defBody st) (tofS K U0 g))
    (hread : ∀ ds S q, D.unders S.length ds = true → Sto.under S.length S = true → dsp ds S q → g { nx := fun _ S' => fin S.length q .non S', rt := fin S.length q } (startD N ds) S) : MFn P w K mg base C m qual st dvs (k + 1) ps dsp := by
  obtain ⟨f, fd, F, hm⟩ := B.ex
  exact ⟨c, f, fd, F, hm, fn_body F S len g (hbody f) hread⟩
theorem mfn_of0 (c : Cls K C) (B : MtB K C m qual st dvs) (S : FnScope N ps (defScope st)) (len : ∀ ds S q, dsp ds S q → ds.length = ps.length) (g : GS)
    (hbody : ∀ (f : Addr) (cdv : Value) (A : Around) (outer : List Env) (s : Shared) (H : Hp) (E : XK), RoomG k (A.deeper (PyProof.Rows.envOfC qual (defScope st) s.heap.objs.size f cdv)) →
      PSs (cxOf CX0 P w K mg base N qual (defScope st) f cdv A outer s H E).nox (defBody st) (tofS K U0 g))
    (hread : ∀ ds S q, D.unders S.length ds = true → Sto.under S.length S = true → dsp ds S q → g { nx := fun _ S' => q .non S', rt := q } (startD N ds) S) : MFn P w K mg base C m qual st dvs (k + 1) ps dsp := by
  obtain ⟨f, fd, F, hm⟩ := B.ex
  exact ⟨c, f, fd, F, hm, fn_body0 F S len g (hbody f) hread⟩
theorem cfn_of0 (mC : mg x = some (.ref C)) (B : MkB K C qual st dvs) (S : FnScope N ps (defScope st)) (len : ∀ ds S q, dsp ds S q → ds.length = ps.length) (g : GS)
    (hbody : ∀ (f : Addr) (cdv : Value) (A : Around) (outer : List Env) (s : Shared) (H : Hp) (E : XK), RoomG k (A.deeper (PyProof.Rows.envOfC qual (defScope st) s.heap.objs.size f cdv)) →
      PSs (cxOf CX0 P w K mg base N qual (defScope st) f cdv A outer s H E).nox (defBody st) (tofS K U0 g))
    (hread : ∀ ds S q, D.unders S.length ds = true → Sto.under S.length S = true → dsp ds S q → g { nx := fun _ S' => q .non S', rt := q } (startD N ds) S) : CFn P w K mg base x C qual st dvs (k + 1) ps dsp := by
  obtain ⟨f, fd, F, hm⟩ := B.ex
  exact ⟨mC, f, fd, F, hm, fn_body0 F S len g (hbody f) hread⟩
/-- a weaker promise -/
theorem Fnc.imp {dsp' : DSp} (F : Fnc P w K mg base x st dvs k ps dsp) (h : ∀ ds S q, dsp' ds S q → dsp ds S q) : Fnc P w K mg base x st dvs k ps dsp' := by
  obtain ⟨f, fd, F1, hm, FO⟩ := F.ex
  exact ⟨f, fd, F1, hm, FO.imp fun vs H Q E ⟨m, S, Z, ds, q, w, r, hh, kk⟩ => ⟨m, S, Z, ds, q, w, r, h _ _ _ hh, kk⟩⟩
end
def gPar (i j : Nat) (ga : G (List D)) : GS := fun E ρ S => ga ρ S fun as S1 => ∃ v u, as = [v, u] ∧ E.nx ((ρ.set i (some v)).set j (some u)) S1
def gPar3 (i j l : Nat) (ga : G (List D)) : GS := fun E ρ S => ga ρ S fun as S1 => ∃ v u z, as = [v, u, z] ∧ E.nx (((ρ.set i (some v)).set j (some u)).set l (some z)) S1
section
variable {X : Cx} {pos : Pos} {ga : G (List D)}
theorem d_par {i j : Nat} {x y : Str} {a b : Expr} {px py pt : Pos} {kt k2 pt2} (hN : X.N.Nodup) (ha : PA X [a, b] (tofA X.K U ga)) (hc : X.calm = true := by rfl) (hi : X.N[i]? = some x := by rfl) (hj : X.N[j]? = some y := by rfl) (hij : i ≠ j := by decide)
    (hx : X.env.scope.names.lookup x = some .local := by rfl) (hy : X.env.scope.names.lookup y = some .local := by rfl)
    (hw : swappedStores [.Tuple [.Name x px, .Name y py] kt pt] (.Tuple [a, b] k2 pt2) X.env = pure (some [x, y]) := by rfl)
    (hs : swapsWithSole [.Tuple [.Name x px, .Name y py] kt pt] (.Tuple [a, b] k2 pt2) pos.line X.env = pure false := by rfl) :
    PS X (.Assign [.Tuple [.Name x px, .Name y py] kt pt] (.Tuple [a, b] k2 pt2) pos) (tofS X.K U (gPar i j ga)) :=
  weakS (ps_par hc hN hi hj hij hx hy ha hw hs) fun E σ H ⟨m, S, Z, ρ, D, w, rs, h, k⟩ => tof_in w rs h fun v1 H1 m1 d1 S1 e1 w1 r1 ⟨v, u, ed, h1⟩ => by
    subst ed
    obtain ⟨v', u', ev, rv, ru⟩ := reps2 r1
    exact ⟨v', u', ev, k.nx.at e1 w1 (((rs.ext e1).set rv).set ru) h1⟩
end
section
variable {X : Cx}
def rpartS (x y : Str) : Str × Str × Str := match Builtin.Str.lastOccurrence x y 0 x.length with
  | some i => (Builtin.Str.strSub x 0 i, y, Builtin.Str.strSub x (i + y.length) x.length)
  | none => (Str.empty, Str.empty, x)
end
section
variable {K : PySem.W.Frag}
def aRpart : D → RND := fun o as S q => ∃ x y, o = .str x ∧ as = [.str y] ∧ (y.length == 0) = false ∧ x.length ≤ sizeLine ∧ q (.tup [.str (rpartS x y).1, .str (rpartS x y).2.1, .str (rpartS x y).2.2]) S
def aPart : D → RND := fun o as S q => ∃ x y, o = .str x ∧ as = [.str y] ∧ (y.length == 0) = false ∧ x.length ≤ sizeLine ∧ q (.tup [.str (Txt.partition x y).1, .str (Txt.partition x y).2.1, .str (Txt.partition x y).2.2]) S
def aIadd : R2D := fun a b S q => match a, b with
  | .int i, .int j => q (.int (i + j)) S
  | .str x, .str y => x.length + y.length ≤ sizeLine ∧ q (.str (x ++ y)) S
  | _, _ => False
def aPop : D → RND := fun o as S q => ∃ n ds y, o = .loc n ∧ as = [] ∧ S[n]? = some (some (.lst ds)) ∧ ds[ds.length - 1]? = some y ∧ q y (S.set n (some (.lst ds.dropLast)))
theorem Reps.dropLast {m : Nat → Addr} {N : Nat} {Hv : Hp} {ds : List D} {vs : List V} (r : Reps K m N Hv ds vs) : Reps K m N Hv ds.dropLast vs.dropLast := by
  rw [List.dropLast_eq_take, List.dropLast_eq_take, Reps.len r]
  exact r.take _
theorem vm_pop : VRM K "list" rPop aPop := fun {_ m S Z H o u a v q Q} w r rs ⟨n, ds, y, e1, e2, hS, hl, h⟩ k => by
  subst e1 e2
  rw [Rep] at r
  rw [Reps] at rs
  obtain ⟨vs, h1, h2⟩ := w.rep n _ hS
  obtain ⟨x, hx, rx⟩ := Reps.get h2 hl
  obtain ⟨w3, e3, hv3⟩ := w.upd (o := .lst vs.dropLast) (mo := .lst ds.dropLast) ⟨_, hS⟩ ⟨_, upd_same, h2.dropLast⟩
  exact ⟨m n, vs, x, r.1, rs, h1, by rw [Reps.len h2]; exact hx, k.at e3 w3 (rx.ext e3) h⟩
def aClear : D → RND := fun o as S q => ∃ n ds, o = .loc n ∧ as = [] ∧ S[n]? = some (some (.lst ds)) ∧ q .non (S.set n (some (.lst [])))
theorem vm_clear : VRM K "list" rClear aClear := fun {_ m S Z H o u a v q Q} w r rs ⟨n, ds, e1, e2, hS, h⟩ k => by
  subst e1 e2
  rw [Rep] at r
  rw [Reps] at rs
  obtain ⟨vs, h1, h2⟩ := w.rep n _ hS
  obtain ⟨w3, e3, hv3⟩ := w.upd (o := .lst []) (mo := .lst []) ⟨_, hS⟩ ⟨_, upd_same, reps_nil⟩
  exact ⟨m n, vs, r.1, rs, h1, k.at e3 w3 rep_non h⟩
structure IsC (K : PySem.W.Frag) (C : Addr) : Prop where
  cl : Cls K C
  ha : PySem.W.findIn K (.ref C) "__class__" = some (some (.builtin "object.__class__"))
  hn : PySem.W.specialIn K (.builtin "object.__class__") "__get__" = some (some (.builtin "getset_descriptor.__get__"))
  htk : PySem.W.takesIn K (.builtin "object.__class__") = some true
  hm : PySem.W.mroIn K C (.type "object") = some true
/-- which of two classes -/
structure KitC (K : PySem.W.Frag) (C C' : Addr) (b : Bool) : Prop where
  is : PySem.W.kitOne K (.ref C) (.ref C') = some b
structure KitB (K : PySem.W.Frag) (C' : Addr) : Prop where
  no : ∀ a ∈ "NoneType" :: basicT, PySem.W.kitOne K (.type a) (.ref C') = some false
def aIsiC (K : PySem.W.Frag) : R2D := fun d c S q => ∃ C', c = .ref C' ∧ ((∃ C ks ds b, objOf S d = some (C, ks, ds) ∧ IsC K C ∧ KitC K C C' b ∧ q (.bl b) S) ∨ (∃ a, tyN S d = some a ∧ KitB K C' ∧ q (.bl false) S))
theorem vr_isiC : VRN K (rIsi K) (a2 (aIsiC K)) := vrn2 fun {_ m S Z H d e v u q Q} w r1 r2 ⟨C', e2, h⟩ k => by
  subst e2
  rw [Rep] at r2
  subst r2
  rcases h with ⟨C, ks, ds, b, h1, ic, kc, h4⟩ | ⟨a, h1, kb, h4⟩
  · obtain ⟨x, dx, vs, ev, hx, _, _⟩ := objOf_rep w r1 h1
    subst ev
    exact ⟨.ref x, .ref C', .ref C, .ref C', b, rfl, .own C', .base (.ins hx ic.cl ic.ha ic.hn ic.htk ic.hm), kc.is, k.now w rep_bl h4⟩
  · obtain ⟨h5, h6⟩ := tyX_of w r1 h1
    exact ⟨v, .ref C', .type a, .ref C', false, rfl, .own C', h5, kb.no a h6, k.now w rep_bl h4⟩
end
def aOwn (C : Addr) (dsp : DSp) : R2D := fun a b S q => (∃ ks ds, objOf S a = some (C, ks, ds)) ∧ (∃ ks ds, objOf S b = some (C, ks, ds)) ∧ dsp [a, b] S fun d S' => (∃ k, d = .bl k) ∧ q d S'
end Dl
namespace Dl
open PySem L2
def aFmt : R1D := fun d S1 q => match d with
  | .str y => y.length ≤ sizeLine ∧ q (.str y) S1
  | .int i => i.natAbs.log2 < 1920 ∧ q (.str (showI i)) S1
  | _ => False
section
variable {S : Sto} {q : D → Sto → Prop} {fz : Bool} {i j : Int} {x y : Str} {C : Int → Int → Prop} {f : Int → Int → D} {ds : List D} {n : Nat} {d e : D} {bs : List Bool} {ns : List Int} {a b : Bool}
theorem x_i2 : aI2 C f (.int i) (.int j) S q ↔ C i j ∧ q (f i j) S := by
  unfold aI2
  constructor
  · rintro ⟨i', j', e1, e2, h⟩; cases e1; cases e2; exact h
  · exact fun h => ⟨i, j, rfl, rfl, h⟩
theorem x_addI : aAdd fz (.int i) (.int j) S q ↔ q (.int (i + j)) S := Iff.rfl
theorem x_addS : aAdd fz (.str x) (.str y) S q ↔ x.length + y.length ≤ sizeLine ∧ q (.str (x ++ y)) S := Iff.rfl
theorem x_mulI : aMul fz (.int i) (.int j) S q ↔ mulOk i j ∧ q (.int (i * j)) S := Iff.rfl
theorem x_iaddS : aIadd (.str x) (.str y) S q ↔ x.length + y.length ≤ sizeLine ∧ q (.str (x ++ y)) S := Iff.rfl
theorem x_iaddI : aIadd (.int i) (.int j) S q ↔ q (.int (i + j)) S := Iff.rfl
theorem x_neg : aNeg (.int i) S q ↔ q (.int (-i)) S := ⟨fun ⟨_, e, h⟩ => by cases e; exact h, fun h => ⟨_, rfl, h⟩⟩
theorem sh_int : SeqAt.shaped (.int i) = true := rfl
theorem sh_non : SeqAt.shaped .none = true := by decide
theorem sh_bool : SeqAt.shaped (.bool a) = true := by cases a <;> decide
theorem sh_str (h : PyData.strOk x = true) : SeqAt.shaped (.str x) = true := by
  unfold SeqAt.shaped PyData.canLay0
  rw [h]
  rfl
theorem x_eq {p p' : PyData} (h1 : toPyS S d = some p) (h2 : toPyS S e = some p') : aEq d e S q ↔ SeqAt.shaped p = true ∧ SeqAt.shaped p' = true ∧ q (.bl (PyData.eqv p p')) S := by
  unfold aEq
  rw [h1, h2]
  constructor
  · rintro ⟨_, _, e1, e2, h⟩; cases e1; cases e2; exact h
  · exact fun h => ⟨_, _, rfl, rfl, h⟩
theorem x_ne {p p' : PyData} (h1 : toPyS S d = some p) (h2 : toPyS S e = some p') : aNe d e S q ↔ SeqAt.shaped p = true ∧ SeqAt.shaped p' = true ∧ q (.bl (!PyData.eqv p p')) S := by
  unfold aNe
  rw [h1, h2]
  constructor
  · rintro ⟨_, _, e1, e2, h⟩; cases e1; cases e2; exact h
  · exact fun h => ⟨_, _, rfl, rfl, h⟩
theorem x_eqI : aEq (.int i) (.int j) S q ↔ q (.bl (decide (i = j))) S := by
  rw [x_eq rfl rfl]
  simp only [sh_int, true_and, PyData.eqv]
  rw [show (i == j) = decide (i = j) from rfl]
theorem x_neI : aNe (.int i) (.int j) S q ↔ q (.bl (decide (i ≠ j))) S := by
  rw [x_ne rfl rfl]
  simp only [sh_int, true_and, PyData.eqv]
  rw [show (!(i == j)) = decide (i ≠ j) by rw [decide_not]; rfl]
theorem x_eqS : aEq (.str x) (.str y) S q ↔ PyData.strOk x = true ∧ PyData.strOk y = true ∧ q (.bl (decide (x = y))) S := by
  rw [x_eq rfl rfl]
  have h : ∀ z, SeqAt.shaped (.str z) = PyData.strOk z := fun z => by unfold SeqAt.shaped PyData.canLay0; exact Bool.and_true _
  rw [h, h, show PyData.eqv (.str x) (.str y) = decide (x = y) by unfold PyData.eqv; rfl]
theorem x_neS : aNe (.str x) (.str y) S q ↔ PyData.strOk x = true ∧ PyData.strOk y = true ∧ q (.bl (decide (x ≠ y))) S := by
  rw [x_ne rfl rfl]
  have h : ∀ z, SeqAt.shaped (.str z) = PyData.strOk z := fun z => by unfold SeqAt.shaped PyData.canLay0; exact Bool.and_true _
  rw [h, h, show (!PyData.eqv (.str x) (.str y)) = decide (x ≠ y) by unfold PyData.eqv; rw [decide_not]; rfl]
theorem x_eqB : aEq (.bl a) (.bl b) S q ↔ q (.bl (a == b)) S := by
  rw [x_eq rfl rfl]
  simp only [sh_bool, true_and, PyData.eqv]
theorem x_neB : aNe (.bl a) (.bl b) S q ↔ q (.bl (!(a == b))) S := by
  rw [x_ne rfl rfl]
  simp only [sh_bool, true_and, PyData.eqv]
theorem x_eqNI : aEq .non (.int j) S q ↔ q (.bl false) S := by
  rw [x_eq rfl rfl]; simp only [sh_non, sh_int, true_and, PyData.eqv]
theorem x_neNI : aNe .non (.int j) S q ↔ q (.bl true) S := by
  rw [x_ne rfl rfl]; simp only [sh_non, sh_int, true_and, PyData.eqv, Bool.not_false]
theorem x_lenS : aLen (.str x) S q ↔ x.length ≤ sizeLine ∧ q (.int x.length) S := Iff.rfl
theorem x_lenL (h : seqOf S d = some ds) : aLen d S q ↔ q (.int ds.length) S := by
  have go : (∃ es, seqOf S d = some es ∧ q (.int es.length) S) ↔ q (.int ds.length) S := by
    rw [h]
    exact ⟨fun ⟨_, e, k⟩ => by cases e; exact k, fun k => ⟨_, rfl, k⟩⟩
  cases d <;> first
    | exact go
    | (cases h; done)
theorem x_str : aStr (.int i) S q ↔ i.natAbs.log2 < 1920 ∧ q (.str (showI i)) S := ⟨fun ⟨_, e, h⟩ => by cases e; exact h, fun h => ⟨_, rfl, h⟩⟩
theorem x_intI : aInt (.int i) S q ↔ q (.int i) S := Iff.rfl
theorem x_intB : aInt (.bl a) S q ↔ q (.int (if a then 1 else 0)) S := Iff.rfl
theorem x_divmod : aDivmod (.int i) (.int j) S q ↔ CDiv i j ∧ q (.tup [.int (i / j), .int (i % j)]) S := ⟨fun ⟨_, _, e1, e2, h⟩ => by cases e1; cases e2; exact h, fun h => ⟨_, _, rfl, rfl, h⟩⟩
theorem x_max2 : aMax2 (.int i) (.int j) S q ↔ q (.int (max i j)) S := ⟨fun ⟨_, _, e1, e2, h⟩ => by cases e1; cases e2; exact h, fun h => ⟨_, _, rfl, rfl, h⟩⟩
theorem x_min2 : aMin2 (.int i) (.int j) S q ↔ q (.int (min i j)) S := ⟨fun ⟨_, _, e1, e2, h⟩ => by cases e1; cases e2; exact h, fun h => ⟨_, _, rfl, rfl, h⟩⟩
theorem x_list (h : seqOf S d = some ds) : aList fz d S q ↔ newL fz ds S q := ⟨fun ⟨_, e, k⟩ => by rw [h] at e; cases e; exact k, fun k => ⟨_, h, k⟩⟩
theorem x_isi {t u : String} (h : tyN S d = some t) (hb : basicT.contains u = true) : aIsi d (.ty u) S q ↔ q (.bl (isiB t u)) S := by
  constructor
  · rintro ⟨_, _, e1, e2, _, k⟩; rw [h] at e1; cases e1; cases e2; exact k
  · exact fun k => ⟨_, _, h, rfl, hb, k⟩
theorem x_ixS : aIx (.str x) (.int i) S q ↔ x.length ≤ sizeLine ∧ ∃ c, atI x.cps.toList i = some c ∧ q (.str ⟨#[c]⟩) S := by
  unfold aIx
  exact ⟨fun ⟨_, e, h⟩ => by cases e; exact h, fun h => ⟨_, rfl, h⟩⟩
theorem x_ix (h : seqOf S d = some ds) (h2 : atI ds i = some e) : aIx d (.int i) S q ↔ q e S := by
  have go : (∃ k, D.int i = D.int k ∧ ∃ xs z, seqOf S d = some xs ∧ atI xs k = some z ∧ q z S) ↔ q e S := by
    constructor
    · rintro ⟨_, e1, xs, z, e2, e3, k⟩; cases e1; rw [h] at e2; cases e2; rw [h2] at e3; cases e3; exact k
    · exact fun k => ⟨_, rfl, _, _, h, h2, k⟩
  unfold aIx
  cases d <;> first
    | exact go
    | (cases h; done)
theorem x_slS {lo hi : Option Int} : aSl fz (.str x) lo hi S q ↔ x.length ≤ sizeLine ∧ q (.str (cutS x lo hi)) S := Iff.rfl
theorem x_slT {lo hi : Option Int} : aSl fz (.tup ds) lo hi S q ↔ q (.tup (cutD ds lo hi)) S := Iff.rfl
theorem x_slL {lo hi : Option Int} (h0 : d.isTup = false) (h : seqOf S d = some ds) : aSl fz d lo hi S q ↔ newL fz (cutD ds lo hi) S q := by
  have go : (∃ es, seqOf S d = some es ∧ newL fz (cutD es lo hi) S q) ↔ newL fz (cutD ds lo hi) S q := by
    rw [h]
    exact ⟨fun ⟨_, e, k⟩ => by cases e; exact k, fun k => ⟨_, rfl, k⟩⟩
  unfold aSl
  cases d <;> first
    | exact go
    | (cases h0; done)
    | (cases h; done)
theorem x_inS {c : Nat} : aInS (.str ⟨#[c]⟩) (.str y) S q ↔ q (.bl (decide (c ∈ y.cps.toList))) S := by
  unfold aInS
  constructor
  · rintro ⟨_, _, e1, e2, k⟩; cases e1; cases e2; exact k
  · exact fun k => ⟨_, _, rfl, rfl, k⟩
theorem x_newT : newL true ds S q ↔ q (.lst ds) S := Iff.rfl
theorem x_newF : newL false ds S q ↔ q (.loc S.length) (S ++ [some (.lst ds)]) := Iff.rfl
theorem x_si {P : Str → Int → Prop} {g : Str → Int → D} : aSI P g (.str x) [.int i] S q ↔ P x i ∧ q (g x i) S := by
  unfold aSI
  constructor
  · rintro ⟨_, _, e1, e2, k⟩; cases e1; cases e2; exact k
  · exact fun k => ⟨_, _, rfl, rfl, k⟩
theorem x_s1 {P : Str → Str → Prop} {g : Str → Str → D} : aS1 P g (.str x) [.str y] S q ↔ P x y ∧ q (g x y) S := by
  unfold aS1
  constructor
  · rintro ⟨_, _, e1, e2, k⟩; cases e1; cases e2; exact k
  · exact fun k => ⟨_, _, rfl, rfl, k⟩
theorem x_s0 {P : Str → Prop} {g : Str → D} : aS0 P g (.str x) [] S q ↔ P x ∧ q (g x) S := by
  unfold aS0
  constructor
  · rintro ⟨_, e1, e2, k⟩; cases e1; exact k
  · exact fun k => ⟨_, rfl, rfl, k⟩
theorem x_rpart : aRpart (.str x) [.str y] S q ↔ (y.length == 0) = false ∧ x.length ≤ sizeLine ∧ q (.tup [.str (rpartS x y).1, .str (rpartS x y).2.1, .str (rpartS x y).2.2]) S := by
  unfold aRpart
  constructor
  · rintro ⟨_, _, e1, e2, k⟩; cases e1; cases e2; exact k
  · exact fun k => ⟨_, _, rfl, rfl, k⟩
theorem x_part : aPart (.str x) [.str y] S q ↔ (y.length == 0) = false ∧ x.length ≤ sizeLine ∧ q (.tup [.str (Txt.partition x y).1, .str (Txt.partition x y).2.1, .str (Txt.partition x y).2.2]) S := by
  unfold aPart
  constructor
  · rintro ⟨_, _, e1, e2, k⟩; cases e1; cases e2; exact k
  · exact fun k => ⟨_, _, rfl, rfl, k⟩
theorem x_a1 {P : D → Sto → (D → Sto → Prop) → Prop} : a1 P [d] S q ↔ P d S q := by
  unfold a1
  exact ⟨fun ⟨_, e, k⟩ => by cases e; exact k, fun k => ⟨_, rfl, k⟩⟩
theorem x_a2 {P : D → D → Sto → (D → Sto → Prop) → Prop} : a2 P [d, e] S q ↔ P d e S q := by
  unfold a2
  exact ⟨fun ⟨_, _, e, k⟩ => by cases e; exact k, fun k => ⟨_, _, rfl, k⟩⟩
theorem x_app (h : S[n]? = some (some (.lst ds))) : aAppend (.loc n) [d] S q ↔ ds.length < sizeLine ∧ q .non (S.set n (some (.lst (ds ++ [d])))) := by
  unfold aAppend
  constructor
  · rintro ⟨_, _, _, e1, e2, e3, k⟩; cases e1; cases e2; rw [h] at e3; cases e3; exact k
  · exact fun k => ⟨_, _, _, rfl, rfl, h, k⟩
theorem x_slL_l {lo hi : Option Int} : aSl fz (.lst ds) lo hi S q ↔ newL fz (cutD ds lo hi) S q := x_slL rfl rfl
theorem x_slL_k {lo hi : Option Int} : aSl fz (.ksq ds) lo hi S q ↔ newL fz (cutD ds lo hi) S q := x_slL rfl rfl
theorem x_lenL_l : aLen (.lst ds) S q ↔ q (.int ds.length) S := x_lenL rfl
theorem x_lenL_k : aLen (.ksq ds) S q ↔ q (.int ds.length) S := x_lenL rfl
theorem x_lenL_t : aLen (.tup ds) S q ↔ q (.int ds.length) S := x_lenL rfl
theorem x_isiStr : aIsi (.str x) (.ty "str") S q ↔ q (.bl true) S := x_isi (t := "str") rfl (by decide)
theorem x_isiInt : aIsi (.int i) (.ty "int") S q ↔ q (.bl true) S := x_isi (t := "int") rfl (by decide)
theorem x_isiIntB : aIsi (.int i) (.ty "bool") S q ↔ q (.bl false) S := x_isi (t := "int") rfl (by decide)
theorem x_isiIntS : aIsi (.int i) (.ty "str") S q ↔ q (.bl false) S := x_isi (t := "int") rfl (by decide)
theorem x_isiBB : aIsi (.bl a) (.ty "bool") S q ↔ q (.bl true) S := x_isi (t := "bool") rfl (by decide)
theorem x_isiBI : aIsi (.bl a) (.ty "int") S q ↔ q (.bl true) S := x_isi (t := "bool") rfl (by decide)
theorem x_isiStrI : aIsi (.str x) (.ty "int") S q ↔ q (.bl false) S := x_isi (t := "str") rfl (by decide)
theorem x_isiNonI : aIsi .non (.ty "int") S q ↔ q (.bl false) S := x_isi (t := "NoneType") rfl (by decide)
theorem x_isiNonS : aIsi .non (.ty "str") S q ↔ q (.bl false) S := x_isi (t := "NoneType") rfl (by decide)
theorem x_isiT : aIsi (.tup ds) (.ty "tuple") S q ↔ q (.bl true) S := x_isi (t := "tuple") rfl (by decide)
theorem x_isiL : aIsi (.lst ds) (.ty "list") S q ↔ q (.bl true) S := x_isi (t := "list") rfl (by decide)
theorem x_ex {A : Type} {a : A} {P : A → Prop} : (∃ z, a = z ∧ P z) ↔ P a := ⟨fun ⟨_, e, h⟩ => by cases e; exact h, fun h => ⟨_, rfl, h⟩⟩
theorem x_var0 {ρ : Env_} {S : Sto} {q : D → Sto → Prop} {d : D} : gVar 0 (some d :: ρ) S q ↔ q d S := by
  unfold gVar
  simp only [List.getElem?_cons_zero, Option.some.injEq, x_ex]
theorem x_varS {ρ : Env_} {S : Sto} {q : D → Sto → Prop} {o : Option D} {i : Nat} : gVar (i + 1) (o :: ρ) S q ↔ gVar i ρ S q := by
  unfold gVar
  simp only [List.getElem?_cons_succ]
theorem x_bnm {ρ : Env_} {i : Nat} {d : D} : Tgt.bind (.nm i) d ρ = some (ρ.set i (some d)) := by rw [Tgt.bind]
theorem x_btp {ρ : Env_} {ts : List Tgt} {ds : List D} : Tgt.bind (.tp ts) (.tup ds) ρ = Tgt.binds ts ds ρ := by rw [Tgt.bind]
theorem x_bn {ρ : Env_} : Tgt.binds [] [] ρ = some ρ := by rw [Tgt.binds]
theorem x_bc {ρ : Env_} {t : Tgt} {ts : List Tgt} {d : D} {ds : List D} : Tgt.binds (t :: ts) (d :: ds) ρ = (Tgt.bind t d ρ).bind fun ρ' => Tgt.binds ts ds ρ' := by rw [Tgt.binds]
theorem x_tyS {S : Sto} {x : Str} : isTy "str" S (.str x) = true := rfl
theorem x_tyL {S : Sto} {x : List D} : isTy "list" S (.lst x) = true := rfl
theorem x_tyO {S : Sto} {n : Nat} {ds : List D} (h : S[n]? = some (some (.lst ds))) : isTy "list" S (.loc n) = true := by simp only [isTy, h]; rfl
theorem x_nnN : D.isNon .non = true := rfl
theorem x_nnI {i : Int} : D.isNon (.int i) = false := rfl
theorem x_nnS {x : Str} : D.isNon (.str x) = false := rfl
theorem x_nnB {x : Bool} : D.isNon (.bl x) = false := rfl
theorem x_nnT {x : List D} : D.isNon (.tup x) = false := rfl
theorem x_nnL {x : List D} : D.isNon (.lst x) = false := rfl
theorem x_nnO {C : Addr} {ks : List Str} {x : List D} : D.isNon (.obj C ks x) = false := rfl
theorem x_nnl {n : Nat} : D.isNon (.loc n) = false := rfl
theorem x_fmtS {ge : G D} {ρ : Env_} {S : Sto} {q : D → Sto → Prop} : gFmt ge ρ S q = ge ρ S fun d S1 => aFmt d S1 q := rfl
theorem x_afS {x : Str} {S : Sto} {q : D → Sto → Prop} : aFmt (.str x) S q ↔ x.length ≤ sizeLine ∧ q (.str x) S := Iff.rfl
theorem x_afI {i : Int} {S : Sto} {q : D → Sto → Prop} : aFmt (.int i) S q ↔ i.natAbs.log2 < 1920 ∧ q (.str (showI i)) S := Iff.rfl
theorem x_aug0 {ρ : Env_} {S : Sto} {d : D} {r : R2D} {ge : G D} {E : DE} : gAug 0 r ge E (some d :: ρ) S ↔ ge (some d :: ρ) S fun y S1 => r d y S1 fun z S2 => E.nx (some z :: ρ) S2 := by
  unfold gAug
  simp only [List.getElem?_cons_zero, Option.some.injEq, x_ex, List.set_cons_zero]
theorem x_aug {i : Nat} {ρ : Env_} {S : Sto} {d : D} {r : R2D} {ge : G D} {E : DE} (h : ρ[i]? = some (some d)) : gAug i r ge E ρ S ↔ ge ρ S fun y S1 => r d y S1 fun z S2 => E.nx (ρ.set i (some z)) S2 := by
  unfold gAug
  rw [h]
  simp only [Option.some.injEq, x_ex]
theorem x_js0 {acc : Str} {ρ : Env_} {S : Sto} {q : Str → Sto → Prop} : gJs [] acc ρ S q ↔ q acc S := by rw [gJs]
theorem x_jsc {g : G D} {gs : List (G D)} {acc : Str} {ρ : Env_} {S : Sto} {q : Str → Sto → Prop} : gJs (g :: gs) acc ρ S q ↔ g ρ S fun d S1 => ∃ y, d = .str y ∧ (acc ++ y).length ≤ sizeLine ∧ gJs gs (acc ++ y) ρ S1 q := by rw [gJs]
theorem x_rngL (k : Nat) (lo : Int) : (rngD lo k).length = k := by unfold rngD; simp
end
def aSetIx (o i v : D) (S3 : Sto) (c : Sto → Prop) : Prop := ∃ n ds k j, o = .loc n ∧ i = .int k ∧ S3[n]? = some (some (.lst ds)) ∧ ixN ds.length k = some j ∧ c (S3.set n (some (.lst (ds.set j v))))
abbrev QI := List D → (Sto → Prop) → Sto → Prop
def aIt (d : D) (S1 : Sto) (q : QI) : Prop := match d with
  | .str x => q (signsD x) (fun _ => True) S1
  | d => ∃ ds, seqOf S1 d = some ds ∧ q ds (fun S' => seqOf S' d = some ds) S1
def aRng1 (as : List D) (S1 : Sto) (q : QI) : Prop := ∃ j : Int, as = [.int j] ∧ -(2 ^ 62) ≤ j ∧ j < 2 ^ 62 ∧ q (rngD 0 j.toNat) (fun _ => True) S1
def aRng2 (as : List D) (S1 : Sto) (q : QI) : Prop := ∃ i j : Int, as = [.int i, .int j] ∧ (-(2 ^ 62) ≤ i ∧ i < 2 ^ 62 ∧ -(2 ^ 62) ≤ j ∧ j < 2 ^ 62) ∧ q (rngD i (j - i).toNat) (fun _ => True) S1
def aEnum (as : List D) (S1 : Sto) (q : QI) : Prop := ∃ d ds, as = [d] ∧ d.isTup = false ∧ seqOf S1 d = some ds ∧ q (enumD ds) (fun S' => seqOf S' d = some ds) S1
def aZip (as : List D) (S1 : Sto) (q : QI) : Prop := ∃ d e ds es, as = [d, e] ∧ d.isTup = false ∧ e.isTup = false ∧ seqOf S1 d = some ds ∧ seqOf S1 e = some es ∧ q (zipD ds es) (fun S' => seqOf S' d = some ds ∧ seqOf S' e = some es) S1
def aLc (fz : Bool) (t : Tgt) (gt : G Bool) (ge : G D) (vs : List Nat) (ρ : Env_) (ds : List D) (chk : Sto → Prop) (S1 : Sto) (q : D → Sto → Prop) : Prop := ∃ I : Nat → List D → Sto → Prop, I 0 [] S1 ∧
  (∀ i d acc S, ds[i]? = some d → I i acc S → chk S ∧ ∃ ρ', t.bind d (wipeD ρ vs) = some ρ' ∧ gt ρ' S fun b S2 => if b = true then ge ρ' S2 fun y S3 => acc.length < sizeLine ∧ I (i + 1) (acc ++ [y]) S3 else I (i + 1) acc S2) ∧
  ∀ acc S, I ds.length acc S → chk S ∧ newL fz acc S q
def aFor (t : Tgt) (gb : GS) (E : DE) (ρ : Env_) (ds : List D) (chk : Sto → Prop) (S1 : Sto) : Prop := ∃ I : Nat → Env_ → Sto → Prop, I 0 ρ S1 ∧
  (∀ i d ρ S, ds[i]? = some d → I i ρ S → chk S ∧ ∃ ρ', t.bind d ρ = some ρ' ∧ gb { nx := I (i + 1), rt := E.rt, ct := I (i + 1), bk := E.nx } ρ' S) ∧ ∀ ρ S, I ds.length ρ S → chk S ∧ E.nx ρ S
section
variable {S R : Sto} {q : D → Sto → Prop} {ρ : Env_} {go gi' gv ge : G D} {ga : G (List D)} {gi : GI} {E : DE} {t : Tgt} {gt : G Bool} {gb : GS} {vs : List Nat} {fz : Bool} {ds es : List D} {d e a b c : D} {i j : Int} {k : QI} {cc : Sto → Prop} {x : Str}
theorem x_gset : gSetIx go gi' gv E ρ S = gv ρ S fun v S1 => go ρ S1 fun o S2 => gi' ρ S2 fun i S3 => aSetIx o i v S3 (E.nx ρ) := rfl
theorem x_lc : gLc fz gi t gt ge vs ρ S q = gi ρ S fun ds chk S1 => aLc fz t gt ge vs ρ ds chk S1 q := rfl
theorem x_for : gFor gi t gb E ρ S = gi ρ S fun ds chk S1 => aFor t gb E ρ ds chk S1 := rfl
theorem x_it : gIt ge ρ S k = ge ρ S fun d S1 => aIt d S1 k := rfl
theorem x_rn1 : gRng1 ga ρ S k = ga ρ S fun as S1 => aRng1 as S1 k := rfl
theorem x_rn2 : gRng2 ga ρ S k = ga ρ S fun as S1 => aRng2 as S1 k := rfl
theorem x_enu : gEnum ga ρ S k = ga ρ S fun as S1 => aEnum as S1 k := rfl
theorem x_zip : gZip ga ρ S k = ga ρ S fun as S1 => aZip as S1 k := rfl
theorem x_itS : aIt (.str x) S k ↔ k (signsD x) (fun _ => True) S := Iff.rfl
theorem x_itL : aIt (.lst ds) S k ↔ k ds (fun _ => True) S := by
  have h : (fun S' : Sto => seqOf S' (.lst ds) = some ds) = fun _ => True := funext fun S' => propext ⟨fun _ => trivial, fun _ => rfl⟩
  show (∃ es, seqOf S (.lst ds) = some es ∧ k es (fun S' => seqOf S' (.lst ds) = some es) S) ↔ _
  constructor
  · rintro ⟨es, e, h1⟩; cases e; rw [h] at h1; exact h1
  · exact fun h1 => ⟨ds, rfl, by rw [h]; exact h1⟩
theorem x_itK : aIt (.ksq ds) S k ↔ k ds (fun _ => True) S := by
  have h : (fun S' : Sto => seqOf S' (.ksq ds) = some ds) = fun _ => True := funext fun S' => propext ⟨fun _ => trivial, fun _ => rfl⟩
  show (∃ es, seqOf S (.ksq ds) = some es ∧ k es (fun S' => seqOf S' (.ksq ds) = some es) S) ↔ _
  constructor
  · rintro ⟨es, e, h1⟩; cases e; rw [h] at h1; exact h1
  · exact fun h1 => ⟨ds, rfl, by rw [h]; exact h1⟩
theorem x_itT : aIt (.tup ds) S k ↔ k ds (fun _ => True) S := by
  have h : (fun S' : Sto => seqOf S' (.tup ds) = some ds) = fun _ => True := funext fun S' => propext ⟨fun _ => trivial, fun _ => rfl⟩
  show (∃ es, seqOf S (.tup ds) = some es ∧ k es (fun S' => seqOf S' (.tup ds) = some es) S) ↔ _
  constructor
  · rintro ⟨es, e, h1⟩; cases e; rw [h] at h1; exact h1
  · exact fun h1 => ⟨ds, rfl, by rw [h]; exact h1⟩
theorem x_itO {n : Nat} (h : seqOf S (.loc n) = some ds) : aIt (.loc n) S k ↔ k ds (fun S' => seqOf S' (.loc n) = some ds) S := by
  show (∃ es, seqOf S (.loc n) = some es ∧ k es (fun S' => seqOf S' (.loc n) = some es) S) ↔ _
  constructor
  · rintro ⟨es, e, h1⟩; rw [h] at e; cases e; exact h1
  · exact fun h1 => ⟨ds, h, h1⟩
theorem x_rn1I : aRng1 [.int j] S k ↔ -(2 ^ 62) ≤ j ∧ j < 2 ^ 62 ∧ k (rngD 0 j.toNat) (fun _ => True) S := by
  constructor
  · rintro ⟨_, e, h⟩; cases e; exact h
  · exact fun h => ⟨j, rfl, h⟩
theorem x_rn2I : aRng2 [.int i, .int j] S k ↔ (-(2 ^ 62) ≤ i ∧ i < 2 ^ 62 ∧ -(2 ^ 62) ≤ j ∧ j < 2 ^ 62) ∧ k (rngD i (j - i).toNat) (fun _ => True) S := by
  constructor
  · rintro ⟨_, _, e, h⟩; cases e; exact h
  · exact fun h => ⟨i, j, rfl, h⟩
theorem x_enuL : aEnum [.lst ds] S k ↔ k (enumD ds) (fun _ => True) S := by
  have h : (fun S' : Sto => seqOf S' (.lst ds) = some ds) = fun _ => True := funext fun S' => propext ⟨fun _ => trivial, fun _ => rfl⟩
  constructor
  · rintro ⟨d, es, e1, _, e2, h1⟩; cases e1; cases e2; rw [h] at h1; exact h1
  · exact fun h1 => ⟨_, ds, rfl, rfl, rfl, by rw [h]; exact h1⟩
theorem x_enuK : aEnum [.ksq ds] S k ↔ k (enumD ds) (fun _ => True) S := by
  have h : (fun S' : Sto => seqOf S' (.ksq ds) = some ds) = fun _ => True := funext fun S' => propext ⟨fun _ => trivial, fun _ => rfl⟩
  constructor
  · rintro ⟨d, es, e1, _, e2, h1⟩; cases e1; cases e2; rw [h] at h1; exact h1
  · exact fun h1 => ⟨_, ds, rfl, rfl, rfl, by rw [h]; exact h1⟩
theorem x_zipL : aZip [.lst ds, .lst es] S k ↔ k (zipD ds es) (fun _ => True) S := by
  have h : (fun S' : Sto => seqOf S' (.lst ds) = some ds ∧ seqOf S' (.lst es) = some es) = fun _ => True := funext fun S' => propext ⟨fun _ => trivial, fun _ => ⟨rfl, rfl⟩⟩
  constructor
  · rintro ⟨_, _, _, _, e1, _, _, e2, e3, h1⟩; cases e1; cases e2; cases e3; rw [h] at h1; exact h1
  · exact fun h1 => ⟨_, _, ds, es, rfl, rfl, rfl, rfl, rfl, by rw [h]; exact h1⟩
theorem x_ixS0 : aIx (.loc 0) (.int i) (some (.lst ds) :: R) q ↔ ∃ e, atI ds i = some e ∧ q e (some (.lst ds) :: R) := by
  unfold aIx
  constructor
  · rintro ⟨_, e1, xs, z, e2, e3, h⟩; cases e1; cases e2; exact ⟨z, e3, h⟩
  · rintro ⟨z, e3, h⟩; exact ⟨_, rfl, ds, z, rfl, e3, h⟩
theorem x_ixL : aIx (.lst ds) (.int i) S q ↔ ∃ e, atI ds i = some e ∧ q e S := by
  unfold aIx
  constructor
  · rintro ⟨_, e1, xs, z, e2, e3, h⟩; cases e1; cases e2; exact ⟨z, e3, h⟩
  · rintro ⟨z, e3, h⟩; exact ⟨_, rfl, ds, z, rfl, e3, h⟩
theorem x_ixT : aIx (.tup ds) (.int i) S q ↔ ∃ e, atI ds i = some e ∧ q e S := by
  unfold aIx
  constructor
  · rintro ⟨_, e1, xs, z, e2, e3, h⟩; cases e1; cases e2; exact ⟨z, e3, h⟩
  · rintro ⟨z, e3, h⟩; exact ⟨_, rfl, ds, z, rfl, e3, h⟩
theorem x_ixK : aIx (.ksq ds) (.int i) S q ↔ ∃ e, atI ds i = some e ∧ q e S := by
  unfold aIx
  constructor
  · rintro ⟨_, e1, xs, z, e2, e3, h⟩; cases e1; cases e2; exact ⟨z, e3, h⟩
  · rintro ⟨z, e3, h⟩; exact ⟨_, rfl, ds, z, rfl, e3, h⟩
theorem ixN_lit {n k : Nat} (h : k < n) : ixN n (k : Int) = some k := by
  unfold ixN
  rw [if_pos (by omega), if_pos (by omega)]
  rfl
theorem atI_lit {A : Type} {xs : List A} {k : Nat} {v : A} (h : xs[k]? = some v) : atI xs (k : Int) = some v := by
  unfold atI
  rw [ixN_lit (List.getElem?_eq_some_iff.mp h).1]
  exact h
theorem x_at0 {A : Type} {a : A} {l : List A} : atI (a :: l) 0 = some a := atI_lit (k := 0) rfl
theorem x_at1 {A : Type} {a b : A} {l : List A} : atI (a :: b :: l) 1 = some b := atI_lit (k := 1) rfl
theorem x_at2 {A : Type} {a b c : A} {l : List A} : atI (a :: b :: c :: l) 2 = some c := atI_lit (k := 2) rfl
theorem x_at3 {A : Type} {a b c d : A} {l : List A} : atI (a :: b :: c :: d :: l) 3 = some d := atI_lit (k := 3) rfl
theorem x_at4 {A : Type} {a b c d e : A} {l : List A} : atI (a :: b :: c :: d :: e :: l) 4 = some e := atI_lit (k := 4) rfl
theorem x_set0 {k : Nat} {v : D} (h : k < ds.length) : aSetIx (.loc 0) (.int (k : Int)) v (some (.lst ds) :: R) cc ↔ cc (some (.lst (ds.set k v)) :: R) := by
  constructor
  · rintro ⟨n, xs, kk, j, e1, e2, e3, e4, h1⟩
    cases e1; cases e2; cases e3
    rw [ixN_lit h] at e4; cases e4
    exact h1
  · exact fun h1 => ⟨0, ds, k, k, rfl, rfl, rfl, ixN_lit h, h1⟩
theorem x_set00 {v : D} : aSetIx (.loc 0) (.int 0) v (some (.lst (a :: es)) :: R) cc ↔ cc (some (.lst (v :: es)) :: R) := x_set0 (k := 0) (by simp)
theorem x_set01 {v : D} : aSetIx (.loc 0) (.int 1) v (some (.lst (a :: b :: es)) :: R) cc ↔ cc (some (.lst (a :: v :: es)) :: R) := x_set0 (k := 1) (by simp)
theorem x_set02 {v : D} : aSetIx (.loc 0) (.int 2) v (some (.lst (a :: b :: c :: es)) :: R) cc ↔ cc (some (.lst (a :: b :: v :: es)) :: R) := x_set0 (k := 2) (by simp)
end
def aPar (i j : Nat) (ρ : Env_) (k : Env_ → Sto → Prop) (as : List D) (S1 : Sto) : Prop := ∃ v u, as = [v, u] ∧ k ((ρ.set i (some v)).set j (some u)) S1
theorem x_par {i j : Nat} {ga : G (List D)} {E : DE} {ρ : Env_} {S : Sto} : gPar i j ga E ρ S = ga ρ S fun as S1 => aPar i j ρ E.nx as S1 := rfl
theorem x_par2 {i j : Nat} {k : Env_ → Sto → Prop} {ρ : Env_} {S : Sto} {v u : D} : aPar i j ρ k [v, u] S ↔ k ((ρ.set i (some v)).set j (some u)) S := by
  constructor
  · rintro ⟨_, _, e, h⟩; cases e; exact h
  · exact fun h => ⟨v, u, rfl, h⟩
theorem toPys_int : ∀ ns : List Int, toPys (ns.map D.int) = some (ns.map PyData.int)
  | [] => by simp [toPys]
  | n :: ns => by simp [toPys, toPy, toPys_int ns]
theorem can_int : ∀ ns : List Int, PyData.canLayAll0 (ns.map PyData.int) = true
  | [] => by simp [PyData.canLayAll0]
  | n :: ns => by simp [PyData.canLayAll0, PyData.canLay0, can_int ns]
theorem dep_int : ∀ ns : List Int, PyData.depthAll (ns.map PyData.int) = 0
  | [] => by simp [PyData.depthAll]
  | n :: ns => by simp [PyData.depthAll, PyData.depth, dep_int ns]
theorem sh_ints (ns : List Int) : SeqAt.shaped (.list (ns.map PyData.int)) = true := by
  simp [SeqAt.shaped, PyData.canLay0, PyData.depth, can_int, dep_int]
theorem x_neNil {ns : List Int} {S : Sto} {q : D → Sto → Prop} : aNe (.lst (ns.map D.int)) (.lst []) S q ↔ q (.bl (decide (ns ≠ []))) S := by
  rw [x_ne (p := .list (ns.map PyData.int)) (p' := .list ([].map PyData.int)) (by simp [toPyS, toPy, toPys_int]) (by simp [toPyS, toPy, toPys])]
  simp only [sh_ints, true_and]
  cases ns with
  | nil => simp [PyData.eqv, PyData.eqvAll]
  | cons n ns => simp [PyData.eqv, PyData.eqvAll]
section
variable {S : Sto} {r : R2D} {ge : G D} {E : DE} {d : D} {ρ : Env_}
theorem x_aug1 {o0 : Option D} : gAug 1 r ge E (o0 :: some d :: ρ) S ↔ ge (o0 :: some d :: ρ) S fun y S1 => r d y S1 fun z S2 => E.nx (o0 :: some z :: ρ) S2 := x_aug rfl
theorem x_aug2 {o0 o1 : Option D} : gAug 2 r ge E (o0 :: o1 :: some d :: ρ) S ↔ ge (o0 :: o1 :: some d :: ρ) S fun y S1 => r d y S1 fun z S2 => E.nx (o0 :: o1 :: some z :: ρ) S2 := x_aug rfl
theorem x_aug3 {o0 o1 o2 : Option D} : gAug 3 r ge E (o0 :: o1 :: o2 :: some d :: ρ) S ↔ ge (o0 :: o1 :: o2 :: some d :: ρ) S fun y S1 => r d y S1 fun z S2 => E.nx (o0 :: o1 :: o2 :: some z :: ρ) S2 := x_aug rfl
theorem x_aug4 {o0 o1 o2 o3 : Option D} : gAug 4 r ge E (o0 :: o1 :: o2 :: o3 :: some d :: ρ) S ↔ ge (o0 :: o1 :: o2 :: o3 :: some d :: ρ) S fun y S1 => r d y S1 fun z S2 => E.nx (o0 :: o1 :: o2 :: o3 :: some z :: ρ) S2 := x_aug rfl
theorem x_aug5 {o0 o1 o2 o3 o4 : Option D} : gAug 5 r ge E (o0 :: o1 :: o2 :: o3 :: o4 :: some d :: ρ) S ↔ ge (o0 :: o1 :: o2 :: o3 :: o4 :: some d :: ρ) S fun y S1 => r d y S1 fun z S2 => E.nx (o0 :: o1 :: o2 :: o3 :: o4 :: some z :: ρ) S2 := x_aug rfl
theorem x_aug6 {o0 o1 o2 o3 o4 o5 : Option D} : gAug 6 r ge E (o0 :: o1 :: o2 :: o3 :: o4 :: o5 :: some d :: ρ) S ↔ ge (o0 :: o1 :: o2 :: o3 :: o4 :: o5 :: some d :: ρ) S fun y S1 => r d y S1 fun z S2 => E.nx (o0 :: o1 :: o2 :: o3 :: o4 :: o5 :: some z :: ρ) S2 := x_aug rfl
theorem x_aug7 {o0 o1 o2 o3 o4 o5 o6 : Option D} : gAug 7 r ge E (o0 :: o1 :: o2 :: o3 :: o4 :: o5 :: o6 :: some d :: ρ) S ↔ ge (o0 :: o1 :: o2 :: o3 :: o4 :: o5 :: o6 :: some d :: ρ) S fun y S1 => r d y S1 fun z S2 => E.nx (o0 :: o1 :: o2 :: o3 :: o4 :: o5 :: o6 :: some z :: ρ) S2 := x_aug rfl
theorem x_aug8 {o0 o1 o2 o3 o4 o5 o6 o7 : Option D} : gAug 8 r ge E (o0 :: o1 :: o2 :: o3 :: o4 :: o5 :: o6 :: o7 :: some d :: ρ) S ↔ ge (o0 :: o1 :: o2 :: o3 :: o4 :: o5 :: o6 :: o7 :: some d :: ρ) S fun y S1 => r d y S1 fun z S2 => E.nx (o0 :: o1 :: o2 :: o3 :: o4 :: o5 :: o6 :: o7 :: some z :: ρ) S2 := x_aug rfl
theorem x_aug9 {o0 o1 o2 o3 o4 o5 o6 o7 o8 : Option D} : gAug 9 r ge E (o0 :: o1 :: o2 :: o3 :: o4 :: o5 :: o6 :: o7 :: o8 :: some d :: ρ) S ↔ ge (o0 :: o1 :: o2 :: o3 :: o4 :: o5 :: o6 :: o7 :: o8 :: some d :: ρ) S fun y S1 => r d y S1 fun z S2 => E.nx (o0 :: o1 :: o2 :: o3 :: o4 :: o5 :: o6 :: o7 :: o8 :: some z :: ρ) S2 := x_aug rfl
theorem x_aug10 {o0 o1 o2 o3 o4 o5 o6 o7 o8 o9 : Option D} : gAug 10 r ge E (o0 :: o1 :: o2 :: o3 :: o4 :: o5 :: o6 :: o7 :: o8 :: o9 :: some d :: ρ) S ↔ ge (o0 :: o1 :: o2 :: o3 :: o4 :: o5 :: o6 :: o7 :: o8 :: o9 :: some d :: ρ) S fun y S1 => r d y S1 fun z S2 => E.nx (o0 :: o1 :: o2 :: o3 :: o4 :: o5 :: o6 :: o7 :: o8 :: o9 :: some z :: ρ) S2 := x_aug rfl
theorem x_aug11 {o0 o1 o2 o3 o4 o5 o6 o7 o8 o9 o10 : Option D} : gAug 11 r ge E (o0 :: o1 :: o2 :: o3 :: o4 :: o5 :: o6 :: o7 :: o8 :: o9 :: o10 :: some d :: ρ) S ↔ ge (o0 :: o1 :: o2 :: o3 :: o4 :: o5 :: o6 :: o7 :: o8 :: o9 :: o10 :: some d :: ρ) S fun y S1 => r d y S1 fun z S2 => E.nx (o0 :: o1 :: o2 :: o3 :: o4 :: o5 :: o6 :: o7 :: o8 :: o9 :: o10 :: some z :: ρ) S2 := x_aug rfl
theorem x_aug12 {o0 o1 o2 o3 o4 o5 o6 o7 o8 o9 o10 o11 : Option D} : gAug 12 r ge E (o0 :: o1 :: o2 :: o3 :: o4 :: o5 :: o6 :: o7 :: o8 :: o9 :: o10 :: o11 :: some d :: ρ) S ↔ ge (o0 :: o1 :: o2 :: o3 :: o4 :: o5 :: o6 :: o7 :: o8 :: o9 :: o10 :: o11 :: some d :: ρ) S fun y S1 => r d y S1 fun z S2 => E.nx (o0 :: o1 :: o2 :: o3 :: o4 :: o5 :: o6 :: o7 :: o8 :: o9 :: o10 :: o11 :: some z :: ρ) S2 := x_aug rfl
theorem x_aug13 {o0 o1 o2 o3 o4 o5 o6 o7 o8 o9 o10 o11 o12 : Option D} : gAug 13 r ge E (o0 :: o1 :: o2 :: o3 :: o4 :: o5 :: o6 :: o7 :: o8 :: o9 :: o10 :: o11 :: o12 :: some d :: ρ) S ↔ ge (o0 :: o1 :: o2 :: o3 :: o4 :: o5 :: o6 :: o7 :: o8 :: o9 :: o10 :: o11 :: o12 :: some d :: ρ) S fun y S1 => r d y S1 fun z S2 => E.nx (o0 :: o1 :: o2 :: o3 :: o4 :: o5 :: o6 :: o7 :: o8 :: o9 :: o10 :: o11 :: o12 :: some z :: ρ) S2 := x_aug rfl
theorem x_aug14 {o0 o1 o2 o3 o4 o5 o6 o7 o8 o9 o10 o11 o12 o13 : Option D} : gAug 14 r ge E (o0 :: o1 :: o2 :: o3 :: o4 :: o5 :: o6 :: o7 :: o8 :: o9 :: o10 :: o11 :: o12 :: o13 :: some d :: ρ) S ↔ ge (o0 :: o1 :: o2 :: o3 :: o4 :: o5 :: o6 :: o7 :: o8 :: o9 :: o10 :: o11 :: o12 :: o13 :: some d :: ρ) S fun y S1 => r d y S1 fun z S2 => E.nx (o0 :: o1 :: o2 :: o3 :: o4 :: o5 :: o6 :: o7 :: o8 :: o9 :: o10 :: o11 :: o12 :: o13 :: some z :: ρ) S2 := x_aug rfl
theorem x_aug15 {o0 o1 o2 o3 o4 o5 o6 o7 o8 o9 o10 o11 o12 o13 o14 : Option D} : gAug 15 r ge E (o0 :: o1 :: o2 :: o3 :: o4 :: o5 :: o6 :: o7 :: o8 :: o9 :: o10 :: o11 :: o12 :: o13 :: o14 :: some d :: ρ) S ↔ ge (o0 :: o1 :: o2 :: o3 :: o4 :: o5 :: o6 :: o7 :: o8 :: o9 :: o10 :: o11 :: o12 :: o13 :: o14 :: some d :: ρ) S fun y S1 => r d y S1 fun z S2 => E.nx (o0 :: o1 :: o2 :: o3 :: o4 :: o5 :: o6 :: o7 :: o8 :: o9 :: o10 :: o11 :: o12 :: o13 :: o14 :: some z :: ρ) S2 := x_aug rfl
theorem x_aug16 {o0 o1 o2 o3 o4 o5 o6 o7 o8 o9 o10 o11 o12 o13 o14 o15 : Option D} : gAug 16 r ge E (o0 :: o1 :: o2 :: o3 :: o4 :: o5 :: o6 :: o7 :: o8 :: o9 :: o10 :: o11 :: o12 :: o13 :: o14 :: o15 :: some d :: ρ) S ↔ ge (o0 :: o1 :: o2 :: o3 :: o4 :: o5 :: o6 :: o7 :: o8 :: o9 :: o10 :: o11 :: o12 :: o13 :: o14 :: o15 :: some d :: ρ) S fun y S1 => r d y S1 fun z S2 => E.nx (o0 :: o1 :: o2 :: o3 :: o4 :: o5 :: o6 :: o7 :: o8 :: o9 :: o10 :: o11 :: o12 :: o13 :: o14 :: o15 :: some z :: ρ) S2 := x_aug rfl
theorem x_aug17 {o0 o1 o2 o3 o4 o5 o6 o7 o8 o9 o10 o11 o12 o13 o14 o15 o16 : Option D} : gAug 17 r ge E (o0 :: o1 :: o2 :: o3 :: o4 :: o5 :: o6 :: o7 :: o8 :: o9 :: o10 :: o11 :: o12 :: o13 :: o14 :: o15 :: o16 :: some d :: ρ) S ↔ ge (o0 :: o1 :: o2 :: o3 :: o4 :: o5 :: o6 :: o7 :: o8 :: o9 :: o10 :: o11 :: o12 :: o13 :: o14 :: o15 :: o16 :: some d :: ρ) S fun y S1 => r d y S1 fun z S2 => E.nx (o0 :: o1 :: o2 :: o3 :: o4 :: o5 :: o6 :: o7 :: o8 :: o9 :: o10 :: o11 :: o12 :: o13 :: o14 :: o15 :: o16 :: some z :: ρ) S2 := x_aug rfl
theorem x_aug18 {o0 o1 o2 o3 o4 o5 o6 o7 o8 o9 o10 o11 o12 o13 o14 o15 o16 o17 : Option D} : gAug 18 r ge E (o0 :: o1 :: o2 :: o3 :: o4 :: o5 :: o6 :: o7 :: o8 :: o9 :: o10 :: o11 :: o12 :: o13 :: o14 :: o15 :: o16 :: o17 :: some d :: ρ) S ↔ ge (o0 :: o1 :: o2 :: o3 :: o4 :: o5 :: o6 :: o7 :: o8 :: o9 :: o10 :: o11 :: o12 :: o13 :: o14 :: o15 :: o16 :: o17 :: some d :: ρ) S fun y S1 => r d y S1 fun z S2 => E.nx (o0 :: o1 :: o2 :: o3 :: o4 :: o5 :: o6 :: o7 :: o8 :: o9 :: o10 :: o11 :: o12 :: o13 :: o14 :: o15 :: o16 :: o17 :: some z :: ρ) S2 := x_aug rfl
theorem x_aug19 {o0 o1 o2 o3 o4 o5 o6 o7 o8 o9 o10 o11 o12 o13 o14 o15 o16 o17 o18 : Option D} : gAug 19 r ge E (o0 :: o1 :: o2 :: o3 :: o4 :: o5 :: o6 :: o7 :: o8 :: o9 :: o10 :: o11 :: o12 :: o13 :: o14 :: o15 :: o16 :: o17 :: o18 :: some d :: ρ) S ↔ ge (o0 :: o1 :: o2 :: o3 :: o4 :: o5 :: o6 :: o7 :: o8 :: o9 :: o10 :: o11 :: o12 :: o13 :: o14 :: o15 :: o16 :: o17 :: o18 :: some d :: ρ) S fun y S1 => r d y S1 fun z S2 => E.nx (o0 :: o1 :: o2 :: o3 :: o4 :: o5 :: o6 :: o7 :: o8 :: o9 :: o10 :: o11 :: o12 :: o13 :: o14 :: o15 :: o16 :: o17 :: o18 :: some z :: ρ) S2 := x_aug rfl
theorem x_aug20 {o0 o1 o2 o3 o4 o5 o6 o7 o8 o9 o10 o11 o12 o13 o14 o15 o16 o17 o18 o19 : Option D} : gAug 20 r ge E (o0 :: o1 :: o2 :: o3 :: o4 :: o5 :: o6 :: o7 :: o8 :: o9 :: o10 :: o11 :: o12 :: o13 :: o14 :: o15 :: o16 :: o17 :: o18 :: o19 :: some d :: ρ) S ↔ ge (o0 :: o1 :: o2 :: o3 :: o4 :: o5 :: o6 :: o7 :: o8 :: o9 :: o10 :: o11 :: o12 :: o13 :: o14 :: o15 :: o16 :: o17 :: o18 :: o19 :: some d :: ρ) S fun y S1 => r d y S1 fun z S2 => E.nx (o0 :: o1 :: o2 :: o3 :: o4 :: o5 :: o6 :: o7 :: o8 :: o9 :: o10 :: o11 :: o12 :: o13 :: o14 :: o15 :: o16 :: o17 :: o18 :: o19 :: some z :: ρ) S2 := x_aug rfl
theorem x_aug21 {o0 o1 o2 o3 o4 o5 o6 o7 o8 o9 o10 o11 o12 o13 o14 o15 o16 o17 o18 o19 o20 : Option D} : gAug 21 r ge E (o0 :: o1 :: o2 :: o3 :: o4 :: o5 :: o6 :: o7 :: o8 :: o9 :: o10 :: o11 :: o12 :: o13 :: o14 :: o15 :: o16 :: o17 :: o18 :: o19 :: o20 :: some d :: ρ) S ↔ ge (o0 :: o1 :: o2 :: o3 :: o4 :: o5 :: o6 :: o7 :: o8 :: o9 :: o10 :: o11 :: o12 :: o13 :: o14 :: o15 :: o16 :: o17 :: o18 :: o19 :: o20 :: some d :: ρ) S fun y S1 => r d y S1 fun z S2 => E.nx (o0 :: o1 :: o2 :: o3 :: o4 :: o5 :: o6 :: o7 :: o8 :: o9 :: o10 :: o11 :: o12 :: o13 :: o14 :: o15 :: o16 :: o17 :: o18 :: o19 :: o20 :: some z :: ρ) S2 := x_aug rfl
theorem x_aug22 {o0 o1 o2 o3 o4 o5 o6 o7 o8 o9 o10 o11 o12 o13 o14 o15 o16 o17 o18 o19 o20 o21 : Option D} : gAug 22 r ge E (o0 :: o1 :: o2 :: o3 :: o4 :: o5 :: o6 :: o7 :: o8 :: o9 :: o10 :: o11 :: o12 :: o13 :: o14 :: o15 :: o16 :: o17 :: o18 :: o19 :: o20 :: o21 :: some d :: ρ) S ↔ ge (o0 :: o1 :: o2 :: o3 :: o4 :: o5 :: o6 :: o7 :: o8 :: o9 :: o10 :: o11 :: o12 :: o13 :: o14 :: o15 :: o16 :: o17 :: o18 :: o19 :: o20 :: o21 :: some d :: ρ) S fun y S1 => r d y S1 fun z S2 => E.nx (o0 :: o1 :: o2 :: o3 :: o4 :: o5 :: o6 :: o7 :: o8 :: o9 :: o10 :: o11 :: o12 :: o13 :: o14 :: o15 :: o16 :: o17 :: o18 :: o19 :: o20 :: o21 :: some z :: ρ) S2 := x_aug rfl
theorem x_aug23 {o0 o1 o2 o3 o4 o5 o6 o7 o8 o9 o10 o11 o12 o13 o14 o15 o16 o17 o18 o19 o20 o21 o22 : Option D} : gAug 23 r ge E (o0 :: o1 :: o2 :: o3 :: o4 :: o5 :: o6 :: o7 :: o8 :: o9 :: o10 :: o11 :: o12 :: o13 :: o14 :: o15 :: o16 :: o17 :: o18 :: o19 :: o20 :: o21 :: o22 :: some d :: ρ) S ↔ ge (o0 :: o1 :: o2 :: o3 :: o4 :: o5 :: o6 :: o7 :: o8 :: o9 :: o10 :: o11 :: o12 :: o13 :: o14 :: o15 :: o16 :: o17 :: o18 :: o19 :: o20 :: o21 :: o22 :: some d :: ρ) S fun y S1 => r d y S1 fun z S2 => E.nx (o0 :: o1 :: o2 :: o3 :: o4 :: o5 :: o6 :: o7 :: o8 :: o9 :: o10 :: o11 :: o12 :: o13 :: o14 :: o15 :: o16 :: o17 :: o18 :: o19 :: o20 :: o21 :: o22 :: some z :: ρ) S2 := x_aug rfl
end
def aFld (K : PySem.W.Frag) (f : Str) (o : D) (S1 : Sto) (q : D → Sto → Prop) : Prop := ∃ C ks ds d, objOf S1 o = some (C, ks, ds) ∧ FldOk K C f ∧ fget f ks ds = some d ∧ q d S1
def aFset (K : PySem.W.Frag) (f : Str) (o y : D) (S2 : Sto) (c : Sto → Prop) : Prop := ∃ n C ks ds, o = .loc n ∧ S2[n]? = some (some (.obj C ks ds)) ∧ FldOk K C f ∧ ks.length < 1000 ∧ c (S2.set n (some (.obj C (putK f ks) (putX f y ks ds))))
def aMakeF (C : Addr) (n nk : Nat) (src : List Src) (dds : List D) (dsp : DSp) (as zs : List D) (S1 : Sto) (q : D → Sto → Prop) : Prop := as.length = n ∧ zs.length = nk ∧ (D.unders S1.length as = true → D.unders S1.length zs = true →
  dsp (gat src (.loc S1.length :: as) dds zs) (S1 ++ [some (.obj C [] [])]) fun v S2 => v = .non ∧ ∃ ks ds, S2 = S1 ++ [some (.obj C ks ds)] ∧ D.unders S1.length ds = true ∧ q (.obj C ks ds) S1)
def aMake (C : Addr) (n nk : Nat) (src : List Src) (dds : List D) (dsp : DSp) (as zs : List D) (S1 : Sto) (q : D → Sto → Prop) : Prop := as.length = n ∧ zs.length = nk ∧
  dsp (gat src (.loc S1.length :: as) dds zs) (S1 ++ [some (.obj C [] [])]) fun v S2 => v = .non ∧ q (.loc S1.length) S2
def aMeth (C : Addr) (m : Str) (o : D) (S1 : Sto) (c : Prop) : Prop := ∃ ks ds, objOf S1 o = some (C, ks, ds) ∧ ks.contains m = false ∧ c
section
variable {K : PySem.W.Frag} {f m : Str} {C C' : Addr} {go gv : G D} {ga : GA} {ρ : Env_} {S S0 : Sto} {q : D → Sto → Prop} {E : DE} {n nk : Nat} {src : List Src} {dds ds as zs : List D} {dsp : DSp} {ks : List Str} {d y : D} {cc : Sto → Prop} {c : Prop} {b : Bool}
theorem x_fld : gFld K f go ρ S q = go ρ S fun o S1 => aFld K f o S1 q := rfl
theorem x_fset : gFldSet K f go gv E ρ S = gv ρ S fun y S1 => go ρ S1 fun o S2 => aFset K f o y S2 (E.nx ρ) := rfl
theorem x_mkF : gMakeF C n nk src dds dsp ga ρ S q = ga ρ S fun as zs S1 => aMakeF C n nk src dds dsp as zs S1 q := rfl
theorem x_mk : gMake C n nk src dds dsp ga ρ S q = ga ρ S fun as zs S1 => aMake C n nk src dds dsp as zs S1 q := rfl
theorem x_meth : gMeth C m n nk src dds dsp go ga ρ S q = go ρ S fun o S1 => aMeth C m o S1 (ga ρ S1 fun as zs S2 => as.length = n ∧ zs.length = nk ∧ dsp (gat src (o :: as) dds zs) S2 q) := by
  unfold gMeth aMeth
  refine congrArg _ (funext fun o => funext fun S1 => propext ⟨fun ⟨ks, ds, h1, h2, h3⟩ => ⟨ks, ds, h1, h2, h3⟩, fun ⟨ks, ds, h1, h2, h3⟩ => ⟨ks, ds, h1, h2, h3⟩⟩)
theorem x_fldO (hf : FldOk K C f) : aFld K f (.obj C ks ds) S q ↔ ∃ d, fget f ks ds = some d ∧ q d S := by
  constructor
  · rintro ⟨_, _, _, d, e, _, h1, h2⟩; cases e; exact ⟨d, h1, h2⟩
  · rintro ⟨d, h1, h2⟩; exact ⟨C, ks, ds, d, rfl, hf, h1, h2⟩
theorem x_fldL {k : Nat} (hf : FldOk K C f) (hS : S[k]? = some (some (.obj C ks ds))) : aFld K f (.loc k) S q ↔ ∃ d, fget f ks ds = some d ∧ q d S := by
  have e0 : objOf S (.loc k) = some (C, ks, ds) := by simp only [objOf, hS]
  constructor
  · rintro ⟨_, _, _, d, e, _, h1, h2⟩; rw [e0] at e; cases e; exact ⟨d, h1, h2⟩
  · rintro ⟨d, h1, h2⟩; exact ⟨C, ks, ds, d, e0, hf, h1, h2⟩
theorem snoc_get {o : Option MO} : (S0 ++ [o])[S0.length]? = some o := by simp
theorem snoc_set {o p : Option MO} : (S0 ++ [o]).set S0.length p = S0 ++ [p] := by simp
theorem x_fsetE (hf : FldOk K C f) : aFset K f (.loc S0.length) y (S0 ++ [some (.obj C ks ds)]) cc ↔ ks.length < 1000 ∧ cc (S0 ++ [some (.obj C (putK f ks) (putX f y ks ds))]) := by
  constructor
  · rintro ⟨_, _, _, _, e, e1, _, hl, h2⟩; cases e; rw [snoc_get] at e1; cases e1; rw [snoc_set] at h2; exact ⟨hl, h2⟩
  · rintro ⟨hl, h2⟩; exact ⟨S0.length, C, ks, ds, rfl, snoc_get, hf, hl, by rw [snoc_set]; exact h2⟩
theorem x_fldE (hf : FldOk K C f) : aFld K f (.loc S0.length) (S0 ++ [some (.obj C ks ds)]) q ↔ ∃ d, fget f ks ds = some d ∧ q d (S0 ++ [some (.obj C ks ds)]) := x_fldL hf snoc_get
theorem x_methO (h : ks.contains m = false) : aMeth C m (.obj C ks ds) S c ↔ c := by
  constructor
  · rintro ⟨_, _, _, _, h1⟩; exact h1
  · exact fun h1 => ⟨ks, ds, rfl, h, h1⟩
theorem x_isiCO (hi : IsC K C) (hk : KitC K C C' b) : aIsiC K (.obj C ks ds) (.ref C') S q ↔ q (.bl b) S := by
  constructor
  · rintro ⟨_, e, ⟨_, _, _, b', e1, _, hk', h1⟩ | ⟨_, e1, _⟩⟩
    · cases e; cases e1
      have := hk.is.symm.trans hk'.is
      cases this
      exact h1
    · cases e1
  · exact fun h1 => ⟨C', rfl, .inl ⟨C, ks, ds, b, rfl, hi, hk, h1⟩⟩
theorem x_isiCt {t : String} (h : tyN S d = some t) (hk : KitB K C') (hn : objOf S d = none) : aIsiC K d (.ref C') S q ↔ q (.bl false) S := by
  constructor
  · rintro ⟨_, e, ⟨_, _, _, _, e1, _⟩ | ⟨_, _, _, h1⟩⟩
    · rw [hn] at e1; cases e1
    · exact h1
  · exact fun h1 => ⟨C', rfl, .inr ⟨t, h, hk, h1⟩⟩
theorem x_isiCN (hk : KitB K C') : aIsiC K .non (.ref C') S q ↔ q (.bl false) S := x_isiCt (t := "NoneType") rfl hk rfl
theorem x_isiCT (hk : KitB K C') : aIsiC K (.tup ds) (.ref C') S q ↔ q (.bl false) S := x_isiCt (t := "tuple") rfl hk rfl
theorem x_isiCLi (hk : KitB K C') : aIsiC K (.lst ds) (.ref C') S q ↔ q (.bl false) S := x_isiCt (t := "list") rfl hk rfl
theorem x_isiCS {x : Str} (hk : KitB K C') : aIsiC K (.str x) (.ref C') S q ↔ q (.bl false) S := x_isiCt (t := "str") rfl hk rfl
theorem x_isiCI {i : Int} (hk : KitB K C') : aIsiC K (.int i) (.ref C') S q ↔ q (.bl false) S := x_isiCt (t := "int") rfl hk rfl
theorem x_own {ks' : List Str} {es : List D} : aOwn C dsp (.obj C ks ds) (.obj C ks' es) S q ↔ dsp [.obj C ks ds, .obj C ks' es] S fun d S' => (∃ k, d = .bl k) ∧ q d S' := by
  unfold aOwn
  exact ⟨fun ⟨_, _, h⟩ => h, fun h => ⟨⟨_, _, rfl⟩, ⟨_, _, rfl⟩, h⟩⟩
end
theorem eqv_ints : ∀ ns ms : List Int, PyData.eqvAll (ns.map PyData.int) (ms.map PyData.int) = decide (ns = ms)
  | [], [] => by simp [PyData.eqvAll]
  | [], m :: ms => by simp [PyData.eqvAll]
  | n :: ns, [] => by simp [PyData.eqvAll]
  | n :: ns, m :: ms => by
    simp only [List.map_cons, PyData.eqvAll, PyData.eqv, eqv_ints ns ms, List.cons.injEq]
    rw [show (n == m) = decide (n = m) from rfl, Bool.decide_and]
theorem sh_intT (ns : List Int) : SeqAt.shaped (.tuple (ns.map PyData.int)) = true := by
  simp [SeqAt.shaped, PyData.canLay0, PyData.depth, can_int, dep_int]
section
variable {S : Sto} {q : D → Sto → Prop} {ns ms : List Int} {a b c d e f g h : Int}
theorem x_eqLi : aEq (.lst (ns.map D.int)) (.lst (ms.map D.int)) S q ↔ q (.bl (decide (ns = ms))) S := by
  rw [x_eq (p := .list (ns.map PyData.int)) (p' := .list (ms.map PyData.int)) (by simp [toPyS, toPy, toPys_int]) (by simp [toPyS, toPy, toPys_int])]
  simp only [sh_ints, true_and, PyData.eqv, eqv_ints]
theorem x_neLi : aNe (.lst (ns.map D.int)) (.lst (ms.map D.int)) S q ↔ q (.bl (decide (ns ≠ ms))) S := by
  rw [x_ne (p := .list (ns.map PyData.int)) (p' := .list (ms.map PyData.int)) (by simp [toPyS, toPy, toPys_int]) (by simp [toPyS, toPy, toPys_int])]
  simp only [sh_ints, true_and, PyData.eqv, eqv_ints, ← decide_not, ne_eq]
theorem x_eqTi : aEq (.tup (ns.map D.int)) (.tup (ms.map D.int)) S q ↔ q (.bl (decide (ns = ms))) S := by
  rw [x_eq (p := .tuple (ns.map PyData.int)) (p' := .tuple (ms.map PyData.int)) (by simp [toPyS, toPy, toPys_int]) (by simp [toPyS, toPy, toPys_int])]
  simp only [sh_intT, true_and, PyData.eqv, eqv_ints]
theorem x_neTi : aNe (.tup (ns.map D.int)) (.tup (ms.map D.int)) S q ↔ q (.bl (decide (ns ≠ ms))) S := by
  rw [x_ne (p := .tuple (ns.map PyData.int)) (p' := .tuple (ms.map PyData.int)) (by simp [toPyS, toPy, toPys_int]) (by simp [toPyS, toPy, toPys_int])]
  simp only [sh_intT, true_and, PyData.eqv, eqv_ints, ← decide_not, ne_eq]
theorem x_eqT2 : aEq (.tup [.int a, .int b]) (.tup [.int c, .int d]) S q ↔ q (.bl (decide ([a, b] = [c, d]))) S := x_eqTi (ns := [a, b]) (ms := [c, d])
theorem x_neT2 : aNe (.tup [.int a, .int b]) (.tup [.int c, .int d]) S q ↔ q (.bl (decide ([a, b] ≠ [c, d]))) S := x_neTi (ns := [a, b]) (ms := [c, d])
theorem x_neL4 : aNe (.lst [.int a, .int b, .int c, .int d]) (.lst [.int e, .int f, .int g, .int h]) S q ↔ q (.bl (decide ([a, b, c, d] ≠ [e, f, g, h]))) S := x_neLi (ns := [a, b, c, d]) (ms := [e, f, g, h])
theorem x_eqLN : aEq (.lst (ns.map D.int)) (.lst []) S q ↔ q (.bl (decide (ns = []))) S := x_eqLi (ms := [])
end
theorem kit_same {K : PySem.W.Frag} {C : Addr} : PySem.W.kitOne K (.ref C) (.ref C) = some true := by
  unfold PySem.W.kitOne
  rw [if_pos]
  simp
theorem kit_mk {K : PySem.W.Frag} {C : Addr} {t : Value} {b : Bool} (h1 : PySem.W.isClsIn K C = true) (h2 : PySem.W.typeIn K (.ref C) = some (.type "type")) (h3 : PySem.W.subIn K t (.ref C) = some b) (h4 : (t == Value.ref C) = false) : PySem.W.kitOne K t (.ref C) = some b := by
  unfold PySem.W.kitOne PySem.W.kitCls
  rw [h4, if_neg Bool.false_ne_true]
  unfold PySem.W.isClsIn at h1
  dsimp only
  rw [h1, h2, if_pos, h3]
  decide
end Dl
namespace Dl
open PySem L2
def rSortedD (K : PySem.W.Frag) : List V → Hp → VK → Prop := fun vs H Q => ∃ (a : Addr) (xs : List V) (ps : List PyData), vs = [.ref a] ∧ SqL K H a xs ∧ DpAll K H xs ps ∧ PySem.W.AllAlike ps ∧ PySem.W.Sortable ps ∧ (∀ p ∈ ps, p.depth ≤ 60) ∧
  ∀ (zs : List (V × PyData)) (p : Addr), zs = (xs.zip ps).mergeSort (PySem.W.dataLe false Prod.snd) → H p = none → Q (.ref p) (upd H p (.lst (zs.map Prod.fst)))
theorem dpAll_len {K : PySem.W.Frag} {H : Hp} : ∀ {xs : List V} {ps : List PyData}, DpAll K H xs ps → xs.length = ps.length
  | _, _, .nil => rfl
  | _, _, .cons _ h => by rw [List.length_cons, List.length_cons, dpAll_len h]
theorem readsAll_each {h : Heap} : ∀ {us : List Value} {ps : List PyData} {as : List Addr}, ReadsAll h us ps as → ∀ (i : Nat) (u : Value) (p : PyData), us[i]? = some u → ps[i]? = some p → ∃ as, Reads h u p as
  | _, _, _, .nil, i, u, p, h1, _ => by simp at h1
  | _, _, _, .cons r rs, 0, u, p, h1, h2 => by
    rw [List.getElem?_cons_zero] at h1 h2
    cases h1; cases h2
    exact ⟨_, r⟩
  | _, _, _, .cons r rs, i + 1, u, p, h1, h2 => by
    rw [List.getElem?_cons_succ] at h1 h2
    exact readsAll_each rs i u p h1 h2
theorem vals_each : ∀ {xs : List V} {us : List Value}, Vals xs us → ∀ (i : Nat) (x : V) (u : Value), xs[i]? = some x → us[i]? = some u → RelV x u
  | _, _, .nil, i, x, u, h1, _ => by simp at h1
  | _, _, .cons r rs, 0, x, u, h1, h2 => by
    rw [List.getElem?_cons_zero] at h1 h2
    cases h1; cases h2
    exact r
  | _, _, .cons r rs, i + 1, x, u, h1, h2 => by
    rw [List.getElem?_cons_succ] at h1 h2
    exact vals_each rs i x u h1 h2
theorem each_of {A B : Type} {R : A → B → Prop} : ∀ {as : List A} {bs : List B}, as.length = bs.length → (∀ (i : Nat) a b, as[i]? = some a → bs[i]? = some b → R a b) → PySem.W.EachIs R as bs
  | [], [], _, _ => .nil
  | [], _ :: _, h, _ => by simp at h
  | _ :: _, [], h, _ => by simp at h
  | a :: as, b :: bs, h, k => .cons (k 0 a b rfl rfl) (each_of (by simpa using h) fun i x y h1 h2 => k (i + 1) x y (by rw [List.getElem?_cons_succ]; exact h1) (by rw [List.getElem?_cons_succ]; exact h2))
theorem each_vals {bs : List ((Value × V) × PyData)} : ∀ {out : List Value} {bs : List ((Value × V) × PyData)}, PySem.W.EachIs (fun v b => v = b.1.1 ∧ RelV b.1.2 v) out bs → Vals (bs.map fun b => b.1.2) out
  | _, _, .nil => .nil
  | _, _, .cons h t => .cons h.2 (each_vals (bs := bs) t)
theorem zip3_get {A B C : Type} {as : List A} {bs : List B} {cs : List C} {i : Nat} {z : (A × B) × C} (h : ((as.zip bs).zip cs)[i]? = some z) : as[i]? = some z.1.1 ∧ bs[i]? = some z.1.2 ∧ cs[i]? = some z.2 := by
  rw [List.getElem?_zip_eq_some, List.getElem?_zip_eq_some] at h
  exact ⟨h.1.1, h.1.2, h.2⟩
theorem ms_map {A B : Type} {f : A → B} {r : A → A → Bool} {s : B → B → Bool} (h : ∀ a b, r a b = s (f a) (f b)) (l : List A) : (l.mergeSort r).map f = (l.map f).mergeSort s := List.map_mergeSort fun a _ b _ => h a b
theorem cr_sortedD {X : Cx} (hu : X.A.units + 64 < cLine) : CallR X (.builtin "sorted") (rSortedD X.K) := by
  intro pins s σ H vs us Q I r h
  obtain ⟨a, xs, ps, rfl, hs, hp, hal, hso, hdep, q⟩ := h
  obtain ⟨its, rv, hl, hz⟩ := I.list hs
  obtain ⟨u, rfl, ru⟩ := vals1 r
  obtain rfl : u = Value.ref a := ru
  obtain ⟨as, rd⟩ := Dp.readsAll I ps xs its hp rv
  have l1 : its.length = xs.length := rv.length.symm
  have l2 : xs.length = ps.length := dpAll_len hp
  let bs : List ((Value × V) × PyData) := (its.zip xs).zip ps
  have hbl : bs.length = ps.length := by show ((its.zip xs).zip ps).length = _; simp; omega
  have hmap : bs.map Prod.snd = ps := by
    show ((its.zip xs).zip ps).map Prod.snd = ps
    exact List.map_snd_zip (by simp; omega)
  refine PySem.W.sorted_data (β := (Value × V) × PyData) (R := fun v b => v = b.1.1 ∧ RelV b.1.2 v) (bs := bs) (enc := Prod.snd) hl.isList ?_ ?_ (by rw [hmap]; exact hal) (by rw [hmap]; exact hso) (by rw [hbl, ← l2]; exact hz) ?_ fun out ho he => ?_
  · refine each_of (by omega) fun i v b h1 h2 => ?_
    obtain ⟨g1, g2, g3⟩ := zip3_get h2
    rw [h1] at g1
    have e := Option.some.inj g1
    exact ⟨e, vals_each rv i _ _ g2 h1⟩
  · refine each_of (by omega) fun i v b h1 h2 => ?_
    obtain ⟨g1, g2, g3⟩ := zip3_get h2
    exact readsAll_each rd i v b.2 h1 g3
  · intro b hb
    have : b.2 ∈ ps := by rw [← hmap]; exact List.mem_map_of_mem hb
    have := hdep _ this
    omega
  · obtain ⟨n, hn⟩ := PyProof.Rows.sortedAll_at s.heap its out.toArray
    have kp : ∀ b o, s.heap.get? b = some o → (PyProof.Rows.sortedAll s.heap its out.toArray).get? b = some o := fun b o e => PyProof.Rows.sortedAll_old e
    have hd : s.heap.objs.size ≤ s.heap.objs.size + 1 := Nat.le_succ _
    have hvals := each_vals (bs := bs) he
    have hzs : (bs.mergeSort (PySem.W.dataLe false Prod.snd)).map (fun b => (b.1.2, b.2)) = (xs.zip ps).mergeSort (PySem.W.dataLe false Prod.snd) := by
      refine Eq.trans (ms_map (f := fun b : (Value × V) × PyData => (b.1.2, b.2)) (r := PySem.W.dataLe false Prod.snd) (s := PySem.W.dataLe false Prod.snd) (fun a b => rfl) bs) ?_
      congr 1
      apply List.ext_getElem?
      intro i
      rw [List.getElem?_map]
      cases hx : bs[i]? with
      | none =>
        have : bs.length ≤ i := List.getElem?_eq_none_iff.mp hx
        exact (List.getElem?_eq_none_iff.mpr (by simp; omega)).symm
      | some z =>
        obtain ⟨g1, g2, g3⟩ := zip3_get hx
        exact (List.getElem?_zip_eq_some (z := (z.1.2, z.2)).mpr ⟨g2, g3⟩).symm
    have hfst : ((xs.zip ps).mergeSort (PySem.W.dataLe false Prod.snd)).map Prod.fst = (bs.mergeSort (PySem.W.dataLe false Prod.snd)).map fun b => b.1.2 := by
      rw [← hzs, List.map_map]; rfl
    have q' := q _ (s.heap.objs.size + 1) rfl (I.hok.fresh hd)
    rw [hfst] at q'
    refine ⟨.ref (s.heap.objs.size + 1), upd H (s.heap.objs.size + 1) (.lst ((bs.mergeSort (PySem.W.dataLe false Prod.snd)).map fun b => b.1.2)), I.laid (t' := s.toks) kp hd ⟨?_, out, n, hvals, hn⟩, rfl, q'⟩
    rw [List.length_map, List.length_mergeSort, hbl, ← l2]
    exact hz
def aSorted (fz : Bool) : R1D := fun d S q => ∃ ds ps, seqOf S d = some ds ∧ d.isTup = false ∧ toPys ds = some ps ∧ PySem.W.AllAlike ps ∧ PySem.W.Sortable ps ∧ (∀ p ∈ ps, p.depth ≤ 60) ∧ newL fz (((ds.zip ps).mergeSort (PySem.W.dataLe false Prod.snd)).map Prod.fst) S q
theorem reps_all {K : PySem.W.Frag} {m : Nat → Addr} {N : Nat} {Hv : Hp} {A : Type} {f : A → D} {g : A → V} : ∀ {l : List A}, (∀ t ∈ l, Rep K m N Hv (f t) (g t)) → Reps K m N Hv (l.map f) (l.map g)
  | [], _ => rfl
  | t :: l, h => Reps.cons (h t (List.mem_cons_self ..)) (reps_all fun u hu => h u (List.mem_cons_of_mem _ hu))
theorem toPys_len : ∀ {ds : List D} {ps : List PyData}, toPys ds = some ps → ps.length = ds.length
  | [], ps, h => by simp [toPys] at h; subst h; rfl
  | d :: ds, ps, h => by
    rw [toPys] at h
    cases h1 : toPy d with
    | none => rw [h1] at h; cases h
    | some p =>
      cases h2 : toPys ds with
      | none => rw [h1, h2] at h; cases h
      | some qs =>
        rw [h1, h2] at h
        cases h
        rw [List.length_cons, List.length_cons, toPys_len h2]
theorem vr_sorted {K : PySem.W.Frag} {fz : Bool} : VRN K (rSortedD K) (a1 (aSorted fz)) := vrn1 fun {_ m S Z H d v q Q} w r ⟨ds, ps, h1, h2, h3, h4, h5, h6, h7⟩ k => by
  obtain ⟨a, xs, e, hr, ht, hl⟩ := seqOf_rep w r h1
  refine ⟨a, xs, ps, by rw [e], hl h2, DpAll.sub vis_le (dps_of hr h3), h4, h5, h6, fun zs p hz hp => ?_⟩
  have l1 := Reps.len hr
  have l2 := toPys_len h3
  let ts : List ((D × V) × PyData) := (ds.zip xs).zip ps
  have m1 : ts.map (fun t => (t.1.1, t.2)) = ds.zip ps := by
    apply List.ext_getElem?
    intro i
    rw [List.getElem?_map]
    cases hx : ts[i]? with
    | none =>
      have : ts.length ≤ i := List.getElem?_eq_none_iff.mp hx
      have hlen : ts.length = ds.length := by show ((ds.zip xs).zip ps).length = _; simp; omega
      exact (List.getElem?_eq_none_iff.mpr (by simp; omega)).symm
    | some z =>
      obtain ⟨g1, g2, g3⟩ := zip3_get hx
      exact (List.getElem?_zip_eq_some (z := (z.1.1, z.2)).mpr ⟨g1, g3⟩).symm
  have m2 : ts.map (fun t => (t.1.2, t.2)) = xs.zip ps := by
    apply List.ext_getElem?
    intro i
    rw [List.getElem?_map]
    cases hx : ts[i]? with
    | none =>
      have : ts.length ≤ i := List.getElem?_eq_none_iff.mp hx
      have hlen : ts.length = ds.length := by show ((ds.zip xs).zip ps).length = _; simp; omega
      exact (List.getElem?_eq_none_iff.mpr (by simp; omega)).symm
    | some z =>
      obtain ⟨g1, g2, g3⟩ := zip3_get hx
      exact (List.getElem?_zip_eq_some (z := (z.1.2, z.2)).mpr ⟨g2, g3⟩).symm
  have s1 : (ts.mergeSort (PySem.W.dataLe false Prod.snd)).map (fun t => (t.1.1, t.2)) = (ds.zip ps).mergeSort (PySem.W.dataLe false Prod.snd) := by
    refine Eq.trans (ms_map (f := fun t : (D × V) × PyData => (t.1.1, t.2)) (r := PySem.W.dataLe false Prod.snd) (s := PySem.W.dataLe false Prod.snd) (fun a b => rfl) ts) ?_
    rw [m1]
  have s2 : (ts.mergeSort (PySem.W.dataLe false Prod.snd)).map (fun t => (t.1.2, t.2)) = (xs.zip ps).mergeSort (PySem.W.dataLe false Prod.snd) := by
    refine Eq.trans (ms_map (f := fun t : (D × V) × PyData => (t.1.2, t.2)) (r := PySem.W.dataLe false Prod.snd) (s := PySem.W.dataLe false Prod.snd) (fun a b => rfl) ts) ?_
    rw [m2]
  have hrep : Reps K m S.length (vis m S Z H) (((ds.zip ps).mergeSort (PySem.W.dataLe false Prod.snd)).map Prod.fst) (zs.map Prod.fst) := by
    rw [hz, ← s1, ← s2, List.map_map, List.map_map]
    refine reps_all fun t ht => ?_
    have ht' : t ∈ ts := (List.mergeSort_perm ts _).mem_iff.mp ht
    obtain ⟨i, hi⟩ := List.getElem?_of_mem ht'
    obtain ⟨g1, g2, g3⟩ := zip3_get hi
    obtain ⟨v', hv', rv'⟩ := Reps.get hr g1
    rw [g2] at hv'
    cases hv'
    exact rv'
  exact out_newL w hrep h7 k hp
end Dl
namespace Dl
open PySem L2 PySem.W
section
variable {X : Cx} {C : Addr} {m qual : Str} {st : Stmt} {dvs : List V} {k : Nat} {ps : List Str} {dsp : DSp} {sp : Sp}
/-- a def run somewhere below the running body -/
theorem run_at {A : Around} {f : Addr} {fd : FuncData} {n : Nat} {g : List Value → List Value → List Value} {gV : List V → List V → List V} {pins : List (Addr × Obj)} {σ : L2.St} {H : Hp} {s : Shared} {Q : VK} {us : List Value} {vs : List V} (F : FnG X.prog X.w X.K X.mg X.base CX0 k f fd ps sp) (sb : SubG X k A) (hb : KBn X.K fd ps n [] g gV)
    (I : L2.Inv X pins σ H s) (r : Vals vs us) (l1 : vs.length = n) (h : sp (gV vs []) H Q fun _ _ _ => False) : wpAny (model X.prog X.w) A (call (.ref f) us) (EP X pins σ Q) X.xe s := by
  have e0 : Env0 X.prog X.w X.K X.mg X.base A X.stack s H := by
    have e := I.env0
    exact ⟨by rw [sb.fr]; exact e.frames, e.mod, e.bs, e.bsz, e.funs, e.frf, e.hok, e.bare⟩
  have r2 := hb.rel r .nil
  refine wpAny_call (codeAny_mono (F.run A X.stack s H ⟨us, []⟩ (g us []) (gV vs []) Q _ sb.room e0 (hb.to s us [] I.kIn (r.length.symm.trans l1) rfl) r2 h) fun r s' hq => ?_)
  cases r with
  | error e => exact pass0 pins σ H s e s' I hq
  | ok fl =>
    cases fl with
    | ret u => exact I.after hq
    | next => exact False.elim hq
    | brk => exact False.elim hq
    | cont => exact False.elim hq
def rLenO (C : Addr) (sp : Sp) : List V → Hp → VK → Prop := fun vs H Q => ∃ a dx fs, vs = [.ref a] ∧ H a = some (.ins C dx fs) ∧ sp [.ref a] H (fun v H' => ∃ n : Int, v = .int n ∧ 0 ≤ n ∧ n < 2 ^ 63 ∧ Q (.int n) H') fun _ _ _ => False
def aLenO (C : Addr) (dsp : DSp) : R1D := fun a S q => (∃ ks ds, objOf S a = some (C, ks, ds)) ∧ dsp [a] S fun d S' => ∃ n : Int, d = .int n ∧ 0 ≤ n ∧ n < 2 ^ 63 ∧ q (.int n) S'
theorem or_lenO (F : MFn X.prog X.w X.K X.mg X.base C "__len__" qual st dvs k ps dsp) (hr : RoomG (k + 1) X.A) (b : Bnd "__len__" qual st ps 1 [] [.p 0] dvs.length) : CallR X (.builtin "len") (rLenO C (spOf X.K dsp)) := by
  intro pins s σ H vs us Q I r h
  obtain ⟨a, dx, fs, rfl, ha, hsp⟩ := h
  obtain ⟨u, rfl, ru⟩ := vals1 r
  obtain rfl : u = Value.ref a := ru
  obtain ⟨f, fd, FS, hm, FO⟩ := F.ex
  obtain ⟨its, KB⟩ := kbn_of FS b
  obtain ⟨mA, J, _⟩ := ins_get I.hok ha
  obtain ⟨od, J, _⟩ := J.look
  obtain ⟨mm, hF⟩ := I.fr
  refine PySem.W.len_K hF I.ok.mod.kin J hm.at_ hm.fn ?_
  have r2 : Vals [V.ref a] [Value.ref a] := .cons rfl .nil
  refine wpAny_mono (run_at FO ⟨hr.in1, rfl⟩ KB I r2 rfl (Q := fun v H' => ∃ n : Int, v = .int n ∧ 0 ≤ n ∧ n < 2 ^ 63 ∧ Q (.int n) H') (by simpa [gat, pick] using hsp)) (fun w' s' hq => ?_) fun _ _ z => z
  obtain ⟨z, H', I', rz, n, ez, h0, h1, q⟩ := hq
  subst ez
  obtain ⟨t, rfl⟩ := rz
  exact ⟨⟨h0, h1⟩, .int n, H', I'.tok _, ⟨_, rfl⟩, q⟩
theorem vr_lenO {K : PySem.W.Frag} : VRN K (rLenO C (spOf K dsp)) (a1 (aLenO C dsp)) := vrn1 fun {_ m S Z H d v q Q} w r ⟨⟨ks, ds, h1⟩, h2⟩ kk => by
  obtain ⟨x, dx, vs, ev, hx, _, _⟩ := objOf_rep w r h1
  subst ev
  refine ⟨x, dx, _, rfl, hx, m, S, Z, [d], _, w.w0, Reps.one r, h2, fun v1 H1 m1 d1 S1 e1 w1 rr ⟨n, en, h3, h4, hq⟩ => ?_⟩
  subst en
  have rr' := rr
  rw [rD, Rep] at rr'
  exact ⟨n, rr', h3, h4, kk.at e1 (w.on e1 w1.toWd0) rep_int hq⟩
end
end Dl
namespace GB
open PySem PySem.Calls PySem.Spec PyProof.Rows GQ
open PySem.SeqAt
open AutoSeq1 (wpAny_loadPart')
open MeetsSeq MeetsSeq2 MeetsSeq3 SeqRoads2
section
variable {prog : Program} {w : World} {A : Around} {R : Result → Shared → Prop}
/-- at each turn the two lists are read anew: N items each, the i-th two compared say rs i -/
def ListB (prog : Program) (w : World) (A : Around) (E : Value → Shared → Prop) (l b : Addr) (N : Nat) (rs : Nat → Bool) (I : Nat → Shared → Prop) : Prop :=
  ∀ i s, I i s → ∃ (items items2 : Array Value) (n n2 : Nat), s.heap.get? l = some { cls := .type "list", data := .seq items n } ∧ s.heap.get? b = some { cls := .type "list", data := .seq items2 n2 } ∧ items.size = N ∧ items2.size = N ∧
    ∀ (h1 : i < items.size) (h2 : i < items2.size), wpAny (model prog w) A.in1 (eqBool items[i] items2[i]) (fun r s' => r = rs i ∧ I (i + 1) s') E s
/-- code 2: ==; code 3: != -/
def okOf (c : Int) : Bool := c == 2
theorem loopB (c : Int) (hc : c = 2 ∨ c = 3) (l b : Addr) (N : Nat) (rs : Nat → Bool) (out : Bool) (h1 : (∀ j, j < N → rs j = true) → out = okOf c) (h2 : ∀ j, j < N → rs j = false → out = !okOf c) (I : Nat → Shared → Prop) (hl : ListB prog w A (fun e s' => R (.error e) s') l b N rs I)
    (fin : ∀ j s, I j s → R (.ok (.ret (.bool out))) s) (k : Nat) :
    ∀ i : Nat, N - i = k → i ≤ N → (∀ j, j < i → rs j = true) → ∀ s, I i s →
      wpAny (model prog w) A.in1 (Builtin.«list.__eq__.loop» ⟨[.ref l, .ref b, rawInt i, rawInt c], []⟩) (FinOf prog w A R) (fun e s' => R (.error e) s') s := by
  induction k with
  | zero =>
    intro i hk hi hall s h
    obtain ⟨items, items2, n, n2, hl1, hb1, hs1, hs2, _⟩ := hl _ _ h
    have hi' : i = N := by omega
    have hR : R (.ok (.ret (.bool out))) s := fin i s h
    rw [h1 (fun j hj => hall j (by omega))] at hR
    obtain ⟨hp, g, d, tk, os⟩ := s
    rcases hc with rfl | rfl
    · wp_walk using wpAny_loadPart' hl1, wpAny_loadPart' hb1
      have hi1 : items[((i : Nat) : Int).toNat]? = none := by simp; omega
      have hi2 : items2[((i : Nat) : Int).toNat]? = none := by simp; omega
      rw [hi1, hi2]
      wp_walk using wpAny_loadPart' hl1, wpAny_loadPart' hb1
      show R (.ok (.ret (.bool (items.size == items2.size)))) _
      rw [hs1, hs2]
      simpa [okOf] using hR
    · wp_walk using wpAny_loadPart' hl1, wpAny_loadPart' hb1
      have hi1 : items[((i : Nat) : Int).toNat]? = none := by simp; omega
      have hi2 : items2[((i : Nat) : Int).toNat]? = none := by simp; omega
      rw [hi1, hi2]
      wp_walk using wpAny_loadPart' hl1, wpAny_loadPart' hb1
      show R (.ok (.ret (.bool (items.size != items2.size)))) _
      rw [hs1, hs2]
      simpa [okOf] using hR
  | succ k ih =>
    intro i hk hi hall s h
    obtain ⟨items, items2, n, n2, hl1, hb1, hs1, hs2, turn⟩ := hl _ _ h
    have hlt : i < items.size := by omega
    have hlt2 : i < items2.size := by omega
    have ht := turn hlt hlt2
    have hi1 : items[((i : Nat) : Int).toNat]? = some items[i] := by simp [hlt]
    have hi2 : items2[((i : Nat) : Int).toNat]? = some items2[i] := by simp [hlt2]
    have hcc : ((i : Int) + 1) = ((i + 1 : Nat) : Int) := by omega
    cases hr : rs i with
    | true =>
      have step : ∀ s2, I (i + 1) s2 → wpAny (model prog w) A.in1 (Builtin.«list.__eq__.loop» ⟨[.ref l, .ref b, rawInt ((i + 1 : Nat) : Int), rawInt c], []⟩) (FinOf prog w A R) (fun e s' => R (.error e) s') s2 := fun s2 h2' => ih (i + 1) (by omega) (by omega) (fun j hj => by
        rcases Nat.lt_or_ge j i with q | q
        · exact hall j q
        · rw [show j = i by omega]; exact hr) s2 h2'
      obtain ⟨hp, g, d, tk, os⟩ := s
      rcases hc with rfl | rfl
      all_goals
        wp_walk using wpAny_loadPart' hl1, wpAny_loadPart' hb1
        rw [hi1, hi2]
        refine wpAny_bind (wpAny_mono ht (fun r s2 h2' => ?_) fun _ _ x => x)
        obtain ⟨hr', h2'⟩ := h2'
        rw [hr] at hr'
        subst hr'
        have hrec := step s2 h2'
        obtain ⟨hp2, g2, d2, tk2, os2⟩ := s2
        wp_walk
        rw [hcc]
        exact ⟨plainId_quiet plain_eq_loop _, codeAny_builtin entry_eq_loop (by
          rw [Around.under_plainId plain_eq_loop _]
          exact hrec)⟩
    | false =>
      have ho := h2 i (by omega) hr
      have last : ∀ s2, I (i + 1) s2 → ∃ (items items2 : Array Value) (n n2 : Nat), s2.heap.get? l = some { cls := .type "list", data := .seq items n } ∧ s2.heap.get? b = some { cls := .type "list", data := .seq items2 n2 } ∧ i < items.size ∧ i < items2.size ∧ R (.ok (.ret (.bool (!okOf c)))) s2 := fun s2 q => by
        obtain ⟨x1, x2, y1, y2, e1, e2, e3, e4, _⟩ := hl _ _ q
        exact ⟨x1, x2, y1, y2, e1, e2, by omega, by omega, ho ▸ fin _ s2 q⟩
      obtain ⟨hp, g, d, tk, os⟩ := s
      rcases hc with rfl | rfl
      all_goals
        wp_walk using wpAny_loadPart' hl1, wpAny_loadPart' hb1
        rw [hi1, hi2]
        refine wpAny_bind (wpAny_mono ht (fun r s2 h2' => ?_) fun _ _ x => x)
        obtain ⟨hr', h2'⟩ := h2'
        rw [hr] at hr'
        subst hr'
        obtain ⟨x1, x2, y1, y2, e1, e2, e3, e4, hR⟩ := last s2 h2'
        obtain ⟨hp2, g2, d2, tk2, os2⟩ := s2
        wp_walk using wpAny_loadPart' e1, wpAny_loadPart' e2
        have hj1 : x1[((i : Nat) : Int).toNat]? = some x1[i] := by simp [e3]
        have hj2 : x2[((i : Nat) : Int).toNat]? = some x2[i] := by simp [e4]
        rw [hj1, hj2]
        wp_walk
        simpa [okOf] using hR
theorem list_neB (l b : Addr) (N : Nat) (rs : Nat → Bool) (out : Bool) (h1 : (∀ j, j < N → rs j = true) → out = false) (h2 : ∀ j, j < N → rs j = false → out = true) (I : Nat → Shared → Prop) (hl : ListB prog w A (fun e s' => R (.error e) s') l b N rs I)
    (fin : ∀ j s, I j s → R (.ok (.ret (.bool out))) s) {s : Shared} (h : I 0 s) :
    wpAny (model prog w) A.in1 (Builtin.«list.__ne__» ⟨[.ref l, .ref b], []⟩) (FinOf prog w A R) (fun e s' => R (.error e) s') s := by
  obtain ⟨items, items2, n, n2, hl1, hb1, hs1, hs2, _⟩ := hl _ _ h
  have hrec := loopB (A := A) (R := R) 3 (.inr rfl) l b N rs out h1 h2 I hl fin _ 0 rfl (Nat.zero_le _) (fun j hj => absurd hj (by omega)) s h
  obtain ⟨hp, g, d, tk, os⟩ := s
  have f3 := AutoSeq1.sub_list_list
  have hne : ¬ (items.size != items2.size) = true := by simp [hs1, hs2]
  wp_walk using wpAny_loadPart' hl1, wpAny_loadPart' hb1
  exact ⟨plainId_quiet plain_eq_loop _, codeAny_builtin entry_eq_loop (by
    rw [Around.under_plainId plain_eq_loop _]
    exact hrec)⟩
theorem list_neD (l b : Addr) {items items2 : Array Value} {n n2 : Nat} {s : Shared} (hl1 : s.heap.get? l = some { cls := .type "list", data := .seq items n }) (hb1 : s.heap.get? b = some { cls := .type "list", data := .seq items2 n2 }) (hsz : items.size ≠ items2.size) (fin : R (.ok (.ret (.bool true))) s) :
    wpAny (model prog w) A.in1 (Builtin.«list.__ne__» ⟨[.ref l, .ref b], []⟩) (FinOf prog w A R) (fun e s' => R (.error e) s') s := by
  obtain ⟨hp, g, d, tk, os⟩ := s
  have f3 := AutoSeq1.sub_list_list
  have hne : (items.size != items2.size) = true := by simp [hsz]
  wp_walk using wpAny_loadPart' hl1, wpAny_loadPart' hb1
  exact fin
end
section
variable {prog : Program} {w : World} {A : Around} {E : Value → Shared → Prop} {s : Shared}
theorem rc_neB {l b : Addr} {N : Nat} {rs : Nat → Bool} {out : Bool} {Q : Value → Shared → Prop} (hu : A.units < cLine) (h1 : (∀ j, j < N → rs j = true) → out = false) (h2 : ∀ j, j < N → rs j = false → out = true) (I : Nat → Shared → Prop) (hl : ListB prog w A E l b N rs I)
    (fin : ∀ j s, I j s → Q (.bool out) s) (h : I 0 s) : wpAny (model prog w) A (richCompare .NotEq (.ref l) (.ref b)) Q E s := by
  obtain ⟨items, items2, n, n2, hl1, hb1, _, _, _⟩ := hl _ _ h
  refine wpAny_richCompare_same_room (op := .NotEq) ⟨_, hl1, rfl⟩ ⟨_, hb1, rfl⟩ F.slot_list_ne (call_here F.slot_list_ne ⟨_, hl1, rfl⟩ F.entry_list_ne (F.args_list_ne_2 _ _) ?_) hu
  exact list_neB (R := wants (fun v s' => v ≠ .notImplemented ∧ Q v s') E) l b N rs out h1 h2 I hl (fun j s' q => ⟨(fun x => nomatch x), fin j s' q⟩) h
theorem rc_neD {l b : Addr} {items items2 : Array Value} {n n2 : Nat} {Q : Value → Shared → Prop} (hu : A.units < cLine) (hl1 : s.heap.get? l = some { cls := .type "list", data := .seq items n }) (hb1 : s.heap.get? b = some { cls := .type "list", data := .seq items2 n2 }) (hsz : items.size ≠ items2.size) (fin : Q (.bool true) s) :
    wpAny (model prog w) A (richCompare .NotEq (.ref l) (.ref b)) Q E s := by
  refine wpAny_richCompare_same_room (op := .NotEq) ⟨_, hl1, rfl⟩ ⟨_, hb1, rfl⟩ F.slot_list_ne (call_here F.slot_list_ne ⟨_, hl1, rfl⟩ F.entry_list_ne (F.args_list_ne_2 _ _) ?_) hu
  exact list_neD (R := wants (fun v s' => v ≠ .notImplemented ∧ Q v s') E) l b hl1 hb1 hsz ⟨(fun x => nomatch x), fin⟩
end
end GB
namespace Dl
open PySem L2
section
variable {K : PySem.W.Frag} {m : Nat → Addr} {S : Sto} {Z : Addr → Prop} {H H' : Hp}
theorem vis_grow (e : L2.Ext H H') : ∀ a o, vis m S Z H a = some o → vis m S Z H' a = some o := fun a o h => by
  obtain ⟨h1, h2⟩ := vis_not h
  exact vis_of (e _ _ (vis_sub h)) h1 h2
theorem Wd0.grow (w : Wd0 K m S Z H) (e : L2.Ext H H') : Wd0 K m S Z H' ∧ Ext m S Z H m S H' := by
  have hz : ∀ a, Z a → H' a = H a := fun a z => by
    obtain ⟨o, h⟩ := w.zh a z
    rw [h, e a o h]
  refine ⟨⟨w.inj, w.zz, fun a z => ?_, fun i o h => ?_⟩, ⟨Nat.le_refl _, fun _ _ => rfl, vis_grow e, hz⟩⟩
  · rw [hz a z]; exact w.zh a z
  · obtain ⟨u, hu⟩ := w.live ⟨o, h⟩
    exact (w.rep i o h).mono (fun _ _ => rfl) (Nat.le_refl _) (vis_grow e) (by rw [hu, e _ _ hu])
theorem Wd.grow (w : Wd K U m S Z H) (e : L2.Ext H H') : Wd K U m S Z H' ∧ Ext m S Z H m S H' := by
  obtain ⟨a, b⟩ := w.toWd0.grow e
  exact ⟨w.on b a, b⟩
/-- the whole store put out of sight -/
theorem Wd0.dark (w : Wd0 K m S Z H) : Wd0 K m (List.replicate S.length none) (fun a => Z a ∨ ∃ n, Live S n ∧ m n = a) H ∧ vis m (List.replicate S.length none) (fun a => Z a ∨ ∃ n, Live S n ∧ m n = a) H = vis m S Z H := by
  have nl : ∀ i, ¬ Live (List.replicate S.length none) i := fun i ⟨o, h⟩ => by
    rw [List.getElem?_replicate] at h
    split at h <;> cases h
  refine ⟨⟨fun i j l => absurd l (nl i), fun i l => absurd l (nl i), fun a z => ?_, fun i o h => absurd ⟨o, h⟩ (nl i)⟩, ?_⟩
  · rcases z with z | ⟨n, l, rfl⟩
    · exact w.zh a z
    · exact w.live l
  · funext a
    unfold vis
    by_cases q : Z a ∨ ∃ n, Live S n ∧ m n = a
    · rw [if_pos q, if_pos (.inl q)]
    · rw [if_neg q, if_neg]
      rintro (z | ⟨n, l, _⟩)
      · exact q z
      · exact nl n l
theorem Ext.all {m' : Nat → Addr} {n : Nat} {Zd : Addr → Prop} {S1 : Sto} (hS : S1 = List.replicate n none) (e : Ext m (List.replicate n none) Zd H m' S1 H') : L2.Ext H H' := fun a o h => by
  by_cases z : Zd a
  · rw [e.zed a z]; exact h
  · refine vis_sub (e.vis a o (vis_of h z fun i l => ?_))
    obtain ⟨u, hu⟩ := l
    rw [List.getElem?_replicate] at hu
    split at hu <;> cases hu
end
def D.flat : D → Bool
  | .non | .bl _ | .int _ | .str _ => true
  | _ => false
theorem flat_inj {K : PySem.W.Frag} {m : Nat → Addr} {N : Nat} {Hv : Hp} {d e : D} {v : V} (r : Rep K m N Hv d v) (r' : Rep K m N Hv e v) (hd : d.flat = true) (he : e.flat = true) : d = e := by
  cases d <;> cases e <;> first
    | (cases hd; done)
    | (cases he; done)
    | rfl
    | (simp only [Rep] at r r'; rw [r] at r'; cases r'; rfl)
    | (simp only [Rep] at r r'; rw [r] at r'; cases r'; done)
theorem flats_inj {K : PySem.W.Frag} {m : Nat → Addr} {N : Nat} {Hv : Hp} : ∀ {ds es : List D} {vs : List V}, Reps K m N Hv ds vs → Reps K m N Hv es vs → ds.all D.flat = true → es.all D.flat = true → ds = es
  | [], [], _, _, _, _, _ => rfl
  | [], e :: es, _, r, r', _, _ => by obtain ⟨v, q, h, _⟩ := r'; rw [show _ = [] from r] at h; cases h
  | d :: ds, [], _, r, r', _, _ => by obtain ⟨v, q, h, _⟩ := r; rw [show _ = [] from r'] at h; cases h
  | d :: ds, e :: es, _, r, r', hd, he => by
    obtain ⟨v, q, h, r1, r2⟩ := r
    obtain ⟨v', q', h', r1', r2'⟩ := r'
    rw [h] at h'
    cases h'
    rw [List.all_cons, Bool.and_eq_true] at hd he
    rw [flat_inj r1 r1' hd.1 he.1, flats_inj r2 r2' hd.2 he.2]
section
variable {X : Cx} {C : Addr} {qual : Str} {st : Stmt} {dvs : List V} {k : Nat} {ps : List Str} {dsp : DSp}
/-- what two items say -/
structure ItO (C : Addr) (dsp : DSp) (d e : D) (r : Bool) : Prop where
  ob : ∃ ks xs, d = .obj C ks xs ∧ xs.all D.flat = true
  ob' : ∃ ks xs, e = .obj C ks xs ∧ xs.all D.flat = true
  same : d = e → r = true
  say : ∀ S', dsp [d, e] S' fun u S'' => u = .bl r ∧ S'' = S'
theorem zip_inj {ks ks' : List Str} {vs vs' : List V} (h : ks.zip vs = ks'.zip vs') (h1 : ks.length = vs.length) (h2 : ks'.length = vs'.length) : ks = ks' ∧ vs = vs' := by
  have a := congrArg (List.map Prod.fst) h
  have b := congrArg (List.map Prod.snd) h
  rw [List.map_fst_zip (by omega), List.map_fst_zip (by omega)] at a
  rw [List.map_snd_zip (by omega), List.map_snd_zip (by omega)] at b
  exact ⟨a, b⟩
theorem ecmp_own (F : MFn X.prog X.w X.K X.mg X.base C "__eq__" qual st dvs k ps dsp) (b : Bnd "__eq__" qual st ps 2 [] [.p 0, .p 1] dvs.length) {A : Around} (sb : SubG X k A) {pins : List (Addr × Obj)} {σ : L2.St} {H : Hp} {s : Shared} {m : Nat → Addr} {S : Sto} {Z : Addr → Prop} {d e : D} {x y : V} {u v : Value} {r : Bool}
    (I : L2.Inv X pins σ H s) (w : Wd X.K U m S Z H) (r1 : Rep X.K m S.length (vis m S Z H) d x) (r2 : Rep X.K m S.length (vis m S Z H) e y) (rx : RelV x u) (ry : RelV y v) (hi : ItO C dsp d e r) :
    wpAny (model X.prog X.w) A (eqBool u v) (fun c s' => c = r ∧ ∃ H', L2.Inv X pins σ H' s' ∧ L2.Ext H H') X.xe s := by
  obtain ⟨ks, xs, ed, fx⟩ := hi.ob
  obtain ⟨ks', xs', ee, fx'⟩ := hi.ob'
  subst ed ee
  rw [Rep] at r1 r2
  obtain ⟨a, dx, vs, ex, hh1, l1, q1⟩ := r1
  obtain ⟨a', dx', vs', ey, hh2, l2, q2⟩ := r2
  subst ex ey
  cases rx
  cases ry
  by_cases hab : a = a'
  · subst hab
    rw [hh1] at hh2
    have ez := HO.ins.inj (Option.some.inj hh2)
    obtain ⟨ek, ev⟩ := zip_inj ez.2.2 l1 l2
    subst ek ev
    have := flats_inj q1 q2 fx fx'
    subst this
    rw [hi.same rfl]
    exact SeqAt.EqAt.same (A := A) (s := s) (.ref a) X.prog X.w X.xe _ ⟨rfl, H, I, fun _ _ z => z⟩
  · refine GQ.eqBool_refG hab ?_
    obtain ⟨f, fd, FS, hm, FO⟩ := F.ex
    obtain ⟨its, KB⟩ := kbn_of FS b
    obtain ⟨mA, J, _⟩ := ins_get I.hok (vis_sub hh1)
    obtain ⟨mB, J', _⟩ := ins_get I.hok (vis_sub hh2)
    obtain ⟨od, J, _⟩ := J.look
    obtain ⟨od', J', _⟩ := J'.look
    obtain ⟨mm, hF⟩ := I.fr
    refine PySem.W.cmp_K (op := .Eq) (tb := .ref C) sb.room.units0 hF I.ok.mod.kin J J'.type (by simp [PySem.W.notFirst]) hm.at_ hm.fn ?_
    have rr : Vals [V.ref a, V.ref a'] [Value.ref a, Value.ref a'] := .cons rfl (.cons rfl .nil)
    obtain ⟨wd, hv⟩ := w.toWd0.dark
    have hlen : (List.replicate S.length (none : Option MO)).length = S.length := by simp
    have p1 : Rep X.K m (List.replicate S.length (none : Option MO)).length (vis m (List.replicate S.length none) (fun a => Z a ∨ ∃ n, Live S n ∧ m n = a) H) (.obj C ks xs) (.ref a) := by
      rw [hv, hlen, Rep]; exact ⟨a, dx, vs, rfl, hh1, l1, q1⟩
    have p2 : Rep X.K m (List.replicate S.length (none : Option MO)).length (vis m (List.replicate S.length none) (fun a => Z a ∨ ∃ n, Live S n ∧ m n = a) H) (.obj C ks' xs') (.ref a') := by
      rw [hv, hlen, Rep]; exact ⟨a', dx', vs', rfl, hh2, l2, q2⟩
    have hsp : spOf X.K dsp [.ref a, .ref a'] H (fun v H' => v = .bl r ∧ L2.Ext H H') fun _ _ _ => False := by
      refine ⟨m, List.replicate S.length none, _, [.obj C ks xs, .obj C ks' xs'], _, wd.u0, Reps.cons p1 (Reps.one p2), hi.say _, fun v1 H1 m1 d1 S1 e1 w1 rr1 ⟨h1, h2⟩ => ?_⟩
      subst h1
      have rr1' := rr1
      rw [rD, Rep] at rr1'
      exact ⟨rr1', Ext.all h2 e1⟩
    refine wpAny_mono (run_at FO sb KB I rr rfl (by simpa [gat, pick] using hsp)) (fun w' s' hq => ?_) fun _ _ z => z
    obtain ⟨z, H', I', rz, ez, hE⟩ := hq
    subst ez
    cases rz
    exact ⟨r, rfl, rfl, H', I', hE⟩
def lstOf (S : Sto) : D → Option (List D)
  | .lst ds => some ds
  | .loc n => match S[n]? with
    | some (some (.lst ds)) => some ds
    | _ => none
  | _ => none
theorem lstOf_rep {K : PySem.W.Frag} {m : Nat → Addr} {S : Sto} {Z : Addr → Prop} {H : Hp} {d : D} {v : V} {ds : List D} (w : Wd K U m S Z H) (r : Rep K m S.length (vis m S Z H) d v) (h : lstOf S d = some ds) : ∃ a vs, v = .ref a ∧ H a = some (.lst vs) ∧ Reps K m S.length (vis m S Z H) ds vs := by
  cases d with
  | lst ds' => cases h; rw [Rep] at r; obtain ⟨a, vs, e, h1, h2⟩ := r; exact ⟨a, vs, e, vis_sub h1, h2⟩
  | loc n =>
    rw [Rep] at r
    rw [lstOf] at h
    split at h
    · rename_i q; cases h; obtain ⟨vs, h1, h2⟩ := w.rep n _ q; exact ⟨m n, vs, r.1, h1, h2⟩
    · cases h
  | non => cases h
  | bl _ => cases h
  | int _ => cases h
  | str _ => cases h
  | tup _ => cases h
  | ksq _ => cases h
  | obj _ _ _ => cases h
  | dic _ _ => cases h
  | ref _ => cases h
  | ty _ => cases h
  | exc _ _ _ => cases h
end
def aRev (fz : Bool) : R1D := fun d S q => ∃ ds, seqOf S d = some ds ∧ d.isTup = false ∧ newL fz ds.reverse S q
def gRev (fz : Bool) (ge : G D) : G D := fun ρ S q => ge ρ S fun d S1 => aRev fz d S1 q
def aPar3 (i j l : Nat) (ρ : Env_) (k : Env_ → Sto → Prop) (as : List D) (S1 : Sto) : Prop := ∃ v u z, as = [v, u, z] ∧ k (((ρ.set i (some v)).set j (some u)).set l (some z)) S1
theorem x_par3 {i j l : Nat} {ga : G (List D)} {E : DE} {ρ : Env_} {S : Sto} : gPar3 i j l ga E ρ S = ga ρ S fun as S1 => aPar3 i j l ρ E.nx as S1 := rfl
theorem x_par33 {i j l : Nat} {k : Env_ → Sto → Prop} {ρ : Env_} {S : Sto} {v u z : D} : aPar3 i j l ρ k [v, u, z] S ↔ k (((ρ.set i (some v)).set j (some u)).set l (some z)) S := by
  constructor
  · rintro ⟨_, _, _, e, h⟩; cases e; exact h
  · exact fun h => ⟨v, u, z, rfl, h⟩
theorem rng_size (i j : Int) : Builtin.Range.rangeSize i j 1 = max 0 (j - i) := by
  unfold Builtin.Range.rangeSize
  rw [if_pos (by decide)]
  split
  · rw [Int.ediv_one]; omega
  · omega
section
variable {X : Cx} {ga : G (List D)} {a b : Expr}
theorem call_len_rng : CallR X (.builtin "len") (fun xs H Q => ∃ (p : Addr) (i j : Int), xs = [.ref p] ∧ H p = some (.rng i j) ∧ j - i < 2 ^ 62 ∧ Q (.int (max 0 (j - i))) H) := by
  intro pins s σ H xs us Q I r h
  obtain ⟨p, i, j, rfl, hp, hb, q⟩ := h
  obtain ⟨u, rfl, ru⟩ := vals1 r
  obtain rfl : u = Value.ref p := ru
  obtain ⟨t, u, v, ho⟩ := I.hok _ _ hp
  have hn : Builtin.Range.rangeSize i j 1 = (((max 0 (j - i)).toNat : Nat) : Int) := by rw [rng_size]; omega
  refine call_len_range (s := s) ho hn (by omega) ⟨.int (max 0 (j - i)), H, I.tok _, ⟨s.toks + 1, ?_⟩, q⟩
  rw [show (((max 0 (j - i)).toNat : Nat) : Int) = max 0 (j - i) by omega]
def aLenR : RND := fun as S1 q => ∃ i j : Int, as = [.int i, .int j] ∧ j - i < 2 ^ 62 ∧ q (.int (max 0 (j - i))) S1
def gLenR (ga : G (List D)) : G D := fun ρ S q => ga ρ S fun as S1 => ∃ i j : Int, as = [.int i, .int j] ∧ j - i < 2 ^ 62 ∧ q (.int (max 0 (j - i))) S1
theorem d_lenrng {p p2 pos pos2 : Pos} (hg : Gl X "len") (hm : X.mg "len" = none) (hg2 : Gl X "range") (hm2 : X.mg "range" = none) (ha : PA X [a, b] (tofA X.K U ga))
    (hs2 : starEach [a, b] X.env = (false, eval a X.env) :: starEach [b] X.env := by rfl) (hpl2 : (backTo pos2 (starEach [b] X.env)).any (·.1) = false := by rfl)
    (hs : starEach [.Call (.Name "range" p2) [a, b] [] pos2] X.env = (false, eval (.Call (.Name "range" p2) [a, b] [] pos2) X.env) :: starEach [] X.env := by rfl) (hpl : (backTo pos (starEach [] X.env)).any (·.1) = false := by rfl) :
    PE X (.Call (.Name "len" p) [.Call (.Name "range" p2) [a, b] [] pos2] [] pos) (tofE X.K U (gLenR ga)) :=
  weakE (pe_callB call_len_rng hg hm (by decide +kernel) (pa_cons (pe_callTy cr_range2 hg2 hm2 (by decide +kernel) ha (by decide) (by decide) hs2 hpl2) pa_nil hs) (by decide) (by decide) hs hpl) fun σ H Q ⟨m, S, Z, ρ, q, w, rs, h, k⟩ =>
    tof_in w rs h fun v1 H1 m1 d1 S1 e1 w1 r1 ⟨i, j, ed, hb, h1⟩ => by
      subst ed
      obtain ⟨x, y, ev, rx, ry⟩ := reps2 r1
      rw [Rep] at rx ry
      refine ⟨i, j, by rw [ev, rx, ry], fun pp hp => ?_⟩
      obtain ⟨w2, e2, _⟩ := w1.new (o := .rng i j) hp
      exact ⟨pp, i, j, rfl, upd_same, hb, k.at (e1.trans e2) w2 rep_int h1⟩
theorem x_lenrI {S : Sto} {q : D → Sto → Prop} {i j : Int} : aLenR [.int i, .int j] S q ↔ j - i < 2 ^ 62 ∧ q (.int (max 0 (j - i))) S := by
  constructor
  · rintro ⟨_, _, e, h⟩; cases e; exact h
  · exact fun h => ⟨i, j, rfl, h⟩
theorem x_lenr {ρ : Env_} {S : Sto} {q : D → Sto → Prop} : gLenR ga ρ S q = ga ρ S fun as S1 => aLenR as S1 q := rfl
end
end Dl
namespace Dl
open PySem L2
section
variable {S0 S T : Sto} {ds : List D} {q : D → Sto → Prop} {c : Sto → Prop} {d v : D} {k : QI} {i : Int} {n : Nat}
theorem x_ixE : aIx (.loc S0.length) (.int i) (S0 ++ [some (.lst ds)]) q ↔ ∃ e, atI ds i = some e ∧ q e (S0 ++ [some (.lst ds)]) := by
  unfold aIx
  have e0 : seqOf (S0 ++ [some (.lst ds)]) (.loc S0.length) = some ds := by simp [seqOf]
  constructor
  · rintro ⟨_, e1, xs, z, e2, e3, h⟩; cases e1; rw [e0] at e2; cases e2; exact ⟨z, e3, h⟩
  · rintro ⟨z, e3, h⟩; exact ⟨_, rfl, ds, z, e0, e3, h⟩
theorem ixN_last {n : Nat} (h : 0 < n) : ixN n (-1) = some (n - 1) := by
  unfold ixN
  rw [if_neg (by omega), if_pos (by omega)]
  exact congrArg some (by omega)
theorem at_last {A : Type} {xs : List A} : atI xs (-1) = xs.getLast? := by
  unfold atI
  rw [List.getLast?_eq_getElem?]
  by_cases h : 0 < xs.length
  · rw [ixN_last h]; rfl
  · have : xs = [] := List.eq_nil_of_length_eq_zero (by omega)
    subst this
    rfl
theorem x_appE : aAppend (.loc S0.length) [d] (S0 ++ [some (.lst ds)]) q ↔ ds.length < sizeLine ∧ q .non (S0 ++ [some (.lst (ds ++ [d]))]) := by
  rw [x_app snoc_get, snoc_set]
theorem x_tyE : isTy "list" (S0 ++ [some (.lst ds)]) (.loc S0.length) = true := x_tyO snoc_get
theorem x_itE : aIt (.loc S0.length) (S0 ++ [some (.lst ds)]) k ↔ k ds (fun S' => seqOf S' (.loc S0.length) = some ds) (S0 ++ [some (.lst ds)]) := x_itO (by simp [seqOf])
theorem x_lenE : aLen (.loc S0.length) (S0 ++ [some (.lst ds)]) q ↔ q (.int ds.length) (S0 ++ [some (.lst ds)]) := x_lenL (by simp [seqOf])
theorem take_snoc : (S0 ++ T).take S0.length = S0 := by simp
/-- what a def gives back -/
theorem x_finE (hS : Sto.under S0.length S0 = true) : fin S0.length q (.loc S0.length) (S0 ++ [some (.lst ds)]) ↔ D.unders S0.length ds = true ∧ q (.lst ds) S0 := by
  unfold fin
  rw [take_snoc]
  simp [hS]
theorem x_finL (hS : Sto.under S0.length S0 = true) : fin S0.length q (.lst ds) (S0 ++ T) ↔ D.unders S0.length ds = true ∧ q (.lst ds) S0 := by
  unfold fin
  rw [take_snoc]
  simp [hS, D.under]
end
abbrev Pr := Int × Int
abbrev pD (p : Pr) : D := .tup [.int p.1, .int p.2]
abbrev pY (p : Pr) : PyData := .tuple [.int p.1, .int p.2]
theorem toPys_pr : ∀ P : List Pr, toPys (P.map pD) = some (P.map pY)
  | [] => by simp [toPys]
  | p :: P => by simp [toPys, toPy, toPys_pr P]
theorem toPy_pr (P : List Pr) : toPy (.lst (P.map pD)) = some (.list (P.map pY)) := by rw [toPy, toPys_pr]; rfl
theorem can_pr : ∀ P : List Pr, PyData.canLayAll0 (P.map pY) = true
  | [] => by simp [PyData.canLayAll0]
  | p :: P => by simp [PyData.canLayAll0, PyData.canLay0, can_pr P]
theorem dep_pr : ∀ P : List Pr, PyData.depthAll (P.map pY) ≤ 1
  | [] => by simp [PyData.depthAll]
  | p :: P => by
    have := dep_pr P
    simp [PyData.depthAll, PyData.depth]
    omega
theorem sh_pr (P : List Pr) : SeqAt.shaped (.list (P.map pY)) = true := by
  have := dep_pr P
  simp [SeqAt.shaped, PyData.canLay0, PyData.depth, can_pr]
  omega
theorem eqv_pr : ∀ P R : List Pr, PyData.eqvAll (P.map pY) (R.map pY) = decide (P = R)
  | [], [] => by simp [PyData.eqvAll]
  | [], m :: ms => by simp [PyData.eqvAll]
  | n :: ns, [] => by simp [PyData.eqvAll]
  | n :: ns, m :: ms => by
    obtain ⟨a, b⟩ := n
    obtain ⟨c, d⟩ := m
    simp only [List.map_cons, PyData.eqvAll, PyData.eqv, eqv_pr ns ms, List.cons.injEq, Prod.mk.injEq, Bool.and_true]
    rw [show (a == c) = decide (a = c) from rfl, show (b == d) = decide (b = d) from rfl, ← Bool.decide_and, ← Bool.decide_and]
section
variable {S S0 : Sto} {q : D → Sto → Prop} {P R : List Pr}
theorem x_nePr : aNe (.lst (P.map pD)) (.lst (R.map pD)) S q ↔ q (.bl (decide (P ≠ R))) S := by
  rw [x_ne (p := .list (P.map pY)) (p' := .list (R.map pY)) (show toPyS S (.lst (P.map pD)) = _ from toPy_pr P) (show toPyS S (.lst (R.map pD)) = _ from toPy_pr R)]
  simp only [sh_pr, true_and, PyData.eqv, eqv_pr, ← decide_not, ne_eq]
theorem x_eqPr : aEq (.lst (P.map pD)) (.lst (R.map pD)) S q ↔ q (.bl (decide (P = R))) S := by
  rw [x_eq (p := .list (P.map pY)) (p' := .list (R.map pY)) (show toPyS S (.lst (P.map pD)) = _ from toPy_pr P) (show toPyS S (.lst (R.map pD)) = _ from toPy_pr R)]
  simp only [sh_pr, true_and, PyData.eqv, eqv_pr]
theorem x_neE : aNe (.loc S0.length) (.lst []) (S0 ++ [some (.lst (P.map pD))]) q ↔ q (.bl (decide (P ≠ []))) (S0 ++ [some (.lst (P.map pD))]) := by
  rw [x_ne (p := .list (P.map pY)) (p' := .list (([] : List Pr).map pY)) (by simp [toPyS, toPys_pr]) (by simp [toPyS, toPy, toPys])]
  simp only [sh_pr, true_and, PyData.eqv, eqv_pr, ← decide_not, ne_eq]
/-- sorted pairs -/
def leP (p q : Pr) : Bool := decide (p.1 < q.1 ∨ (p.1 = q.1 ∧ p.2 ≤ q.2))
def sortP (P : List Pr) : List Pr := P.mergeSort leP
theorem x_sortedP {fz : Bool} (h : newL fz ((sortP P).map pD) S q) : aSorted fz (.lst (P.map pD)) S q := by
  refine ⟨P.map pD, P.map pY, rfl, rfl, toPys_pr P, PySem.W.AllAlike.of fun b b' => rfl, .inl fun d hd => ?_, fun p hp => ?_, ?_⟩
  · obtain ⟨p, _, rfl⟩ := List.mem_map.mp hd
    exact ⟨_, _, rfl⟩
  · obtain ⟨p, _, rfl⟩ := List.mem_map.mp hp
    exact (by decide : (1 : Nat) ≤ 60)
  · have e1 : (P.map pD).zip (P.map pY) = P.map fun p => (pD p, pY p) := by
      rw [List.zip_map']
    have e2 : (P.mergeSort leP).map (fun p => (pD p, pY p)) = (P.map fun p => (pD p, pY p)).mergeSort (PySem.W.dataLe false Prod.snd) := by
      refine ms_map (f := fun p : Pr => (pD p, pY p)) (r := leP) (s := PySem.W.dataLe false Prod.snd) (fun a b => ?_) P
      have := congrFun (congrFun (PySem.W.dataLe_ii (β := Pr) Prod.fst Prod.snd) a) b
      exact this.symm
    rw [e1, ← e2, List.map_map]
    exact h
end
/-- a comprehension over a list known as a map -/
theorem lc_on {A : Type} {F : A → D} (g1 : A → Option D) {L : List A} {S : Sto} {chk : Sto → Prop} {ρ : Env_} {t : Tgt} {gt : G Bool} {ge : G D} {vs : List Nat} {fz : Bool} {q : D → Sto → Prop} (hchk : chk S) (hlen : L.length ≤ sizeLine)
    (step : ∀ x ∈ L, ∀ (acc : List D) (R : List D → Sto → Prop), acc.length < sizeLine → R (acc ++ (g1 x).toList) S →
      ∃ ρ', t.bind (F x) (wipeD ρ vs) = some ρ' ∧ gt ρ' S fun b S2 => if b = true then ge ρ' S2 fun y S3 => acc.length < sizeLine ∧ R (acc ++ [y]) S3 else R acc S2)
    (h : newL fz (L.filterMap g1) S q) : aLc fz t gt ge vs ρ (L.map F) chk S q := by
  refine ⟨fun i acc S' => S' = S ∧ acc = (L.take i).filterMap g1, ⟨rfl, by simp⟩, ?_, ?_⟩
  · rintro i d acc S' hd ⟨rfl, rfl⟩
    rw [List.getElem?_map] at hd
    obtain ⟨x, hx, rfl⟩ := Option.map_eq_some_iff.mp hd
    have hi : i < L.length := (List.getElem?_eq_some_iff.mp hx).1
    have htake : L.take (i + 1) = L.take i ++ [x] := by rw [List.take_add_one, hx]; rfl
    refine ⟨hchk, step x (List.mem_of_getElem? hx) _ (fun acc S'' => S'' = S' ∧ acc = (L.take (i + 1)).filterMap g1) ?_ ⟨rfl, ?_⟩⟩
    · have := List.length_filterMap_le g1 (L.take i)
      rw [List.length_take] at this
      omega
    · rw [htake, List.filterMap_append, List.filterMap_cons]
      cases g1 x <;> simp
  · rintro acc S' ⟨rfl, rfl⟩
    rw [List.length_map, List.take_length]
    exact ⟨hchk, h⟩
theorem fm_some {A B : Type} {g : A → B} {L : List A} : L.filterMap (fun a => some (g a)) = L.map g := by rw [List.filterMap_eq_map']
theorem fm_if {A B : Type} {g : A → B} {p : A → Prop} [DecidablePred p] : ∀ {L : List A}, L.filterMap (fun a => if p a then some (g a) else none) = (L.filter fun a => decide (p a)).map g
  | [] => rfl
  | a :: L => by
    rw [List.filterMap_cons, fm_if (L := L)]
    by_cases h : p a
    · rw [if_pos h, List.filter_cons_of_pos (by simpa using h)]; rfl
    · rw [if_neg h, List.filter_cons_of_neg (by simpa using h)]
/-- ints, bools, pairs are below any n -/
theorem und_pr {n : Nat} : ∀ {P : List Pr}, D.unders n (P.map pD) = true
  | [] => rfl
  | p :: P => by
    rw [List.map_cons, D.unders, und_pr (P := P)]
    rfl
theorem x_b2 {ρ : Env_} {i j : Nat} {d e : D} : Tgt.bind (.tp [.nm i, .nm j]) (.tup [d, e]) ρ = some ((ρ.set i (some d)).set j (some e)) := by
  rw [x_btp, x_bc, x_bnm]
  show Tgt.binds [.nm j] [e] _ = _
  rw [x_bc, x_bnm]
  show Tgt.binds [] [] _ = _
  rw [x_bn]
theorem x_addLL {fz : Bool} {S : Sto} {q : D → Sto → Prop} {xs ys : List D} : aAdd fz (.lst xs) (.lst ys) S q ↔ xs.length + ys.length ≤ sizeLine ∧ newL fz (xs ++ ys) S q := by
  constructor
  · rintro ⟨_, _, e1, e2, h⟩; cases e1; cases e2; exact h
  · exact fun h => ⟨xs, ys, rfl, rfl, h⟩
theorem itS_of {d : D} {ds : List D} {S : Sto} {k : QI} (h : seqOf S d = some ds) (hk : k ds (fun S' => seqOf S' d = some ds) S) : aIt d S k := by
  unfold aIt
  cases d <;> first
    | exact ⟨_, h, hk⟩
    | (cases h; done)
end Dl
namespace Dl
open PySem L2 PyProof.Rows
theorem roomCaller {k : Nat} (h : Room k callerA) : RoomG k callerA := ⟨h, ⟨[], rfl⟩, fun _ => rfl⟩
section
variable {P : Program} {w : World} {K : PySem.W.Frag} {mg mb : Str → Option Value} {CX : CXT} {k : Nat} {fa a : Addr} {fd : FuncData} {x : Str} {sp : Sp} {s : Shared} {vs : List Value} {ns : List Int}
/-- the call of the law over an abstract heap that tracks at most the script -/
theorem law_over {H : Hp} (KX : K.In s.heap) (gl : s.heap.Ns mainGlobals mg) (bl : s.heap.Ns builtinsNs mb) (bb : ∀ y : Str, y ≠ "__name__" → mb y = bootBuiltins y) (lim : s.heap.NoLimit) (g0 : s.gens = #[])
    (ha : s.heap.get? a = some { cls := .type "list", data := .seq vs.toArray }) (room : Room k callerA) (F : ∀ base : Heap, K.In base → base.Ns mainGlobals mg → FnG P w K mg base CX k fa fd [x] sp) (bind : ∀ (s' : Shared) (u : Value), BindsTo s' fd ⟨[u], []⟩ [(x, u)])
    (hsp : sp [.ref a] H (fun v _ => v = .bl true) fun _ _ _ => False) (out : ∀ e s', CX [] H s (fun _ _ _ => False) e s' → False) (only : Only H) (ok : HOk P w H s.heap) (at_a : ∀ b, H b ≠ none → b = a) (own : H a ≠ none → K.lookup a = none) :
    codeAny (model P w) callerA (.call (.ref fa) ⟨[.ref a], []⟩) (fun r s' => r = .ok (.ret (.bool true)) ∧ OldK s.heap s'.heap ∧ s'.os = s.os ∧ AllBare s'.gens) s := by
  have free : ∀ {b : Addr} {o : Obj}, s.heap.get? b = some o → (∀ t, o ≠ { cls := .type "list", data := .seq t }) → H b = none := fun {b o} e n => by
    by_cases z : H b = none
    · exact z
    · rw [at_a b z, ha] at e
      exact absurd (Option.some.inj e).symm (n _)
  have ns_of : ∀ {b : Addr} {m : Str → Option Value}, s.heap.Ns b m → (hidT s.heap H).Ns b m := by
    rintro b m ⟨o, es, ep, e, d, r⟩
    refine ⟨o, es, ep, hidT_get e (free e fun t z => ?_), d, r⟩
    rw [z] at d
    cases d
  have kin : K.In (hidT s.heap H) := fun b o e => hidT_get (KX b o e) (by
    by_cases z : H b = none
    · exact z
    · have eb := at_a b z
      subst eb
      rw [own z] at e
      cases e)
  have lim' : (hidT s.heap H).NoLimit := by
    obtain ⟨mc, h1, h2⟩ := lim
    exact ⟨mc, ns_of h1, h2⟩
  have env : Env0 P w K mg (hidT s.heap H) callerA [] s H := {
    frames := rfl
    mod := ⟨kin, ns_of gl, ⟨mb, ns_of bl, bb⟩, lim'⟩
    bs := fun b o e => of_hidT e
    bsz := Nat.le_of_eq (hidT_size _ _)
    funs := trivial
    frf := fun b hb => by simp [frs] at hb
    hok := ok
    bare := .of_eq g0 }
  have run := (F _ kin (ns_of gl)).run callerA [] s H ⟨[.ref a], []⟩ [.ref a] [.ref a] _ _ (roomCaller room) env (bind s (.ref a)) (.cons rfl .nil) hsp
  refine codeAny_mono run fun r s' h => ?_
  match r, h with
  | .error e, h => exact (out e s' h).elim
  | .ok .next, h => exact h.elim
  | .ok .brk, h => exact h.elim
  | .ok .cont, h => exact h.elim
  | .ok (.ret u), ⟨v, H', os, bare, un, ok', rv, q⟩ =>
    have ev : v = .bl true := q
    subst ev
    have eu : u = Value.bool true := rv
    subst eu
    refine ⟨rfl, OldK.of_keep fun b o e => ?_, os, bare⟩
    rcases only b with z | ⟨ob, xs, z⟩
    · exact un.keep b o e z (by simp [frs]) (by simp)
    · obtain ⟨e1, _⟩ := ok b _ z
      obtain ⟨e2, _⟩ := ok' b _ (un.frzs b ob _ z)
      rw [e1] at e
      rw [e2, e]
theorem law_callG (KX : K.In s.heap) (gl : s.heap.Ns mainGlobals mg) (bl : s.heap.Ns builtinsNs mb) (bb : ∀ y : Str, y ≠ "__name__" → mb y = bootBuiltins y) (lim : s.heap.NoLimit) (g0 : s.gens = #[])
    (ha : s.heap.get? a = some { cls := .type "list", data := .seq vs.toArray }) (hi : IntsAre vs ns) (hl : ns.length ≤ sizeLine) (room : Room k callerA) (F : ∀ base : Heap, K.In base → base.Ns mainGlobals mg → FnG P w K mg base CX k fa fd [x] sp)
    (bind : ∀ (s' : Shared) (u : Value), BindsTo s' fd ⟨[u], []⟩ [(x, u)]) (hsp : ∀ H : Hp, Only H → SqL K H a (ns.map V.int) → sp [.ref a] H (fun v _ => v = .bl true) fun _ _ _ => False) (out : ∀ H e s', CX [] H s (fun _ _ _ => False) e s' → False) :
    codeAny (model P w) callerA (.call (.ref fa) ⟨[.ref a], []⟩) (fun r s' => r = .ok (.ret (.bool true)) ∧ OldK s.heap s'.heap ∧ s'.os = s.os ∧ AllBare s'.gens) s := by
  have rv := vals_ints hi
  have go := fun (H : Hp) (o : Only H) (q : SqL K H a (ns.map V.int)) => law_over (H := H) KX gl bl bb lim g0 ha room F bind (hsp H o q) (out H) o
  by_cases kn : K.lookup a = none
  · let Ha : Hp := fun b => if b = a then some (.frz { cls := .type "list", data := .seq vs.toArray } (.lst (ns.map V.int))) else none
    have h1 : Ha a = some (.frz { cls := .type "list", data := .seq vs.toArray } (.lst (ns.map V.int))) := if_pos rfl
    have h2 : ∀ b, b ≠ a → Ha b = none := fun b hb => if_neg hb
    refine go Ha (fun b => ?_) (.inl (.inr ⟨_, h1⟩)) (fun b u z => ?_) (fun b z => ?_) fun _ => kn
    · by_cases hb : b = a
      · rw [hb]; exact .inr ⟨_, _, h1⟩
      · exact .inl (h2 b hb)
    · by_cases hb : b = a
      · subst hb
        rw [h1] at z
        cases z
        exact ⟨ha, by rw [List.length_map]; exact hl, vs, _, rv, ha⟩
      · rw [h2 b hb] at z; cases z
    · by_cases hb : b = a
      · exact hb
      · exact absurd (h2 b hb) z
  · obtain ⟨o, hk⟩ := Option.ne_none_iff_exists'.mp kn
    have e := KX a o hk
    rw [ha] at e
    cases e
    refine go (fun _ => none) (fun _ => .inl rfl) (.inr ⟨_, vs.toArray, _, hk, rfl, rfl, rfl, ?_, ?_⟩) (fun b u z => by cases z) (fun b z => absurd rfl z) fun z => absurd rfl z
    · rw [List.size_toArray, hi.length]; exact hl
    · simpa using rv
end
end Dl
namespace Dl
open PySem L2
theorem piled_le {M : Nat} : ∀ {ts : List Str}, (∀ t ∈ ts, t.length ≤ M) → piled ts ≤ (M + 2) * ts.length
  | [], _ => Nat.zero_le _
  | t :: r, h => by
    have h1 := h t (List.mem_cons_self ..)
    have h2 := piled_le (M := M) (ts := r) fun u hu => h u (List.mem_cons_of_mem _ hu)
    rw [piled_cons, List.length_cons, Nat.mul_add]
    omega
theorem listText_le (ts : List Str) : (listText ts).length ≤ piled ts + 2 := by
  cases ts with
  | nil => exact Nat.le_of_eq rfl
  | cons t r =>
    have h := textFrom_length_pos r 1 (("[" : Str) ++ (if (0 : Nat) > 0 then ", " else "" : String) ++ t) (Nat.succ_pos 0)
    have e1 : (listText (t :: r)).length = (textFrom 1 (("[" : Str) ++ (if (0 : Nat) > 0 then ", " else "" : String) ++ t) r).length + 1 := strLen_append _ _
    have e2 : ((("[" : Str) ++ (if (0 : Nat) > 0 then ", " else "" : String) ++ t)).length = 1 + t.length := by
      rw [strLen_append, strLen_append]
      exact congrArg (· + t.length) (show 1 + 0 = 1 from rfl)
    rw [e1, h, e2, piled_cons]
    omega
theorem tupleText_le (ts : List Str) : (tupleText ts).length ≤ piled ts + 3 := by
  unfold tupleText
  rw [strLen_append, strLen_append]
  have e1 : ((("(" : String) : Str)).length = 1 := rfl
  have e2 : (((if ts.length == 1 then ",)" else ")" : String) : Str)).length ≤ 2 := by split <;> decide
  rw [e1]
  by_cases h : ts = []
  · subst h
    have : (Str.join ", " []).length = 0 := rfl
    rw [this, piled_nil]
    omega
  · have := join_length_add ts h
    omega
theorem shownAll_map : ∀ ps : List PyData, PyData.shownAll ps = ps.map PyData.shown
  | [] => by rw [PyData.shownAll]; rfl
  | p :: ps => by rw [PyData.shownAll, shownAll_map ps]; rfl
theorem shown_str {x : Str} {M : Nat} (h : PyData.strOk x = true) (hl : x.length ≤ M) : (PyData.str x).shown.length ≤ 10 * M + 2 := by
  rw [PyData.shown]
  refine Nat.le_trans (StrLaws.reprText_len x fun c hc => ?_) (by omega)
  unfold PyData.strOk at h
  rw [← Array.all_toList, List.all_eq_true] at h
  have h1 := h c hc
  simp only [decide_eq_true_eq] at h1
  exact Nat.lt_of_lt_of_le h1 (by decide)
end Dl
namespace Dl
open PySem L2
def kget : List (Str × Str) → Str → D
  | [], _ => .non
  | p :: r, z => if z = p.1 then .str p.2 else kget r z
def aKGet (a : Addr) (kvs : List (Str × Str)) : D → RND := fun o as S q => ∃ z, o = .ref a ∧ as = [.str z] ∧ q (kget kvs z) S
def gKGet (a : Addr) (kvs : List (Str × Str)) (gs : G (List D)) : G D := fun ρ S q => gs ρ S fun as S1 => aKGet a kvs (.ref a) as S1 q
theorem x_kget {a : Addr} {kvs : List (Str × Str)} {z : Str} {S : Sto} {q : D → Sto → Prop} : aKGet a kvs (.ref a) [.str z] S q ↔ q (kget kvs z) S := ⟨fun ⟨_, _, e, h⟩ => by cases e; exact h, fun h => ⟨z, rfl, rfl, h⟩⟩
def aEqS : R2D := fun a b S q => ∃ x y, a = .str x ∧ b = .str y ∧ q (.bl (decide (x = y))) S
def aNeS : R2D := fun a b S q => ∃ x y, a = .str x ∧ b = .str y ∧ q (.bl (decide (x ≠ y))) S
theorem dec_str {x y : Str} : decide (V.str x = V.str y) = decide (x = y) := decide_eq_decide.mpr ⟨fun h => V.str.inj h, fun h => by rw [h]⟩
theorem vr_eqSS {K : PySem.W.Frag} : VR2 K L2.rEq aEqS := fun {_ m S Z H a b v u q Q} w r1 r2 ⟨x, y, e1, e2, h⟩ k => by
  subst e1 e2
  rw [Rep] at r1 r2
  subst r1 r2
  exact ⟨rfl, by rw [dec_str]; exact k.now w rep_bl h⟩
theorem vr_neSS {K : PySem.W.Frag} : VR2 K L2.rNe aNeS := fun {_ m S Z H a b v u q Q} w r1 r2 ⟨x, y, e1, e2, h⟩ k => by
  subst e1 e2
  rw [Rep] at r1 r2
  subst r1 r2
  refine ⟨rfl, ?_⟩
  have e : (!decide (V.str x = V.str y)) = decide (x ≠ y) := by rw [dec_str, decide_not]
  first
    | (rw [e]; exact k.now w rep_bl h)
    | (rw [decide_not, dec_str, ← decide_not]; exact k.now w rep_bl h)
theorem x_eqSS {x y : Str} {S : Sto} {q : D → Sto → Prop} : aEqS (.str x) (.str y) S q ↔ q (.bl (decide (x = y))) S := ⟨fun ⟨_, _, e1, e2, h⟩ => by cases e1; cases e2; exact h, fun h => ⟨_, _, rfl, rfl, h⟩⟩
theorem x_neSS {x y : Str} {S : Sto} {q : D → Sto → Prop} : aNeS (.str x) (.str y) S q ↔ q (.bl (decide (x ≠ y))) S := ⟨fun ⟨_, _, e1, e2, h⟩ => by cases e1; cases e2; exact h, fun h => ⟨_, _, rfl, rfl, h⟩⟩
end Dl
namespace Dl
open PySem L2 PyProof.Rows
section
variable {K : PySem.W.Frag} {U : Wi} {m : Nat → Addr} {S : Sto} {Z : Addr → Prop} {H H' : Hp}
theorem Wd.growV (w : Wd K U m S Z H) (hk : ∀ b o, H b = some o → H' b = some o) : Wd K U m S Z H' ∧ Ext m S Z H m S H' ∧ ∀ a o, H a = none → H' a = some o → vis m S Z H' a = some o := by
  obtain ⟨a, b⟩ := w.grow hk
  refine ⟨a, b, fun p o h0 h1 => ?_⟩
  obtain ⟨nz, nl⟩ := w.toWd0.fresh h0
  exact vis_of h1 nz nl
end
def toKey : D → Option Key
  | .int i => some (.inl i)
  | .str x => some (.inr x)
  | _ => none
def kD : Key → D
  | .inl i => .int i
  | .inr x => .str x
theorem rep_key {K : PySem.W.Frag} {m : Nat → Addr} {N : Nat} {Hv : Hp} {d : D} {v : V} {k : Key} (r : Rep K m N Hv d v) (h : toKey d = some k) : v = kV k := by
  cases d with
  | int i => cases h; rw [Rep] at r; exact r
  | str x => cases h; rw [Rep] at r; exact r
  | _ => cases h
theorem rep_kD {K : PySem.W.Frag} {m : Nat → Addr} {N : Nat} {Hv : Hp} (k : Key) : Rep K m N Hv (kD k) (kV k) := by
  cases k with
  | inl i => exact rep_int
  | inr x => exact rep_str
/-- keys and values, one put -/
def kput (k : Key) (ks : List Key) : List Key := if (ks.any fun j => decide (j = k)) = true then ks else ks ++ [k]
def dput {A : Type} (k : Key) (y : A) (ks : List Key) (ds : List A) : List A := if (ks.any fun j => decide (j = k)) = true then List.zipWith (fun j d => if j = k then y else d) ks ds else ds ++ [y]
theorem zip_any {A : Type} (k : Key) : ∀ {ks : List Key} {vs : List A}, ks.length = vs.length → ((ks.zip vs).any fun kv => decide (kv.1 = k)) = ks.any fun j => decide (j = k)
  | [], [], _ => rfl
  | j :: ks, v :: vs, h => by rw [List.zip_cons_cons, List.any_cons, List.any_cons, zip_any k (by simpa using h)]
  | [], _ :: _, h => by simp at h
  | _ :: _, [], h => by simp at h
theorem zip_mapk {A : Type} (k : Key) (y : A) : ∀ {ks : List Key} {vs : List A}, (ks.zip vs).map (fun kv => if kv.1 = k then (kv.1, y) else kv) = ks.zip (List.zipWith (fun j d => if j = k then y else d) ks vs)
  | [], _ => rfl
  | _ :: _, [] => rfl
  | j :: ks, v :: vs => by
    rw [List.zip_cons_cons, List.map_cons, zip_mapk k y, List.zipWith_cons_cons, List.zip_cons_cons]
    by_cases e : j = k
    · simp [e]
    · simp [e]
theorem putK_zip {k : Key} {y : V} {ks : List Key} {vs : List V} (h : ks.length = vs.length) : L2.putK (ks.zip vs) k y = (kput k ks).zip (dput k y ks vs) := by
  unfold L2.putK kput dput
  rw [zip_any k h]
  by_cases e : (ks.any fun j => decide (j = k)) = true
  · rw [if_pos e, if_pos e, if_pos e, zip_mapk]
  · rw [if_neg e, if_neg e, if_neg e, List.zip_append h]
    rfl
theorem put_len {A : Type} {k : Key} {y : A} {ks : List Key} {vs : List A} (h : ks.length = vs.length) : (kput k ks).length = (dput k y ks vs).length := by
  unfold kput dput
  split
  · simp [h]
  · simp [h]
theorem reps_zipW {K : PySem.W.Frag} {m : Nat → Addr} {N : Nat} {Hv : Hp} {k : Key} {y : D} {v : V} (ry : Rep K m N Hv y v) : ∀ {ks : List Key} {ds : List D} {vs : List V}, Reps K m N Hv ds vs →
    Reps K m N Hv (List.zipWith (fun j d => if j = k then y else d) ks ds) (List.zipWith (fun j d => if j = k then v else d) ks vs)
  | [], _, _, _ => by simp only [List.zipWith_nil_left]; exact reps_nil
  | _ :: _, [], vs, r => by rw [Reps] at r; subst r; exact reps_nil
  | j :: ks, d :: ds, _, r => by
    rw [Reps] at r
    obtain ⟨u, us, rfl, r1, r2⟩ := r
    rw [List.zipWith_cons_cons, List.zipWith_cons_cons]
    refine Reps.cons ?_ (reps_zipW ry r2)
    by_cases e : j = k
    · rw [if_pos e, if_pos e]; exact ry
    · rw [if_neg e, if_neg e]; exact r1
theorem reps_put {K : PySem.W.Frag} {m : Nat → Addr} {N : Nat} {Hv : Hp} {k : Key} {y : D} {v : V} {ks : List Key} {ds : List D} {vs : List V} (ry : Rep K m N Hv y v) (r : Reps K m N Hv ds vs) : Reps K m N Hv (dput k y ks ds) (dput k v ks vs) := by
  unfold dput
  split
  · exact reps_zipW ry r
  · exact r.append (Reps.one ry)
def dicOf (S : Sto) : D → Option (List Key × List D)
  | .dic ks ds => some (ks, ds)
  | .loc n => match S[n]? with
    | some (some (.dic ks ds)) => some (ks, ds)
    | _ => none
  | _ => none
theorem dicOf_rep {K : PySem.W.Frag} {U : Wi} {m : Nat → Addr} {S : Sto} {Z : Addr → Prop} {H : Hp} {d : D} {v : V} {ks : List Key} {ds : List D} (w : Wd K U m S Z H) (r : Rep K m S.length (vis m S Z H) d v) (h : dicOf S d = some (ks, ds)) :
    ∃ a vs, v = .ref a ∧ H a = some (.dK (ks.zip vs)) ∧ ks.length = vs.length ∧ Reps K m S.length (vis m S Z H) ds vs := by
  cases d with
  | dic ks' ds' =>
    cases h
    rw [Rep] at r
    obtain ⟨a, vs, e, h1, h2, h3⟩ := r
    exact ⟨a, vs, e, vis_sub h1, h2, h3⟩
  | loc n =>
    rw [Rep] at r
    rw [dicOf] at h
    cases hS : S[n]? with
    | none => rw [hS] at h; cases h
    | some o =>
      cases o with
      | none => rw [hS] at h; cases h
      | some o =>
        cases o with
        | dic ks' ds' =>
          rw [hS] at h
          cases h
          obtain ⟨vs, h1, h2, h3⟩ := w.rep n _ hS
          exact ⟨m n, vs, r.1, h1, h2, h3⟩
        | lst _ => rw [hS] at h; cases h
        | obj _ _ _ => rw [hS] at h; cases h
        | dicT _ _ => rw [hS] at h; cases h
        | lck _ _ _ _ => rw [hS] at h; cases h
        | lckT _ _ _ _ => rw [hS] at h; cases h
  | _ => cases h
section
variable {X : Cx} {pos p' : Pos} {U : Wi}
/-- {} -/
def gDNew (fz : Bool) : G D := fun _ S q => if fz = true then q (.dic [] []) S else q (.loc S.length) (S ++ [some (.dic [] [])])
theorem d_dnew (fz : Bool) : PE X (.Dict [] [] pos) (tofE X.K U (gDNew fz)) := weakE pe_dnewK fun σ H Q ⟨m, S, Z, ρ, q, w, rs, h, k⟩ p hp => by
  cases fz with
  | true =>
    obtain ⟨w1, e1, hv⟩ := w.new (o := .dK []) hp
    refine k.at e1 w1 (a := .dic [] []) ?_ h
    show Rep _ _ _ _ _ _
    rw [Rep]
    exact ⟨p, [], rfl, hv, rfl, reps_nil⟩
  | false =>
    obtain ⟨m', e0, w1, e1⟩ := w.add (o := .dK []) (mo := .dic [] []) hp fun m1 N1 Hv1 _ _ _ => ⟨[], upd_same, rfl, reps_nil⟩
    exact k.at e1 w1 (a := .loc S.length) (rep_loc e0 (by simp)) h
/-- o[k] = v -/
def gDSet (go gi gv : G D) : GS := fun E ρ S => gv ρ S fun y S1 => go ρ S1 fun o S2 => gi ρ S2 fun x S3 => ∃ n ks ds k, o = .loc n ∧ S3[n]? = some (some (.dic ks ds)) ∧ toKey x = some k ∧ ks.length < sizeLine ∧ E.nx ρ (S3.set n (some (.dic (kput k ks) (dput k y ks ds))))
theorem d_dset {o i value : Expr} {go gi gv : G D} (ho : PE X o (tofE X.K U go)) (hi : PE X i (tofE X.K U gi)) (hv : PE X value (tofE X.K U gv)) (hu : X.A.units + 1 < cLine) (hs : swapsWith value (some (.Subscript o i p')) pos.line X.env = pure false := by rfl) :
    PS X (.Assign [.Subscript o i p'] value pos) (tofS X.K U (gDSet go gi gv)) :=
  weakS (ps_dput hu ho hi hv hs) fun De σ H ⟨m, S, Z, ρ, E, w, rs, h, k⟩ => tof_in w rs h fun v1 H1 m1 d1 S1 e1 w1 r1 h1 => tof_in w1 (rs.ext e1) h1 fun v2 H2 m2 d2 S2 e2 w2 r2 h2 => tof_in w2 ((rs.ext e1).ext e2) h2 fun v3 H3 m3 d3 S3 e3 w3 r3 ⟨n, ks, ds, kk, ed, hS, hk, hl, h3⟩ => by
    subst ed
    obtain ⟨vs, ha, hlen, hr⟩ := w3.rep n _ hS
    have r2' : Rep X.K m3 S3.length (vis m3 S3 Z H3) (.loc n) v2 := r2.ext e3
    rw [Rep] at r2'
    have ev3 := rep_key r3 hk
    subst ev3
    have hput : DPut H3 (m3 n) (kV kk) v1 (L2.upd H3 (m3 n) (.dK (L2.putK (ks.zip vs) kk v1))) := DPut.k ha (by rw [List.length_zip, ← hlen, Nat.min_self]; exact hl)
    refine ⟨m3 n, _, r2'.1, hput, ?_⟩
    rw [putK_zip hlen]
    obtain ⟨w4, e4, hv4⟩ := w3.upd (o := .dK ((kput kk ks).zip (dput kk v1 ks vs))) (mo := .dic (kput kk ks) (dput kk d1 ks ds)) ⟨_, hS⟩ ⟨_, upd_same, by rw [put_len hlen], reps_put ((Rep.ext (e2.trans e3) r1)) hr⟩
    exact k.nx _ _ m3 _ _ (((e1.trans e2).trans e3).trans e4) w4 (((rs.ext e1).ext e2).ext e3 |>.ext e4) h3
end
section
open PyProof.Rows PySem.W PySem.Calls PySem.Spec
variable {X : Cx} {pins : List (Addr × Obj)} {σ : L2.St} {H : Hp} {s : Shared}
theorem items_laid0 {h' : Heap} {tk : Nat} {kvs : List (Key × V)} {vs : List (Key × Value)} {as : List Addr} {lo : Addr} (I : Inv X pins σ H s) (kv : KV kvs vs) (hk : ∀ b o, s.heap.get? b = some o → h'.get? b = some o) (hl : as.length = vs.length)
    (hG : PySem.W.KdxG (mixKind X.prog X.w) vs lo h' as) (hlo : s.heap.objs.size ≤ lo) :
    ∃ H' : Hp, (∀ b o, H b = some o → H' b = some o) ∧ (∀ t ∈ as, H t = none) ∧ as.Nodup ∧ Paired (fun (t : Addr) (q : Key × V) => H' t = some (.tup [kV q.1, q.2])) as kvs ∧ (∀ b, b ∉ as → H' b = H b) ∧ Inv X pins σ H' { s with heap := h', toks := tk } := by
  have lk : kvs.length = vs.length := Paired.length kv
  have nd : as.Nodup := List.Pairwise.imp (fun {a b} (h : a < b) => Nat.ne_of_lt h) hG.rise
  have above : ∀ b ∈ as, s.heap.objs.size ≤ b := fun b hb => Nat.le_of_lt (Nat.lt_of_le_of_lt hlo (hG.above b hb))
  have new : ∀ t ∈ as, H t = none := fun t ht => I.hok.fresh (above t ht)
  have atP := LiI.putT_at as kvs H (by omega) nd
  have off : ∀ b, b ∉ as → LiI.putT H as kvs b = H b := fun b h1 => LiI.putT_off as kvs _ h1
  have low : ∀ b o, s.heap.get? b = some o → b ∉ as := fun b o e z => absurd (Heap.lt_size e) (Nat.not_lt.mpr (above b z))
  have kp : ∀ b u, H b = some u → LiI.putT H as kvs b = some u := fun b u e => by
    rw [off b (fun z => by rw [new b z] at e; cases e)]
    exact e
  refine ⟨LiI.putT H as kvs, kp, new, nd, atP, off, ?_⟩
  refine I.call' (ch := []) rfl ⟨fun b o q _ _ _ => hk b o q, fun b o q _ _ _ => ⟨o.slots, hk b o q⟩, fun b o q n _ => ?_, fun b o q _ => ⟨o, hk b o q⟩, fun b xs q => kp b _ q, fun b o u q => kp b _ q, fun b ps q => ⟨#[], by rw [kp b _ q]; simp⟩⟩ (fun b u q => ?_) I.bare fun b z => by simp at z
  · rw [off b (low b o q)]
    exact n
  · by_cases hb : b ∈ as
    · obtain ⟨j, pk, e1, e2, e3⟩ := LiI.paired_ix atP hb
      rw [e3] at q
      cases q
      obtain ⟨key, k, x, f1, f2, f3⟩ := hG.pairs j b e1
      obtain ⟨qv, g1, g2, g3⟩ := LiI.paired_get kv e2
      rw [f1] at g1
      cases g1
      have rk : RelV (kV pk.1) key := by
        rw [g2]
        exact relV_key (show keyIs k key = true from f2)
      exact ⟨by show 2 ≤ sizeLine; decide, [key, x], .cons rk (.cons g3 .nil), ⟨_, f3, rfl, _, rfl⟩⟩
    · rw [off b hb] at q
      exact (I.hok b u q).stay (fun d v _ y => hk d v y) (fun d y => kp d _ y) fun d xs y => kp d _ y
/-- the pairs, by data -/
def itemsPy (ks : List Key) (ps : List PyData) : List PyData := List.zipWith (fun k p => PyData.tuple [match k with | .inl i => .int i | .inr x => .str x, p]) ks ps
def tSI (K : PySem.W.Frag) (te : TE) : TE := fun σ H Q => te σ H fun x H1 => ∃ (d : Addr) (kvs : List (Key × V)) (vps : List PyData), x = .ref d ∧ H1 d = some (.dK kvs) ∧ DpAll K H1 (kvs.map (·.2)) vps ∧
  PySem.W.AllAlike (itemsPy (kvs.map (·.1)) vps) ∧ PySem.W.Sortable (itemsPy (kvs.map (·.1)) vps) ∧ (∀ p ∈ itemsPy (kvs.map (·.1)) vps, p.depth ≤ 60) ∧
  ∀ (H' : Hp) (p : Addr) (ts : List Addr), (∀ b o, H1 b = some o → H' b = some o) → H1 p = none → (∀ t ∈ ts, H1 t = none) → Paired (fun (t : Addr) (q : Key × V) => H' t = some (.tup [kV q.1, q.2])) ts kvs →
    H' p = some (.lst ((((ts.map V.ref).zip (itemsPy (kvs.map (·.1)) vps)).mergeSort (PySem.W.dataLe false Prod.snd)).map Prod.fst)) → Q (.ref p) H'
theorem dp_items {K : PySem.W.Frag} {H : Hp} : ∀ {ts : List Addr} {kvs : List (Key × V)} {vps : List PyData}, Paired (fun (t : Addr) (q : Key × V) => H t = some (.tup [kV q.1, q.2])) ts kvs → DpAll K H (kvs.map (·.2)) vps → DpAll K H (ts.map V.ref) (itemsPy (kvs.map (·.1)) vps)
  | _, _, _, .nil, h => by
    cases h
    exact .nil
  | _, _, _, .cons (b := q) h t, hd => by
    rw [List.map_cons] at hd
    cases hd with
    | cons h1 h2 =>
      rw [List.map_cons, List.map_cons]
      refine .cons (.tup (SqT.of h) (.cons ?_ (.cons h1 .nil))) (dp_items t h2)
      obtain ⟨k, v⟩ := q
      cases k with
      | inl i => exact .int i
      | inr x => exact .str x
theorem sorted_items {r d : Addr} {kvs : List (Key × V)} {vps : List PyData} {Q : VK} (hc : X.calm = true) (hu : X.A.units + 64 < cLine) (I : Inv X pins σ H s) (hv : s.heap.get? r = some { cls := .type "dict_items", data := .fields #[.ref d] }) (hd : H d = some (.dK kvs))
    (hp : DpAll X.K H (kvs.map (·.2)) vps) (hal : PySem.W.AllAlike (itemsPy (kvs.map (·.1)) vps)) (hso : PySem.W.Sortable (itemsPy (kvs.map (·.1)) vps)) (hdep : ∀ p ∈ itemsPy (kvs.map (·.1)) vps, p.depth ≤ 60)
    (q : ∀ (H' : Hp) (p : Addr) (ts : List Addr), (∀ b o, H b = some o → H' b = some o) → H p = none → (∀ t ∈ ts, H t = none) → Paired (fun (t : Addr) (q : Key × V) => H' t = some (.tup [kV q.1, q.2])) ts kvs →
      H' p = some (.lst ((((ts.map V.ref).zip (itemsPy (kvs.map (·.1)) vps)).mergeSort (PySem.W.dataLe false Prod.snd)).map Prod.fst)) → Q (.ref p) H') :
    wpAny (model X.prog X.w) X.A (call (.builtin "sorted") [.ref r]) (EP X pins σ Q) X.xe s := by
  obtain ⟨hz, hs0, vs, kv, hdo⟩ := dk_of I.hok hd
  obtain ⟨ep, hat⟩ := hdo.dictAt
  have lk : kvs.length = vs.length := Paired.length kv
  refine call_function_entry kind_sorted plain_sorted entry_sorted (args_sorted1 _) ?_
  unfold Builtin.«sorted»
  refine wpAny_bind (m := checkCount "sorted" 1 1 _) (wpAny_pure ?_)
  refine wpAny_bind (PySem.W.kdx_collect (A := X.A.in1) (knd := mixKind X.prog X.w) (kvs := vs) (ep := ep) (I.ok.hd hc) ⟨_, hv, rfl, rfl⟩ hat (by omega) fun h' tk as hk hl hG => ?_)
  obtain ⟨H', kp, new, nd, atP, off, J⟩ := items_laid0 (tk := tk) I kv hk hl hG (Nat.le_refl _)
  have hz2 : (as.map Value.ref).length ≤ sizeLine := by rw [List.length_map]; omega
  refine wpAny_bind (wpAny_newList ?_ hz2)
  have hoL : (h'.push (seqObj "list" (as.map Value.ref).toArray 0)).get? h'.objs.size = some (seqObj "list" (as.map Value.ref).toArray 0) := Heap.get?_push_size _ rfl
  -- the data
  let xs : List V := as.map V.ref
  let its : List Value := as.map Value.ref
  have hxs : ∀ l : List Addr, Vals (l.map V.ref) (l.map Value.ref) := fun l => by
    induction l with
    | nil => exact .nil
    | cons a l ih => exact .cons rfl ih
  have rv : Vals xs its := hxs as
  let ps : List PyData := itemsPy (kvs.map (·.1)) vps
  have hpH : DpAll X.K H' (kvs.map (·.2)) vps := DpAll.sub kp hp
  have dps : DpAll X.K H' xs ps := dp_items atP hpH
  obtain ⟨ras, rd⟩ := Dp.readsAll J ps xs its dps rv
  have l1 : its.length = xs.length := rv.length.symm
  have l2 : xs.length = ps.length := dpAll_len dps
  let bs : List ((Value × V) × PyData) := (its.zip xs).zip ps
  have hbl : bs.length = ps.length := by show ((its.zip xs).zip ps).length = _; simp; omega
  have hmap : bs.map Prod.snd = ps := by
    show ((its.zip xs).zip ps).map Prod.snd = ps
    exact List.map_snd_zip (by simp; omega)
  have kS : ∀ b o, h'.get? b = some o → (sortingHeap (h'.push (seqObj "list" its.toArray 0)) h'.objs.size its).get? b = some o := fun b o e =>
    sortingHeap_old (Nat.ne_of_lt (Heap.lt_size e)) (Heap.get?_push_of_some _ e)
  have er : EachIs (fun v (b : (Value × V) × PyData) => ∃ as, Reads (sortingHeap (h'.push (seqObj "list" its.toArray 0)) h'.objs.size its) v b.2 as) its bs := each_of (by omega) fun i v b h1 h2 => by
    obtain ⟨g1, g2, g3⟩ := zip3_get h2
    obtain ⟨as', r'⟩ := readsAll_each rd i v b.2 h1 g3
    exact ⟨as', PyProof.Rows.Reads.keeps kS r'⟩
  have e0 : EachIs (fun v (b : (Value × V) × PyData) => v = b.1.1 ∧ RelV b.1.2 v) its bs := each_of (by omega) fun i v b h1 h2 => by
    obtain ⟨g1, g2, g3⟩ := zip3_get h2
    rw [h1] at g1
    have e := Option.some.inj g1
    exact ⟨e, vals_each rv i _ _ g2 h1⟩
  have hal' : AllAlike (bs.map Prod.snd) := by rw [hmap]; exact hal
  have hso' : Sortable (bs.map Prod.snd) := by rw [hmap]; exact hso
  have hub : ∀ b, b ∈ bs → (X.A.in1.in1).units + b.2.depth < cLine := fun b hb => by
    have : b.2 ∈ ps := by rw [← hmap]; exact List.mem_map_of_mem hb
    have := hdep _ this
    show X.A.units + 1 + 1 + b.2.depth < cLine
    omega
  refine wpAny_bind (wpAny_holding (wpAny_call_entry slot_list_sort ⟨_, hoL, rfl⟩ entry_list_sort (list_sort_vals hoL (SortsAt.data (s := { s with heap := sortingHeap (h'.push (seqObj "list" its.toArray 0)) h'.objs.size its, toks := tk }) (each_map (R := fun v d => ∃ as, Reads (sortingHeap (h'.push (seqObj "list" its.toArray 0)) h'.objs.size its) v d as) Prod.snd er) hal' hso' (bound_map hub)) hz2 ⟨_, rfl, ?_⟩) (args_list_sort _)))
  have he : EachIs (fun v (b : (Value × V) × PyData) => v = b.1.1 ∧ RelV b.1.2 v) (sortVals (dataKind (sortingHeap (h'.push (seqObj "list" its.toArray 0)) h'.objs.size its) (bs.map Prod.snd)) false its its) (bs.mergeSort (dataLe false Prod.snd)) := sortVals_data false e0 er hal'
  have hvals := each_vals (bs := bs) he
  obtain ⟨c, hcc⟩ := sortedHeap_at (vs := its) (out := (sortVals (dataKind (sortingHeap (h'.push (seqObj "list" its.toArray 0)) h'.objs.size its) (bs.map Prod.snd)) false its its).toArray) hoL
  have kp2 : ∀ b o, h'.get? b = some o → (sortedHeap (h'.push (seqObj "list" its.toArray 0)) h'.objs.size its (sortVals (dataKind (sortingHeap (h'.push (seqObj "list" its.toArray 0)) h'.objs.size its) (bs.map Prod.snd)) false its its).toArray).get? b = some o := fun b o e => by
    have hlt := Heap.lt_size e
    rw [sortedHeap_old (Nat.ne_of_lt hlt) (by rw [size_push']; exact Nat.lt_succ_of_lt hlt)]
    exact Heap.get?_push_of_some _ e
  have hzs : (bs.mergeSort (PySem.W.dataLe false Prod.snd)).map (fun b => (b.1.2, b.2)) = (xs.zip ps).mergeSort (PySem.W.dataLe false Prod.snd) := by
    refine Eq.trans (ms_map (f := fun b : (Value × V) × PyData => (b.1.2, b.2)) (r := PySem.W.dataLe false Prod.snd) (s := PySem.W.dataLe false Prod.snd) (fun a b => rfl) bs) ?_
    congr 1
    apply List.ext_getElem?
    intro i
    rw [List.getElem?_map]
    cases hx : bs[i]? with
    | none =>
      have : bs.length ≤ i := List.getElem?_eq_none_iff.mp hx
      exact (List.getElem?_eq_none_iff.mpr (by simp; omega)).symm
    | some z =>
      obtain ⟨g1, g2, g3⟩ := zip3_get hx
      exact (List.getElem?_zip_eq_some (z := (z.1.2, z.2)).mpr ⟨g2, g3⟩).symm
  have hfst : ((xs.zip ps).mergeSort (PySem.W.dataLe false Prod.snd)).map Prod.fst = (bs.mergeSort (PySem.W.dataLe false Prod.snd)).map fun b => b.1.2 := by
    rw [← hzs, List.map_map]; rfl
  have hnL : H' h'.objs.size = none := J.hok.fresh (Nat.le_refl _)
  have hnL0 : H h'.objs.size = none := by
    cases e : H h'.objs.size with
    | none => rfl
    | some o => rw [kp _ _ e] at hnL; cases hnL
  have nas : h'.objs.size ∉ as := fun z => Nat.lt_irrefl _ (hG.there z)
  have q' := q (upd H' h'.objs.size (.lst ((bs.mergeSort (PySem.W.dataLe false Prod.snd)).map fun b => b.1.2))) h'.objs.size as (fun b o e => by rw [upd_ne (ne_of_none (kp _ _ e) hnL)]; exact kp _ _ e) hnL0 new ?_ (by rw [upd_same]; rw [← hfst])
  · refine wpAny_pure ⟨_, rfl, .ref h'.objs.size, upd H' h'.objs.size (.lst ((bs.mergeSort (PySem.W.dataLe false Prod.snd)).map fun b => b.1.2)), J.laid (t' := tk) kp2 (Nat.le_refl _) ⟨?_, _, c, hvals, hcc⟩, rfl, q'⟩
    rw [List.length_map, List.length_mergeSort, hbl, ← l2, ← l1]
    exact hz2
  · have ht : ∀ t ∈ as, t ≠ h'.objs.size := fun t z e => nas (e ▸ z)
    have : ∀ {as : List Addr} {kvs : List (Key × V)}, (∀ t ∈ as, t ≠ h'.objs.size) → Paired (fun (t : Addr) (q : Key × V) => H' t = some (.tup [kV q.1, q.2])) as kvs →
        Paired (fun (t : Addr) (q : Key × V) => upd H' h'.objs.size (.lst ((bs.mergeSort (PySem.W.dataLe false Prod.snd)).map fun b => b.1.2)) t = some (.tup [kV q.1, q.2])) as kvs := by
      intro as kvs ht p
      induction p with
      | nil => exact .nil
      | cons h _ ih => exact .cons (by rw [upd_ne (ht _ List.mem_cons_self)]; exact h) (ih fun t z => ht t (List.mem_cons_of_mem _ z))
    exact this ht atP
end
section
open PyProof.Rows
variable {X : Cx} {e : Expr} {te : TE} {p apos cpos pos : Pos} {U : Wi}
theorem pe_sItems (hc : X.calm = true) (hu : X.A.units + 64 < cLine) (he : PE X e te) (hg : Gl X "sorted") (hm : X.mg "sorted" = none) (hv : bootBuiltins "sorted" = some (.builtin "sorted")) (hbase : attributeBase e "items" X.env (eval e X.env) = eval e X.env := by rfl) (hline : (apos.endLine == cpos.line) = true := by rfl)
    (hs : starEach [.Call (.Attribute e "items" apos) [] [] cpos] X.env = (false, eval (.Call (.Attribute e "items" apos) [] [] cpos) X.env) :: starEach [] X.env := by rfl) :
    PE X (.Call (.Name "sorted" p) [.Call (.Attribute e "items" apos) [] [] cpos] [] pos) (tSI X.K te) := by
  refine ⟨fun pins s σ H Q I hq => ?_⟩
  refine wpAny_Call_Name_kw (ld_blt I hg hm hv ?_)
  refine PyProof.Rows.callWith_builtin1 ?_ hs rfl
  rw [hs]
  show wpAny _ _ (spliced ((false, eval (.Call (.Attribute e "items" apos) [] [] cpos) X.env) :: backTo pos (starEach [] X.env))) _ _ s
  refine Calls.spliced_cons ?_
  refine wpAny_Call_method (T := "dict") (id := "dict.items") hbase rfl hline F.plainAttrs_dict F.slot_dict_items F.type_dict_items (thn (he.run pins s σ H _ I hq) fun u s1 ⟨x, H1, I1, rx, d, kvs, vps, ex, hd, hp, hal, hso, hdep, q⟩ => ?_)
  subst ex
  obtain rfl : u = Value.ref d := rx
  obtain ⟨hz, hs0, vs, kv, hdo⟩ := dk_of I1.hok hd
  have I2 : Inv X pins σ H1 { s1 with heap := s1.heap.push { cls := .type "dict_items", data := .fields #[.ref d] } } := I1.kept (t' := s1.toks) fun b ob q => Heap.get?_push_of_some _ q
  refine ⟨hdo.typeIs, hdo.mapOf.noDict, ?_⟩
  show wpAny _ _ (callWith cpos (.builtin "dict.items") [.ref d] [] []) _ X.xe s1
  refine method_meetsIn F.slot_dict_items F.entry_dict_items rfl (PySem.evalArgs_none ⟨rfl, hdo.typeIs, F.args_dict_items_1 _, _, meets_dict_items (mixKind X.prog X.w) d hs0, ⟨vs, hdo⟩, ?_⟩)
  refine Calls.spliced_nil ?_
  exact sorted_items hc hu I2 (Heap.get?_push_size _ rfl) hd hp hal hso hdep q
/-- sorted(o.items()) -/
def gSItems (go : G D) : G D := fun ρ S q => go ρ S fun o S1 => ∃ ks ds, dicOf S1 o = some (ks, ds) ∧ aSorted true (.lst (List.zipWith (fun k d => D.tup [kD k, d]) ks ds)) S1 q
theorem toPys_items : ∀ {ks : List Key} {ds : List D} {ps : List PyData}, ks.length = ds.length → toPys (List.zipWith (fun k d => D.tup [kD k, d]) ks ds) = some ps → ∃ vps, toPys ds = some vps ∧ ps = itemsPy ks vps
  | [], [], ps, _, h => by
    simp [toPys] at h
    subst h
    exact ⟨[], rfl, rfl⟩
  | k :: ks, d :: ds, ps, hl, h => by
    rw [List.zipWith_cons_cons, toPys] at h
    cases h1 : toPy (D.tup [kD k, d]) with
    | none => rw [h1] at h; cases h
    | some p =>
      cases h2 : toPys (List.zipWith (fun k d => D.tup [kD k, d]) ks ds) with
      | none => rw [h1, h2] at h; cases h
      | some qs =>
        rw [h1, h2] at h
        cases h
        obtain ⟨vps, e1, e2⟩ := toPys_items (by simpa using hl) h2
        cases h3 : toPy d with
        | none => cases k <;> simp [toPy, toPys, kD, h3] at h1
        | some z =>
          refine ⟨z :: vps, by rw [toPys, h3, e1], ?_⟩
          rw [e2]
          cases k <;> (simp [toPy, toPys, kD, h3] at h1; subst h1; rfl)
  | [], _ :: _, _, h, _ => by simp at h
  | _ :: _, [], _, h, _ => by simp at h
theorem reps_sorted {K : PySem.W.Frag} {m : Nat → Addr} {N : Nat} {Hv : Hp} {ds : List D} {xs : List V} {ps : List PyData} (hr : Reps K m N Hv ds xs) (l2 : ps.length = ds.length) :
    Reps K m N Hv (((ds.zip ps).mergeSort (PySem.W.dataLe false Prod.snd)).map Prod.fst) (((xs.zip ps).mergeSort (PySem.W.dataLe false Prod.snd)).map Prod.fst) := by
  have l1 := Reps.len hr
  let ts : List ((D × V) × PyData) := (ds.zip xs).zip ps
  have m1 : ts.map (fun t => (t.1.1, t.2)) = ds.zip ps := by
    apply List.ext_getElem?
    intro i
    rw [List.getElem?_map]
    cases hx : ts[i]? with
    | none =>
      have : ts.length ≤ i := List.getElem?_eq_none_iff.mp hx
      have hlen : ts.length = ds.length := by show ((ds.zip xs).zip ps).length = _; simp; omega
      exact (List.getElem?_eq_none_iff.mpr (by simp; omega)).symm
    | some z =>
      obtain ⟨g1, g2, g3⟩ := zip3_get hx
      exact (List.getElem?_zip_eq_some (z := (z.1.1, z.2)).mpr ⟨g1, g3⟩).symm
  have m2 : ts.map (fun t => (t.1.2, t.2)) = xs.zip ps := by
    apply List.ext_getElem?
    intro i
    rw [List.getElem?_map]
    cases hx : ts[i]? with
    | none =>
      have : ts.length ≤ i := List.getElem?_eq_none_iff.mp hx
      have hlen : ts.length = ds.length := by show ((ds.zip xs).zip ps).length = _; simp; omega
      exact (List.getElem?_eq_none_iff.mpr (by simp; omega)).symm
    | some z =>
      obtain ⟨g1, g2, g3⟩ := zip3_get hx
      exact (List.getElem?_zip_eq_some (z := (z.1.2, z.2)).mpr ⟨g2, g3⟩).symm
  have s1 : (ts.mergeSort (PySem.W.dataLe false Prod.snd)).map (fun t => (t.1.1, t.2)) = (ds.zip ps).mergeSort (PySem.W.dataLe false Prod.snd) := by
    refine Eq.trans (ms_map (f := fun t : (D × V) × PyData => (t.1.1, t.2)) (r := PySem.W.dataLe false Prod.snd) (s := PySem.W.dataLe false Prod.snd) (fun a b => rfl) ts) ?_
    rw [m1]
  have s2 : (ts.mergeSort (PySem.W.dataLe false Prod.snd)).map (fun t => (t.1.2, t.2)) = (xs.zip ps).mergeSort (PySem.W.dataLe false Prod.snd) := by
    refine Eq.trans (ms_map (f := fun t : (D × V) × PyData => (t.1.2, t.2)) (r := PySem.W.dataLe false Prod.snd) (s := PySem.W.dataLe false Prod.snd) (fun a b => rfl) ts) ?_
    rw [m2]
  rw [← s1, ← s2, List.map_map, List.map_map]
  refine reps_all fun t ht => ?_
  have ht' : t ∈ ts := (List.mergeSort_perm ts _).mem_iff.mp ht
  obtain ⟨i, hi⟩ := List.getElem?_of_mem ht'
  obtain ⟨g1, g2, g3⟩ := zip3_get hi
  obtain ⟨v', hv', rv'⟩ := Reps.get hr g1
  rw [g2] at hv'
  cases hv'
  exact rv'
theorem reps_items {K : PySem.W.Frag} {m : Nat → Addr} {N : Nat} {Hv H' : Hp} : ∀ {ts : List Addr} {ks : List Key} {ds : List D} {vs : List V}, (∀ t ∈ ts, ∀ o, H' t = some o → Hv t = some o) → ks.length = vs.length → Reps K m N Hv ds vs →
    Paired (fun (t : Addr) (q : Key × V) => H' t = some (.tup [kV q.1, q.2])) ts (ks.zip vs) → Reps K m N Hv (List.zipWith (fun k d => D.tup [kD k, d]) ks ds) (ts.map V.ref)
  | ts, [], _, _, _, _, _, p => by
    rw [List.zip_nil_left] at p
    cases p
    exact reps_nil
  | ts, k :: ks, [], vs, _, hl, r, p => by
    rw [Reps] at r
    subst r
    simp at hl
  | ts, k :: ks, d :: ds, _, hv, hl, r, p => by
    rw [Reps] at r
    obtain ⟨v, vs, rfl, r1, r2⟩ := r
    rw [List.zip_cons_cons] at p
    cases p with
    | cons h p =>
      rw [List.zipWith_cons_cons, List.map_cons]
      refine Reps.cons ?_ (reps_items (fun t ht => hv t (List.mem_cons_of_mem _ ht)) (by simpa using hl) r2 p)
      rw [Rep]
      exact ⟨_, _, rfl, SqT.of (hv _ List.mem_cons_self _ h), Reps.cons (rep_kD k) (Reps.one r1)⟩
theorem zip_fst {A B : Type} : ∀ {l : List A} {l' : List B}, l.length = l'.length → (l.zip l').map (·.1) = l
  | [], [], _ => rfl
  | _ :: _, _ :: _, h => by rw [List.zip_cons_cons, List.map_cons, zip_fst (by simpa using h)]
  | [], _ :: _, h => by simp at h
  | _ :: _, [], h => by simp at h
theorem zip_snd {A B : Type} : ∀ {l : List A} {l' : List B}, l.length = l'.length → (l.zip l').map (·.2) = l'
  | [], [], _ => rfl
  | _ :: _, _ :: _, h => by rw [List.zip_cons_cons, List.map_cons, zip_snd (by simpa using h)]
  | [], _ :: _, h => by simp at h
  | _ :: _, [], h => by simp at h
theorem d_sItems {go : G D} (hc : X.calm = true) (hu : X.A.units + 64 < cLine) (he : PE X e (tofE X.K U go)) (hg : Gl X "sorted") (hm : X.mg "sorted" = none) (hv : bootBuiltins "sorted" = some (.builtin "sorted")) (hbase : attributeBase e "items" X.env (eval e X.env) = eval e X.env := by rfl) (hline : (apos.endLine == cpos.line) = true := by rfl)
    (hs : starEach [.Call (.Attribute e "items" apos) [] [] cpos] X.env = (false, eval (.Call (.Attribute e "items" apos) [] [] cpos) X.env) :: starEach [] X.env := by rfl) :
    PE X (.Call (.Name "sorted" p) [.Call (.Attribute e "items" apos) [] [] cpos] [] pos) (tofE X.K U (gSItems go)) :=
  weakE (pe_sItems hc hu he hg hm hv hbase hline hs) fun σ H Q ⟨m, S, Z, ρ, q, w, rs, h, k⟩ => tof_in w rs h fun v1 H1 m1 d1 S1 e1 w1 r1 ⟨ks, ds, h1, ds', ps, h2, _, h3, h4, h5, h6, h7⟩ => by
    obtain ⟨a, vs, ev, ha, hl, hr⟩ := dicOf_rep w1 r1 h1
    rw [seqOf] at h2
    cases h2
    have ld := Reps.len hr
    obtain ⟨vps, hvp, rfl⟩ := toPys_items (by omega) h3
    have z1 := zip_fst hl
    have z2 := zip_snd hl
    refine ⟨a, ks.zip vs, vps, ev, ha, by rw [z2]; exact DpAll.sub vis_le (dps_of hr hvp), by rw [z1]; exact h4, by rw [z1]; exact h5, by rw [z1]; exact h6, fun H' p ts kp hp hts hpair hsort => ?_⟩
    rw [z1] at hsort
    obtain ⟨w2, e2, hvis⟩ := w1.growV kp
    have hrI := reps_items (K := X.K) (m := m1) (N := S1.length) (Hv := vis m1 S1 Z H') (H' := H') (fun t ht o ho => hvis t o (hts t ht) ho) hl (hr.ext e2) hpair
    have hrS := reps_sorted hrI (toPys_len h3)
    refine k.at (e1.trans e2) w2 (a := .lst _) ?_ h7
    show Rep _ _ _ _ _ _
    rw [Rep]
    exact ⟨p, _, rfl, hvis p _ hp hsort, hrS⟩
end
section
open PyProof.Rows PySem.W
variable {X : Cx}
def rMMDef (b : Bool) (K : PySem.W.Frag) : List V → List V → Hp → VK → Prop := fun xs zs H Q => ∃ (a : Addr) (vs : List V) (ps : List PyData) (d : V), xs = [.ref a] ∧ zs = [d] ∧ SqL K H a vs ∧ DpAll K H vs ps ∧ AlikeAll ps ∧ PyData.depthAll ps ≤ 60 ∧ (vs = [] → Q d H) ∧
  ∀ (y : PyData) (ys : List PyData) (i : Nat) (v : V), ps = y :: ys → vs[i]? = some v → ps[i]? = some (if b = true then maxD y ys else minD y ys) → Q v H
theorem vals_ix : ∀ {xs : List V} {us : List Value}, Vals xs us → ∀ (i : Nat) (u : Value), us[i]? = some u → ∃ x, xs[i]? = some x ∧ RelV x u
  | _, _, .nil, i, u, h => by simp at h
  | _, _, .cons r rs, 0, u, h => by
    rw [List.getElem?_cons_zero] at h
    cases h
    exact ⟨_, rfl, r⟩
  | _, _, .cons r rs, i + 1, u, h => by
    rw [List.getElem?_cons_succ] at h
    obtain ⟨x, h1, h2⟩ := vals_ix rs i u h
    exact ⟨x, by rw [List.getElem?_cons_succ]; exact h1, h2⟩
theorem getD_at {ps : List PyData} {i : Nat} {p : PyData} (h : i < ps.length) (e : ps.getD i .none = p) : ps[i]? = some p := by
  rw [List.getD_eq_getElem?_getD, List.getElem?_eq_getElem h] at e
  rw [List.getElem?_eq_getElem h]
  exact congrArg some e
theorem cr_maxDef (hc : X.calm = true) (hu : X.A.units + 64 < cLine) : CallRK X (.builtin "max") [Str.ofString "default"] (rMMDef true X.K) := by
  intro pins s σ H xs zs us ws Q I r rz ⟨a, vs, ps, d, ex, ez, hs, hp, hal, hd, h0, h1⟩
  subst ex
  subst ez
  obtain ⟨u, rfl, ru⟩ := vals1 r
  obtain rfl : u = Value.ref a := ru
  obtain ⟨u2, rfl, ru2⟩ := vals1 rz
  obtain ⟨its, rv, hl, hz⟩ := I.list hs
  obtain ⟨as, rd⟩ := Dp.readsAll I ps vs its hp rv
  have hn : its.length = ps.length := by rw [← rv.length, dpAll_len hp]
  show wpAny _ _ (call (.builtin "max") [.ref a] [(Str.ofString "default", u2)]) _ _ _
  refine call_max_walkD (iter_listW (A := X.A.in1) (I.ok.hd hc) hl.isList fun s₂ e W st hfp hw hk => ?_)
  refine ⟨_, _, _, _, _, _, _, s.heap, (fun i j => dataLt (ps.getD j .none) (ps.getD i .none)), rfl, W, st, hfp, hw, hk, fun hz' s' m => ?_, fun hpos => ⟨cmpIn_gt (A := X.A.in1) (vs := its.toArray) (by simpa using rd) hal (by show X.A.units + 1 + _ < _; omega), fun v s' hP m => ?_⟩⟩
  · obtain ⟨h', tk, rfl, hk'⟩ := moved_old e rfl m
    have hvs : vs = [] := List.eq_nil_of_length_eq_zero (by rw [rv.length]; simpa using hz')
    exact ⟨d, H, I.kept (t' := tk) hk', ru2, h0 hvs⟩
  · obtain ⟨h', tk, rfl, hk'⟩ := moved_old e rfl m
    cases ps with
    | nil => exact absurd hpos (by simp [hn])
    | cons y ys =>
      have e1 : its.toArray.size - 1 = ys.length := by simp [hn]
      have e2 := (argBest_fold (fun a b => dataLt b a) PyData.none y ys ys.length (Nat.le_refl _))
      rw [List.take_length] at e2
      rw [e1] at hP
      have hP' : its[argBest (fun i j => dataLt ((y :: ys).getD j .none) ((y :: ys).getD i .none)) ys.length]? = some v := by simpa using hP
      obtain ⟨x, hx, rx⟩ := vals_ix rv _ _ hP'
      have hlt : argBest (fun i j => dataLt ((y :: ys).getD j .none) ((y :: ys).getD i .none)) ys.length < (y :: ys).length := by
        have := (List.getElem?_eq_some_iff.mp hP').1
        omega
      refine ⟨x, H, I.kept (t' := tk) hk', rx, h1 y ys _ x rfl hx ?_⟩
      rw [if_pos rfl]
      exact getD_at hlt e2.2
end
/-- max(xs, default=d), min(..) -/
def aMMDef (b : Bool) : D → D → Sto → (D → Sto → Prop) → Prop := fun o d S q => ∃ ds ps, seqOf S o = some ds ∧ o.isTup = false ∧ toPys ds = some ps ∧ PySem.W.AlikeAll ps ∧ PyData.depthAll ps ≤ 60 ∧ (ds = [] → q d S) ∧
  ∀ (y : PyData) (ys : List PyData) (i : Nat) (x : D), ps = y :: ys → ds[i]? = some x → ps[i]? = some (if b = true then PySem.W.maxD y ys else PySem.W.minD y ys) → q x S
def gMMDef (b : Bool) (ga gk : G (List D)) : G D := fun ρ S q => ga ρ S fun as S1 => gk ρ S1 fun ks S2 => ∃ o d, as = [o] ∧ ks = [d] ∧ aMMDef b o d S2 q
section
variable {X : Cx} {U : Wi} {x : Str} {id : String} {p pos : Pos} {e : Expr} {es : List Expr} {kws : List Keyword} {ga gk : G (List D)}
theorem d_mmDef (b : Bool) (hcr : CallRK X (.builtin id) [Str.ofString "default"] (rMMDef b X.K)) (hg : Gl X x) (hm : X.mg x = none) (hv : bootBuiltins x = some (.builtin id)) (ha : PA X (e :: es) (tofA X.K U ga)) (hk : PK X kws (tofA X.K U gk)) (hn : x ≠ "__name__" := by decide) (hdb : (x == ("__debug__" : Str)) = false := by decide)
    (he : backTo pos (starEach (e :: es) X.env) = (false, eval e X.env) :: backTo pos (starEach es X.env) := by rfl) (hpl : (backTo pos (starEach (e :: es) X.env)).any (·.1) = false := by rfl)
    (hall : (backToKw pos (keywordEach kws X.env)).all (·.1.isSome) = true := by rfl) (hnone : (backToKw pos (keywordEach kws X.env)).any (·.1.isNone) = false := by rfl) (hks : (backToKw pos (keywordEach kws X.env)).filterMap (·.1) = [Str.ofString "default"] := by rfl) :
    PE X (.Call (.Name x p) (e :: es) kws pos) (tofE X.K U (gMMDef b ga gk)) :=
  weakE (pe_callBK hcr hg hm hv ha hk hn hdb he hpl hall hnone hks) fun σ H Q ⟨m, S, Z, ρ, q, w, rs, h, k⟩ => tof_in w rs h fun v1 H1 m1 d1 S1 e1 w1 r1 h1 => tof_in w1 (rs.ext e1) h1 fun v2 H2 m2 d2 S2 e2 w2 r2 ⟨o, d, eo, ed, ds, ps, h2, h3, h4, h5, h6, h7, h8⟩ => by
    subst eo
    subst ed
    have r1' : Reps X.K m2 S2.length (vis m2 S2 Z H2) [o] v1 := r1.ext e2
    have r2' : Reps X.K m2 S2.length (vis m2 S2 Z H2) [d] v2 := r2
    rw [Reps] at r1' r2'
    obtain ⟨vo, r0, ev1, ro, q0⟩ := r1'
    obtain ⟨vd, r00, ev2, rd, q00⟩ := r2'
    rw [Reps] at q0 q00
    subst q0
    subst q00
    subst ev1
    subst ev2
    obtain ⟨a, xs, eo, hr, ht, hl⟩ := seqOf_rep w2 ro h2
    subst eo
    refine ⟨a, xs, ps, vd, rfl, rfl, hl h3, DpAll.sub vis_le (dps_of hr h4), h5, h6, fun ex => ?_, fun y ys i v ey hv1 hp => ?_⟩
    · have l := Reps.len hr
      rw [ex] at l
      exact k.at (e1.trans e2) w2 rd (h7 (List.eq_nil_of_length_eq_zero (by simpa using l.symm)))
    · have hi : i < ds.length := by
        have := (List.getElem?_eq_some_iff.mp hv1).1
        rw [Reps.len hr] at this
        exact this
      obtain ⟨v', hv', rv'⟩ := Reps.get hr (List.getElem?_eq_getElem hi)
      rw [hv1] at hv'
      cases hv'
      exact k.at (e1.trans e2) w2 rv' (h8 y ys i _ ey (List.getElem?_eq_getElem hi) hp)
end
def gAsgL (ts : List Tgt) (ge : G D) : GS := fun E ρ S => ge ρ S fun d S1 => ∃ ds ρ', seqOf S1 d = some ds ∧ d.isTup = false ∧ Tgt.binds ts ds ρ = some ρ' ∧ E.nx ρ' S1
theorem hu_of {k : Nat} {A : Around} (hr : RoomG k A) : A.units + 1 < cLine := by
  have := hr.units
  omega
section
variable {S : Sto} {q : D → Sto → Prop} {o d : D}
theorem toPys_ints : ∀ L : List Int, toPys (L.map D.int) = some (L.map PyData.int)
  | [] => rfl
  | i :: L => by rw [List.map_cons, toPys, toPys_ints L]; rfl
/-- pairs -/
def ltP (a y : Pr) : Bool := decide (a.1 < y.1 ∨ (a.1 = y.1 ∧ a.2 < y.2))
theorem lt_pY (a y : Pr) : PySem.W.dataLt (pY a) (pY y) = ltP a y := PySem.W.dataLt_ii _ _ _ _
theorem maxD_pr (p : Pr) : ∀ P : List Pr, PySem.W.maxD (pY p) (P.map pY) = pY (P.foldl (fun a y => if ltP a y = true then y else a) p) := by
  intro P
  induction P generalizing p with
  | nil => rfl
  | cons r P ih =>
    unfold PySem.W.maxD at ih ⊢
    rw [List.map_cons, List.foldl_cons, List.foldl_cons, lt_pY]
    by_cases h : ltP p r = true
    · rw [if_pos h, if_pos h]; exact ih r
    · rw [if_neg h, if_neg h]; exact ih p
theorem pY_inj {a b : Pr} (h : pY a = pY b) : a = b := by
  obtain ⟨a1, a2⟩ := a
  obtain ⟨b1, b2⟩ := b
  simp [pY] at h
  rw [h.1, h.2]
theorem foldP_le (f : Pr → Pr → Bool) (hf : ∀ a y, f a y = true → leP a y = true) (hg : ∀ a y, ¬ f a y = true → leP y a = true) : ∀ (P : List Pr) (p : Pr), leP p (P.foldl (fun a y => if f a y = true then y else a) p) = true ∧ ∀ y ∈ P, leP y (P.foldl (fun a y => if f a y = true then y else a) p) = true := by
  have tr : ∀ a b c : Pr, leP a b = true → leP b c = true → leP a c = true := by
    intro a b c h1 h2
    simp only [leP, decide_eq_true_eq] at h1 h2 ⊢
    omega
  have rf : ∀ a : Pr, leP a a = true := by
    intro a
    simp [leP]
  intro P
  induction P with
  | nil => exact fun p => ⟨rf p, fun _ h => nomatch h⟩
  | cons r P ih =>
    intro p
    rw [List.foldl_cons]
    by_cases h : f p r = true
    · rw [if_pos h]
      obtain ⟨h1, h2⟩ := ih r
      refine ⟨tr _ _ _ (hf _ _ h) h1, fun y hy => ?_⟩
      rcases List.mem_cons.mp hy with e | hy
      · rw [e]; exact h1
      · exact h2 y hy
    · rw [if_neg h]
      obtain ⟨h1, h2⟩ := ih p
      refine ⟨h1, fun y hy => ?_⟩
      rcases List.mem_cons.mp hy with e | hy
      · rw [e]; exact tr _ _ _ (hg _ _ h) h1
      · exact h2 y hy
theorem toPys_prs (P : List Pr) : toPys (P.map pD) = some (P.map pY) := toPys_pr P
theorem alike_prs (P : List Pr) : PySem.W.AlikeAll (P.map pY) := by
  refine ⟨fun x hx y hy => ?_, fun x hx => ?_⟩
  · obtain ⟨i, _, rfl⟩ := List.mem_map.mp hx
    obtain ⟨j, _, rfl⟩ := List.mem_map.mp hy
    rfl
  · obtain ⟨i, _, rfl⟩ := List.mem_map.mp hx
    exact fun z => nomatch z
theorem x_maxP {P : List Pr} (h1 : seqOf S o = some (P.map pD)) (h2 : o.isTup = false) (h3 : P = [] → q d S) (h4 : ∀ p, p ∈ P → (∀ y ∈ P, leP y p = true) → q (pD p) S) : aMMDef true o d S q := by
  refine ⟨_, _, h1, h2, toPys_prs P, alike_prs P, Nat.le_trans (dep_pr P) (by decide), fun e => h3 (List.map_eq_nil_iff.mp e), fun y ys i x ey hx hp => ?_⟩
  cases P with
  | nil => simp at hx
  | cons n P =>
    rw [List.map_cons] at ey
    obtain ⟨rfl, rfl⟩ := List.cons.inj ey
    have hxi : ∃ j, x = pD j ∧ (n :: P)[i]? = some j := by
      rw [List.getElem?_map] at hx
      cases e : (n :: P)[i]? with
      | none => rw [e] at hx; cases hx
      | some j => rw [e] at hx; cases hx; exact ⟨j, rfl, rfl⟩
    obtain ⟨j, rfl, hj⟩ := hxi
    have hp' : some (pY j) = some (PySem.W.maxD (pY n) (P.map pY)) := by
      rw [if_pos rfl] at hp
      rw [← hp, List.getElem?_map, hj]
      rfl
    rw [maxD_pr] at hp'
    have e := pY_inj (Option.some.inj hp')
    refine h4 j (List.mem_of_getElem? hj) fun y hy => ?_
    rw [e]
    obtain ⟨z1, z2⟩ := foldP_le ltP (fun a y h => by simp only [ltP, leP, decide_eq_true_eq] at h ⊢; omega) (fun a y h => by simp only [ltP, leP, decide_eq_true_eq] at h ⊢; omega) P n
    rcases List.mem_cons.mp hy with w | w
    · rw [w]; exact z1
    · exact z2 y w
end
def leI (a b : Int) : Bool := decide (a ≤ b)
def sortI (L : List Int) : List Int := L.mergeSort leI
theorem x_sortedI {L : List Int} {fz : Bool} {S : Sto} {q : D → Sto → Prop} (h : newL fz ((sortI L).map D.int) S q) : aSorted fz (.lst (L.map D.int)) S q := by
  refine ⟨L.map D.int, L.map PyData.int, rfl, rfl, toPys_ints L, PySem.W.AllAlike.of fun b b' => rfl, .inr fun d hd => ?_, fun p hp => ?_, ?_⟩
  · obtain ⟨p, _, rfl⟩ := List.mem_map.mp hd
    exact ⟨fun z => (nomatch z), fun xs z => nomatch z⟩
  · obtain ⟨p, _, rfl⟩ := List.mem_map.mp hp
    exact (by decide : (0 : Nat) ≤ 60)
  · have e1 : (L.map D.int).zip (L.map PyData.int) = L.map fun p => (D.int p, PyData.int p) := by
      rw [List.zip_map']
    have e2 : (L.mergeSort leI).map (fun p => (D.int p, PyData.int p)) = (L.map fun p => (D.int p, PyData.int p)).mergeSort (PySem.W.dataLe false Prod.snd) := by
      refine ms_map (f := fun p : Int => (D.int p, PyData.int p)) (r := leI) (s := PySem.W.dataLe false Prod.snd) (fun a b => ?_) L
      have := congrFun (congrFun (PySem.W.dataLe_int (β := Int) id) a) b
      exact this.symm
    rw [e1, ← e2, List.map_map]
    exact h
theorem x_b3 {ρ : Env_} {i j l : Nat} {d e f : D} : Tgt.bind (.tp [.nm i, .nm j, .nm l]) (.tup [d, e, f]) ρ = some (((ρ.set i (some d)).set j (some e)).set l (some f)) := by
  simp [Tgt.bind, Tgt.binds]
theorem snoc_setN {S : Sto} {x y : Option MO} : (S ++ [x]).set S.length y = S ++ [y] := by simp
theorem snoc_getN {S : Sto} {x : Option MO} : (S ++ [x])[S.length]? = some x := by simp
section
variable {X : Cx} {ρ : Env_} {S : Sto} {q : D → Sto → Prop}
theorem x_dnT : gDNew true ρ S q ↔ q (.dic [] []) S := by simp [gDNew]
theorem x_dnF : gDNew false ρ S q ↔ q (.loc S.length) (S ++ [some (.dic [] [])]) := by simp [gDNew]
end
end Dl
namespace Dl
open PySem L2
def keyPy : Key → PyData
  | .inl i => .int i
  | .inr x => .str x
def dicPy (ks : List Key) (L : List Int) : PyData := .dict ((ks.map keyPy).zip (L.map .int))
theorem keys_read {h : Heap} : ∀ {us : List Value} {ks : List Key}, us.length = ks.length → (∀ (i : Nat) u k, us[i]? = some u → ks[i]? = some k → keyIs k u = true) → ReadsAll h us (ks.map keyPy) []
  | [], [], _, _ => .nil
  | u :: us, k :: ks, hl, hk => by
    have r := keys_read (h := h) (us := us) (ks := ks) (by simpa using hl) fun i u' k' h1 h2 => hk (i + 1) u' k' (by rw [List.getElem?_cons_succ]; exact h1) (by rw [List.getElem?_cons_succ]; exact h2)
    have h0 := hk 0 u k rfl rfl
    have r0 : Reads h u (keyPy k) [] := by
      rcases keyIs_shape h0 with ⟨i, t, e1, e2⟩ | ⟨x, t, e1, e2⟩
      · subst e1 e2; exact .int i t
      · subst e1 e2; exact .str x t
    exact ReadsAll.cons (as := []) (bs := []) r0 r
  | [], _ :: _, h, _ => by simp at h
  | _ :: _, [], h, _ => by simp at h
theorem zip_get2 {A B : Type} {l : List A} {l' : List B} {i : Nat} {a : A} {b : B} (h1 : l[i]? = some a) (h2 : l'[i]? = some b) : (l.zip l')[i]? = some (a, b) := List.getElem?_zip_eq_some.mpr ⟨h1, h2⟩
end Dl
namespace Dl
open PySem L2
mutual
inductive Dg (K : PySem.W.Frag) (H : Hp) : V → PyData → Prop
  | non : Dg K H .non .none
  | bl (b : Bool) : Dg K H (.bl b) (.bool b)
  | int (i : Int) : Dg K H (.int i) (.int i)
  | str (x : Str) : Dg K H (.str x) (.str x)
  | tup {a : Addr} {xs : List V} {ps : List PyData} : SqT K H a xs → DgAll K H xs ps → Dg K H (.ref a) (.tuple ps)
  | dic {a : Addr} {ks : List Key} {xs : List V} {ps : List PyData} : H a = some (.dK (ks.zip xs)) → ks.length = xs.length → DgAll K H xs ps → Dg K H (.ref a) (.dict ((ks.map keyPy).zip ps))
inductive DgAll (K : PySem.W.Frag) (H : Hp) : List V → List PyData → Prop
  | nil : DgAll K H [] []
  | cons {x : V} {xs : List V} {p : PyData} {ps : List PyData} : Dg K H x p → DgAll K H xs ps → DgAll K H (x :: xs) (p :: ps)
end
theorem DgAll.len {K : PySem.W.Frag} {H : Hp} : ∀ {xs : List V} {ps : List PyData}, DgAll K H xs ps → xs.length = ps.length
  | [], _, h => by cases h; rfl
  | x :: xs, _, h => by cases h with | cons h1 h2 => rw [List.length_cons, List.length_cons, DgAll.len h2]
theorem dk_entries {X : Cx} {pins : List (Addr × Obj)} {σ : L2.St} {H : Hp} {s : Shared} {a : Addr} {ks : List Key} {xs : List V} (I : Inv X pins σ H s) (ha : H a = some (.dK (ks.zip xs))) (hl : ks.length = xs.length) :
    (a == sysModules) = false ∧ ∃ (o : Obj) (es : Array DictEntry) (n : Nat), s.heap.get? a = some o ∧ o.cls = .type "dict" ∧ o.data = .dict es n ∧ ReadsAll s.heap (es.toList.map (·.key)) (ks.map keyPy) [] ∧ Vals xs (es.toList.map (·.val)) := by
  obtain ⟨_, hsys, kvs, rel, hdo⟩ := dk_of I.hok ha
  obtain ⟨ep, hat⟩ := hdo.dictAt
  obtain ⟨es, ⟨ob, ho, hex, hd⟩, hsz, hes⟩ := Heap.DictAt.raw hat
  have lk : (ks.zip xs).length = kvs.length := Paired.length rel
  have lz : (ks.zip xs).length = xs.length := by rw [List.length_zip, hl, Nat.min_self]
  have hkv : ∀ (i : Nat) (k : Key) (x : V), ks[i]? = some k → xs[i]? = some x → ∃ v, kvs[i]? = some (k, v) ∧ RelV x v := fun i k x h1 h2 => by
    obtain ⟨p, e, f1, f2⟩ := LiI.paired_get rel (zip_get2 h1 h2)
    obtain ⟨p1, p2⟩ := p
    dsimp only at f1 f2
    exact ⟨p2, by rw [e, f1], f2⟩
  have hesl : es.toList.length = xs.length := by rw [Array.length_toList]; omega
  refine ⟨hsys, ob, es, _, ho, hex.1, hd, ?_, ?_⟩
  · refine keys_read (by rw [List.length_map]; omega) fun i u k h1 h2 => ?_
    rw [List.getElem?_map] at h1
    obtain ⟨e, he, rfl⟩ := Option.map_eq_some_iff.mp h1
    have hi : i < es.size := by have := (List.getElem?_eq_some_iff.mp he).1; rwa [Array.length_toList] at this
    have hiL : i < xs.length := by omega
    obtain ⟨v, h3, _⟩ := hkv i k _ h2 (List.getElem?_eq_getElem hiL)
    have := (hes i hi k v h3).1
    have ee : e = es[i] := by
      rw [Array.getElem?_toList, Array.getElem?_eq_getElem hi] at he
      exact (Option.some.inj he).symm
    rw [ee]
    exact this
  · have go : ∀ (ys : List V) (us : List Value), ys.length = us.length → (∀ (i : Nat) y u, ys[i]? = some y → us[i]? = some u → RelV y u) → Vals ys us := by
      intro ys
      induction ys with
      | nil => intro us h _; cases us with
        | nil => exact .nil
        | cons _ _ => simp at h
      | cons y ys ih => intro us h hh; cases us with
        | nil => simp at h
        | cons u us => exact .cons (hh 0 y u rfl rfl) (ih us (by simpa using h) fun i y' u' h1 h2 => hh (i + 1) y' u' (by rw [List.getElem?_cons_succ]; exact h1) (by rw [List.getElem?_cons_succ]; exact h2))
    refine go _ _ (by rw [List.length_map]; omega) fun i x u h2 h1 => ?_
    rw [List.getElem?_map] at h1
    obtain ⟨e, he, rfl⟩ := Option.map_eq_some_iff.mp h1
    have hi : i < es.size := by have := (List.getElem?_eq_some_iff.mp he).1; rwa [Array.length_toList] at this
    have hik : i < ks.length := by omega
    obtain ⟨v, h3, h4⟩ := hkv i _ x (List.getElem?_eq_getElem hik) h2
    have := (hes i hi _ v h3).2
    have ee : e = es[i] := by
      rw [Array.getElem?_toList, Array.getElem?_eq_getElem hi] at he
      exact (Option.some.inj he).symm
    rw [ee, this]
    exact h4
end Dl
namespace Dl
open PySem L2
mutual
inductive Dm (K : PySem.W.Frag) (H : Hp) : V → PyData → Prop
  | non : Dm K H .non .none
  | bl (b : Bool) : Dm K H (.bl b) (.bool b)
  | int (i : Int) : Dm K H (.int i) (.int i)
  | str (x : Str) : Dm K H (.str x) (.str x)
  | tup {a : Addr} {xs : List V} {ps : List PyData} : SqT K H a xs → DmAll K H xs ps → Dm K H (.ref a) (.tuple ps)
  | lst {a : Addr} {xs : List V} {ps : List PyData} : SqL K H a xs → DmAll K H xs ps → Dm K H (.ref a) (.list ps)
  | dic {a : Addr} {ks : List Key} {xs : List V} {ps : List PyData} : H a = some (.dK (ks.zip xs)) → ks.length = xs.length → DmAll K H xs ps → Dm K H (.ref a) (.dict ((ks.map keyPy).zip ps))
inductive DmAll (K : PySem.W.Frag) (H : Hp) : List V → List PyData → Prop
  | nil : DmAll K H [] []
  | cons {x : V} {xs : List V} {p : PyData} {ps : List PyData} : Dm K H x p → DmAll K H xs ps → DmAll K H (x :: xs) (p :: ps)
end
theorem DmAll.len {K : PySem.W.Frag} {H : Hp} : ∀ {xs : List V} {ps : List PyData}, DmAll K H xs ps → xs.length = ps.length
  | [], _, h => by cases h; rfl
  | x :: xs, _, h => by cases h with | cons h1 h2 => rw [List.length_cons, List.length_cons, DmAll.len h2]
end Dl
namespace Dl
open PySem L2
theorem drop_get {A : Type} {l : List A} {i : Nat} {x : A} (h : l[i]? = some x) : l.drop i = x :: l.drop (i + 1) := by
  obtain ⟨h1, h2⟩ := List.getElem?_eq_some_iff.mp h
  rw [List.drop_eq_getElem_cons h1, h2]
def lcJ (fz : Bool) (t : Tgt) (gt : G Bool) (ge : G D) (vs : List Nat) (ρ : Env_) (chk : Sto → Prop) (q : D → Sto → Prop) : List D → List D → Sto → Prop
  | [], acc, S => chk S ∧ newL fz acc S q
  | d :: ds, acc, S => chk S ∧ ∃ ρ', t.bind d (wipeD ρ vs) = some ρ' ∧ gt ρ' S fun b S2 => if b = true then ge ρ' S2 fun y S3 => acc.length < sizeLine ∧ lcJ fz t gt ge vs ρ chk q ds (acc ++ [y]) S3 else lcJ fz t gt ge vs ρ chk q ds acc S2
theorem lc_un {ds : List D} {S : Sto} {chk : Sto → Prop} {ρ : Env_} {t : Tgt} {gt : G Bool} {ge : G D} {vs : List Nat} {fz : Bool} {q : D → Sto → Prop} (h : lcJ fz t gt ge vs ρ chk q ds [] S) : aLc fz t gt ge vs ρ ds chk S q := by
  refine ⟨fun i => lcJ fz t gt ge vs ρ chk q (ds.drop i), h, fun i d ρ S hd hi => ?_, fun ρ S hi => ?_⟩
  · dsimp only at hi
    rw [drop_get hd] at hi
    exact hi
  · dsimp only at hi
    rw [List.drop_length] at hi
    exact hi
end Dl
namespace Dl
open PySem L2
theorem cutD_from {ds : List D} (k : Int) (i : Nat) (hk : k = (i : Int)) : cutD ds (some k) none = ds.drop i := by
  subst hk
  unfold cutD
  rw [HT.sIx_nat, HT.sIx_none]
  by_cases h : i ≤ ds.length
  · rw [Nat.min_eq_left h, List.take_of_length_le (by rw [List.length_drop]; omega)]
  · rw [Nat.min_eq_right (by omega), List.drop_eq_nil_of_le (by omega), List.drop_eq_nil_of_le (by omega)]; simp
theorem x_popE {S : Sto} {q : D → Sto → Prop} {ds : List D} {y : D} (h : ds.getLast? = some y) : aPop (.loc S.length) [] (S ++ [some (.lst ds)]) q ↔ q y (S ++ [some (.lst ds.dropLast)]) := by
  have hl : ds[ds.length - 1]? = some y := by rw [← List.getLast?_eq_getElem?]; exact h
  constructor
  · rintro ⟨n, ds', y', e1, _, e3, e4, k⟩
    cases e1
    rw [show (S ++ [some (MO.lst ds)])[S.length]? = some (some (.lst ds)) by simp] at e3
    cases e3
    rw [hl] at e4
    cases e4
    rw [show (S ++ [some (MO.lst ds)]).set S.length (some (.lst ds.dropLast)) = S ++ [some (.lst ds.dropLast)] by simp] at k
    exact k
  · intro k
    refine ⟨S.length, ds, y, rfl, rfl, by simp, hl, ?_⟩
    rw [show (S ++ [some (MO.lst ds)]).set S.length (some (.lst ds.dropLast)) = S ++ [some (.lst ds.dropLast)] by simp]
    exact k
/-- a loop over data told by a list -/
theorem for_on {A : Type} {F : A → D} {L : List A} {t : Tgt} {gb : GS} {E : DE} {ρ : Env_} {S : Sto} {chk : Sto → Prop} (I : Nat → Env_ → Sto → Prop) (h0 : I 0 ρ S)
    (step : ∀ i x ρ S, L[i]? = some x → I i ρ S → chk S ∧ ∃ ρ', t.bind (F x) ρ = some ρ' ∧ gb { nx := I (i + 1), rt := E.rt, ct := I (i + 1), bk := E.nx } ρ' S) (h : ∀ ρ S, I L.length ρ S → chk S ∧ E.nx ρ S) : aFor t gb E ρ (L.map F) chk S := by
  refine ⟨I, h0, fun i d ρ S hd hi => ?_, by rw [List.length_map]; exact h⟩
  rw [List.getElem?_map] at hd
  obtain ⟨x, hx, rfl⟩ := Option.map_eq_some_iff.mp hd
  exact step i x ρ S hx hi
theorem take_next {A : Type} {L : List A} {i : Nat} {x : A} (h : L[i]? = some x) : L.take (i + 1) = L.take i ++ [x] := by rw [List.take_add_one, h]; rfl
theorem nodup_len {A : Type} [DecidableEq A] : ∀ {l m : List A}, l.Nodup → (∀ y ∈ l, y ∈ m) → l.length ≤ m.length
  | [], _, _, _ => Nat.zero_le _
  | x :: l, m, nd, h => by
    obtain ⟨h1, h2⟩ := List.nodup_cons.mp nd
    have hx := h x List.mem_cons_self
    have := nodup_len (m := m.erase x) h2 fun y hy => (List.mem_erase_of_ne (fun e => h1 (by rw [← e]; exact hy))).mpr (h y (List.mem_cons_of_mem _ hy))
    rw [List.length_erase_of_mem hx] at this
    have := List.length_pos_of_mem hx
    rw [List.length_cons]; omega
end Dl
namespace Dl
open PySem L2 PySem.Spec PyProof.Rows
def rNil (neg : Bool) : R2 := fun x y H Q => ∃ (a b : Addr) (vs : List V), x = .ref a ∧ y = .ref b ∧ H a = some (.lst vs) ∧ H b = some (.lst []) ∧ Q (.bl (xor neg vs.isEmpty)) H
theorem or_neNil {X : Cx} {k : Nat} (hr : RoomG k X.A) : OpR X (compareOp .NotEq) (rNil true) := by
  intro pins s σ H x y v u Q I rx ry ⟨a, b, vs, ex, ey, h1, h2, q⟩
  subst ex ey
  cases rx
  cases ry
  show wpAny (model X.prog X.w) X.A (richCompare .NotEq (.ref a) (.ref b)) (EP X pins σ Q) X.xe s
  obtain ⟨z1, its, n, rv, ra, hla⟩ := I.lstM h1
  obtain ⟨z2, its2, n2, rv2, rb, hlb⟩ := I.lstM h2
  cases rv2
  cases vs with
  | nil =>
    cases rv
    exact GB.rc_neB (N := 0) (rs := fun _ => true) (out := false) hr.units0 (fun _ => rfl) (fun j hj => by omega) (fun _ s' => s' = s) (fun i s' e => by subst e; exact ⟨#[], #[], n, n2, hla, hlb, rfl, rfl, fun h => by simp at h⟩) (fun _ s' e => by subst e; exact ⟨.bl false, H, I, rfl, q⟩) rfl
  | cons w vs =>
    refine GB.rc_neD hr.units0 hla hlb ?_ ⟨.bl true, H, I, rfl, q⟩
    rw [List.size_toArray, ← rv.length]; simp
def aNil (neg : Bool) : R2D := fun x y S q => ∃ ds, lstOf S x = some ds ∧ y = .lst [] ∧ q (.bl (xor neg ds.isEmpty)) S
theorem vr_nil {K : PySem.W.Frag} {neg : Bool} : VR2 K (rNil neg) (aNil neg) := fun {_ m S Z H a b v u q Q} w r1 r2 ⟨ds, h1, h2, h3⟩ kk => by
  subst h2
  obtain ⟨a1, vs, e1, hh1, q1⟩ := lstOf_rep w r1 h1
  obtain ⟨b1, us, e2, hh2, q2⟩ := lstOf_rep w r2 rfl
  rw [Reps] at q2
  subst q2
  refine ⟨a1, b1, vs, e1, e2, hh1, hh2, kk.now w ?_ h3⟩
  have : vs.isEmpty = ds.isEmpty := by
    have := Reps.len q1
    cases vs <;> cases ds <;> simp at this ⊢
  rw [this]
  exact rep_bl
section
variable {S : Sto} {q : D → Sto → Prop} {ds : List D}
theorem x_nilL {neg : Bool} : aNil neg (.lst ds) (.lst []) S q ↔ q (.bl (xor neg ds.isEmpty)) S := ⟨fun ⟨_, e, _, h⟩ => by cases e; exact h, fun h => ⟨ds, rfl, rfl, h⟩⟩
theorem x_nilE {neg : Bool} : aNil neg (.loc S.length) (.lst []) (S ++ [some (.lst ds)]) q ↔ q (.bl (xor neg ds.isEmpty)) (S ++ [some (.lst ds)]) := by
  have e0 : lstOf (S ++ [some (.lst ds)]) (.loc S.length) = some ds := by simp [lstOf]
  exact ⟨fun ⟨_, e, _, h⟩ => by rw [e0] at e; cases e; exact h, fun h => ⟨ds, e0, rfl, h⟩⟩
end
end Dl
namespace Ds
open PySem PyProof.Rows PySem.Calls L2 PySem.W Dl
section
variable {P : Program} {w : World} {A : Around} {E : Value → Shared → Prop} {s : Shared}
theorem ints_ix : ∀ {us : List Value} {ns : List Int}, IntsAre us ns → us.length = ns.length ∧ ∀ (i : Nat) (v : Value), us[i]? = some v → ∃ k t, ns[i]? = some k ∧ v = .int k t
  | _, _, .nil => ⟨rfl, fun i v h => by simp at h⟩
  | _, _, .cons k t r => ⟨congrArg Nat.succ (ints_ix r).1, fun i v h => by
      cases i with
      | zero => simp at h; exact ⟨k, t, rfl, h.symm⟩
      | succ i => exact (ints_ix r).2 i v (by simpa using h)⟩
set_option maxHeartbeats 8000000 in
/-- set(list of ints) -/
theorem call_setL {l : Addr} {items : Array Value} (ns : List Int) {Q : Value → Shared → Prop} (hh : A.handled = none) (hl : s.heap.IsList l items) (hi : IntsAre items.toList ns) (hb : ns.length + 1 < scanBound)
    (h : ∀ (h' : Heap) (tk c : Nat), SetR w h' s.heap.objs.size (fun j => decide (j ∈ ns)) c → c ≤ ns.length → (∀ b o, b < s.heap.objs.size → s.heap.get? b = some o → h'.get? b = some o) → Q (.ref s.heap.objs.size) { s with heap := h', toks := tk }) :
    wpAny (model P w) A (call (.type "set") [.ref l]) Q E s := by
  obtain ⟨c, tl, hmro⟩ := PySem.F.called_set.mro
  have hmade := PySem.F.called_set.made
  have hsub := PySem.F.called_set.sub
  refine wpAny_call (codeAny_of_tree ?_)
  show wpAny _ _ (callAny (.type "set") _) _ _ _
  refine wpAny_pure ⟨Code.quiet_builtin _ (by decide +kernel), codeAny_builtin PySem.F.entry_type_call ?_⟩
  rw [Around.under_plain (weight_type_call_type "set" [.ref l] []) rfl]
  have h1 := PySem.F.called_set.notType
  have h2 := PySem.F.called_set.canCreate
  have hct := PySem.F.typeCall_set_1 (.ref l)
  repeat (any_goals (first | assumption | wp_step))
  generalize hled : (!w.params.followText "set-order") = led
  refine codeAny_mono (code_set_led1 (.ref l) (E := E) (Q₁ := fun obj s₁ => obj = .ref s.heap.objs.size ∧ s₁ = { s with heap := s.heap.push { cls := .type "set", dict := none, data := .set #[] 0 (.fresh 0 0 led) } }) (by rw [hled]; exact ⟨rfl, rfl⟩)) fun r s₁ hr => ?_
  match r, hr with
  | .error e, hr => exact hr
  | .ok .next, hr => exact hr.elim
  | .ok .brk, hr => exact hr.elim
  | .ok .cont, hr => exact hr.elim
  | .ok (.ret obj), hr =>
    obtain ⟨rfl, rfl⟩ := hr
    have hS : (s.heap.push { cls := .type "set", dict := none, data := .set #[] 0 (.fresh 0 0 led) }).get? s.heap.objs.size = some { cls := .type "set", dict := none, data := .set #[] 0 (.fresh 0 0 led) } := Heap.get?_push_size _ rfl
    have hT : Shared.TypeIs { s with heap := s.heap.push { cls := .type "set", dict := none, data := .set #[] 0 (.fresh 0 0 led) } } (.ref s.heap.objs.size) "set" := ⟨_, hS, rfl⟩
    have hli := PySem.F.called_set.init.lookup
    have hbi := PySem.F.called_set.init.bind (.ref s.heap.objs.size)
    repeat (any_goals (first | assumption | wp_step))
    refine codeAny_mono (codeAny_call_builtin (R := wants (fun r s₂ => r = .none ∧ ∃ h' tk c, s₂ = { s with heap := h', toks := tk } ∧ SetR w h' s.heap.objs.size (fun j => decide (j ∈ ns)) c ∧ c ≤ ns.length ∧
      ∀ b o, b < s.heap.objs.size → s.heap.get? b = some o → h'.get? b = some o) E) PySem.F.called_set.init.plain PySem.F.entry_set_init (check_set_init_1 hT ?_)) fun r₂ s₂ hr₂ => ?_
    · have hlist := hl
      obtain ⟨ol, hol, hcl, nl, hdl⟩ := hl
      obtain ⟨ocls, odict, odata, oslots⟩ := ol
      simp only at hcl hdl
      subst hcl; subst hdl
      have hlS : l < s.heap.objs.size := Heap.lt_size hol
      have hol' : (s.heap.push { cls := .type "set", dict := none, data := .set #[] 0 (.fresh 0 0 led) }).get? l = some { cls := .type "list", dict := odict, data := .seq items nl, slots := oslots } := Heap.get?_push_of_some _ hol
      have hl1 : (s.heap.push { cls := .type "set", dict := none, data := .set #[] 0 (.fresh 0 0 led) }).IsList l items := ⟨_, hol', rfl, nl, rfl⟩
      have hsls := PySem.F.sub_list_set
      have hslf := PySem.F.sub_list_frozenset
      have hne : (Value.type "list" == Value.type "dict") = false := by decide
      unfold Builtin.«set.__init__» noKeywords Builtin.Frozenset.updateFrom
      generalize hPI : pyIter = PI
      wp_walk
      subst hPI
      refine wpAny_pyIter_list hl1 (wpAny_bind (wpAny_runValue ?_))
      obtain ⟨e1, e2⟩ := ints_ix hi
      rw [Array.length_toList] at e1
      have hI : l ≠ (s.heap.push { cls := .type "set", dict := none, data := .set #[] 0 (.fresh 0 0 led) }).objs.size := by
        rw [Heap.size_push]; exact Nat.ne_of_lt (Nat.lt_succ_of_lt hlS)
      have hSf : s.heap.objs.size ∉ [(s.heap.push { cls := .type "set", dict := none, data := .set #[] 0 (.fresh 0 0 led) }).objs.size, l] := by
        rw [Heap.size_push]; simp only [List.mem_cons, List.not_mem_nil, or_false, not_or]
        exact ⟨Nat.ne_of_lt (Nat.lt_succ_self _), Nat.ne_of_gt hlS⟩
      refine set_update_ints (Walks.list (A := A.in1.in1.in1) (by simp [hh]) _ l hI items).toS s.heap.objs.size hSf ns e1 hb (fun i v hv => e2 i v (by rw [Array.getElem?_toList]; exact hv)) (items.size - 0) 0 _ rfl (Nat.zero_le _) ?_ ?_ ?_
      · exact ⟨⟨_, Heap.get?_push_size _ rfl, rfl, rfl⟩, hl1.push _⟩
      · refine ⟨0, Nat.le_refl _, ?_⟩
        have z := setR_new_at (w := w) (h := (s.heap.push { cls := .type "set", dict := none, data := .set #[] 0 (.fresh 0 0 led) }).push { cls := .type "list_iterator", data := .fields #[.ref l, .int 0 0] }) (a := s.heap.objs.size) (ns := ns) (by rw [hled]; exact Heap.get?_push_of_some _ hS)
        exact z
      · intro s' c mv hc hR
        obtain ⟨h', g', d', tk', os'⟩ := s'
        obtain rfl : g' = s.gens := mv.gens
        obtain rfl : d' = s.drawn := mv.drawn
        obtain rfl : os' = s.os := mv.os
        refine wpAny_pure (wpAny_pure ⟨rfl, h', tk', c, rfl, hR, by omega, fun b o hb e => ?_⟩)
        refine mv.heap b o ?_ (Heap.get?_push_of_some _ (Heap.get?_push_of_some _ e))
        simp only [List.mem_cons, List.not_mem_nil, or_false, not_or]
        refine ⟨Nat.ne_of_lt hb, ?_⟩
        rw [Heap.size_push]; exact Nat.ne_of_lt (Nat.lt_succ_of_lt hb)
    · match r₂, hr₂ with
      | .error e, hr₂ => exact hr₂
      | .ok .next, hr₂ => exact hr₂.elim
      | .ok .brk, hr₂ => exact hr₂.elim
      | .ok .cont, hr₂ => exact hr₂.elim
      | .ok (.ret r), hr₂ =>
        obtain ⟨rfl, h', tk, c, rfl, hR, hc, hk⟩ := hr₂
        repeat (any_goals (first | assumption | wp_step))
        exact h _ _ c hR hc hk
theorem lt_sorted : ∀ l : List Int, l.Pairwise (fun a b => leI a b = true) → l.Nodup → l.Pairwise (· < ·)
  | [], _, _ => List.Pairwise.nil
  | x :: l, h, d => by
    obtain ⟨h1, h2⟩ := List.pairwise_cons.mp h
    obtain ⟨d1, d2⟩ := List.nodup_cons.mp d
    refine List.pairwise_cons.mpr ⟨fun y hy => ?_, lt_sorted l h2 d2⟩
    have a : x ≤ y := of_decide_eq_true (h1 y hy)
    have b : x ≠ y := fun z => d1 (z ▸ hy)
    omega
/-- sorted(set of ints) -/
theorem sorted_setI {a : Addr} {S : Int → Bool} {n : Nat} {Q : Value → Shared → Prop} (R : SetR w s.heap a S n) (hh : A.handled = none) (hu : A.units + 64 < cLine) (hn4 : n < 4000)
    (hQ : ∀ s' p (out : List Value) (c : Nat) (ns : List Int), (∀ b o, s.heap.get? b = some o → s'.heap.get? b = some o) → s'.gens = s.gens → s'.os = s.os → s.heap.objs.size ≤ p → s'.heap.get? p = some (seqObj "list" out.toArray c) →
      IntsAre out ns → ns.Pairwise (· < ·) → (∀ k, k ∈ ns ↔ S k = true) → ns.length = n → Q (.ref p) s') :
    wpAny (model P w) A (call (.builtin "sorted") [.ref a]) Q E s := by
  obtain ⟨o, es, ep, t, ho, hex, hd, g, nd, hm, hb, hf, hn, hr, hl⟩ := R
  refine Calls.call_function_entry kind_sorted plain_sorted entry_sorted (args_sorted1 _) ?_
  unfold Builtin.«sorted»
  refine wpAny_bind (m := checkCount "sorted" 1 1 _) (wpAny_pure (wpAny_bind (collect_set (A := A.in1) hh ⟨o, ho, hex.1, hd⟩ hf hb hr hl fun s1 vs k1 hz g1 o1 pm => ?_)))
  have hvl : vs.length = n := by rw [pm.length_eq, List.length_map, Array.length_toList]; exact hn
  have hI : IntsAre vs (vs.map Builtin.Re.reRawOf) := ints_of vs fun v hv => by
    obtain ⟨e, he, q⟩ := List.mem_map.mp (pm.mem_iff.mp hv)
    obtain ⟨k, tk, h1, _⟩ := g e he
    exact ⟨k, tk, by rw [← q]; exact h1⟩
  generalize hns : vs.map Builtin.Re.reRawOf = ns at hI
  have pk : ns.Perm (es.toList.map keyOf) := by
    have q := pm.map Builtin.Re.reRawOf
    rw [List.map_map, hns] at q
    exact q
  have hz2 : vs.length ≤ sizeLine := by rw [hvl, sizeLine_eq]; omega
  refine wpAny_bind (wpAny_newList ?_ hz2)
  have hoL : (s1.heap.push (seqObj "list" vs.toArray 0)).get? s1.heap.objs.size = some (seqObj "list" vs.toArray 0) := Heap.get?_push_size _ rfl
  obtain ⟨el, ei⟩ := ints_ix hI
  let h0 := s1.heap.push (seqObj "list" vs.toArray 0)
  let hs := sortingHeap h0 s1.heap.objs.size vs
  have ez : ∀ i v k, vs[i]? = some v → ns[i]? = some k → ∃ t, v = Value.int k t := fun i v k h1 h2 => by
    obtain ⟨k', t', e1, e2⟩ := ei i v h1
    rw [h2] at e1
    exact ⟨t', by rw [e2, ← Option.some.inj e1]⟩
  have er : EachIs (fun v (k : Int) => ∃ as, Reads hs v (PyData.int k) as) vs ns := each_of el fun i v k h1 h2 => by
    obtain ⟨t', rfl⟩ := ez i v k h1 h2
    exact ⟨[], Reads.int k t'⟩
  have ev : EachIs (fun v (k : Int) => ∃ t, v = Value.int k t) vs ns := each_of el fun i v k h1 h2 => ez i v k h1 h2
  have al : AllAlike (ns.map PyData.int) := AllAlike.of fun b b' => rfl
  have so : Sortable (ns.map PyData.int) := .inr fun d hd => by
    obtain ⟨p, _, rfl⟩ := List.mem_map.mp hd
    exact ⟨fun z => (nomatch z), fun xs z => nomatch z⟩
  have ub : ∀ b, b ∈ ns → (A.in1.in1).units + (PyData.int b).depth < cLine := fun b _ => by
    show A.units + 1 + 1 + 0 < cLine
    omega
  refine wpAny_bind (wpAny_holding (wpAny_call_entry slot_list_sort ⟨_, hoL, rfl⟩ entry_list_sort (list_sort_vals hoL (SortsAt.data (s := { s1 with heap := hs }) (each_map (R := fun v d => ∃ as, Reads hs v d as) PyData.int er) al so (bound_map ub)) hz2 ⟨_, rfl, ?_⟩) (args_list_sort _)))
  have he : EachIs (fun v (k : Int) => ∃ t, v = Value.int k t) (sortVals (dataKind hs (ns.map PyData.int)) false vs vs) (ns.mergeSort (dataLe false PyData.int)) := sortVals_data false ev er al
  have eI : dataLe false PyData.int = leI := PySem.W.dataLe_int (β := Int) id
  rw [eI] at he
  generalize sortVals (dataKind hs (ns.map PyData.int)) false vs vs = out at he
  have perm := List.mergeSort_perm ns leI
  have hlen : out.length = vs.length := by
    have := he.length
    rw [this, List.length_mergeSort, ← el]
  obtain ⟨c, hcc⟩ := sortedHeap_at (vs := vs) (out := out.toArray) hoL
  have pn : (ns.mergeSort leI).Perm (es.toList.map keyOf) := perm.trans pk
  refine wpAny_pure ⟨_, rfl, hQ _ s1.heap.objs.size out c (ns.mergeSort leI) (fun b u e => ?_) g1 o1 hz hcc ?_ (lt_sorted _ (List.pairwise_mergeSort (fun a b c h1 h2 => ?_) (fun a b => ?_) ns) (pn.nodup_iff.mpr nd)) (fun k => by rw [pn.mem_iff, ← hm k]) ?_⟩
  · have q := k1 b u e
    have hlt := Heap.lt_size q
    show (sortedHeap h0 s1.heap.objs.size vs out.toArray).get? b = some u
    rw [sortedHeap_old (Nat.ne_of_lt hlt) (by rw [size_push']; exact Nat.lt_succ_of_lt hlt)]
    exact Heap.get?_push_of_some _ q
  · have : ∀ {us : List Value} {ks : List Int}, EachIs (fun v (k : Int) => ∃ t, v = Value.int k t) us ks → IntsAre us ks := by
      intro us ks h
      induction h with
      | nil => exact .nil
      | cons r _ ih =>
        obtain ⟨t, rfl⟩ := r
        exact .cons _ t ih
    exact this he
  · simp only [leI, decide_eq_true_eq] at h1 h2 ⊢; omega
  · simp only [leI, Bool.or_eq_true, decide_eq_true_eq]; omega
  · rw [pn.length_eq, List.length_map, Array.length_toList]; exact hn
end
end Ds
namespace Dl
open PySem L2 PyProof.Rows
def tSortSet (K : PySem.W.Frag) (ta : TE) : TE := fun σ H Q => ta σ H fun x H1 => ∃ (l : Addr) (ns : List Int), x = .ref l ∧ SqL K H1 l (ns.map V.int) ∧ ns.length ≤ 3000 ∧ ∀ p ks, H1 p = none → List.Pairwise (· < ·) ks → (∀ k : Int, k ∈ ks ↔ k ∈ ns) → Q (.ref p) (upd H1 p (.lst (ks.map V.int)))
section
variable {X : Cx} {a : Expr} {ta : TE} {p p2 q pos : Pos}
theorem ints_vals : ∀ {us : List Value} {ns : List Int}, IntsAre us ns → Vals (ns.map V.int) us
  | _, _, .nil => .nil
  | _, _, .cons k t r => .cons ⟨t, rfl⟩ (ints_vals r)
theorem vals_ints : ∀ {ns : List Int} {us : List Value}, Vals (ns.map V.int) us → IntsAre us ns
  | [], _, .nil => .nil
  | k :: ns, _, .cons r t => by
    obtain ⟨tk, rfl⟩ := r
    exact .cons k tk (vals_ints t)
theorem pe_sortSet (hc : X.calm = true) (hu : X.A.units + 64 < cLine) (hg : Gl X "sorted") (hm : X.mg "sorted" = none) (hg2 : Gl X "set") (hm2 : X.mg "set" = none) (ha : PE X a ta) (na : starEach [a] X.env = (false, eval a X.env) :: starEach [] X.env := by rfl) :
    PE X (.Call (.Name "sorted" p) [.Call (.Name "set" p2) [a] [] q] [] pos) (tSortSet X.K ta) := by
  refine ⟨fun pins s σ H Q I h => ?_⟩
  refine Call_ (ld_blt I hg hm boot_sorted (PyProof.Rows.callWith_builtin1 (PyProof.Rows.args_cons ?_ rfl) rfl rfl))
  refine Call_ (ld_blt I hg2 hm2 boot_set (PyProof.Rows.callWith_type1 (PyProof.Rows.args_cons (thn (ha.run pins s σ H _ I h) fun v s1 ⟨x, H1, I1, r1, l, ns, ex, hq, h1, q1⟩ => PyProof.Rows.args_nil ?_) na) na rfl))
  subst ex
  obtain rfl : v = Value.ref l := r1
  obtain ⟨its, r, pl, _⟩ := I1.list hq
  refine Ds.call_setL ns (I1.ok.hd hc) pl.isList (by simpa using vals_ints r) (by unfold scanBound; omega) fun h' tk c hR hcl kp => PyProof.Rows.args_nil ?_
  have I2 : Inv X pins σ H1 { s1 with heap := h', toks := tk } := I1.kept fun b o e => kp b o (Heap.lt_size e) e
  refine Ds.sorted_setI (s := { s1 with heap := h', toks := tk }) hR (I1.ok.hd hc) hu (by omega) fun s2 p out c2 ks k2 g2 o2 hz ho hi hp hmem hlen => ?_
  obtain ⟨hp2, gg2, d2, t2, os2⟩ := s2
  obtain rfl : gg2 = s1.gens := g2
  obtain rfl : os2 = s1.os := o2
  have new : H1 p = none := I2.hok.fresh hz
  have hl3 : (ks.map V.int).length ≤ sizeLine := by rw [List.length_map, hlen, sizeLine_eq]; omega
  have I3 : Inv X pins σ (upd H1 p (.lst (ks.map V.int))) { ({ s1 with heap := h', toks := tk } : Shared) with heap := hp2, gens := s1.gens, drawn := d2, toks := t2 } :=
    Inv.call (s := { s1 with heap := h', toks := tk }) I2 (ch := []) (Un.laid k2 hz new) (I2.hok.laid k2 hz ⟨hl3, out, c2, ints_vals hi, ho⟩) I2.bare (fun _ z => nomatch z)
  exact ⟨.ref p, _, I3, rfl, q1 p ks new hp fun k => by rw [hmem k, decide_eq_true_eq]⟩
/-- by data: the members, rising -/
def aSortSet (fz : Bool) (d : D) (S : Sto) (q : D → Sto → Prop) : Prop := ∃ ns : List Int, seqOf S d = some (ns.map D.int) ∧ d.isTup = false ∧ ns.length ≤ 3000 ∧ ∀ ks : List Int, ks.Pairwise (· < ·) → (∀ k, k ∈ ks ↔ k ∈ ns) → newL fz (ks.map D.int) S q
def gSortSet (fz : Bool) (ge : G D) : G D := fun ρ S q => ge ρ S fun d S1 => aSortSet fz d S1 q
theorem d_sortSet {U : Wi} {ge : G D} (fz : Bool) (hc : X.calm = true) (hu : X.A.units + 64 < cLine) (hg : Gl X "sorted") (hm : X.mg "sorted" = none) (hg2 : Gl X "set") (hm2 : X.mg "set" = none) (ha : PE X a (tofE X.K U ge)) (na : starEach [a] X.env = (false, eval a X.env) :: starEach [] X.env := by rfl) :
    PE X (.Call (.Name "sorted" p) [.Call (.Name "set" p2) [a] [] q] [] pos) (tofE X.K U (gSortSet fz ge)) :=
  weakE (pe_sortSet hc hu hg hm hg2 hm2 ha na) fun σ H Q ⟨m, S, Z, ρ, q, w, rs, h, k⟩ => tof_in w rs h fun v1 H1 m1 d1 S1 e1 w1 r1 ⟨ns, h1, h2, h3, h4⟩ => by
    obtain ⟨a, vs, e, hr, ht, hl⟩ := seqOf_rep w1 r1 h1
    rw [Reps.ints hr] at hl
    refine ⟨a, ns, e, hl h2, h3, fun p ks hp pw hm => ?_⟩
    exact out_newL w1 (Reps.ofInts ks) (h4 ks pw hm) (k.ext e1) hp
end
end Dl
namespace Dl
open PySem L2 PySem.SeqAt PyProof.Rows PySem.Spec
end Dl
namespace PySem
namespace HandSPX
open Builtin Builtin.ObjectAttr
end HandSPX
end PySem
namespace Dl
open PySem L2 PyProof.Rows
end Dl
namespace Dl
open PySem L2 PyProof.Rows
section
variable {X : Cx} {C : Addr} {x qual : Str} {st : Stmt} {ps flds : List Str} {p pos pos2 : Pos} {es : List Expr} {n : Nat} {src : List Src} {ga : GA}
/-- raise C(..): by data, the fields the last one first -/
def gRaise (WD : XW) (C : Addr) (flds : List Str) (n : Nat) (src : List Src) (ga : GA) : GS := fun E ρ S => ga ρ S fun as zs S1 => as.length = n ∧ zs.length = 0 ∧ as.length ≤ 1000 ∧ ∃ ds, (∀ s : D, gat src (s :: as) [] [] = s :: ds) ∧ ds.length = flds.length ∧ WD (.own C) flds.reverse ds.reverse ρ S1
end
end Dl
namespace Dl
open PySem L2 PyProof.Rows
abbrev XE_ := XC → List Str → List D → Sto → Prop
/-- a promise: the arguments, the store, what is wanted of the answer, of an exception -/
abbrev XSp := List D → Sto → (D → Sto → Prop) → XE_ → Prop
def gCallX (WD : XW) (n nk : Nat) (src : List Src) (dds : List D) (dsp : XSp) (ga : GA) : G D := fun ρ S q => ga ρ S fun as ks S1 => as.length = n ∧ ks.length = nk ∧ dsp (gat src as dds ks) S1 q fun c fs ds S2 => WD c fs ds ρ S2
def gMethX (WD : XW) (C : Addr) (m : Str) (n nk : Nat) (src : List Src) (dds : List D) (dsp : XSp) (go : G D) (ga : GA) : G D := fun ρ S q => go ρ S fun o S1 => ∃ ks ds, objOf S1 o = some (C, ks, ds) ∧ ks.contains m = false ∧
  ga ρ S1 fun as zs S2 => as.length = n ∧ zs.length = nk ∧ dsp (gat src (o :: as) dds zs) S2 q fun c fs ds S3 => WD c fs ds ρ S3
/-- C(..), its __init__ may raise; the new instance given up at once -/
def gMakeX (WD : XW) (C : Addr) (n nk : Nat) (src : List Src) (dds : List D) (dsp : XSp) (ga : GA) : G D := fun ρ S q => ga ρ S fun as zs S1 => as.length = n ∧ zs.length = nk ∧ (D.unders S1.length as = true → D.unders S1.length zs = true →
  dsp (gat src (.loc S1.length :: as) dds zs) (S1 ++ [some (.obj C [] [])]) (fun v S2 => v = .non ∧ ∃ ks ds, S2 = S1 ++ [some (.obj C ks ds)] ∧ D.unders S1.length ds = true ∧ q (.obj C ks ds) S1) fun c fs ds S2 => WD c fs ds ρ S2)
end Dl
namespace Dl
open PySem L2 PyProof.Rows
/-- which class a clause takes -/
structure Exm (K : PySem.W.Frag) (cc : Value) (c : XC) (b : Bool) : Prop where
  is : PySem.W.exmOne K c.val cc = some b
/-- try: gb / except cc as i: gs -/
def gTryAs (K : PySem.W.Frag) (WD : XW) (cc : Value) (i : Nat) (gb : XW → GS) (gs : GS) : GS := fun E ρ S =>
  gb (fun c fs ds ρ' S' => ∃ b, Exm K cc c b ∧ (b = true → gs { nx := fun ρ'' S'' => E.nx (ρ''.set i none) S'', rt := E.rt, bk := fun ρ'' S'' => E.bk (ρ''.set i none) S'', ct := fun ρ'' S'' => E.ct (ρ''.set i none) S'' } (ρ'.set i (some (.exc c fs ds))) S') ∧ (b = false → WD c fs ds ρ' S')) E ρ S
/-- try: gb / except cc: gs -/
def gTryO (K : PySem.W.Frag) (WD : XW) (cc : Value) (gb : XW → GS) (gs : GS) : GS := fun E ρ S =>
  gb (fun c fs ds ρ' S' => ∃ b, Exm K cc c b ∧ (b = true → gs E ρ' S') ∧ (b = false → WD c fs ds ρ' S')) E ρ S
/-- what an exception's class must bear so that its instances are looked at -/
structure XLk (K : PySem.W.Frag) (C : Addr) : Prop where
  ga : PySem.W.findIn K (.ref C) "__getattribute__" = some (some (.builtin "BaseException.__getattribute__"))
  gg : PySem.W.findIn K (.ref C) "__getattr__" = some none
  exC : PySem.W.subIn K (.ref C) (.type "BaseException") = some true
  hdC : PySem.W.hasDictIn K C = true
  ha : PySem.W.findIn K (.ref C) "__class__" = some (some (.builtin "object.__class__"))
  hn : PySem.W.specialIn K (.builtin "object.__class__") "__get__" = some (some (.builtin "getset_descriptor.__get__"))
  ht : PySem.W.takesIn K (.builtin "object.__class__") = some true
  hm : PySem.W.mroIn K C (.type "object") = some true
structure XFd (K : PySem.W.Frag) (C : Addr) (f : Str) : Prop where
  lk : XLk K C
  no : PySem.W.findIn K (.ref C) f = some none
def gFldX (K : PySem.W.Frag) (f : Str) (go : G D) : G D := fun ρ S q => go ρ S fun o S1 => ∃ C ks ds d, o = .exc (.own C) ks ds ∧ XFd K C f ∧ fget f ks ds = some d ∧ q d S1
end Dl
namespace Dl
open PySem L2 PyProof.Rows
end Dl
namespace Dl
open PySem L2
def truD : D → Option Bool
  | .non => some false
  | .bl b => some b
  | .int i => some (i != 0)
  | .str x => if x.length ≤ sizeLine then some ((x.length : Int) != 0) else none
  | _ => none
def gOrT (ga gb : G D) : G D := fun ρ S q => ga ρ S fun d S1 => ∃ k, truD d = some k ∧ if k = true then q d S1 else gb ρ S1 q
def gAndT (ga gb : G D) : G D := fun ρ S q => ga ρ S fun d S1 => ∃ k, truD d = some k ∧ if k = true then gb ρ S1 q else q d S1
end Dl
namespace Dl
open PySem L2
end Dl
namespace Dl
open PySem L2 PySem.Calls PySem.Spec PyProof.Rows
open PySem.SeqAt
open AutoSeq1 (wpAny_loadPart')
open MeetsSeq
def D.bk : D → Option String
  | .non => some "NoneType"
  | .bl _ => some "bool"
  | .int _ => some "int"
  | .str _ => some "str"
  | .tup _ => some "tuple"
  | .lst _ => some "list"
  | .dic _ _ => some "dict"
  | _ => none
structure EqE where
  C : Addr
  k : Nat
  dsp : DSp
end Dl
namespace Dl
open PySem L2 PySem.Calls PySem.Spec PyProof.Rows
open PySem.SeqAt
open AutoSeq1 (wpAny_loadPart')
open MeetsSeq MeetsSeq2 SeqRoads2
end Dl
namespace Dl
open PySem L2 PySem.Calls PySem.Spec PyProof.Rows
structure StOk (X : Cx) (nm : Str) (c : EqE) : Prop where
  f : ∃ (qual : Str) (st : Stmt) (dvs : List V) (ps : List Str), MFn X.prog X.w X.K X.mg X.base c.C nm qual st dvs c.k ps c.dsp ∧ Bnd nm qual st ps 1 [] [.p 0] dvs.length
def StsOk (X : Cx) (nm : Str) (cs : List EqE) : Prop := ∀ c ∈ cs, StOk X nm c
theorem sts_nil {X : Cx} {nm : Str} : StsOk X nm [] := fun c h => by cases h
theorem sts_cons {X : Cx} {nm : Str} {c : EqE} {cs : List EqE} (h : StOk X nm c) (hs : StsOk X nm cs) : StsOk X nm (c :: cs) := fun d hd => by
  rcases List.mem_cons.mp hd with rfl | hd
  · exact h
  · exact hs d hd
section
variable {X : Cx} {cs : List EqE} {n : Nat} {nm : Str}
def aStA (cs : List EqE) (n : Nat) : R1D := fun a S q => ∃ c ks ds, c ∈ cs ∧ c.k ≤ n ∧ objOf S a = some (c.C, ks, ds) ∧ c.dsp [a] S fun d S' => ∃ x, d = .str x ∧ q (.str x) S'
/-- the method run, below the running body -/
theorem st_run (hcs : StsOk X nm cs) {c : EqE} (hc : c ∈ cs) (hk : c.k ≤ n) {A : Around} (sb : SubG X n A) {pins : List (Addr × Obj)} {σ : L2.St} {H : Hp} {s : Shared} {a dx : Addr} {fs : List (Str × V)} {Q : VK} (I : L2.Inv X pins σ H s) (hx : H a = some (.ins c.C dx fs))
    (h : spOf X.K c.dsp [.ref a] H (fun v H' => ∃ x, v = .str x ∧ Q (.str x) H') fun _ _ _ => False) :
    ∃ ox od f, PySem.W.InstAt s.heap a ox c.C od ∧ PySem.W.findIn X.K (.ref c.C) nm = some (some (.ref f)) ∧ PySem.W.isFn X.K (.ref f) = true ∧
      ∀ s2, L2.Inv X pins σ H s2 → wpAny (model X.prog X.w) A (call (.ref f) [.ref a]) (PySem.W.StrBack (EP X pins σ Q)) X.xe s2 := by
  obtain ⟨qual, st, dvs, ps, F, b⟩ := (hcs c hc).f
  obtain ⟨f, fd, FS, hm, FO⟩ := F.ex
  obtain ⟨its, KB⟩ := kbn_of FS b
  obtain ⟨mA, J, _⟩ := ins_get I.hok hx
  obtain ⟨od, J, _⟩ := J.look
  have r2 : Vals [V.ref a] [Value.ref a] := .cons rfl .nil
  refine ⟨_, _, f, J, hm.at_, hm.fn, fun s2 I2 => ?_⟩
  refine wpAny_mono (run_at FO (sb.mono hk) KB I2 r2 rfl (Q := fun v H' => ∃ x, v = .str x ∧ Q (.str x) H') (by simpa [gat, pick] using h)) (fun w' s' hq => ?_) fun _ _ z => z
  obtain ⟨z, H', I', rz, y, ez, q⟩ := hq
  subst ez
  obtain ⟨t, rfl⟩ := rz
  exact ⟨.str y, H', I', ⟨t, rfl⟩, q⟩
/-- f"{text!r}" -/
def gFmtR (ge : G D) : G D := fun ρ S q => ge ρ S fun d S1 => match d with
  | .str y => (reprText y).length ≤ sizeLine ∧ q (.str (reprText y)) S1
  | .int i => i.natAbs.log2 < 1920 ∧ q (.str (showI i)) S1
  | _ => False
end
def aFmtR : R1D := fun d S1 q => match d with
  | .str y => (reprText y).length ≤ sizeLine ∧ q (.str (reprText y)) S1
  | .int i => i.natAbs.log2 < 1920 ∧ q (.str (showI i)) S1
  | _ => False
theorem x_fmtRS {ge : G D} {ρ : Env_} {S : Sto} {q : D → Sto → Prop} : gFmtR ge ρ S q = ge ρ S fun d S1 => aFmtR d S1 q := rfl
theorem x_afRS {x : Str} {S : Sto} {q : D → Sto → Prop} : aFmtR (.str x) S q ↔ (reprText x).length ≤ sizeLine ∧ q (.str (reprText x)) S := Iff.rfl
theorem x_afRI {i : Int} {S : Sto} {q : D → Sto → Prop} : aFmtR (.int i) S q ↔ i.natAbs.log2 < 1920 ∧ q (.str (showI i)) S := Iff.rfl
/-- str(own), one class -/
theorem x_stO {C : Addr} {k n : Nat} {dsp : DSp} {ks : List Str} {ds : List D} {S : Sto} {q : D → Sto → Prop} : aStA [⟨C, k, dsp⟩] n (.obj C ks ds) S q ↔ k ≤ n ∧ dsp [.obj C ks ds] S fun d S' => ∃ x, d = .str x ∧ q (.str x) S' := by
  constructor
  · rintro ⟨c, ks', ds', hc, hk, e, h⟩
    rw [List.mem_singleton] at hc
    subst hc
    exact ⟨hk, h⟩
  · exact fun ⟨hk, h⟩ => ⟨_, ks, ds, List.mem_singleton.mpr rfl, hk, rfl, h⟩
end Dl
namespace Dl
open PySem L2
section
variable {X : Cx} {n m : Nat} {D D' : Eqv}
/-- as EqG, where no repr is under way -/
def EqT (X : Cx) (n : Nat) (D : Eqv) : Prop :=
  ∀ (A : Around) (pins : List (Addr × Obj)) (s : Shared) (σ : L2.St) (H : Hp) (x y : V) (u v : Value), SubG X n A → L2.Inv X pins σ H s → RelV x u → RelV y v → D x y H →
    wpAny (model X.prog X.w) A (eqBool u v) (fun r s' => r = true ∧ ∃ H', L2.Inv X pins σ H' s' ∧ L2.Ext H H') X.xe s
def RcT (X : Cx) (n : Nat) (D : Eqv) : Prop :=
  ∀ (A : Around) (pins : List (Addr × Obj)) (s : Shared) (σ : L2.St) (H : Hp) (x y : V) (u v : Value), SubG X n A → L2.Inv X pins σ H s → RelV x u → RelV y v → D x y H →
    wpAny (model X.prog X.w) A (richCompare .Eq u v) (fun r s' => r = .bool true ∧ ∃ H', L2.Inv X pins σ H' s' ∧ L2.Ext H H') X.xe s
theorem EqT.mono (h : EqT X n D) (hn : n ≤ m) : EqT X m D := fun A pins s σ H x y u v sb => h A pins s σ H x y u v (sb.mono hn)
theorem EqT.or (h : EqT X n D) (h' : EqT X n D') : EqT X n (fun x y H => D x y H ∨ D' x y H) := fun A pins s σ H x y u v sb I rx ry d => by
  rcases d with d | d
  · exact h A pins s σ H x y u v sb I rx ry d
  · exact h' A pins s σ H x y u v sb I rx ry d
theorem eqT_flat : EqT X n DFlat := by
  intro A pins s σ H x y u v sb I rx ry d
  obtain ⟨fx, fy, e⟩ := d
  have q := eqAt_V (A := A) (s := s) rx ry fx fy
  rw [e] at q
  exact q X.prog X.w X.xe _ ⟨rfl, H, I, fun _ _ h => h⟩
theorem RcT.eqT (h : RcT X n D) (hr : ∀ x y H, D x y H → ∃ a b, x = .ref a ∧ y = .ref b) : EqT X n D := by
  intro A pins s σ H x y u v sb I rx ry d
  obtain ⟨a, b, rfl, rfl⟩ := hr _ _ _ d
  cases rx
  cases ry
  by_cases hab : a = b
  · subst hab
    exact SeqAt.EqAt.same (A := A) (s := s) (.ref a) X.prog X.w X.xe _ ⟨rfl, H, I, fun _ _ h => h⟩
  · refine GQ.eqBool_refG hab (wpAny_mono (h A pins s σ H (.ref a) (.ref b) _ _ sb I rfl rfl d) (fun r s' q => ?_) fun _ _ x => x)
    obtain ⟨hr', q⟩ := q
    exact ⟨true, hr', rfl, q⟩
theorem turnT (hD : Mon D) (h : EqT X n D) {A : Around} (sb : SubG X (n + 1) A) {pins : List (Addr × Obj)} {σ : L2.St} {H : Hp} {xs ys : List V} {its its2 : List Value} (p : Prs D xs ys H) (r : Vals xs its) (r2 : Vals ys its2)
    (i : Nat) (h1 : i < its.toArray.size) (h2 : i < its2.toArray.size) (s' : Shared) (l : LoopI X pins σ H s') :
    wpAny (model X.prog X.w) A.in1 (eqBool its.toArray[i] its2.toArray[i]) (fun r s2 => r = true ∧ LoopI X pins σ H s2) X.xe s' := by
  obtain ⟨H1, I1, e1⟩ := l
  rw [List.size_toArray] at h1 h2
  obtain ⟨x, hx⟩ : ∃ x, xs[i]? = some x := ⟨xs[i]'(by have := r.length; omega), List.getElem?_eq_getElem _⟩
  obtain ⟨y, hy⟩ : ∃ y, ys[i]? = some y := ⟨ys[i]'(by have := r2.length; omega), List.getElem?_eq_getElem _⟩
  have g1 : its[i]? = some its[i] := List.getElem?_eq_getElem h1
  have g2 : its2[i]? = some its2[i] := List.getElem?_eq_getElem h2
  have key := h A.in1 pins s' σ H1 x y its[i] its2[i] sb.in1 I1 (vals_each r i _ _ hx g1) (vals_each r2 i _ _ hy g2) (hD _ _ _ _ e1 (p.2 i x y hx hy))
  refine wpAny_mono (by simpa using key) (fun r s2 q => ?_) fun _ _ z => z
  obtain ⟨q1, H2, I2, e2⟩ := q
  exact ⟨q1, H2, I2, fun a o z => e2 a o (e1 a o z)⟩
theorem rcT_list (hD : Mon D) (h : EqT X n D) : RcT X (n + 1) (DList D) := by
  intro A pins s σ H x y u v sb I rx ry d
  obtain ⟨a, b, xs, ys, rfl, rfl, ha, hb, p⟩ := d
  cases rx
  cases ry
  refine GQ.rc_listG (N := xs.length) sb.room.units0 (fun _ s' => LoopI X pins σ H s') (fun i s' q => ?_) (fun s' q => ⟨rfl, q⟩) ⟨H, I, fun _ _ h => h⟩
  obtain ⟨H1, I1, e1⟩ := id q
  obtain ⟨z, its, k, r, e⟩ := I1.hok a _ (e1 _ _ ha)
  obtain ⟨z2, its2, k2, r2, e2⟩ := I1.hok b _ (e1 _ _ hb)
  exact ⟨its.toArray, its2.toArray, k, k2, e, e2, by rw [List.size_toArray, ← r.length], by rw [List.size_toArray, ← r2.length, ← p.1], fun h1 h2 => turnT hD h sb p r r2 i h1 h2 s' q⟩
theorem rcT_tup (hD : Mon D) (h : EqT X n D) : RcT X (n + 1) (DTup X.K D) := by
  intro A pins s σ H x y u v sb I rx ry d
  obtain ⟨a, b, xs, ys, rfl, rfl, ha, hb, p⟩ := d
  cases rx
  cases ry
  obtain ⟨its, r, e, z⟩ := I.tuple ha
  obtain ⟨its2, r2, e2, z2⟩ := I.tuple hb
  have hsz : its.toArray.size = its2.toArray.size := by rw [List.size_toArray, List.size_toArray, ← r.length, ← r2.length]; exact p.1
  exact GQ.rc_tupG hsz sb.room.units0 (fun _ s' => LoopI X pins σ H s') e e2 (fun i h1 h2 s' q => turnT hD h sb p r r2 i h1 h2 s' q) (fun s' q => ⟨rfl, q⟩) ⟨H, I, fun _ _ h => h⟩
theorem op_eqT (h : RcT X n D) (hr : RoomG n X.A) : OpR X (compareOp .Eq) (rEqG D) := by
  intro pins s σ H x y v u Q I rx ry hq
  obtain ⟨d, q⟩ := hq
  show wpAny (model X.prog X.w) X.A (richCompare .Eq v u) (EP X pins σ Q) X.xe s
  refine wpAny_mono (h X.A pins s σ H x y v u ⟨hr, rfl⟩ I rx ry d) (fun r s' z => ?_) fun _ _ x => x
  obtain ⟨hr', H', I', e⟩ := z
  subst hr'
  exact ⟨.bl true, H', I', rfl, q H' e⟩
end
section
variable {X : Cx} {C : Addr} {qual : Str} {st : Stmt} {dvs : List V} {k : Nat} {ps : List Str} {dsp : DSp}
/-- two own instances of C that are alike by their own == -/
def DOwnT (K : PySem.W.Frag) (C : Addr) (dsp : DSp) : Eqv := fun x y H => ∃ m S Z d e, Wd K U0 m S Z H ∧ Rep K m S.length (vis m S Z H) d x ∧ Rep K m S.length (vis m S Z H) e y ∧ ItO C dsp d e true
theorem mon_ownT {K : PySem.W.Frag} : Mon (DOwnT K C dsp) := fun x y H H' e ⟨m, S, Z, d, d', w, r1, r2, i⟩ =>
  ⟨m, S, Z, d, d', (w.grow e).1, Rep.mono (fun _ _ => rfl) (Nat.le_refl _) (vis_grow e) r1, Rep.mono (fun _ _ => rfl) (Nat.le_refl _) (vis_grow e) r2, i⟩
theorem eqT_own (F : MFn X.prog X.w X.K X.mg X.base C "__eq__" qual st dvs k ps dsp) (b : Bnd "__eq__" qual st ps 2 [] [.p 0, .p 1] dvs.length) : EqT X k (DOwnT X.K C dsp) := fun A pins s σ H x y u v sb I rx ry ⟨m, S, Z, d, e, w, r1, r2, i⟩ =>
  ecmp_own F b sb I w r1 r2 rx ry i
def DItT (K : PySem.W.Frag) (C : Addr) (dsp : DSp) : Eqv := fun x y H => DOwnT K C dsp x y H ∨ DFlat x y H
theorem mon_itT {K : PySem.W.Frag} : Mon (DItT K C dsp) := Mon.or mon_ownT mon_flat
def DTupT (K : PySem.W.Frag) (C : Addr) (dsp : DSp) : Eqv := DTup K (DItT K C dsp)
/-- an item, by data -/
def itT (C : Addr) (dsp : DSp) (d e : D) : Prop := (d = e ∧ ((∃ x, d = .str x) ∨ ∃ i, d = .int i)) ∨ ItO C dsp d e true
def tupT (C : Addr) (dsp : DSp) (d e : D) : Prop := ∃ xs ys, d = .tup xs ∧ e = .tup ys ∧ xs.length = ys.length ∧ ∀ (i : Nat) x y, xs[i]? = some x → ys[i]? = some y → itT C dsp x y
/-- xs == ys, alike -/
def aEqTL (C : Addr) (dsp : DSp) : R2D := fun x y S q => ∃ ds es, lstOf S x = some ds ∧ lstOf S y = some es ∧ ds.length = es.length ∧ (∀ (i : Nat) d e, ds[i]? = some d → es[i]? = some e → tupT C dsp d e) ∧ q (.bl true) S
theorem itT_in {K : PySem.W.Frag} {m : Nat → Addr} {S : Sto} {Z : Addr → Prop} {H : Hp} {d e : D} {x y : V} (w : Wd K U0 m S Z H) (r1 : Rep K m S.length (vis m S Z H) d x) (r2 : Rep K m S.length (vis m S Z H) e y) (h : itT C dsp d e) : DItT K C dsp x y H := by
  rcases h with ⟨rfl, ⟨z, rfl⟩ | ⟨z, rfl⟩⟩ | h
  · rw [Rep] at r1 r2
    subst r1 r2
    exact .inr ⟨rfl, rfl, by simp [eqV]⟩
  · rw [Rep] at r1 r2
    subst r1 r2
    exact .inr ⟨rfl, rfl, by simp [eqV]⟩
  · exact .inl ⟨m, S, Z, d, e, w, r1, r2, h⟩
theorem prs_in {K : PySem.W.Frag} {m : Nat → Addr} {S : Sto} {Z : Addr → Prop} {H : Hp} {P : D → D → Prop} {Q : Eqv} (hP : ∀ d e x y, Rep K m S.length (vis m S Z H) d x → Rep K m S.length (vis m S Z H) e y → P d e → Q x y H) {ds es : List D} {vs us : List V}
    (r1 : Reps K m S.length (vis m S Z H) ds vs) (r2 : Reps K m S.length (vis m S Z H) es us) (hl : ds.length = es.length) (h : ∀ (i : Nat) d e, ds[i]? = some d → es[i]? = some e → P d e) : Prs Q vs us H := by
  have l1 := Reps.len r1
  have l2 := Reps.len r2
  refine ⟨by omega, fun i x y hx hy => ?_⟩
  have i1 := (List.getElem?_eq_some_iff.mp hx).1
  have i2 := (List.getElem?_eq_some_iff.mp hy).1
  obtain ⟨d, hd⟩ : ∃ d, ds[i]? = some d := ⟨ds[i]'(by omega), by simp⟩
  obtain ⟨e, he⟩ : ∃ e, es[i]? = some e := ⟨es[i]'(by omega), by simp⟩
  obtain ⟨x', hx', rx⟩ := Reps.get r1 hd
  obtain ⟨y', hy', ry⟩ := Reps.get r2 he
  rw [hx] at hx'; cases hx'
  rw [hy] at hy'; cases hy'
  exact hP d e x y rx ry (h i d e hd he)
theorem vr_eqTL : VR2 X.K (rEqG (DList (DTupT X.K C dsp))) (aEqTL C dsp) := fun {_ m S Z H a b v u q Q} w r1 r2 ⟨ds, es, h1, h2, hl, hi, h3⟩ kk => by
  obtain ⟨a1, vs, e1, hh1, q1⟩ := lstOf_rep w r1 h1
  obtain ⟨b1, us, e2, hh2, q2⟩ := lstOf_rep w r2 h2
  have step : ∀ d e x y, Rep X.K m S.length (vis m S Z H) d x → Rep X.K m S.length (vis m S Z H) e y → tupT C dsp d e → DTupT X.K C dsp x y H := by
    rintro d e x y rx ry ⟨xs, ys, rfl, rfl, hl, h⟩
    rw [Rep] at rx ry
    obtain ⟨p, vx, rfl, sx, qx⟩ := rx
    obtain ⟨p', vy, rfl, sy, qy⟩ := ry
    exact ⟨p, p', vx, vy, rfl, rfl, SqT.ext sx fun a o z => vis_sub z, SqT.ext sy fun a o z => vis_sub z, prs_in (P := itT C dsp) (fun d e x y r1 r2 hh => itT_in w.w0 r1 r2 hh) qx qy hl h⟩
  exact ⟨⟨a1, b1, vs, us, e1, e2, hh1, hh2, prs_in step q1 q2 hl hi⟩, fun H' e => by
    obtain ⟨w', e'⟩ := w.grow e
    exact kk.at e' w' rep_bl h3⟩
theorem or_eqTL (F : MFn X.prog X.w X.K X.mg X.base C "__eq__" qual st dvs k ps dsp) (hr : RoomG (k + 2) X.A) (b : Bnd "__eq__" qual st ps 2 [] [.p 0, .p 1] dvs.length) : OpR X (compareOp .Eq) (rEqG (DList (DTupT X.K C dsp))) := by
  have h1 : EqT X k (DItT X.K C dsp) := EqT.or (eqT_own F b) eqT_flat
  have h2 : EqT X (k + 1) (DTupT X.K C dsp) := (rcT_tup mon_itT h1).eqT fun _ _ _ ⟨a, b, _, _, hx, hy, _⟩ => ⟨a, b, hx, hy⟩
  exact op_eqT (rcT_list (mon_tup mon_itT) h2) hr
end
end Dl
namespace Dl
open PySem L2 PyProof.Rows PySem.Builtin PySem.Builtin.List
section
variable {prog : Program} {w : World} {R : Result → Shared → Prop}
/-- what stands around an item while a container at a is written out -/
structure Und (A A' : Around) (a : Addr) (g : List Code) : Prop where
  gd : ∃ id rest, A'.guards = some (.builtin id ⟨.ref a :: rest, []⟩ :: g)
  un : A'.units = A.units + 1
  dp : A'.depth ≤ A.depth + 1
  hd : A'.handled = A.handled
  fr : A'.frames = A.frames
theorem weight_list_loop (args : Args) : (Code.builtin "list.__repr__.loop" args).weight = 1 := by kernel_rfl
theorem envs_list_loop (args : Args) : (Code.builtin "list.__repr__.loop" args).envs = [] := by kernel_rfl
theorem und_list {A : Around} {a : Addr} {g : List Code} (hg : A.guards = some g) (rest : List Value) : Und A (A.under (.builtin "list.__repr__.loop" ⟨.ref a :: rest, []⟩)) a g :=
  ⟨⟨_, rest, guards_under_guard (isGuard_list_loop _) hg⟩, units_under_list_loop _ _, by show A.depth + Code.weight _ ≤ _; rw [weight_list_loop]; exact Nat.le_refl _, rfl, by show pushEnvs (Code.envs (.builtin "list.__repr__.loop" ⟨.ref a :: rest, []⟩)) A.frames = A.frames; rw [envs_list_loop]; rfl⟩
theorem listR_loop {A : Around} {a P : Addr} {g : List Code} {ts : List Str} {base N : Nat} {Iv : Obj → Shared → Prop} (hg : A.guards = some g) (hlen : ts.length = N)
    (hI : ∀ o s, Iv o s → s.heap.get? P = some o ∧ ∃ (its : Array Value) (oa : Obj) (na : Nat), s.heap.get? a = some oa ∧ oa.data = .seq its na ∧ its.size = N ∧
      ∀ (i : Nat) (u : Value), its[i]? = some u → ∃ t, ts[i]? = some t ∧ ∀ (b' : Nat) (A' : Around), b' + t.length ≤ sizeLine → Und A A' a g → wpAny (model prog w) A' (pyReprUnder b' u) (fun t' s' => t' = t ∧ Iv o s') (fun e s' => R (.error e) s') s)
    (hU : ∀ (o : Obj) (s : Shared) (f : Array Value → Array Value), Iv o s → Iv (o.mapSeq f) { s with heap := s.heap.update P (Obj.mapSeq f) })
    (hT : ∀ (o : Obj) (s : Shared) (tk : Nat), Iv o s → Iv o { s with toks := tk })
    (hsz : base + (listText ts).length ≤ sizeLine) (fin : ∀ o s u, Iv o s → R (.ok (.ret (.str (listText ts) u))) s) :
    ∀ (k i : Nat) (s : Shared) (acc : Array Value) (c : Nat) (done : List (Str × Tok)), N - i = k → i ≤ N → Iv { cls := .type "list", dict := none, data := .seq acc c, slots := #[] } s → acc.toList = strValues done → done.map (·.1) = ts.take i →
      codeAny (model prog w) A (.builtin "list.__repr__.loop" ⟨[.ref a, rawInt i, .ref P, rawInt ((base + piled (ts.take i) : Nat) : Int)], []⟩) R s := by
  have lx : (listText ts).length = (textFrom 0 "[" ts).length + 1 := by
    show (textFrom 0 "[" ts ++ "]").length = _
    rw [strLen_append]
    rfl
  have lf := textFrom_len ts 0 "["
  have sz1 : N ≤ sizeLine := by
    have z := lf.1
    rw [if_neg (Nat.lt_irrefl 0)] at z
    omega
  have sz2 : ∀ t ∈ ts, t.length ≤ sizeLine := fun t ht => by have := lf.2.1 t ht; omega
  have sz3 : (listText ts).length ≤ sizeLine := by omega
  have pl := piled_le_listText ts
  intro k
  induction k with
  | zero =>
    intro i s acc c done hk hi iv hacc hdone
    have ei : i = N := by omega
    obtain ⟨hP, its, oa, na, ha, hd, hn, _⟩ := hI _ _ iv
    refine codeAny_builtin F.entry_list_repr_loop ?_
    show wpAny _ _ («list.__repr__.loop» ⟨[.ref a, .int i 0, .ref P, .int ((base + piled (ts.take i) : Nat) : Int) 0], []⟩) _ _ s
    rw [repr_loop_tree]
    refine wpAny_bind (wpAny_listItems ha hd ?_)
    have no : its[(i : Int).toNat]? = none := by simp [ei, hn]
    simp only [no]
    unfold reprEnd
    refine wpAny_bind (wpAny_listItems hP rfl ?_)
    rw [hacc, repr_fold]
    refine wpAny_bind (wpAny_pure ?_)
    rw [show done.map (·.1) = ts by rw [hdone, ei, ← hlen, List.take_length]]
    exact wpAny_bind (wpAny_mkStr (wpAny_pure (fin _ _ _ (hT _ _ _ iv))) sz3)
  | succ k ih =>
    intro i s acc c done hk hi iv hacc hdone
    obtain ⟨hP, its, oa, na, ha, hd, hn, hi2⟩ := hI _ _ iv
    have hlt : i < its.size := by omega
    obtain ⟨t, ht, run⟩ := hi2 i its[i] (by simp [hlt])
    have p1 := piled_take_succ ht
    have p2 := piled_take_le ts (i + 1)
    refine codeAny_builtin F.entry_list_repr_loop ?_
    show wpAny _ _ («list.__repr__.loop» ⟨[.ref a, .int i 0, .ref P, .int ((base + piled (ts.take i) : Nat) : Int) 0], []⟩) _ _ s
    rw [repr_loop_tree]
    refine wpAny_bind (wpAny_listItems ha hd ?_)
    have so : its[(i : Int).toNat]? = some its[i] := by simp [hlt]
    simp only [so]
    rw [Int.toNat_natCast]
    refine wpAny_bind (wpAny_holding (wpAny_mono (run (base + piled (ts.take i) + 1) _ (by omega) (und_list hg _)) (fun t' s' hq => ?_) fun _ _ z => z))
    obtain ⟨rfl, iv2⟩ := hq
    refine wpAny_bind (wpAny_mkStr ?_ (sz2 t' (List.mem_of_getElem? ht)))
    refine wpAny_bind ?_
    show wpAny _ _ (updateSeq P _) _ _ _
    have asz : acc.size ≤ sizeLine := by
      have e1 : acc.toList.length = acc.size := by simp
      have e2 : (strValues done).length = done.length := by simp [strValues]
      have e3 : done.length = (ts.take i).length := by rw [← hdone, List.length_map]
      have e4 : (ts.take i).length ≤ i := by rw [List.length_take]; omega
      rw [hacc] at e1
      omega
    have iv3 := hT _ _ (s'.toks + 1) iv2
    refine wpAny_updateSeq (hI _ _ iv3).1 rfl (wpAny_pure ⟨F.quiet_list_repr_loop _, ?_⟩) asz
    rw [show ((i : Int) + 1) = ((i + 1 : Nat) : Int) by omega, show base + piled (ts.take i) + (t'.length + 2) = base + piled (ts.take (i + 1)) by omega]
    exact ih (i + 1) _ (acc.push (.str t' s'.toks)) _ (done ++ [(t', s'.toks)]) (by omega) (by omega) (hU _ _ (fun x => x.push (.str t' s'.toks)) iv3) (by simp [hacc, strValues]) (by simp [List.take_add_one, ht, hdone])
end
section
variable {X : Cx} {nn : Nat}
theorem Und.sub {A A' : Around} {a : Addr} {g : List Code} (u : Und A A' a g) (hn : nn < GK) (s : SubG X (nn + 1) A) : SubG X nn A' := by
  obtain ⟨⟨⟨h1, h2, h3⟩, _, _⟩, h4⟩ := s
  refine ⟨⟨⟨u.hd.trans h1, by have := u.dp; omega, by rw [u.un]; omega⟩, ?_, fun z => absurd z (by omega)⟩, u.fr.trans h4⟩
  obtain ⟨id, rest, e⟩ := u.gd
  exact ⟨_, e⟩
/-- a value's text, where the guards leave it free -/
def Tells (X : Cx) (nn : Nat) (H : Hp) (G : List Code → Prop) (x : V) (t : Str) : Prop :=
  ∀ (A : Around) (g : List Code) (base : Nat) (pins : List (Addr × Obj)) (s : Shared) (σ : L2.St) (H1 : Hp) (u : Value), A.guards = some g → G g → SubG X nn A → L2.Inv X pins σ H1 s → L2.Ext H H1 → RelV x u → base + t.length ≤ sizeLine →
    wpAny (model X.prog X.w) A (pyReprUnder base u) (fun t' s' => t' = t ∧ ∃ H2, L2.Inv X pins σ H2 s' ∧ L2.Ext H1 H2) X.xe s
theorem seq_kept {o : Obj} {acc : Array Value} {c : Nat} (h : o.data = .seq acc c) : o.isFreed = false := by
  obtain ⟨oc, od, ot, osl⟩ := o
  simp only at h
  subst h
  rfl
/-- while a list is written out: its pieces stand at P -/
def Pcs (X : Cx) (pins : List (Addr × Obj)) (σ : L2.St) (H : Hp) (P : Addr) (o : Obj) (s : Shared) : Prop :=
  ∃ H1, L2.Inv X pins σ H1 s ∧ L2.Ext H H1 ∧ FpOk X pins H1 P ∧ s.heap.get? P = some o ∧ ∃ acc c, o.data = .seq acc c
variable {pins : List (Addr × Obj)} {σ : L2.St} {H : Hp} {P : Addr} {o : Obj} {s : Shared}
theorem Pcs.upd (f : Array Value → Array Value) (h : Pcs X pins σ H P o s) : Pcs X pins σ H P (o.mapSeq f) { s with heap := s.heap.update P (Obj.mapSeq f) } := by
  obtain ⟨H1, I, e, fp, g, acc, c, hd⟩ := h
  obtain ⟨f0, f1, f2, f3, f4, f5⟩ := id fp
  have hm : ∃ c', (o.mapSeq f).data = .seq (f acc) c' := by
    obtain ⟨oc, od, ot, osl⟩ := o
    simp only at hd
    subst hd
    exact ⟨_, rfl⟩
  obtain ⟨c', hm⟩ := hm
  exact ⟨H1, I.turned (t' := s.toks) (fun b ob hb q => (Heap.get?_update_other _ _ (fun z : P = b => hb z.symm)).trans q) f0 f1 f3 f4 f5, e, fp, Heap.get?_update_self _ g (seq_kept hm), f acc, c', hm⟩
theorem Pcs.tok (tk : Nat) (h : Pcs X pins σ H P o s) : Pcs X pins σ H P o { s with toks := tk } := by
  obtain ⟨H1, I, r⟩ := h
  exact ⟨H1, I.tok tk, r⟩
theorem Pcs.start (I : L2.Inv X pins σ H s) (hd : ∃ acc c, o.data = .seq acc c) : Pcs X pins σ H s.heap.objs.size o { s with heap := s.heap.push o } :=
  ⟨H, I.kept (t' := s.toks) fun b u q => Heap.get?_push_of_some _ q, L2.Ext.rfl', I.fpOk (Nat.le_refl _) I.fresh, Heap.get?_push_size _ (by obtain ⟨_, _, z⟩ := hd; exact seq_kept z), hd⟩
/-- an item told, the pieces pinned -/
theorem Pcs.item {G : List Code → Prop} {x : V} {t : Str} (hx : Tells X nn H G x t) {H0 : Hp} (h : Pcs X pins σ H0 P o s) (e0 : L2.Ext H H0) {A : Around} {g : List Code} {base : Nat} {u : Value} (hg : A.guards = some g) (hG : G g) (sb : SubG X nn A) (r : RelV x u) (hz : base + t.length ≤ sizeLine) :
    wpAny (model X.prog X.w) A (pyReprUnder base u) (fun t' s' => t' = t ∧ Pcs X pins σ H0 P o s') X.xe s := by
  obtain ⟨H1, I, e, fp, gt, acc, c, hd⟩ := h
  have J : L2.Inv X ((P, o) :: pins) σ H1 s := I.pins_of fun p hp => by
    rcases List.mem_cons.mp hp with rfl | hp
    · exact ⟨gt, fp.1, fp.2.1, fp.2.2.1, fun v z => by rw [hd] at z; cases z⟩
    · exact I.pin p (List.mem_append_right _ hp)
  refine wpAny_mono (hx A g base _ s σ H1 u hg hG sb J (e0.trans e) r hz) (fun t' s' hq => ?_) fun _ _ z => z
  obtain ⟨rfl, H2, J2, e2⟩ := hq
  have pp := J2.pin (P, o) (List.mem_append_right _ List.mem_cons_self)
  exact ⟨rfl, H2, J2.pins_of fun p hp => J2.pin p (List.mem_append_right _ (List.mem_cons_of_mem _ hp)), e.trans e2, ⟨pp.2.1, fp.2⟩, pp.1, acc, c, hd⟩
theorem clear_same {g : List Code} {a : Addr} (h : Clear g a) : ∀ v rest kw, Code.builtin "list.__repr__.loop" ⟨v :: rest, kw⟩ ∈ g → Builtin.List.listSameRef v (.ref a) = false := fun v rest kw hm => listSameRef_of_ne (h _ _ _ _ hm)
/-- a list -/
theorem list_at {H0 : Hp} {G Gi : List Code → Prop} {a : Addr} {vs : List V} {ts : List Str} (hn : nn < GK) (hq : SqL X.K H0 a vs) (hlen : ts.length = vs.length) (hi : ∀ (i : Nat) (x : V), vs[i]? = some x → ∃ t, ts[i]? = some t ∧ Tells X nn H0 Gi x t)
    (hG : ∀ g id rest, G g → Gi (.builtin id ⟨.ref a :: rest, []⟩ :: g)) (hcl : ∀ g, G g → Clear g a) (hne : vs ≠ []) {A : Around} {g : List Code} {base : Nat} {R : Result → Shared → Prop} (hg : A.guards = some g) (gg : G g) (sb : SubG X (nn + 1) A) (I : L2.Inv X pins σ H s) (e0 : L2.Ext H0 H) (hz : base + (listText ts).length ≤ sizeLine)
    (herr : ∀ e s', X.xe e s' → R (.error e) s') (fin : ∀ s' H2 u, L2.Inv X pins σ H2 s' → L2.Ext H H2 → R (.ok (.ret (.str (listText ts) u))) s') :
    wpAny (model X.prog X.w) A.in1 (Builtin.listReprAt base ⟨[.ref a], []⟩) (fun fin s' => match fin with | .done f => R (.ok f) s' | .again c' => c'.quiet = true ∧ codeAny (model X.prog X.w) A c' R s') (fun e s' => R (.error e) s') s := by
  have hq1 := hq.ext e0
  obtain ⟨its, rv, ⟨oa, na, ga, ca, da, hd⟩, hsz⟩ := I.list hq1
  cases its with
  | nil => cases rv; exact absurd rfl hne
  | cons y l =>
    refine wpAny_list_repr_head (A := A.in1) hg (clear_same (hcl g gg)) ga hd ?_
    refine wpAny_bind (m := newList []) (wpAny_newObj_type ?_)
    refine wpAny_pure ⟨F.quiet_list_repr_loop _, ?_⟩
    refine listR_loop (N := vs.length) (Iv := Pcs X pins σ H s.heap.objs.size) hg hlen (fun o2 s2 hp => ?_) (fun o2 s2 f hp => hp.upd f) (fun o2 s2 tk hp => hp.tok tk) hz (fun o2 s2 u hp => ?_) _ 0 _ #[] _ [] rfl (Nat.zero_le _) (Pcs.start I ⟨_, _, rfl⟩) rfl (by simp)
    · obtain ⟨H2, I2, e2, fp2, g2, _⟩ := id hp
      obtain ⟨its2, rv2, ⟨ob, nb, gb, cb, db, hb⟩, _⟩ := I2.list (hq1.ext e2)
      refine ⟨g2, its2.toArray, ob, nb, gb, hb, by simpa using rv2.length.symm, fun i u hu => ?_⟩
      have hil : i < vs.length := by
        have := (Array.getElem?_eq_some_iff.mp hu).1
        have := rv2.length
        simp at *
        omega
      obtain ⟨t, ht, tl⟩ := hi i vs[i] (List.getElem?_eq_getElem hil)
      refine ⟨t, ht, fun b' A' hb' un => ?_⟩
      obtain ⟨id, rest, eg⟩ := un.gd
      refine wpAny_mono (Pcs.item tl hp e0 eg (hG g id rest gg) (un.sub hn sb) (vals_each rv2 i _ _ (List.getElem?_eq_getElem hil) (by simpa using hu)) hb') (fun _ _ z => z) fun e s' z => herr e s' z
    · obtain ⟨H2, I2, e2, _⟩ := hp
      exact fin s2 H2 u I2 e2
end
end Dl
namespace Dl
open PySem L2 PyProof.Rows PySem.Builtin PySem.Builtin.List
theorem weight_tup (args : Args) : (Code.builtin "tuple.__repr__" args).weight = 1 := by kernel_rfl
theorem envs_tup (args : Args) : (Code.builtin "tuple.__repr__" args).envs = [] := by kernel_rfl
theorem weight_tupU (args : Args) : (Code.builtin "tuple.__repr__.under" args).weight = 1 := by kernel_rfl
theorem envs_tupU (args : Args) : (Code.builtin "tuple.__repr__.under" args).envs = [] := by kernel_rfl
theorem und_tup {A : Around} {a : Addr} {g : List Code} (hg : A.guards = some g) (rest : List Value) : Und A (A.under (.builtin "tuple.__repr__" ⟨.ref a :: rest, []⟩)) a g :=
  ⟨⟨_, rest, guards_under_guard (isGuard_tuple_repr _) hg⟩, units_under_tuple_repr _ _, by show A.depth + Code.weight _ ≤ _; rw [weight_tup]; exact Nat.le_refl _, rfl, by show pushEnvs (Code.envs (.builtin "tuple.__repr__" ⟨.ref a :: rest, []⟩)) A.frames = A.frames; rw [envs_tup]; rfl⟩
theorem und_tupU {A : Around} {a : Addr} {g : List Code} (hg : A.guards = some g) (rest : List Value) : Und A (A.under (.builtin "tuple.__repr__.under" ⟨.ref a :: rest, []⟩)) a g :=
  ⟨⟨_, rest, guards_under_guard (isGuard_tuple_repr_under _) hg⟩, units_under_tuple_repr_under _ _, by show A.depth + Code.weight _ ≤ _; rw [weight_tupU]; exact Nat.le_refl _, rfl, by show pushEnvs (Code.envs (.builtin "tuple.__repr__.under" ⟨.ref a :: rest, []⟩)) A.frames = A.frames; rw [envs_tupU]; rfl⟩
section
variable {X : Cx} {nn : Nat} {pins : List (Addr × Obj)} {σ : L2.St} {H H0 : Hp} {s : Shared}
theorem Tells.weaken {G G' : List Code → Prop} {x : V} {t : Str} (h : Tells X nn H G x t) (hG : ∀ g, G' g → G g) : Tells X nn H G' x t := fun A g base pins s σ H1 u hg gg => h A g base pins s σ H1 u hg (hG g gg)
theorem Tells.up {n m : Nat} {G : List Code → Prop} {x : V} {t : Str} (h : Tells X n H G x t) (hm : n ≤ m) : Tells X m H G x t := fun A g base pins s σ H1 u hg gg sb => h A g base pins s σ H1 u hg gg (sb.mono hm)
theorem tup_run {Gi : List Code → Prop} {A : Around} {g : List Code} (hg : A.guards = some g) (gg : Gi g) (sb : SubG X nn A) {Q : (Array Str × Nat) → Shared → Prop} :
    ∀ (xs : List V) (l : List Value) (ts : List Str) (acc : Array Str) (n : Nat) (s : Shared) (H : Hp), Vals xs l → ts.length = xs.length → (∀ (i : Nat) (x : V), xs[i]? = some x → ∃ t, ts[i]? = some t ∧ Tells X nn H0 Gi x t) → n + piled ts ≤ sizeLine → L2.Inv X pins σ H s → L2.Ext H0 H →
      (∀ s' H2, L2.Inv X pins σ H2 s' → L2.Ext H H2 → Q ⟨acc ++ ts.toArray, n + piled ts⟩ s') → wpAny (model X.prog X.w) A (forIn l (⟨acc, n⟩ : (Array Str × Nat)) tupBody) Q X.xe s
  | [], _, ts, acc, n, s, H, .nil, hl, _, _, I, _, h => by
    obtain rfl : ts = [] := List.eq_nil_of_length_eq_zero hl
    rw [List.forIn_nil]
    exact wpAny_pure (by simpa [piled] using h s H I L2.Ext.rfl')
  | x :: xs, _, t :: ts, acc, n, s, H, .cons r rs, hl, hi, hz, I, e0, h => by
    obtain ⟨t', et, hx⟩ := hi 0 x rfl
    cases et
    rw [piled_cons] at hz
    rw [List.forIn_cons]
    refine wpAny_bind (wpAny_bind (wpAny_mono (hx A g (n + 1) pins s σ H _ hg gg sb I e0 r (by omega)) (fun t' s' hq => ?_) fun _ _ z => z))
    obtain ⟨rfl, H2, I2, e2⟩ := hq
    refine wpAny_pure ?_
    refine tup_run hg gg sb xs _ ts _ _ s' H2 rs (by simpa using hl) (fun i y hy => hi (i + 1) y hy) (by omega) I2 (e0.trans e2) fun s3 H3 I3 e3 => ?_
    have q := h s3 H3 I3 (e2.trans e3)
    rw [piled_cons] at q
    rw [show n + (t'.length + 2) + piled ts = n + (t'.length + 2 + piled ts) by omega]
    simpa using q
  | x :: xs, _, [], _, _, _, _, .cons _ _, hl, _, _, _, _, _ => by cases hl
theorem tuple_at {G Gi : List Code → Prop} {a : Addr} {vs : List V} {ts : List Str} (hn : nn < GK) (hq : SqT X.K H0 a vs) (hlen : ts.length = vs.length) (hi : ∀ (i : Nat) (x : V), vs[i]? = some x → ∃ t, ts[i]? = some t ∧ Tells X nn H0 Gi x t)
    (hG : ∀ g id rest, G g → Gi (.builtin id ⟨.ref a :: rest, []⟩ :: g)) (hcl : ∀ g, G g → Clear g a) {A : Around} {g : List Code} {base : Nat} {id : String} {rest : List Value} {R : Result → Shared → Prop} (hg : A.guards = some g) (un : Und A (A.under (.builtin id ⟨.ref a :: rest, []⟩)) a g) (gg : G g) (sb : SubG X (nn + 1) A) (I : L2.Inv X pins σ H s) (e0 : L2.Ext H0 H) (hz : base + (tupleText ts).length ≤ sizeLine)
    (herr : ∀ e s', X.xe e s' → R (.error e) s') (fin : ∀ s' H2 u, L2.Inv X pins σ H2 s' → L2.Ext H H2 → R (.ok (.ret (.str (tupleText ts) u))) s') :
    wpOwn (model X.prog X.w) A (.builtin id ⟨.ref a :: rest, []⟩) (Builtin.tupleReprAt base ⟨[.ref a], []⟩) (fun fin s' => match fin with | .done f => R (.ok f) s' | .again c' => c'.quiet = true ∧ codeAny (model X.prog X.w) A c' R s') (fun e s' => R (.error e) s') s := by
  have hp := piled_le_tupleText ts
  have hq1 := hq.ext e0
  obtain ⟨its, rv, ⟨o, ho, hc, n, hd⟩, _⟩ := I.tuple hq1
  rw [tuple_repr_tree, tupleReprUnderWay_eq]
  refine wpOwn_bind (wpOwn_stackTailAny hg (tupGuardF_off _) (tupGuardF_pos _) ?_)
  rw [show (g.any fun c => tupGuardF (.ref a) (c, default)) = false from List.any_eq_false.mpr fun c hcm => by rw [tupGuardF_of_clear (hcl g gg) c hcm]; exact Bool.false_ne_true]
  refine wpOwn_of_wpAny ?_
  show wpAny _ _ (tupleReprRest base (.ref a)) _ _ s
  unfold tupleReprRest Builtin.Tuple.tupleItemsOf
  refine wpAny_bind (wpAny_bind (wpAny_seqItems ho hd (wpAny_pure ?_)))
  rw [← Array.forIn_toList]
  obtain ⟨id', rest', eg⟩ := un.gd
  have rl := rv.length
  refine wpAny_bind (wpAny_mono (tup_run (Q := fun r s' => r = (⟨#[] ++ ts.toArray, base + piled ts⟩ : Array Str × Nat) ∧ ∃ H2, L2.Inv X pins σ H2 s' ∧ L2.Ext H H2) eg (hG g id' rest' gg) (un.sub hn sb) vs _ ts #[] base s H rv hlen hi (by omega) I e0 fun s' H2 I2 e2 => ⟨rfl, H2, I2, e2⟩) (fun r s' hr => ?_) fun e s' z => herr e s' z)
  obtain ⟨rfl, H2, I2, e2⟩ := hr
  have hts : ts.length = its.length := by omega
  refine wpAny_bind (wpAny_mkStr (wpAny_pure ?_) (by have : (tupleText ts).length ≤ sizeLine := by omega
                                                     simpa [tupleText, hts] using this))
  have := fin { s' with toks := s'.toks + 1 } H2 s'.toks (I2.tok _) e2
  simpa [tupleText, hts] using this
theorem by_fn {M : Model} {A : Around} {E : Value → Shared → Prop} {K : PySem.W.Frag} {x C f : Addr} {ox : Obj} {od : Option Obj} {name : Str} {last : Value → List Value → Sem Value} {Q : Option Value → Shared → Prop} (hX : K.In s.heap) (I : PySem.W.InstAt s.heap x ox C od) (hs : PySem.W.findIn K (.ref C) name = some (some (.ref f))) (hf : PySem.W.isFn K (.ref f) = true)
    (h : wpAny M A (last (.ref f) [.ref x]) (fun v => Q (some v)) E s) : wpAny M A (callSpecialIfBoundBy? last (.ref x) name) Q E s := by
  simp only [callSpecialIfBoundBy?, bindSpecialIfBound?]
  refine wpAny_holding (wpAny_bind (wpAny_bind (wpAny_bind (I.type.here ((PySem.W.looks_findIn hX hs).here ?_)))))
  refine wpAny_bind (wpAny_askSetting (wpAny_ite ?_))
  have fin : wpAny M A (last (.ref f) [.ref x] >>= fun v => pure (some v)) Q E s := wpAny_bind (wpAny_mono h (fun v s' h' => wpAny_pure h') fun _ _ h' => h')
  split
  · exact wpAny_bind ((PySem.W.bind_fn hX _ (beq_iff_eq.mp hf)).here (wpAny_pure (by exact fin)))
  · exact wpAny_tryCatch (wpAny_bind ((PySem.W.bind_fn hX _ (beq_iff_eq.mp hf)).here (wpAny_pure (by exact fin))))
theorem obj_own {prog : Program} {w : World} {A : Around} {E : Value → Shared → Prop} {K : PySem.W.Frag} {x C f : Addr} {ox : Obj} {od : Option Obj} {base : Nat} {Q : Value → Shared → Prop} (hu : A.units < cLine) (hX : K.In s.heap) (I : PySem.W.InstAt s.heap x ox C od) (hs : PySem.W.findIn K (.ref C) "__repr__" = some (some (.ref f))) (hf : PySem.W.isFn K (.ref f) = true)
    (h : wpAny (model prog w) A (call (.ref f) [.ref x]) (PySem.W.StrBack Q) E s) : wpAny (model prog w) A (pyReprObjUnder base (.ref x)) Q E s := by
  unfold pyReprObjUnder pyReprObjBy
  refine wpAny_bind (wpAny_cRoomFor hu ?_)
  refine wpAny_bind (wpAny_bind (I.type.here ((PySem.W.looks_findIn hX hs).here ?_)))
  show wpAny _ _ (if (some (Value.ref f)).isNone = true then _ else _) _ _ _
  rw [if_neg (by simp)]
  refine wpAny_bind (m := callSpecialIfBoundBy? _ (.ref x) (Str.ofString "__repr__")) (by_fn hX I hs hf (wpAny_mono h (fun r s' hr => ?_) fun _ _ y => y))
  cases r <;> first | exact hr.elim | skip
  exact wpAny_bind (wpAny_isInstance (T := "str") (b := true) rfl isSubtype_str_str (wpAny_pure hr))
theorem tells_own {cs : List EqE} {c : EqE} {a dx : Addr} {fs : List (Str × V)} {t : Str} {G : List Code → Prop} (hcs : StsOk X "__repr__" cs) (hc : c ∈ cs) (hk : c.k ≤ nn) (hx : H0 a = some (.ins c.C dx fs))
    (h : ∀ H1, L2.Ext H0 H1 → spOf X.K c.dsp [.ref a] H1 (fun v H2 => v = .str t ∧ L2.Ext H1 H2) fun _ _ _ => False) : Tells X nn H0 G (.ref a) t := by
  intro A g base pins s σ H1 u hg gg sb I e r hz
  obtain rfl : u = Value.ref a := r
  refine wpAny_pyReprUnder_ref (by omega) ?_
  obtain ⟨m, S, Z, ds, q, w, rr, hd, out⟩ := h H1 e
  obtain ⟨ox, od, f, J, hs, hf, run⟩ := st_run (Q := fun v H2 => v = .str t ∧ L2.Ext H1 H2) hcs hc hk sb I (e a _ hx) ⟨m, S, Z, ds, q, w, rr, hd, fun v1 H2 m1 d1 S1 e1 w1 r1 hq => by
    have z := out v1 H2 m1 d1 S1 e1 w1 r1 hq
    exact ⟨t, z.1, rfl, z.2⟩⟩
  refine obj_own sb.room.units0 I.kIn J hs hf (wpAny_mono (run s I) (fun v s' hv => ?_) fun _ _ z => z)
  cases v <;> first | exact hv.elim | skip
  obtain ⟨x, H2, I2, rx, ex, e2⟩ := hv
  subst ex
  obtain ⟨t', et⟩ := rx
  cases et
  exact ⟨_, _, rfl, rfl, H2, I2, e2⟩
end
end Dl
namespace Dl
open PySem L2 PyProof.Rows PySem.Builtin PySem.Builtin.List
section
variable {K : PySem.W.Frag} {H : Hp}
inductive Reach (K : PySem.W.Frag) (H : Hp) : V → V → Prop
  | here (x : V) : Reach K H x x
  | lst {a : Addr} {vs : List V} {v y : V} : SqL K H a vs → v ∈ vs → Reach K H v y → Reach K H (.ref a) y
  | tup {a : Addr} {vs : List V} {v y : V} : SqT K H a vs → v ∈ vs → Reach K H v y → Reach K H (.ref a) y
def Sq (K : PySem.W.Frag) (H : Hp) (a : Addr) (vs : List V) : Prop := SqL K H a vs ∨ SqT K H a vs
theorem Reach.sq {a : Addr} {vs : List V} {v y : V} (h : Sq K H a vs) (hv : v ∈ vs) (r : Reach K H v y) : Reach K H (.ref a) y := h.elim (fun z => .lst z hv r) fun z => .tup z hv r
def Tall (K : PySem.W.Frag) (H : Hp) : Nat → V → Prop
  | 0, x => ∀ a vs, x = .ref a → ¬ Sq K H a vs
  | n + 1, x => ∀ a vs, x = .ref a → Sq K H a vs → ∀ v ∈ vs, Tall K H n v
theorem Tall.succ : ∀ {n : Nat} {x : V}, Tall K H n x → Tall K H (n + 1) x
  | 0, _, h => fun a vs e z => absurd z (h a vs e)
  | _ + 1, _, h => fun a vs e z v hv => Tall.succ (h a vs e z v hv)
theorem Tall.item {n : Nat} {a : Addr} {vs : List V} {v : V} (h : Tall K H n (.ref a)) (hs : Sq K H a vs) (hv : v ∈ vs) : Tall K H n v := by
  cases n with
  | zero => exact absurd hs (h a vs rfl)
  | succ n => exact Tall.succ (h a vs rfl hs v hv)
theorem Tall.reach {n : Nat} {x y : V} (h : Tall K H n x) (r : Reach K H x y) : Tall K H n y := by
  induction r with
  | here => exact h
  | lst h1 h2 _ ih => exact ih (h.item (.inl h1) h2)
  | tup h1 h2 _ ih => exact ih (h.item (.inr h1) h2)
theorem no_loop : ∀ {n : Nat} {a : Addr} {vs : List V} {v : V}, Tall K H n (.ref a) → Sq K H a vs → v ∈ vs → Reach K H v (.ref a) → False
  | 0, a, vs, _, h, hs, _, _ => h a vs rfl hs
  | n + 1, a, vs, v, h, hs, hv, r => no_loop (n := n) (Tall.reach (h a vs rfl hs v hv) r) hs hv r
theorem tall_flat {x : V} (h : ∀ a vs, x = .ref a → ¬ Sq K H a vs) : ∀ n, Tall K H n x
  | 0 => h
  | n + 1 => fun a vs e z => absurd z (h a vs e)
end
/-- values that stand for themselves -/
inductive Atm : V → PyData → Prop
  | non : Atm .non .none
  | bl (b : Bool) : Atm (.bl b) (.bool b)
  | int (i : Int) : Atm (.int i) (.int i)
  | str (x : Str) : Atm (.str x) (.str x)
/-- what is shown, at most n deep -/
inductive Shv (X : Cx) (cs : List EqE) (nn : Nat) (H : Hp) : Nat → V → Str → Prop
  | atm {n : Nat} {x : V} {p : PyData} : Atm x p → p.showable = true → Shv X cs nn H n x p.shown
  | own {n : Nat} {c : EqE} {a dx : Addr} {fs : List (Str × V)} {t : Str} : c ∈ cs → c.k ≤ nn → H a = some (.ins c.C dx fs) → (∀ H1, L2.Ext H H1 → spOf X.K c.dsp [.ref a] H1 (fun v H2 => v = .str t ∧ L2.Ext H1 H2) fun _ _ _ => False) → Shv X cs nn H n (.ref a) t
  | dic {n : Nat} {a : Addr} {ks : List Key} {L : List Int} : H a = some (.dK (ks.zip (L.map V.int))) → ks.length = L.length → (dicPy ks L).showable = true → Shv X cs nn H (n + 1) (.ref a) (dicPy ks L).shown
  | lst {n : Nat} {a : Addr} {vs : List V} {ts : List Str} : SqL X.K H a vs → ts.length = vs.length → (∀ (i : Nat) (h : i < vs.length) (h' : i < ts.length), Shv X cs nn H n vs[i] ts[i]) → Shv X cs nn H (n + 1) (.ref a) (listText ts)
  | tup {n : Nat} {a : Addr} {vs : List V} {ts : List Str} : SqT X.K H a vs → ts.length = vs.length → (∀ (i : Nat) (h : i < vs.length) (h' : i < ts.length), Shv X cs nn H n vs[i] ts[i]) → Shv X cs nn H (n + 1) (.ref a) (tupleText ts)
section
variable {X : Cx} {cs : List EqE} {nn : Nat} {pins : List (Addr × Obj)} {σ : L2.St} {H : Hp} {s : Shared}
theorem sq_type (I : L2.Inv X pins σ H s) {a : Addr} {vs : List V} (h : Sq X.K H a vs) : ∃ o, s.heap.get? a = some o ∧ (o.cls = .type "list" ∨ o.cls = .type "tuple") := by
  rcases h with h | h
  · obtain ⟨its, r, ⟨o, n, e, hc, _⟩, _⟩ := I.list h
    exact ⟨o, e, .inl hc⟩
  · obtain ⟨its, r, ⟨o, e, hc, _⟩, _⟩ := I.tuple h
    exact ⟨o, e, .inr hc⟩
theorem sqLT (I : L2.Inv X pins σ H s) {a : Addr} {vs us : List V} (h : SqL X.K H a vs) (h' : SqT X.K H a us) : False := by
  obtain ⟨its, r, ⟨o, n, e, hc, _⟩, _⟩ := I.list h
  obtain ⟨its', r', ⟨o', e', hc', _⟩, _⟩ := I.tuple h'
  rw [e] at e'
  cases e'
  rw [hc] at hc'
  exact absurd (Value.type.inj hc') (by decide)
theorem Shv.tall (I : L2.Inv X pins σ H s) {n : Nat} {x : V} {t : Str} (h : Shv X cs nn H n x t) : Tall X.K H n x := by
  induction h with
  | atm h _ => exact tall_flat (fun a vs e => by subst e; cases h) _
  | own _ _ hx _ =>
    refine tall_flat (fun a vs e z => ?_) _
    cases e
    obtain ⟨o, ho, hc⟩ := sq_type I z
    obtain ⟨mA, J, _⟩ := ins_get I.hok hx
    obtain ⟨od, J, _⟩ := J.look
    have := J.at_
    rw [ho] at this
    cases this
    have hcl := J.cls
    rcases hc with hc | hc <;> (rw [hc] at hcl; cases hcl)
  | dic hx hl _ =>
    refine tall_flat (fun a vs e z => ?_) _
    cases e
    obtain ⟨o, ho, hc⟩ := sq_type I z
    obtain ⟨_, o', es, n', ho', hc', _⟩ := dk_entries I hx (by rw [List.length_map]; exact hl)
    rw [ho] at ho'
    cases ho'
    rcases hc with hc | hc <;> (rw [hc] at hc'; exact absurd (Value.type.inj hc') (by decide))
  | lst hs _ _ ih =>
    rename_i ts hl _
    intro a vs' e z v hv
    cases e
    rcases z with z | z
    · cases I.list_inj z hs
      obtain ⟨i, hi, rfl⟩ := List.mem_iff_getElem.mp hv
      exact ih i hi (by omega)
    · exact (sqLT I hs z).elim
  | tup hs _ _ ih =>
    rename_i ts hl _
    intro a vs' e z v hv
    cases e
    rcases z with z | z
    · exact (sqLT I z hs).elim
    · cases I.tuple_inj z hs
      obtain ⟨i, hi, rfl⟩ := List.mem_iff_getElem.mp hv
      exact ih i hi (by omega)
/-- nothing that stands in x is being written out -/
def Free (K : PySem.W.Frag) (H : Hp) (x : V) (g : List Code) : Prop := ∀ b, Reach K H x (.ref b) → Clear g b
theorem free_item {n : Nat} {a : Addr} {vs : List V} (ht : Tall X.K H n (.ref a)) (hs : Sq X.K H a vs) (g : List Code) (id : String) (rest : List Value) (h : Free X.K H (.ref a) g) : ∀ v ∈ vs, Free X.K H v (.builtin id ⟨.ref a :: rest, []⟩ :: g) := fun v hv b r =>
  (h b (Reach.sq hs hv r)).cons fun e => by subst e; exact no_loop ht hs hv r
theorem atm_is {prog : Program} {w : World} {x : V} {p : PyData} {u : Value} (h : Atm x p) (hs : p.showable = true) (r : RelV x u) (hz : p.shown.length ≤ sizeLine) : ReprIs prog w u p.shown := by
  cases h with
  | non => obtain rfl : u = Value.none := r; rw [PyData.shown]; exact ReprIs.none
  | bl b => obtain rfl : u = Value.bool b := r; rw [PyData.shown]; exact ReprIs.bool b
  | int i => obtain ⟨t, rfl⟩ := r; rw [PyData.shown]; exact ReprIs.int t (by simpa [PyData.showable] using hs)
  | str z => obtain ⟨t, rfl⟩ := r; rw [PyData.shown] at hz ⊢; exact ReprIs.str z t hz
theorem keys_all {prog : Program} {w : World} {h : Heap} : ∀ {us : List Value} {ks : List Key}, ReadsAll h us (ks.map keyPy) [] → (∀ k ∈ ks, (keyPy k).showable = true ∧ (keyPy k).shown.length ≤ sizeLine) → ReprAllK prog w [] h 0 us (PyData.shownAll (ks.map keyPy))
  | _, [], .nil, _ => by rw [List.map_nil, PyData.shownAll]; exact .nil
  | _, k :: ks, r, hk => by
    rw [List.map_cons, PyData.shownAll]
    generalize hA : (k :: ks).map keyPy = ps at r
    generalize hB : ([] : List Addr) = as at r
    cases r with
    | nil => cases hA
    | cons r1 r2 =>
      cases hA
      obtain ⟨e1, e2⟩ := List.append_eq_nil_iff.mp hB.symm
      subst e1 e2
      obtain ⟨h1, h2⟩ := hk k List.mem_cons_self
      refine .cons (.of_is ?_ _ _ _) (keys_all r2 fun q hq => hk q (List.mem_cons_of_mem _ hq))
      revert r1 h1 h2
      generalize hp : keyPy k = p
      intro r1 h1 h2
      cases r1 <;> first
        | (rw [PyData.shown]; exact ReprIs.none)
        | (rw [PyData.shown]; exact ReprIs.bool _)
        | (rw [PyData.shown]; exact ReprIs.int _ (by simpa [PyData.showable] using h1))
        | (rw [PyData.shown] at h2 ⊢; exact ReprIs.str _ _ h2)
        | (cases k <;> cases hp)
theorem ints_all {prog : Program} {w : World} {h : Heap} : ∀ {us : List Value} {L : List Int}, Vals (L.map V.int) us → (∀ i ∈ L, i.natAbs.log2 < 1920) → ReprAllK prog w [] h 0 us (PyData.shownAll (L.map PyData.int))
  | _, [], .nil, _ => by rw [List.map_nil, PyData.shownAll]; exact .nil
  | _, i :: L, r, hk => by
    rw [List.map_cons] at r
    cases r with
    | cons r1 r2 =>
      obtain ⟨t, rfl⟩ := r1
      rw [List.map_cons, PyData.shownAll, PyData.shown]
      exact .cons (.of_is (ReprIs.int t (hk i List.mem_cons_self)) _ _ _) (ints_all r2 fun q hq => hk q (List.mem_cons_of_mem _ hq))
end
end Dl
namespace Dl
open PySem L2 PyProof.Rows PySem.Builtin PySem.Builtin.List
section
variable {X : Cx} {cs : List EqE} {nn : Nat} {pins : List (Addr × Obj)} {σ : L2.St} {H : Hp} {s : Shared}
/-- the end of a text written out -/
abbrev Tq (X : Cx) (pins : List (Addr × Obj)) (σ : L2.St) (H1 : Hp) (t : Str) (v : Value) (s' : Shared) : Prop := ∃ x u, v = .str x u ∧ (x = t ∧ ∃ H2, L2.Inv X pins σ H2 s' ∧ L2.Ext H1 H2)
theorem gets {vs : List V} {ts : List Str} {P : V → Str → Prop} (hl : ts.length = vs.length) (h : ∀ (i : Nat) (h : i < vs.length) (h' : i < ts.length), P vs[i] ts[i]) : ∀ (i : Nat) (x : V), vs[i]? = some x → x ∈ vs ∧ ∃ t, ts[i]? = some t ∧ P x t := fun i x hx => by
  obtain ⟨hi, rfl⟩ := List.getElem?_eq_some_iff.mp hx
  exact ⟨List.getElem_mem hi, _, List.getElem?_eq_getElem (by omega), h i hi (by omega)⟩
theorem tells_of (hcs : StsOk X "__repr__" cs) {s0 : Shared} {pins0 : List (Addr × Obj)} {σ0 : L2.St} (I0 : L2.Inv X pins0 σ0 H s0) {n : Nat} {x : V} {t : Str} (h : Shv X cs nn H n x t) : nn + n < GK → Tells X (nn + n) H (Free X.K H x) x t := by
  induction h with
  | atm h hs =>
    intro _ A g base pins s σ H1 u hg gg sb I e r hz
    exact atm_is h hs r (by omega) base hz _ _ _ _ fun tk => ⟨rfl, H1, I.tok tk, L2.Ext.rfl'⟩
  | own hc hk hx h =>
    intro _
    exact (tells_own hcs hc hk hx h).up (by omega)
  | dic hx hl hs =>
    rename_i n a ks L
    intro hn A g base pins s σ H1 u hg gg sb I e r hz
    obtain rfl : u = Value.ref a := r
    obtain ⟨hsys, o, es, m, ho, hc, hd, hkk, hv⟩ := dk_entries I (e a _ hx) (by rw [List.length_map]; exact hl)
    refine wpAny_pyReprUnder_ref (by omega) ?_
    unfold dicPy at hs hz
    rw [PyData.showable] at hs
    rw [PyData.shown] at hz
    obtain ⟨s1, s2⟩ := PyData.showableKv_split _ hs
    have e1 : ((ks.map keyPy).zip (L.map PyData.int)).map (·.1) = ks.map keyPy := zip_fst (by rw [List.length_map, List.length_map]; omega)
    have e2 : ((ks.map keyPy).zip (L.map PyData.int)).map (·.2) = L.map PyData.int := zip_snd (by rw [List.length_map, List.length_map]; omega)
    rw [e1] at s1
    rw [e2] at s2
    have z1 := PyData.shownKv_key_le ((ks.map keyPy).zip (L.map PyData.int))
    rw [e1] at z1
    have hall : ∀ (ps : List PyData), PyData.showableAll ps = true → ∀ p ∈ ps, p.showable = true := fun ps => by
      induction ps with
      | nil => exact fun _ _ z => nomatch z
      | cons q qs ih =>
        intro hq p hp
        rw [PyData.showableAll, Bool.and_eq_true] at hq
        rcases List.mem_cons.mp hp with rfl | hp
        · exact hq.1
        · exact ih hq.2 p hp
    have k1 := keys_all (prog := X.prog) (w := X.w) hkk fun k hk => ⟨hall _ s1 _ (List.mem_map_of_mem hk), by
      obtain ⟨p, hp, hle⟩ := z1 (keyPy k).shown (by rw [shownAll_map]; exact List.mem_map_of_mem (List.mem_map_of_mem hk))
      exact Nat.le_trans hle (Nat.le_trans (dictText_mem_le hp) (by omega))⟩
    have k2 := ints_all (prog := X.prog) (w := X.w) (h := s.heap) hv fun i hi => by
      have := hall _ s2 _ (List.mem_map_of_mem hi)
      simpa [PyData.showable] using this
    rw [show (dicPy ks L).shown = dictText (List.zipWith (fun k v : Str => k ++ ": " ++ v) (PyData.shownAll (ks.map keyPy)) (PyData.shownAll (L.map PyData.int))) by unfold dicPy; rw [PyData.shown, PyData.shownKv_eq, e1, e2]]
    rw [PyData.shownKv_eq, e1, e2] at hz
    refine wpAny_pyReprObjUnder_dictK (as := []) (h₀ := s.heap) (d := 0) ho hc hd hsys (by simp) (ReprEntriesK.of_two es.toList _ _ k1 k2) hg (fun b hb => ?_) (by have := sb.room.units; omega) (fun _ _ z => z) (fun h' u tk hk => ⟨_, _, rfl, rfl, H1, I.kept hk, L2.Ext.rfl'⟩) hz
    rw [List.mem_singleton.mp hb]
    exact gg a (.here _)
  | lst hs hl hi ih =>
    rename_i n a vs ts
    intro hn A g base pins s σ H1 u hg gg sb I e r hz
    obtain rfl : u = Value.ref a := r
    have tl := (Shv.lst (cs := cs) (nn := nn) hs hl hi).tall I0
    refine wpAny_pyReprUnder_ref (by omega) ?_
    obtain ⟨its, rv, ⟨oa, na, ga, ca, da, hd⟩, _⟩ := I.list (hs.ext e)
    by_cases hne : vs = []
    · subst hne
      obtain rfl : ts = [] := List.eq_nil_of_length_eq_zero hl
      cases rv
      exact wpAny_pyReprObjUnder_list_empty ⟨oa, ga, ca⟩ sb.room.units0 ga hd ⟨_, _, rfl, by rw [listText_nil], H1, I.tok _, L2.Ext.rfl'⟩
    · have hi' := gets (P := fun x t => Tells X (nn + n) H (Free X.K H x) x t) hl fun i h h' => ih i h h' (by omega)
      exact wpAny_pyReprObjUnder_twin (twin := "list.__repr__.under") ⟨oa, ga, ca⟩ F.slot_list_repr.toG rfl sb.room.units0
        (call_twin_plain F.plain_list_repr_under F.entry_list_repr_under F.check_list_repr_under ⟨oa, ga, ca⟩ F.slot_list_repr.toG (F.args_list_repr_1 _)
          (list_at (nn := nn + n) (H0 := H) (G := Free X.K H (.ref a)) (Gi := fun g => ∀ v ∈ vs, Free X.K H v g) (R := callEnd (fun v s' => (∃ x u, v = .str x u) ∧ Tq X pins σ H1 (listText ts) v s') X.xe) (by omega) hs hl
            (fun i x hx => by obtain ⟨hm, t, ht, tt⟩ := hi' i x hx; exact ⟨t, ht, tt.weaken fun g hg => hg x hm⟩) (fun g id rest hg => free_item tl (.inl hs) g id rest hg) (fun g hg => hg a (.here _)) hne hg gg sb I e hz (fun _ _ z => z)
            fun s' H2 u I2 e2 => ⟨⟨_, _, rfl⟩, _, _, rfl, rfl, H2, I2, e2⟩))
  | tup hs hl hi ih =>
    rename_i n a vs ts
    intro hn A g base pins s σ H1 u hg gg sb I e r hz
    obtain rfl : u = Value.ref a := r
    have tl := (Shv.tup (cs := cs) (nn := nn) hs hl hi).tall I0
    refine wpAny_pyReprUnder_ref (by omega) ?_
    obtain ⟨its, rv, ⟨oa, ga, ca, na, hd⟩, _⟩ := I.tuple (hs.ext e)
    have hi' := gets (P := fun x t => Tells X (nn + n) H (Free X.K H x) x t) hl fun i h h' => ih i h h' (by omega)
    exact wpAny_pyReprObjUnder_twin (twin := "tuple.__repr__.under") ⟨oa, ga, ca⟩ F.slot_tuple_repr rfl sb.room.units0
      (call_twin_own (F.quiet_tuple_repr_under _) F.entry_tuple_repr_under F.check_tuple_repr_under ⟨oa, ga, ca⟩ F.slot_tuple_repr (F.args_tuple_repr_1 _)
        (tuple_at (nn := nn + n) (H0 := H) (G := Free X.K H (.ref a)) (Gi := fun g => ∀ v ∈ vs, Free X.K H v g) (R := callEnd (fun v s' => (∃ x u, v = .str x u) ∧ Tq X pins σ H1 (tupleText ts) v s') X.xe) (by omega) hs hl
          (fun i x hx => by obtain ⟨hm, t, ht, tt⟩ := hi' i x hx; exact ⟨t, ht, tt.weaken fun g hg => hg x hm⟩) (fun g id rest hg => free_item tl (.inr hs) g id rest hg) (fun g hg => hg a (.here _)) hg (und_tupU hg _) gg sb I e hz (fun _ _ z => z)
          fun s' H2 u I2 e2 => ⟨⟨_, _, rfl⟩, _, _, rfl, rfl, H2, I2, e2⟩))
/-- repr of a list or a tuple -/
def rReprO (X : Cx) (cs : List EqE) (nn n : Nat) : List V → Hp → VK → Prop := fun us H Q => ∃ (a : Addr) (vs : List V) (ts : List Str) (t : Str), us = [.ref a] ∧ ts.length = vs.length ∧ (∀ (i : Nat) (h : i < vs.length) (h' : i < ts.length), Shv X cs nn H n vs[i] ts[i]) ∧
  ((SqL X.K H a vs ∧ t = listText ts) ∨ (SqT X.K H a vs ∧ t = tupleText ts)) ∧ t.length ≤ sizeLine ∧ ∀ H', L2.Ext H H' → Q (.str t) H'
theorem cr_reprO {k n : Nat} (hcs : StsOk X "__repr__" cs) (hr : RoomG k X.A) (hk : nn + n + 2 ≤ k) (hn : nn + n + 1 < GK) (hg : GK ≤ k := by decide) : CallR X (.builtin "repr") (rReprO X cs nn n) := by
  intro pins s σ H vs us Q I r ⟨a, vs', ts, t, e, hl, hi, ht, hz, h⟩
  subst e
  obtain ⟨u, rfl, ru⟩ := vals1 r
  obtain rfl : u = Value.ref a := ru
  have g0 := hr.g0 hg
  have rm : RoomG (nn + n + 2) X.A := hr.mono hk
  have sb : SubG X (nn + n + 1) X.A.in1 := ⟨rm.in1, rfl⟩
  have un := rm.units
  have hi' := gets (P := fun x t => Tells X (nn + n) H (Free X.K H x) x t) hl fun i h h' => tells_of hcs I (hi i h h') (by omega)
  rcases ht with ⟨hs, et⟩ | ⟨hs, et⟩
  · subst et
    have tl := (Shv.lst (cs := cs) (nn := nn) hs hl hi).tall I
    obtain ⟨its, rv, ⟨oa, na, ga, ca, da, hd⟩, _⟩ := I.list hs
    refine call_repr_slot (by omega) ⟨oa, ga, ca⟩ F.slot_list_repr.toG ?_
    by_cases hne : vs' = []
    · subst hne
      obtain rfl : ts = [] := List.eq_nil_of_length_eq_zero hl
      cases rv
      exact call_list_repr_empty ⟨oa, ga, ca⟩ ga hd ⟨_, _, rfl, .str _, H, I.tok _, ⟨_, rfl⟩, by rw [listText_nil] at h; exact h H L2.Ext.rfl'⟩
    · exact wpAny_call (codeAny_call_builtin F.slot_list_repr.plain F.entry_list_repr (F.slot_list_repr.check _ _ _ _ _ _ _ _ ⟨oa, ga, ca⟩ (F.args_list_repr_1 _)
        (list_at (base := 0) (nn := nn + n) (H0 := H) (G := Free X.K H (.ref a)) (Gi := fun g => ∀ v ∈ vs', Free X.K H v g) (R := callEnd (fun v s' => ∃ x t, v = .str x t ∧ EP X pins σ Q v s') X.xe) (by omega) hs hl
          (fun i x hx => by obtain ⟨hm, t, ht, tt⟩ := hi' i x hx; exact ⟨t, ht, tt.weaken fun g hg => hg x hm⟩) (fun g id rest hg => free_item tl (.inl hs) g id rest hg) (fun g hg => hg a (.here _)) hne g0 (fun b _ => Clear.nil b) sb I L2.Ext.rfl' (by omega) (fun _ _ z => z)
          fun s' H2 u I2 e2 => ⟨_, _, rfl, .str _, H2, I2, ⟨_, rfl⟩, h H2 e2⟩)))
  · subst et
    have tl := (Shv.tup (cs := cs) (nn := nn) hs hl hi).tall I
    obtain ⟨its, rv, ⟨oa, ga, ca, na, hd⟩, _⟩ := I.tuple hs
    refine call_repr_slot (by omega) ⟨oa, ga, ca⟩ F.slot_tuple_repr ?_
    exact wpAny_call (codeAny_call_builtin_own (Code.quiet_builtin _ (by decide +kernel)) F.entry_tuple_repr (F.slot_tuple_repr.check _ _ _ _ _ _ _ _ ⟨oa, ga, ca⟩ (F.args_tuple_repr_1 _)
      (tuple_at (base := 0) (nn := nn + n) (H0 := H) (G := Free X.K H (.ref a)) (Gi := fun g => ∀ v ∈ vs', Free X.K H v g) (R := callEnd (fun v s' => ∃ x t, v = .str x t ∧ EP X pins σ Q v s') X.xe) (by omega) hs hl
        (fun i x hx => by obtain ⟨hm, t, ht, tt⟩ := hi' i x hx; exact ⟨t, ht, tt.weaken fun g hg => hg x hm⟩) (fun g id rest hg => free_item tl (.inr hs) g id rest hg) (fun g hg => hg a (.here _)) g0 (und_tup (A := X.A.in1) g0 _) (fun b _ => Clear.nil b) sb I L2.Ext.rfl' (by omega) (fun _ _ z => z)
        fun s' H2 u I2 e2 => ⟨_, _, rfl, .str _, H2, I2, ⟨_, rfl⟩, h H2 e2⟩)))
/-- how an own instance or a value shows -/
inductive Sho (cs : List EqE) (nn : Nat) (S : Sto) : Nat → D → Str → Prop
  | non {n : Nat} : Sho cs nn S n .non "None"
  | bl {n : Nat} (b : Bool) : Sho cs nn S n (.bl b) (if b then "True" else "False")
  | int {n : Nat} (i : Int) : i.natAbs.log2 < 1920 → Sho cs nn S n (.int i) (toString i)
  | str {n : Nat} (x : Str) : (PyData.str x).showable = true → Sho cs nn S n (.str x) (reprText x)
  | own {n : Nat} {c : EqE} {ks : List Str} {ds : List D} {t : Str} : c ∈ cs → c.k ≤ nn → (∀ S', c.dsp [.obj c.C ks ds] S' fun e S'' => e = .str t ∧ S'' = S') → Sho cs nn S n (.obj c.C ks ds) t
  | dic {n : Nat} {ks : List Key} {L : List Int} : ks.length = L.length → (dicPy ks L).showable = true → Sho cs nn S (n + 1) (.dic ks (L.map .int)) (dicPy ks L).shown
  | lst {n : Nat} {ds : List D} {ts : List Str} : ts.length = ds.length → (∀ (i : Nat) (h : i < ds.length) (h' : i < ts.length), Sho cs nn S n ds[i] ts[i]) → Sho cs nn S (n + 1) (.lst ds) (listText ts)
  | ksq {n : Nat} {ds : List D} {ts : List Str} : ts.length = ds.length → (∀ (i : Nat) (h : i < ds.length) (h' : i < ts.length), Sho cs nn S n ds[i] ts[i]) → Sho cs nn S (n + 1) (.ksq ds) (listText ts)
  | tup {n : Nat} {ds : List D} {ts : List Str} : ts.length = ds.length → (∀ (i : Nat) (h : i < ds.length) (h' : i < ts.length), Sho cs nn S n ds[i] ts[i]) → Sho cs nn S (n + 1) (.tup ds) (tupleText ts)
  | loc {n m : Nat} {ds : List D} {ts : List Str} : S[m]? = some (some (.lst ds)) → ts.length = ds.length → (∀ (i : Nat) (h : i < ds.length) (h' : i < ts.length), Sho cs nn S n ds[i] ts[i]) → Sho cs nn S (n + 1) (.loc m) (listText ts)
theorem ints_of {K : PySem.W.Frag} {m : Nat → Addr} {N : Nat} {Hv : Hp} : ∀ {L : List Int} {vs : List V}, Reps K m N Hv (L.map .int) vs → vs = L.map V.int
  | [], _, r => r
  | i :: L, _, r => by
    obtain ⟨v, q, e, r1, r2⟩ := r
    rw [Rep] at r1
    rw [e, r1, ints_of r2]
    rfl
theorem shv_of {m : Nat → Addr} {S : Sto} {Z : Addr → Prop} (w : Wd X.K U m S Z H) {n : Nat} {d : D} {t : Str} (h : Sho cs nn S n d t) : ∀ {v : V}, Rep X.K m S.length (vis m S Z H) d v → Shv X cs nn H n v t := by
  have all : ∀ {n : Nat} {ds : List D} {vs : List V} {ts : List Str}, Reps X.K m S.length (vis m S Z H) ds vs → ts.length = ds.length → (∀ (i : Nat) (h : i < ds.length) (h' : i < ts.length), ∀ {v : V}, Rep X.K m S.length (vis m S Z H) ds[i] v → Shv X cs nn H n v ts[i]) → ts.length = vs.length ∧ ∀ (i : Nat) (h : i < vs.length) (h' : i < ts.length), Shv X cs nn H n vs[i] ts[i] := fun {n ds vs ts} q hl ih => by
    have hlen := Reps.len q
    refine ⟨by omega, fun i h h' => ?_⟩
    obtain ⟨x, hx, rx⟩ := Reps.get q (List.getElem?_eq_getElem (show i < ds.length by omega))
    rw [List.getElem?_eq_getElem h] at hx
    cases hx
    exact ih i _ h' rx
  induction h with
  | non => rename_i n; intro v r; rw [Rep] at r; subst r; have := Shv.atm (n := n) (X := X) (cs := cs) (nn := nn) (H := H) Atm.non (by rw [PyData.showable]); rw [PyData.shown] at this; exact this
  | bl b => rename_i n; intro v r; rw [Rep] at r; subst r; have := Shv.atm (n := n) (X := X) (cs := cs) (nn := nn) (H := H) (Atm.bl b) (by rw [PyData.showable]); rw [PyData.shown] at this; exact this
  | int i hi => rename_i n; intro v r; rw [Rep] at r; subst r; have := Shv.atm (n := n) (X := X) (cs := cs) (nn := nn) (H := H) (Atm.int i) (by rw [PyData.showable]; exact decide_eq_true hi); rw [PyData.shown] at this; exact this
  | str x hx => rename_i n; intro v r; rw [Rep] at r; subst r; have := Shv.atm (n := n) (X := X) (cs := cs) (nn := nn) (H := H) (Atm.str x) hx; rw [PyData.shown] at this; exact this
  | own hc hk hd =>
    intro v r
    rename_i n c ks ds t
    rw [Rep] at r
    obtain ⟨a, dx, vs, ex, hh, l, q⟩ := r
    subst ex
    refine .own hc hk (vis_sub hh) fun H1 e1 => ?_
    obtain ⟨w1, _⟩ := w.grow e1
    obtain ⟨wd, hv⟩ := w1.toWd0.dark
    have hlen : (List.replicate S.length (none : Option MO)).length = S.length := by simp
    have p1 : Rep X.K m (List.replicate S.length (none : Option MO)).length (vis m (List.replicate S.length none) (fun a => Z a ∨ ∃ n, Live S n ∧ m n = a) H1) (.obj c.C ks ds) (.ref a) := by
      have r0 : Rep X.K m S.length (vis m S Z H) (.obj c.C ks ds) (.ref a) := by rw [Rep]; exact ⟨a, dx, vs, rfl, hh, l, q⟩
      rw [hv, hlen]
      exact Rep.mono (fun _ _ => rfl) (Nat.le_refl _) (vis_grow e1) r0
    refine ⟨m, List.replicate S.length none, _, [.obj c.C ks ds], _, wd.u0, Reps.one p1, hd _, fun v1 H2 m1 d1 S1 e2 w2 rr1 ⟨h1, h2⟩ => ?_⟩
    subst h1
    have rr1' := rr1
    rw [rD, Rep] at rr1'
    exact ⟨rr1', Ext.all h2 e2⟩
  | dic hl hs =>
    intro v r
    rw [Rep] at r
    obtain ⟨a, vs, ex, hh, l, q⟩ := r
    subst ex
    rw [ints_of q] at hh
    exact .dic (vis_sub hh) hl hs
  | lst hl _ ih =>
    intro v r
    rw [Rep] at r
    obtain ⟨a, vs, ex, hh, q⟩ := r
    subst ex
    obtain ⟨h1, h2⟩ := all q hl ih
    exact .lst (SqL.of (vis_sub hh)) h1 h2
  | ksq hl _ ih =>
    intro v r
    rw [Rep] at r
    obtain ⟨a, vs, ex, hh, q⟩ := r
    subst ex
    obtain ⟨h1, h2⟩ := all q hl ih
    exact .lst (SqL.sub (fun _ _ z => vis_sub z) hh) h1 h2
  | tup hl _ ih =>
    intro v r
    rw [Rep] at r
    obtain ⟨a, vs, ex, hh, q⟩ := r
    subst ex
    obtain ⟨h1, h2⟩ := all q hl ih
    exact .tup (SqT.sub (fun _ _ z => vis_sub z) hh) h1 h2
  | loc hm hl _ ih =>
    intro v r
    rw [Rep] at r
    obtain ⟨vs, hh, q⟩ := w.rep _ _ hm
    obtain ⟨h1, h2⟩ := all q hl ih
    rw [r.1]
    exact .lst (SqL.of hh) h1 h2
/-- repr of a list or a tuple -/
def aReprO (cs : List EqE) (nn n : Nat) : R1D := fun d S q => ∃ ds ts t, ts.length = ds.length ∧ (∀ (i : Nat) (h : i < ds.length) (h' : i < ts.length), Sho cs nn S n ds[i] ts[i]) ∧
  ((d.isTup = false ∧ seqOf S d = some ds ∧ t = listText ts) ∨ (d = .tup ds ∧ t = tupleText ts)) ∧ t.length ≤ sizeLine ∧ q (.str t) S
theorem vr_reprO {n : Nat} : VRN X.K (rReprO X cs nn n) (a1 (aReprO cs nn n)) := vrn1 fun {_ m S Z H d v q Q} w r ⟨ds, ts, t, hl, hi, ht, hz, h⟩ kk => by
  have fin : ∀ {vs : List V}, Reps X.K m S.length (vis m S Z H) ds vs → ts.length = vs.length ∧ ∀ (i : Nat) (h : i < vs.length) (h' : i < ts.length), Shv X cs nn H n vs[i] ts[i] := fun {vs} q => by
    have hlen := Reps.len q
    refine ⟨by omega, fun i h h' => ?_⟩
    obtain ⟨x, hx, rx⟩ := Reps.get q (List.getElem?_eq_getElem (show i < ds.length by omega))
    rw [List.getElem?_eq_getElem h] at hx
    cases hx
    exact shv_of w (hi i _ h') rx
  have post : ∀ H', L2.Ext H H' → Q (.str t) H' := fun H' e => by
    obtain ⟨w', e'⟩ := w.grow e
    exact kk.at e' w' rep_str h
  rcases ht with ⟨nt, hs, et⟩ | ⟨ed, et⟩
  · obtain ⟨a, vs, ev, q, htp, hlp⟩ := seqOf_rep w r hs
    obtain ⟨h1, h2⟩ := fin q
    exact ⟨a, vs, ts, t, by rw [ev], h1, h2, .inl ⟨hlp nt, et⟩, hz, post⟩
  · subst ed
    rw [Rep] at r
    obtain ⟨a, vs, ev, hh, q⟩ := r
    obtain ⟨h1, h2⟩ := fin q
    exact ⟨a, vs, ts, t, by rw [ev], h1, h2, .inr ⟨SqT.sub (fun _ _ z => vis_sub z) hh, et⟩, hz, post⟩
end
end Dl
namespace Dl
open PySem L2 PyProof.Rows SeqAt
def aEqO : R2D := fun x y S q => aEq x y S q ∨ aEqS x y S q
def rEqO (K : PySem.W.Frag) : R2 := fun x y H Q => rEqD K x y H Q ∨ L2.rEq x y H Q
theorem or_eqO {X : Cx} (hu : X.A.units + 64 < cLine) (h0 : OpR X (compareOp .Eq) L2.rEq) : OpR X (compareOp .Eq) (rEqO X.K) := by
  intro pins s σ H x y v u Q I rx ry h
  rcases h with h | h
  · exact op_eqD hu pins s σ H x y v u Q I rx ry h
  · exact h0 pins s σ H x y v u Q I rx ry h
theorem vr_eqO {K : PySem.W.Frag} : VR2 K (rEqO K) aEqO := fun {_ m S Z H a b v u q Q} w r1 r2 h k => by
  rcases h with h | h
  · exact .inl (vr_eq w r1 r2 h k)
  · exact .inr (vr_eqSS w r1 r2 h k)
theorem x_eqOS {x y : Str} {S : Sto} {q : D → Sto → Prop} (h : q (.bl (decide (x = y))) S) : aEqO (.str x) (.str y) S q := .inr (x_eqSS.mpr h)
theorem x_eqON {x : Str} {S : Sto} {q : D → Sto → Prop} (hx : PyData.strOk x = true) (h : q (.bl false) S) : aEqO (.str x) .non S q := .inl ((x_eq (p := .str x) (p' := .none) rfl rfl).mpr ⟨sh_str hx, sh_non, by simpa [PyData.eqv] using h⟩)
end Dl
namespace Hd
open PySem PySem.Spec PyProof.Rows L2 Dl
abbrev Fq := PySem.W.Frag → Bool
def obsQ (fa : List Fq) (fn : List He.DefD) (K : PySem.W.Frag) : He.AlD := ((fa.all fun f => f K) && fn.all fun d => d.ok K, fn.map fun d => He.fnW K d.at_)
def SaysQ (fa : List Fq) (fn : List He.DefD) (K : PySem.W.Frag) : Prop := obsQ fa fn K = He.valD fn
/-- what the module's names reach in n steps, step by step -/
def goF (g : Addr → Option Obj) : Nat → List Addr → List Addr
  | 0, fr => fr
  | n + 1, fr => fr ++ goF g n (fr.flatMap fun a => match g a with
    | some o => He.refsD o
    | none => [])
def partG (n : Nat) (g : Addr → Option Obj) : PySem.W.Frag := He.frG g (goF g n [mainGlobals])
abbrev Qs := List (List Fq × List He.DefD)
def obsQG (n : Nat) (fa : List Fq) (fn : List He.DefD) (g : Addr → Option Obj) : He.AlD := obsQ fa fn (partG n g)
def obsL (n : Nat) (qs : Qs) (g : Addr → Option Obj) : List He.AlD := qs.map fun q => obsQG n q.1 q.2 g
def valL (qs : Qs) : List He.AlD := qs.map fun q => He.valD q.2
def SaysL (qs : Qs) (K : PySem.W.Frag) : Prop := ∀ q ∈ qs, SaysQ q.1 q.2 K
theorem says_of : ∀ {qs : Qs} {n : Nat} {g : Addr → Option Obj}, obsL n qs g = valL qs → SaysL qs (partG n g)
  | [], _, _, _, q, h => (nomatch h)
  | q0 :: qs, n, g, e, q, h => by
    have e1 : obsQG n q0.1 q0.2 g = He.valD q0.2 := (List.cons.inj e).1
    rcases List.mem_cons.mp h with z | z
    · rw [z]; exact e1
    · exact says_of (List.cons.inj e).2 q z
def hookQ (n : Nat) (qs : Qs) : PySem.W.Hook where
  α := List He.AlD
  obs := fun s => obsL n qs s.heap.get?
  val := fun _ => valL qs
  says := fun _ h => ∃ K : PySem.W.Frag, K.In h ∧ SaysL qs K
  of := fun _ _ e => ⟨_, He.frG_in, says_of e⟩
  keeps := fun _ _ _ ⟨K, hK, c⟩ k => ⟨K, PySem.W.Frag.In.keeps hK k, c⟩
theorem obsL_eq {n : Nat} {qs : Qs} {g : Addr → Option Obj} {s : Shared} (h : ∀ a, g a = s.heap.get? a) : obsL n qs g = (hookQ n qs).obs s := by
  have e : g = s.heap.get? := funext h
  rw [e] <;> rfl
section
open PySem.W PySem.Calls
def Looks (r : OpenRow) (q : Program) (M : Nat) (loose : List PySem.Str) (w : World) : Prop :=
  ∀ os : OsState, (HandSHeadRun.endF (HandSHeadRun.stepQ (HandSHeadRun.denQ HandSHeadRun.tabQ) r.prog w) M r.prog w os).map (fun s => (HandSHeadRun.looksF r.prog (boot_heap w.params) s.abs, HandSHeadRun.seenQ q loose (importedModules r.prog.main.body) (fun s => xlAt q [] s && recOk r.toRowW.records s) s.abs)) = some (true, openGood q loose)
def Obs1 (r : OpenRow) (n : Nat) (fa : List Fq) (fn : List He.DefD) (M : Nat) (w : World) : Prop :=
  ∀ os : OsState, (HandSHeadRun.endF (HandSHeadRun.stepQ (HandSHeadRun.denQ HandSHeadRun.tabQ) r.prog w) M r.prog w os).map (fun s => obsQG n fa fn (HandSHeadRun.getT s)) = some (He.valD fn)
def ObsA (r : OpenRow) (n : Nat) (qs : Qs) (M : Nat) (w : World) : Prop :=
  ∀ os : OsState, (HandSHeadRun.endF (HandSHeadRun.stepQ (HandSHeadRun.denQ HandSHeadRun.tabQ) r.prog w) M r.prog w os).map (fun s => obsL n qs (HandSHeadRun.getT s)) = some (valL qs)
variable {r : OpenRow} {q : Program} {n M : Nat} {loose : List PySem.Str} {w : World} {qs : Qs} {fa : List Fq} {fn : List He.DefD}
theorem obsA_nil (h : Looks r q M loose w) : ObsA r n [] M w := fun os => by
  have := h os
  cases e : HandSHeadRun.endF (HandSHeadRun.stepQ (HandSHeadRun.denQ HandSHeadRun.tabQ) r.prog w) M r.prog w os with
  | none => rw [e] at this; cases this
  | some s => rfl
theorem obsA_cons (h1 : Obs1 r n fa fn M w) (h2 : ObsA r n qs M w) : ObsA r n ((fa, fn) :: qs) M w := fun os => by
  have a := h1 os
  have b := h2 os
  cases e : HandSHeadRun.endF (HandSHeadRun.stepQ (HandSHeadRun.denQ HandSHeadRun.tabQ) r.prog w) M r.prog w os with
  | none => rw [e] at a; cases a
  | some s =>
    rw [e] at a b
    have a2 : obsQG n fa fn (HandSHeadRun.getT s) = He.valD fn := Option.some.inj a
    have b2 : obsL n qs (HandSHeadRun.getT s) = valL qs := Option.some.inj b
    show some (obsQG n fa fn (HandSHeadRun.getT s) :: obsL n qs (HandSHeadRun.getT s)) = some (He.valD fn :: valL qs)
    rw [a2, b2]
theorem runEq_of (h1 : Looks r q M loose w) (h2 : ObsA r n qs M w) : HandSHeadRun.RunEq r q (hookQ n qs) (fun s => obsL n qs (HandSHeadRun.getT s)) M loose w := fun os => by
  have a := h1 os
  have b := h2 os
  cases e : HandSHeadRun.endF (HandSHeadRun.stepQ (HandSHeadRun.denQ HandSHeadRun.tabQ) r.prog w) M r.prog w os with
  | none => rw [e] at a; cases a
  | some s =>
    rw [e] at a b
    have a2 := Option.some.inj a
    have b2 : obsL n qs (HandSHeadRun.getT s) = valL qs := Option.some.inj b
    obtain ⟨a3, a4⟩ := Prod.mk.injEq .. ▸ a2
    show some (HandSHeadRun.looksF r.prog (boot_heap w.params) s.abs, HandSHeadRun.seenQ q loose (importedModules r.prog.main.body) (fun s => xlAt q [] s && recOk r.toRowW.records s) s.abs, obsL n qs (HandSHeadRun.getT s)) = some (true, openGood q loose, valL qs)
    rw [a3, a4, b2]
end
section
variable {fa : List Fq} {fn : List He.DefD} {K : PySem.W.Frag}
theorem SaysQ.fact (c : SaysQ fa fn K) (i : Nat) {f : Fq} (h : fa[i]? = some f) : f K = true := by
  have c1 := (He.ba (show ((fa.all fun f => f K) && fn.all fun d => d.ok K) = true from congrArg (fun z : He.AlD => z.1) c)).1
  exact List.all_eq_true.mp c1 f (List.mem_of_getElem? h)
theorem SaysQ.def_ (c : SaysQ fa fn K) (i : Nat) {d : He.DefD} (h : fn[i]? = some d) : ∃ fd, FunD K d.name d.qual d.params d.body d.scope (d.dvs K) (d.kws K) (He.fAd K d.at_) fd := by
  have c2 := (He.ba (show ((fa.all fun f => f K) && fn.all fun d => d.ok K) = true from congrArg (fun z : He.AlD => z.1) c)).2
  have e : fn.map (fun d => He.fnW K d.at_) = fn.map He.DefD.val := congrArg (fun z : He.AlD => z.2) c
  have e2 : (fn.map fun d => He.fnW K d.at_)[i]? = (fn.map He.DefD.val)[i]? := by rw [e]
  rw [List.getElem?_map, List.getElem?_map, h] at e2
  exact He.DefD.funD (Option.some.inj e2) (List.all_eq_true.mp c2 d (List.mem_of_getElem? h))
end
theorem walk_ofQ {l : PySem.W.OpenLaw} {n k : Nat} {q : Program} {loose : List Str} {XP : (Str → Option Value) → Heap → Prop} {YP : World → Heap → Prop} {d : DefRec} {x : Str} {sp : PySem.W.Frag → Sp}
    (hn : l.most = some n) (hn2 : n ≤ sizeLine) (hdf : d.params.defaults = []) (room : Room k callerA)
    (F : ∀ (w : World) (mg : Str → Option Value) (fa : Addr) (h : Heap), YP w h → h.Ns mainGlobals mg → mg d.name = some (.ref fa) →
      ∃ (K : PySem.W.Frag) (fd : FuncData), K.In h ∧ (∀ (s : Shared) (u : Value), BindsTo s fd ⟨[u], []⟩ [(x, u)]) ∧ ∀ base : Heap, K.In base → base.Ns mainGlobals mg → FnG l.prog w K mg base CX0 k fa fd [x] (sp K))
    (hsp : ∀ (K : PySem.W.Frag) (H : Hp) (a : Addr) (ns : List Int), ns.length ≤ n → Only H → SqL K H a (ns.map V.int) → sp K [.ref a] H (fun v _ => v = .bl true) fun _ _ _ => False) : PySem.W.WalkO q loose XP YP l.row.toRowW d [] (fun f vs => PySem.call f vs) := by
  refine Att.attach_call hn hdf fun w s₀ s₁ mg mb fa o pm cd doc a vs ns G Y ho hd hcd hmg hobj hints hlen hg => ?_
  obtain ⟨K, fd, KX, hb, hF⟩ := F w mg fa _ Y G.T.g hmg
  exact law_callG KX G.T.g G.T.b G.T.builtins G.T.nolimit hg hobj hints (Nat.le_trans hlen hn2) room hF hb (fun H o q => hsp K H a ns hlen o q) fun H e s' z => z
end Hd
namespace Mt
open PySem L2 Dl
def hm (h m : Nat) : Str := ⟨#[48 + h / 10, 48 + h % 10, 58, 48 + m / 10, 48 + m % 10]⟩
def plus : Str := (("+" : String) : Str)
/-- a minute as the text shows it -/
def T (w : Nat) : Str := if w < 1440 then hm (w / 60) (w % 60) else hm (w % 1440 / 60) (w % 60) ++ (plus ++ showI (w / 1440 : Nat))
theorem show_len10 {i : Int} (h0 : 0 ≤ i) (h : i < 10 ^ 10) : (showI i).length ≤ 10 := PyProof.Rows.toString_length_le h0 (by decide) h
end Mt
namespace Mt
open PySem L2 Dl
def Tp (B : Int) (o : Option MO) : Prop := ∃ (ns : List Int) (t r : Int), o = some (.lst [.lst (ns.map .int), .int t, .int r]) ∧ 0 ≤ t ∧ t ≤ B ∧ 0 ≤ r
theorem Tp.mono {B B' : Int} {o : Option MO} (h : Tp B o) (l : B ≤ B') : Tp B' o := by
  obtain ⟨ns, t, r, e, h1, h2, h3⟩ := h
  exact ⟨ns, t, r, e, h1, by omega, h3⟩
/-- a def that draws at most k times -/
def tk (k : Int) (args : List D) (R : D → Prop) : DSp := fun ds S q => ∃ o R0 B, ds = .loc 0 :: args ∧ S = o :: R0 ∧ Tp B o ∧ B + k ≤ 10 ^ 12 ∧ ∀ d o', R d → Tp (B + k) o' → q d (o' :: R0)
theorem tk_in {k B : Int} {args : List D} {R : D → Prop} {o : Option MO} {R0 : Sto} {q : D → Sto → Prop} (h : Tp B o) (hb : B + k ≤ 10 ^ 12) (hq : ∀ d o', R d → Tp (B + k) o' → q d (o' :: R0)) : tk k args R (.loc 0 :: args) (o :: R0) q :=
  ⟨o, R0, B, rfl, rfl, h, hb, hq⟩
theorem tk_len {k : Int} {args : List D} {R : D → Prop} {ds : List D} {S : Sto} {q : D → Sto → Prop} {n : Nat} (hn : args.length + 1 = n) (h : tk k args R ds S q) : ds.length = n := by
  obtain ⟨o, R0, B, e, _⟩ := h
  rw [e, ← hn]; rfl
def intIn (lo hi : Int) : D → Prop := fun d => ∃ x, d = .int x ∧ lo ≤ x ∧ x < hi
def draw : DSp := fun ds S q => ∃ many, 0 < many ∧ many < 1073741824 ∧ tk 1 [.int many] (intIn 0 many) ds S q
theorem draw_in {many B : Int} {o : Option MO} {R0 : Sto} {q : D → Sto → Prop} (h1 : 0 < many) (h2 : many < 1073741824) (h : Tp B o) (hb : B + 1 ≤ 10 ^ 12) (hq : ∀ x o', 0 ≤ x → x < many → Tp (B + 1) o' → q (.int x) (o' :: R0)) :
    draw [.loc 0, .int many] (o :: R0) q := ⟨many, h1, h2, tk_in h hb fun d o' ⟨x, e, h3, h4⟩ t => by subst e; exact hq x o' h3 h4 t⟩
def val (x : Str) : Int := (PySem.NumText.digitsVal x.cps.toList : Nat)
def tape : DSp := fun ds S q => ∃ ns : List Int, ds = [.ksq (ns.map .int)] ∧ S = [] ∧ q (.loc 0) [some (.lst [.lst ((ns.take 63).map .int), .int 0, .int 0])]
def law : DSp := fun ds S q => ∃ ns : List Int, ds = [.ksq (ns.map .int)] ∧ S = [] ∧ ∀ S', q (.bl true) S'
theorem len_app (x y : Str) : (x ++ y).length = x.length + y.length := Array.size_append ..
theorem ten15 : (10 : Int) ^ 12 = 1000000000000 := by decide
/-- from a list of the store too -/
def pickL : DSp := fun ds S q => ∃ d es, 0 < es.length ∧ (es.length : Int) < 1073741824 ∧ (∃ o R0 B, ds = [.loc 0, d] ∧ S = o :: R0 ∧ Tp B o ∧ B + 1 ≤ 10 ^ 12 ∧ (∀ o', seqOf (o' :: R0) d = some es) ∧ ∀ e o', e ∈ es → Tp (B + 1) o' → q e (o' :: R0))
theorem pickL_in {es : List D} {B : Int} {o : Option MO} {R0 : Sto} {q : D → Sto → Prop} (h1 : 0 < es.length) (h2 : (es.length : Int) < 1073741824) (h : Tp B o) (hb : B + 1 ≤ 10 ^ 12) (hq : ∀ e o', e ∈ es → Tp (B + 1) o' → q e (o' :: R0)) :
    pickL [.loc 0, .lst es] (o :: R0) q := ⟨.lst es, es, h1, h2, o, R0, B, rfl, rfl, h, hb, fun _ => rfl, hq⟩
theorem pickL_loc {es : List D} {B : Int} {o : Option MO} {R0 : Sto} {k : Nat} {q : D → Sto → Prop} (hk : R0[k]? = some (some (.lst es))) (h1 : 0 < es.length) (h2 : (es.length : Int) < 1073741824) (h : Tp B o) (hb : B + 1 ≤ 10 ^ 12) (hq : ∀ e o', e ∈ es → Tp (B + 1) o' → q e (o' :: R0)) :
    pickL [.loc 0, .loc (k + 1)] (o :: R0) q := ⟨.loc (k + 1), es, h1, h2, o, R0, B, rfl, rfl, h, hb, fun _ => by simp [seqOf, hk], hq⟩
end Mt
namespace Dl
open PySem L2
theorem mulOk_l {i j : Int} (h : -(2 ^ 64) < i) (h' : i < 2 ^ 64) : mulOk i j := .inl (.inl ⟨h, h'⟩)
end Dl
namespace Mt
open PySem L2 Dl
abbrev stD (C : Addr) (a b : Int) : D := .obj C ["first", "behind"] [.int a, .int b]
def stInit (C : Addr) : DSp := fun ds S q => ∃ S0 a b o, ds = [.loc S0.length, .int a, o] ∧ S = S0 ++ [some (.obj C [] [])] ∧ (o = .int b ∨ (o = .non ∧ b = a + 1)) ∧ a ≤ b ∧ q .non (S0 ++ [some (.obj C ["first", "behind"] [.int a, .int b])])
def stEq (C : Addr) : DSp := fun ds S q => ∃ a b c d, ds = [stD C a b, stD C c d] ∧ q (.bl (decide ([a, b] = [c, d]))) S
theorem fg_first {x y : D} : fget "first" ["first", "behind"] [x, y] = some x := rfl
theorem fg_behind {x y : D} : fget "behind" ["first", "behind"] [x, y] = some y := rfl
theorem pk_first : putK "first" [] = (["first"] : List Str) := by decide +kernel
theorem pk_behind : putK "behind" ["first"] = (["first", "behind"] : List Str) := by decide +kernel
theorem px_first {x : D} : putX "first" x [] [] = [x] := rfl
theorem px_behind {x y : D} : putX "behind" y ["first"] [x] = [x, y] := rfl
theorem st_make {C : Addr} {a b : Int} {dds : List D} {S : Sto} {q : D → Sto → Prop} (h : a ≤ b) (k : q (stD C a b) S) : aMakeF C 2 0 [.p 0, .p 1, .p 2] dds (stInit C) [.int a, .int b] [] S q :=
  ⟨rfl, rfl, fun _ _ => ⟨S, a, b, _, rfl, rfl, .inl rfl, h, rfl, _, _, rfl, rfl, k⟩⟩
end Mt
namespace Mg
open Dl
abbrev Rdg := Int × Bool × Int
def kW (b : Bool) : PySem.Str := if b then "water" else "ice"
def putP (P : List Pr) (k n : Int) : List Pr := if (P.any fun p => decide (p.1 = k)) = true then P.map (fun p => if p.1 = k then (p.1, n) else p) else P ++ [(k, n)]
def foldP (rows : List Pr) : List Pr := rows.foldl (fun P r => putP P r.1 r.2) []
def lastOf (rows : List Pr) (k : Int) : Option Int := rows.foldl (fun o r => if r.1 = k then some r.2 else o) none
def rowsOf (lag : Int) (b : Bool) (R : List Rdg) : List Pr := (R.filter fun r => r.2.1 == b).map fun r => (r.1 + lag, r.2.2)
def arr (lag : Int) (b : Bool) (R : List Rdg) : List Pr := sortP (foldP (rowsOf lag b R))
def stepB (m : Int) (o : Option Pr) (r : Pr) : Option Pr := if r.1 ≤ m ∧ (∀ b, o = some b → b.1 ≤ r.1) then some r else o
def bestOf (rows : List Pr) (m : Int) : Option Pr := rows.foldl (stepB m) none
def lastNum (rows : List Pr) (m : Int) : Int := match bestOf rows m with
  | none => 0
  | some b => b.2
def NumAt (P : List Pr) (m n : Int) : Prop := ((∀ p ∈ P, ¬ p.1 ≤ m) ∧ n = 0) ∨ ∃ p ∈ P, p.1 ≤ m ∧ (∀ y ∈ P, y.1 ≤ m → leP y p = true) ∧ n = p.2
def standS (high top thin thick water ice : Int) : PySem.Str := if top ≤ water then "lost" else if thick ≤ ice then "shut" else if high ≤ water ∨ thin ≤ ice then "slow" else "free"
def stS (lag high top thin thick : Int) (R : List Rdg) (m : Int) : PySem.Str := standS high top thin thick (lastNum (rowsOf lag true R) m) (lastNum (rowsOf 0 false R) m)
theorem mem_put {P : List Pr} {k0 n0 k n : Int} : (k, n) ∈ putP P k0 n0 ↔ if k = k0 then n = n0 else (k, n) ∈ P := by
  unfold putP
  split
  · rename_i h
    rw [List.mem_map]
    obtain ⟨p0, hp0, e0⟩ := List.any_eq_true.mp h
    have e0 : p0.1 = k0 := of_decide_eq_true e0
    split
    · rename_i e
      constructor
      · rintro ⟨p, hp, z⟩
        split at z
        · exact (congrArg Prod.snd z).symm
        · rename_i h1
          exact absurd ((congrArg Prod.fst z).trans e) h1
      · rintro rfl
        exact ⟨p0, hp0, by rw [if_pos e0, e0, e]⟩
    · rename_i e
      constructor
      · rintro ⟨p, hp, z⟩
        split at z
        · rename_i h1
          exact absurd ((congrArg Prod.fst z).symm.trans h1) e
        · rw [← z]; exact hp
      · intro hp
        exact ⟨_, hp, by rw [if_neg e]⟩
  · rename_i h
    have hn : ∀ p ∈ P, p.1 ≠ k0 := fun p hp e => h (List.any_eq_true.mpr ⟨p, hp, decide_eq_true e⟩)
    rw [List.mem_append, List.mem_singleton]
    split
    · rename_i e
      constructor
      · rintro (z | z)
        · exact absurd e (hn _ z)
        · exact congrArg Prod.snd z
      · rintro rfl
        exact .inr (by rw [e])
    · rename_i e
      constructor
      · rintro (z | z)
        · exact z
        · exact absurd (congrArg Prod.fst z) e
      · exact .inl
theorem mem_foldl (k : Int) : ∀ (rows P : List Pr) (o : Option Int), (∀ n, (k, n) ∈ P ↔ o = some n) → ∀ n, (k, n) ∈ rows.foldl (fun P r => putP P r.1 r.2) P ↔ rows.foldl (fun o r => if r.1 = k then some r.2 else o) o = some n
  | [], _, _, h, n => h n
  | r :: rows, P, o, h, n => by
    rw [List.foldl_cons, List.foldl_cons]
    refine mem_foldl k rows _ _ (fun n => ?_) n
    rw [mem_put]
    by_cases e : k = r.1
    · rw [if_pos e, if_pos e.symm]
      exact ⟨fun z => by rw [z], fun z => (Option.some.inj z).symm⟩
    · rw [if_neg e, if_neg (Ne.symm e)]
      exact h n
theorem mem_fold {rows : List Pr} {k n : Int} : (k, n) ∈ foldP rows ↔ lastOf rows k = some n := mem_foldl k rows [] none (fun n => by simp) n
theorem lastOf_snoc {rows : List Pr} {r : Pr} {k : Int} : lastOf (rows ++ [r]) k = if r.1 = k then some r.2 else lastOf rows k := by simp [lastOf]
theorem bestOf_snoc {rows : List Pr} {r : Pr} {m : Int} : bestOf (rows ++ [r]) m = stepB m (bestOf rows m) r := by simp [bestOf]
theorem snoc_ind {p : List Pr → Prop} (h0 : p []) (h1 : ∀ l a, p l → p (l ++ [a])) (l : List Pr) : p l := by
  have : ∀ r : List Pr, p r.reverse := by
    intro r
    induction r with
    | nil => exact h0
    | cons a r ih => rw [List.reverse_cons]; exact h1 _ _ ih
  have z := this l.reverse
  rwa [List.reverse_reverse] at z
theorem lastOf_mem {k n : Int} : ∀ (rows : List Pr), lastOf rows k = some n → (k, n) ∈ rows := by
  intro rows
  refine snoc_ind (p := fun rows => lastOf rows k = some n → (k, n) ∈ rows) ?_ ?_ rows
  · intro h; cases h
  · intro rows r ih h
    rw [lastOf_snoc] at h
    split at h
    · rename_i e
      rw [← e, ← Option.some.inj h]
      exact List.mem_append_right _ List.mem_cons_self
    · exact List.mem_append_left _ (ih h)
theorem best_spec (m : Int) (rows : List Pr) : (bestOf rows m = none ∧ ∀ r ∈ rows, ¬ r.1 ≤ m) ∨ ∃ b, bestOf rows m = some b ∧ b.1 ≤ m ∧ lastOf rows b.1 = some b.2 ∧ ∀ r ∈ rows, r.1 ≤ m → r.1 ≤ b.1 := by
  refine snoc_ind (p := fun rows => (bestOf rows m = none ∧ ∀ r ∈ rows, ¬ r.1 ≤ m) ∨ ∃ b, bestOf rows m = some b ∧ b.1 ≤ m ∧ lastOf rows b.1 = some b.2 ∧ ∀ r ∈ rows, r.1 ≤ m → r.1 ≤ b.1) ?_ ?_ rows
  · exact .inl ⟨rfl, fun _ h => nomatch h⟩
  · intro rows r ih
    rw [bestOf_snoc]
    unfold stepB
    have mm : ∀ {x : Pr}, x ∈ rows ++ [r] → x ∈ rows ∨ x = r := fun h => by
      rcases List.mem_append.mp h with z | z
      · exact .inl z
      · exact .inr (List.mem_singleton.mp z)
    rcases ih with ⟨h1, h2⟩ | ⟨b, h1, h2, h3, h4⟩
    · rw [h1]
      by_cases hr : r.1 ≤ m
      · rw [if_pos ⟨hr, fun b z => nomatch z⟩]
        refine .inr ⟨r, rfl, hr, by rw [lastOf_snoc, if_pos rfl], fun x hx hxm => ?_⟩
        rcases mm hx with z | z
        · exact absurd hxm (h2 x z)
        · rw [z]; exact Int.le_refl _
      · rw [if_neg (fun z => hr z.1)]
        refine .inl ⟨rfl, fun x hx => ?_⟩
        rcases mm hx with z | z
        · exact h2 x z
        · rw [z]; exact hr
    · rw [h1]
      by_cases hr : r.1 ≤ m ∧ b.1 ≤ r.1
      · rw [if_pos ⟨hr.1, fun b' z => by cases z; exact hr.2⟩]
        refine .inr ⟨r, rfl, hr.1, by rw [lastOf_snoc, if_pos rfl], fun x hx hxm => ?_⟩
        rcases mm hx with z | z
        · exact Int.le_trans (h4 x z hxm) hr.2
        · rw [z]; exact Int.le_refl _
      · rw [if_neg (fun z => hr ⟨z.1, z.2 b rfl⟩)]
        have ne : r.1 ≠ b.1 := fun e => hr ⟨by omega, by omega⟩
        refine .inr ⟨b, rfl, h2, by rw [lastOf_snoc, if_neg ne]; exact h3, fun x hx hxm => ?_⟩
        rcases mm hx with z | z
        · exact h4 x z hxm
        · rw [z] at hxm ⊢
          have : ¬ b.1 ≤ r.1 := fun z => hr ⟨hxm, z⟩
          omega
theorem mem_arr {lag : Int} {b : Bool} {R : List Rdg} {p : Pr} : p ∈ arr lag b R ↔ lastOf (rowsOf lag b R) p.1 = some p.2 := by
  unfold arr sortP
  rw [(List.mergeSort_perm _ _).mem_iff]
  exact mem_fold
theorem numAt_eq {lag : Int} {b : Bool} {R : List Rdg} {m n : Int} (h : NumAt (arr lag b R) m n) : n = lastNum (rowsOf lag b R) m := by
  unfold lastNum
  rcases best_spec m (rowsOf lag b R) with ⟨h1, h2⟩ | ⟨c, h1, h2, h3, h4⟩
  · rw [h1]
    rcases h with ⟨_, h⟩ | ⟨p, hp, hm, _⟩
    · exact h
    · exact absurd hm (h2 _ (lastOf_mem _ (mem_arr.mp hp)))
  · rw [h1]
    have hc : c ∈ arr lag b R := mem_arr.mpr h3
    rcases h with ⟨h, _⟩ | ⟨p, hp, hm, hmax, e⟩
    · exact absurd h2 (h _ hc)
    · have l1 := h4 _ (lastOf_mem _ (mem_arr.mp hp)) hm
      have l2 := hmax c hc h2
      simp only [leP, decide_eq_true_eq] at l2
      have l1' : p.1 ≤ c.1 := l1
      have e1 : p.1 = c.1 := by omega
      have := mem_arr.mp hp
      rw [e1, h3] at this
      rw [e, ← Option.some.inj this]
theorem foldl_len : ∀ (rows P : List Pr), (rows.foldl (fun P r => putP P r.1 r.2) P).length ≤ P.length + rows.length
  | [], P => by simp
  | r :: rows, P => by
    rw [List.foldl_cons]
    have := foldl_len rows (putP P r.1 r.2)
    have h : (putP P r.1 r.2).length ≤ P.length + 1 := by
      unfold putP
      split <;> simp
    rw [List.length_cons]
    omega
theorem arr_len {lag : Int} {b : Bool} {R : List Rdg} : (arr lag b R).length ≤ R.length := by
  unfold arr sortP
  rw [List.length_mergeSort]
  have := foldl_len (rowsOf lag b R) []
  have h : (rowsOf lag b R).length ≤ R.length := by
    unfold rowsOf
    rw [List.length_map]
    exact List.length_filter_le _ _
  unfold foldP
  simp at this
  omega
open PySem L2
abbrev rD (r : Rdg) : D := .tup [.int r.1, .str (kW r.2.1), .int r.2.2]
abbrev rY (r : Rdg) : PyData := .tuple [.int r.1, .str (kW r.2.1), .int r.2.2]
theorem kW_inj {b c : Bool} : kW b = kW c ↔ b = c := by cases b <;> cases c <;> decide +kernel
theorem kW_t {b : Bool} : kW b = Str.ofString "water" ↔ b = true := by cases b <;> decide +kernel
theorem kW_f {b : Bool} : kW b = Str.ofString "ice" ↔ b = false := by cases b <;> decide +kernel
theorem kW_ok (b : Bool) : PyData.strOk (kW b) = true := by cases b <;> decide +kernel
theorem toPys_rd : ∀ R : List Rdg, toPys (R.map rD) = some (R.map rY)
  | [] => rfl
  | r :: R => by rw [List.map_cons, toPys, toPys_rd R]; rfl
theorem can_rd : ∀ R : List Rdg, PyData.canLayAll0 (R.map rY) = true
  | [] => by simp [PyData.canLayAll0]
  | p :: P => by
    have := kW_ok p.2.1
    simp [PyData.canLayAll0, PyData.canLay0, can_rd P, this]
theorem dep_rd : ∀ P : List Rdg, PyData.depthAll (P.map rY) ≤ 1
  | [] => by simp [PyData.depthAll]
  | p :: P => by
    have := dep_rd P
    simp [PyData.depthAll, PyData.depth]
    omega
theorem sh_rd (P : List Rdg) : SeqAt.shaped (.list (P.map rY)) = true := by
  have := dep_rd P
  simp [SeqAt.shaped, PyData.canLay0, PyData.depth, can_rd]
  omega
theorem eqv_rd : ∀ P : List Rdg, PyData.eqvAll (P.map rY) (P.map rY) = true
  | [] => by simp [PyData.eqvAll]
  | p :: P => by simp [PyData.eqvAll, PyData.eqv, eqv_rd P]
theorem eqv_rd0 : ∀ P : List Rdg, PyData.eqvAll (P.map rY) [] = decide (P = [])
  | [] => by simp [PyData.eqvAll]
  | p :: P => by simp [PyData.eqvAll]
theorem und_rd {n : Nat} : ∀ {P : List Rdg}, D.unders n (P.map rD) = true
  | [] => by simp [D.unders]
  | p :: P => by
    rw [List.map_cons, D.unders, und_rd (P := P)]
    simp [D.under, D.unders]
def dk (P : List Pr) : List Key := P.map fun p => Sum.inl p.1
def dv (P : List Pr) : List D := P.map fun p => .int p.2
theorem dk_any (P : List Pr) (k : Int) : ((dk P).any fun j => decide (j = (Sum.inl k : Key))) = P.any fun p => decide (p.1 = k) := by
  unfold dk
  rw [List.any_map]
  refine congrArg (fun f => P.any f) (funext fun p => decide_eq_decide.mpr ⟨fun h => Sum.inl.inj h, fun h => congrArg Sum.inl h⟩)
theorem kput_dk (P : List Pr) (k n : Int) : kput (.inl k) (dk P) = dk (putP P k n) := by
  unfold kput putP
  rw [dk_any]
  split
  · unfold dk
    rw [List.map_map]
    refine List.map_congr_left fun p hp => ?_
    rw [Function.comp_apply]
    split
    · rfl
    · rfl
  · unfold dk
    rw [List.map_append]
    rfl
theorem zipW_dv (k n : Int) : ∀ P : List Pr, List.zipWith (fun (j : Key) (d : D) => if j = (Sum.inl k : Key) then D.int n else d) (dk P) (dv P) = dv (P.map fun p => if p.1 = k then (p.1, n) else p)
  | [] => rfl
  | p :: P => by
    show (if (Sum.inl p.1 : Key) = Sum.inl k then D.int n else D.int p.2) :: _ = D.int (if p.1 = k then (p.1, n) else p).2 :: _
    rw [show List.zipWith _ (List.map (fun p : Pr => (Sum.inl p.1 : Key)) P) (List.map (fun p : Pr => D.int p.2) P) = _ from zipW_dv k n P]
    by_cases e : p.1 = k
    · rw [if_pos e, if_pos (by rw [e])]; rfl
    · rw [if_neg e, if_neg (fun z => e (Sum.inl.inj z))]; rfl
theorem dput_dv (P : List Pr) (k n : Int) : dput (.inl k) (.int n) (dk P) (dv P) = dv (putP P k n) := by
  unfold dput putP
  rw [dk_any]
  split
  · exact zipW_dv k n P
  · unfold dv
    rw [List.map_append]
    rfl
theorem zip_dkv : ∀ P : List Pr, List.zipWith (fun k d => D.tup [kD k, d]) (dk P) (dv P) = P.map pD
  | [] => rfl
  | p :: P => by
    show D.tup [.int p.1, .int p.2] :: _ = pD p :: P.map pD
    exact congrArg _ (zip_dkv P)
theorem rows_snoc {lt : Int} {b : Bool} {L : List Rdg} {r : Rdg} : rowsOf lt b (L ++ [r]) = rowsOf lt b L ++ if r.2.1 = b then [(r.1 + lt, r.2.2)] else [] := by
  unfold rowsOf
  rw [List.filter_append, List.map_append]
  refine congrArg _ ?_
  by_cases e : r.2.1 = b
  · rw [if_pos e, List.filter_cons_of_pos (by simpa using e)]; rfl
  · rw [if_neg e, List.filter_cons_of_neg (by simpa using e)]; rfl
theorem fold_snoc {L : List Pr} {p : Pr} : foldP (L ++ [p]) = putP (foldP L) p.1 p.2 := by simp [foldP]
theorem rows_fm (lt : Int) (b : Bool) : ∀ R : List Rdg, (R.filterMap fun r => if r.2.1 = b then some (pD (r.1 + lt, r.2.2)) else none) = (rowsOf lt b R).map pD
  | [] => rfl
  | r :: R => by
    unfold rowsOf
    rw [List.filterMap_cons, rows_fm lt b R]
    by_cases e : r.2.1 = b
    · rw [if_pos e, List.filter_cons_of_pos (by simpa using e)]; rfl
    · rw [if_neg e, List.filter_cons_of_neg (by simpa using e)]; rfl
theorem foldP_len {lt : Int} {b : Bool} {R : List Rdg} : (foldP (rowsOf lt b R)).length ≤ R.length := by
  have := foldl_len (rowsOf lt b R) []
  have h : (rowsOf lt b R).length ≤ R.length := by
    unfold rowsOf
    rw [List.length_map]
    exact List.length_filter_le _ _
  unfold foldP
  simp at this
  omega
theorem rows_len {lt : Int} {b : Bool} {R : List Rdg} : (rowsOf lt b R).length ≤ R.length := by
  unfold rowsOf
  rw [List.length_map]
  exact List.length_filter_le _ _
end Mg
namespace Mg
open Dl
end Mg
namespace Mg
open PySem L2 Dl
abbrev Pc := Int × Int × PySem.Str
def addP (ps : List Pc) (f b : Int) (w : PySem.Str) : List Pc := match ps.getLast? with
  | some p => if p.2.2 = w then ps.dropLast ++ [(p.1, b, w)] else ps ++ [(f, b, w)]
  | none => [(f, b, w)]
def pieces (told : Int → PySem.Str) (E : List Int) : List Pc := (E.zip E.tail).foldl (fun ps p => addP ps p.1 p.2 (told p.1)) []
def isT (l : Int) (R : List Rdg) (x : Int) : Prop := ∃ r ∈ R, x = r.1 + (if r.2.1 = true then l else 0)
theorem zip_tail {A : Type} : ∀ (L : List A) (x u : A), (L ++ [x] ++ [u]).zip (L ++ [x] ++ [u]).tail = (L ++ [x]).zip (L ++ [x]).tail ++ [(x, u)]
  | [], x, u => rfl
  | [y], x, u => rfl
  | y :: z :: L, x, u => by
    have := zip_tail (z :: L) x u
    simp only [List.cons_append, List.tail_cons, List.zip_cons_cons] at this ⊢
    rw [this]
theorem pieces_snoc (told : Int → PySem.Str) (F : List Int) (x u : Int) : pieces told (F ++ [x] ++ [u]) = addP (pieces told (F ++ [x])) x u (told x) := by
  unfold pieces
  rw [zip_tail, List.foldl_append]
  rfl
theorem addP_len (ps : List Pc) (f b : Int) (w : PySem.Str) : (addP ps f b w).length = ps.length + if ps.getLast?.map (·.2.2) = some w then 0 else 1 := by
  unfold addP
  cases h : ps.getLast? with
  | none =>
    have : ps = [] := List.getLast?_eq_none_iff.mp h
    subst this
    simp
  | some p =>
    have hne : ps ≠ [] := fun e => by rw [e] at h; cases h
    have hp := List.length_pos_iff.mpr hne
    by_cases hw : p.2.2 = w
    · simp [hw]; omega
    · simp [hw]
theorem snocI {p : List Int → Prop} (h0 : p []) (h1 : ∀ l a, p l → p (l ++ [a])) (l : List Int) : p l := by
  have : ∀ n (l : List Int), l.length = n → p l := by
    intro n
    induction n with
    | zero => intro l h; rw [List.eq_nil_of_length_eq_zero h]; exact h0
    | succ n ih =>
      intro l h
      have hne : l ≠ [] := fun e => by rw [e] at h; cases h
      rw [← List.dropLast_concat_getLast hne]
      exact h1 _ _ (ih _ (by rw [List.length_dropLast]; omega))
  exact this _ l rfl
/-- lists that rise strictly, of the same members -/
theorem rise_eq : ∀ {L M : List Int}, L.Pairwise (· < ·) → M.Pairwise (· < ·) → (∀ x, x ∈ L ↔ x ∈ M) → L = M
  | [], [], _, _, _ => rfl
  | [], y :: M, _, _, h => by have := (h y).mpr List.mem_cons_self; cases this
  | x :: L, [], _, _, h => by have := (h x).mp List.mem_cons_self; cases this
  | x :: L, y :: M, hL, hM, h => by
    obtain ⟨l1, l2⟩ := List.pairwise_cons.mp hL
    obtain ⟨m1, m2⟩ := List.pairwise_cons.mp hM
    have e : x = y := by
      rcases List.mem_cons.mp ((h x).mp List.mem_cons_self) with a | a
      · exact a
      · rcases List.mem_cons.mp ((h y).mpr List.mem_cons_self) with b | b
        · exact b.symm
        · have := m1 x a; have := l1 y b; omega
    subst e
    refine congrArg _ (rise_eq l2 m2 fun z => ?_)
    have hz := h z
    constructor
    · intro a
      rcases List.mem_cons.mp (hz.mp (List.mem_cons_of_mem _ a)) with b | b
      · subst b; exact absurd (l1 z a) (by omega)
      · exact b
    · intro a
      rcases List.mem_cons.mp (hz.mpr (List.mem_cons_of_mem _ a)) with b | b
      · subst b; exact absurd (m1 z a) (by omega)
      · exact b
theorem mem_rows {l : Int} {b : Bool} {R : List Rdg} {x : Int} : (∃ p ∈ arr (if b then l else 0) b R, p.1 = x) ↔ ∃ r ∈ R, r.2.1 = b ∧ x = r.1 + (if b then l else 0) := by
  constructor
  · rintro ⟨p, hp, rfl⟩
    have := lastOf_mem _ (mem_arr.mp hp)
    unfold rowsOf at this
    obtain ⟨r, hr, e⟩ := List.mem_map.mp this
    obtain ⟨h1, h2⟩ := List.mem_filter.mp hr
    have e1 : r.1 + (if b then l else 0) = p.1 := congrArg Prod.fst e
    exact ⟨r, h1, by simpa using h2, e1.symm⟩
  · rintro ⟨r, hr, hb, rfl⟩
    have hk : ∃ n, lastOf (rowsOf (if b then l else 0) b R) (r.1 + (if b then l else 0)) = some n := by
      have hm : (r.1 + (if b then l else 0), r.2.2) ∈ rowsOf (if b then l else 0) b R := List.mem_map.mpr ⟨r, List.mem_filter.mpr ⟨hr, by simp [hb]⟩, rfl⟩
      revert hm
      generalize rowsOf (if b then l else 0) b R = rows
      generalize r.1 + (if b then l else 0) = k
      refine snoc_ind (p := fun rows => (k, r.2.2) ∈ rows → ∃ n, lastOf rows k = some n) (fun h => by cases h) (fun L a ih hm => ?_) rows
      rw [lastOf_snoc]
      by_cases c : a.1 = k
      · exact ⟨a.2, if_pos c⟩
      · rw [if_neg c]
        rcases List.mem_append.mp hm with z | z
        · exact ih z
        · rw [List.mem_singleton] at z
          rw [← z] at c
          exact absurd rfl c
    obtain ⟨n, hn⟩ := hk
    exact ⟨(_, n), mem_arr.mpr hn, rfl⟩
end Mg
namespace Mg
open PySem L2 Dl
/-- the last piece begins no later than where the next pair does -/
theorem last_le {told : Int → PySem.Str} {E : List Int} (hE : E.Pairwise (· < ·)) : ∀ (i : Nat) (z : Int × Int) (p : Pc), (E.zip E.tail)[i]? = some z → (((E.zip E.tail).take i).foldl (fun ps p => addP ps p.1 p.2 (told p.1)) []).getLast? = some p → p.1 ≤ z.1
  | 0, z, p, _, h => by simp at h
  | i + 1, z, p, hz, h => by
    obtain ⟨h1, _⟩ := List.getElem?_eq_some_iff.mp hz
    have hy : (E.zip E.tail)[i]? = some ((E.zip E.tail)[i]'(by omega)) := List.getElem?_eq_getElem (by omega)
    generalize (E.zip E.tail)[i]'(by omega) = y at hy
    have hlt : y.1 < z.1 := by
      obtain ⟨a1, a2⟩ := List.getElem?_zip_eq_some.mp hz
      obtain ⟨b1, b2⟩ := List.getElem?_zip_eq_some.mp hy
      obtain ⟨c1, c2⟩ := List.getElem?_eq_some_iff.mp a1
      obtain ⟨d1, d2⟩ := List.getElem?_eq_some_iff.mp b1
      rw [← c2, ← d2]
      exact List.pairwise_iff_getElem.mp hE i (i + 1) d1 c1 (by omega)
    rw [take_next hy, List.foldl_append, List.foldl_cons, List.foldl_nil] at h
    generalize hps : ((E.zip E.tail).take i).foldl (fun ps p => addP ps p.1 p.2 (told p.1)) [] = ps at h
    unfold addP at h
    cases hl : ps.getLast? with
    | none =>
      rw [hl] at h
      simp at h; rw [← h]; show y.1 ≤ z.1; omega
    | some p0 =>
      rw [hl] at h
      dsimp only at h
      have := last_le hE i y p0 hy (by rw [hps]; exact hl)
      split at h
      · simp at h; rw [← h]; show p0.1 ≤ z.1; omega
      · simp at h; rw [← h]; show y.1 ≤ z.1; omega
theorem zip_rise {E : List Int} (hE : E.Pairwise (· < ·)) {i : Nat} {z : Int × Int} (hz : (E.zip E.tail)[i]? = some z) : z.1 < z.2 := by
  obtain ⟨a1, a2⟩ := List.getElem?_zip_eq_some.mp hz
  rw [List.getElem?_tail] at a2
  obtain ⟨c1, c2⟩ := List.getElem?_eq_some_iff.mp a1
  obtain ⟨d1, d2⟩ := List.getElem?_eq_some_iff.mp a2
  rw [← c2, ← d2]
  exact List.pairwise_iff_getElem.mp hE i (i + 1) c1 d1 (by omega)
end Mg
namespace Mg
open PySem L2 Dl
def stepF (o : Option Pr) (r : Pr) : Option Pr := if ∀ b, o = some b → b.1 ≤ r.1 then some r else o
theorem best_filter (m : Int) (rows : List Pr) : bestOf rows m = (rows.filter fun r => decide (r.1 ≤ m)).foldl stepF none := by
  refine snoc_ind (p := fun rows => bestOf rows m = (rows.filter fun r => decide (r.1 ≤ m)).foldl stepF none) rfl (fun l r ih => ?_) rows
  rw [bestOf_snoc, List.filter_append, ih]
  unfold stepB
  by_cases h : r.1 ≤ m
  · rw [List.filter_cons_of_pos (by simpa using h), List.filter_nil, List.foldl_append]
    generalize (l.filter fun r => decide (r.1 ≤ m)).foldl stepF none = o
    show _ = stepF o r
    unfold stepF
    by_cases c : ∀ b, o = some b → b.1 ≤ r.1
    · rw [if_pos ⟨h, c⟩, if_pos c]
    · rw [if_neg (fun z => c z.2), if_neg c]
  · rw [List.filter_cons_of_neg (by simpa using h), List.filter_nil, List.append_nil, if_neg (fun z => h z.1)]
theorem last_cong {P Q : List Pr} {m m' : Int} (h : (P.filter fun r => decide (r.1 ≤ m)) = Q.filter fun r => decide (r.1 ≤ m')) : lastNum P m = lastNum Q m' := by
  unfold lastNum
  rw [best_filter, best_filter, h]
theorem last_const {P : List Pr} {a y : Int} (hay : a ≤ y) (h : ∀ r ∈ P, ¬ (a < r.1 ∧ r.1 ≤ y)) : lastNum P a = lastNum P y :=
  last_cong (List.filter_congr fun r hr => by
    have := h r hr
    simp only [decide_eq_decide]
    omega)
theorem rows_isT {l x : Int} {b : Bool} {R : List Rdg} {r : Pr} (h : r ∈ rowsOf (if b = true then l else 0) b R) : isT l R r.1 := by
  unfold rowsOf at h
  obtain ⟨q, hq, rfl⟩ := List.mem_map.mp h
  obtain ⟨h1, h2⟩ := List.mem_filter.mp hq
  have h2 : q.2.1 = b := by simpa using h2
  exact ⟨q, h1, by rw [h2]⟩
theorem st_const {l h t n k a y : Int} {R : List Rdg} (hay : a ≤ y) (hT : ∀ x, isT l R x → ¬ (a < x ∧ x ≤ y)) : stS l h t n k R a = stS l h t n k R y := by
  unfold stS
  rw [last_const (P := rowsOf l true R) hay fun r hr => hT _ (rows_isT (b := true) (x := 0) hr), last_const (P := rowsOf 0 false R) hay fun r hr => hT _ (rows_isT (b := false) (l := l) (x := 0) hr)]
theorem zip_no {x : Int} : ∀ {E : List Int}, E.Pairwise (· < ·) → ∀ z ∈ E.zip E.tail, x ∈ E → ¬ (z.1 < x ∧ x < z.2)
  | [], _, z, hz, _ => by simp at hz
  | [y], _, z, hz, _ => by simp at hz
  | y :: w :: L, hE, z, hz, hx => by
    obtain ⟨h1, h2⟩ := List.pairwise_cons.mp hE
    rw [List.tail_cons, List.zip_cons_cons] at hz
    rcases List.mem_cons.mp hz with e | hz
    · subst e
      rcases List.mem_cons.mp hx with e | hx
      · dsimp only; omega
      · rcases List.mem_cons.mp hx with e | hx
        · dsimp only; omega
        · have := (List.pairwise_cons.mp h2).1 x hx
          dsimp only; omega
    · rcases List.mem_cons.mp hx with e | hx
      · have := h1 _ (List.of_mem_zip hz).1
        omega
      · exact zip_no h2 z hz hx
theorem zip_lt {E : List Int} (hE : E.Pairwise (· < ·)) : ∀ z ∈ E.zip E.tail, z.1 < z.2 ∧ z.1 ∈ E ∧ z.2 ∈ E := fun z hz => by
  obtain ⟨i, hi, e⟩ := List.getElem_of_mem hz
  refine ⟨zip_rise hE (i := i) (by rw [List.getElem?_eq_getElem hi, e]), (List.of_mem_zip hz).1, List.mem_of_mem_tail (List.of_mem_zip hz).2⟩
end Mg
namespace Mg
open PySem L2 Dl
def Goes (told : Int → PySem.Str) : Option PySem.Str → Int → List Pc → Int → Prop
  | _, s, [], u => s = u
  | ah, s, p :: ps, u => p.1 = s ∧ p.1 < p.2.1 ∧ (∀ m, p.1 ≤ m → m < p.2.1 → told m = p.2.2) ∧ ah ≠ some p.2.2 ∧ Goes told (some p.2.2) p.2.1 ps u
theorem Goes.le {told : Int → PySem.Str} : ∀ {ps : List Pc} {ah : Option PySem.Str} {s u : Int}, Goes told ah s ps u → s ≤ u
  | [], _, _, _, h => by rw [show _ = _ from h]; exact Int.le_refl _
  | p :: ps, _, _, _, ⟨h1, h2, _, _, h3⟩ => by have := Goes.le h3; omega
theorem Goes.mem {told : Int → PySem.Str} : ∀ {ps : List Pc} {ah : Option PySem.Str} {s u : Int}, Goes told ah s ps u → ∀ p ∈ ps, s ≤ p.1 ∧ p.1 < p.2.1 ∧ p.2.1 ≤ u ∧ told p.1 = p.2.2
  | [], _, _, _, _, p, hp => nomatch hp
  | q :: ps, _, _, _, ⟨h1, h2, h3, _, h4⟩, p, hp => by
    rcases List.mem_cons.mp hp with rfl | hp
    · exact ⟨by omega, h2, Goes.le h4, h3 _ (Int.le_refl _) h2⟩
    · have := Goes.mem h4 p hp
      exact ⟨by omega, this.2.1, this.2.2.1, this.2.2.2⟩
theorem Goes.snoc {told : Int → PySem.Str} {u v : Int} {w : PySem.Str} (hv : u < v) (hw : ∀ m, u ≤ m → m < v → told m = w) : ∀ {ps : List Pc} {ah : Option PySem.Str} {s : Int}, Goes told ah s ps u → ((ps.getLast?.map (·.2.2)).or ah ≠ some w) → Goes told ah s (ps ++ [(u, v, w)]) v
  | [], ah, s, h, hl => ⟨(show s = u from h).symm, hv, hw, by simpa using hl, rfl⟩
  | p :: ps, ah, s, ⟨h1, h2, h3, h4, h5⟩, hl => by
    refine ⟨h1, h2, h3, h4, Goes.snoc hv hw h5 ?_⟩
    cases ps with
    | nil => simpa using hl
    | cons q qs =>
      rw [List.getLast?_cons_cons, List.getLast?_cons] at hl
      rw [List.getLast?_cons]
      exact hl
theorem Goes.unsnoc {told : Int → PySem.Str} {p : Pc} {u : Int} : ∀ {ps : List Pc} {ah : Option PySem.Str} {s : Int}, Goes told ah s (ps ++ [p]) u → Goes told ah s ps p.1 ∧ p.1 < p.2.1 ∧ p.2.1 = u ∧ (∀ m, p.1 ≤ m → m < p.2.1 → told m = p.2.2) ∧ (ps.getLast?.map (·.2.2)).or ah ≠ some p.2.2
  | [], ah, s, ⟨h1, h2, h3, h4, h5⟩ => ⟨h1.symm, h2, h5, h3, by simpa using h4⟩
  | q :: ps, ah, s, ⟨h1, h2, h3, h4, h5⟩ => by
    obtain ⟨a1, a2, a3, a4, a5⟩ := Goes.unsnoc h5
    refine ⟨⟨h1, h2, h3, h4, a1⟩, a2, a3, a4, ?_⟩
    cases ps with
    | nil => simpa using a5
    | cons q qs =>
      rw [List.getLast?_cons] at a5
      rw [List.getLast?_cons_cons, List.getLast?_cons]
      exact a5
theorem Goes.add {told : Int → PySem.Str} {ps : List Pc} {s u v : Int} (h : Goes told none s ps u) (hv : u < v) (hw : ∀ m, u ≤ m → m < v → told m = told u) : Goes told none s (addP ps u v (told u)) v := by
  unfold addP
  cases hl : ps.getLast? with
  | none =>
    obtain rfl := List.getLast?_eq_none_iff.mp hl
    exact Goes.snoc hv hw h (by simp)
  | some p =>
    dsimp only
    obtain ⟨qs, rfl⟩ := List.getLast?_eq_some_iff.mp hl
    by_cases c : p.2.2 = told u
    · rw [if_pos c, List.dropLast_concat]
      obtain ⟨a1, a2, a3, a4, a5⟩ := Goes.unsnoc h
      rw [← c]
      refine Goes.snoc (by omega) (fun m m1 m2 => ?_) a1 a5
      by_cases hm : m < u
      · exact a4 m m1 (by omega)
      · rw [hw m (by omega) m2, c]
    · rw [if_neg c]
      exact Goes.snoc hv hw h (by rw [hl]; simpa using c)
theorem goes_fold {told : Int → PySem.Str} {s : Int} : ∀ (F : List Int) (x : Int), (F ++ [x]).Pairwise (· < ·) → (F ++ [x]).head? = some s → (∀ z ∈ (F ++ [x]).zip (F ++ [x]).tail, ∀ m, z.1 ≤ m → m < z.2 → told m = told z.1) → Goes told none s (pieces told (F ++ [x])) x := by
  intro F
  refine snocI (p := fun F => ∀ x, (F ++ [x]).Pairwise (· < ·) → (F ++ [x]).head? = some s → (∀ z ∈ (F ++ [x]).zip (F ++ [x]).tail, ∀ m, z.1 ≤ m → m < z.2 → told m = told z.1) → Goes told none s (pieces told (F ++ [x])) x) ?_ ?_ F
  · intro x _ hh _
    rw [show (([] : List Int) ++ [x]).head? = some x from rfl] at hh
    cases hh
    exact rfl
  · intro F y ih x pw hh hc
    rw [pieces_snoc]
    have hz := zip_tail F y x
    have pw1 : (F ++ [y]).Pairwise (· < ·) := (List.pairwise_append.mp pw).1
    have hlt : y < x := (List.pairwise_append.mp pw).2.2 y (by simp) x (by simp)
    have hh1 : (F ++ [y]).head? = some s := by
      cases F with
      | nil => simpa using hh
      | cons a F => simpa using hh
    have h1 := ih y pw1 hh1 fun z hz' => hc z (by rw [hz]; exact List.mem_append_left _ hz')
    exact Goes.add h1 hlt fun m m1 m2 => hc (y, x) (by rw [hz]; exact List.mem_append_right _ (by simp)) m m1 m2
theorem goes_pieces {l h t n k s u : Int} {R : List Rdg} {E : List Int} (h1 : E.Pairwise (· < ·)) (h2 : ∀ x, x ∈ E ↔ x = s ∨ x = u ∨ (s < x ∧ x < u ∧ isT l R x)) (hsu : s ≤ u) : Goes (stS l h t n k R) none s (pieces (stS l h t n k R) E) u := by
  have hc : ∀ z ∈ E.zip E.tail, ∀ m, z.1 ≤ m → m < z.2 → stS l h t n k R m = stS l h t n k R z.1 := fun z hz m m1 m2 => by
    obtain ⟨z1, z2, z3⟩ := zip_lt h1 z hz
    refine (st_const m1 fun x hx ⟨c1, c2⟩ => ?_).symm
    have b1 := (h2 z.1).mp z2
    have b2 := (h2 z.2).mp z3
    have : x ∈ E := (h2 x).mpr (.inr (.inr ⟨by rcases b1 with b | b | b <;> omega, by rcases b2 with b | b | b <;> omega, hx⟩))
    exact zip_no h1 z hz this ⟨c1, by omega⟩
  have hu : u ∈ E := (h2 u).mpr (.inr (.inl rfl))
  have hs : s ∈ E := (h2 s).mpr (.inl rfl)
  cases hE : E.getLast? with
  | none => rw [List.getLast?_eq_none_iff.mp hE] at hu; cases hu
  | some e =>
    obtain ⟨F, rfl⟩ := List.getLast?_eq_some_iff.mp hE
    have pp := List.pairwise_append.mp h1
    have eu : e = u := by
      rcases List.mem_append.mp hu with z | z
      · have a := pp.2.2 u z e (by simp)
        rcases (h2 e).mp (by simp) with b | b | b <;> omega
      · exact (List.mem_singleton.mp z).symm
    subst eu
    refine goes_fold F e h1 ?_ hc
    cases F with
    | nil =>
      have : s = e := by simpa using hs
      rw [this]; rfl
    | cons a F =>
      rw [List.cons_append, List.head?_cons]
      have ha := (h2 a).mp (by simp)
      rw [List.cons_append] at h1
      rcases List.mem_cons.mp hs with z | z
      · rw [z]
      · have := (List.pairwise_cons.mp h1).1 s z
        rcases ha with b | b | b <;> omega
theorem pieces_len {told : Int → PySem.Str} {E : List Int} : (pieces told E).length ≤ E.length := by
  have : ∀ (Z : List (Int × Int)) (ps : List Pc), (Z.foldl (fun ps p => addP ps p.1 p.2 (told p.1)) ps).length ≤ ps.length + Z.length := fun Z => by
    induction Z with
    | nil => intro ps; exact Nat.le_refl _
    | cons z Z ih =>
      intro ps
      rw [List.foldl_cons, List.length_cons]
      have a := ih (addP ps z.1 z.2 (told z.1))
      have b := addP_len ps z.1 z.2 (told z.1)
      split at b <;> omega
  have := this (E.zip E.tail) []
  rw [List.length_nil, Nat.zero_add] at this
  refine Nat.le_trans this ?_
  rw [List.length_zip]
  omega
theorem edges_le {l s u : Int} {R : List Rdg} {E : List Int} (h1 : E.Pairwise (· < ·)) (h2 : ∀ x, x ∈ E ↔ x = s ∨ x = u ∨ (s < x ∧ x < u ∧ isT l R x)) : E.length ≤ R.length + 2 := by
  have := nodup_len (l := E) (m := s :: u :: R.map fun r => r.1 + if r.2.1 = true then l else 0) (h1.imp fun z => by omega) fun y hy => by
    rcases (h2 y).mp hy with e | e | ⟨_, _, r, hr, e⟩
    · rw [e]; exact List.mem_cons_self
    · rw [e]; exact List.mem_cons_of_mem _ List.mem_cons_self
    · exact List.mem_cons_of_mem _ (List.mem_cons_of_mem _ (List.mem_map.mpr ⟨r, hr, e.symm⟩))
  simpa using this
def edg (l : Int) (R : List Rdg) : List Int := R.map fun r => r.1 + if r.2.1 = true then l else 0
end Mg
namespace Lw
open PySem L2 Dl
def top (i : Nat) : Stmt := PySem.Challenge.pw_boatbridge_k43_stands_within_stretches.main.body.getD i (.Pass ⟨0, 0, 0, 0⟩)
abbrev s_Stretch_init : Stmt := (inClass (top 9) 0)
abbrev N_Stretch_init : List Str := ["self", "first", "behind"]
abbrev ps_Stretch_init : List Str := ["self", "first", "behind"]
theorem sc_Stretch_init : FnScope N_Stretch_init ps_Stretch_init (defScope s_Stretch_init) := ⟨rfl, rfl, rfl, by decide +kernel, rfl, by decide +kernel, by decide +kernel⟩
abbrev dv_Stretch_init : List V := [.non]
theorem dfv_Stretch_init : DfV [.non] dv_Stretch_init := fun _ _ _ _ => by simp [Reps, Rep]
abbrev s_Stretch_len : Stmt := (inClass (top 9) 1)
abbrev N_Stretch_len : List Str := ["self"]
abbrev ps_Stretch_len : List Str := ["self"]
theorem sc_Stretch_len : FnScope N_Stretch_len ps_Stretch_len (defScope s_Stretch_len) := ⟨rfl, rfl, rfl, by decide +kernel, rfl, by decide +kernel, by decide +kernel⟩
abbrev dv_Stretch_len : List V := []
abbrev s_Stretch_eq : Stmt := (inClass (top 9) 2)
abbrev N_Stretch_eq : List Str := ["self", "other"]
abbrev ps_Stretch_eq : List Str := ["self", "other"]
theorem sc_Stretch_eq : FnScope N_Stretch_eq ps_Stretch_eq (defScope s_Stretch_eq) := ⟨rfl, rfl, rfl, by decide +kernel, rfl, by decide +kernel, by decide +kernel⟩
abbrev dv_Stretch_eq : List V := []
abbrev s_Stretch_repr : Stmt := (inClass (top 9) 3)
abbrev N_Stretch_repr : List Str := ["self"]
abbrev ps_Stretch_repr : List Str := ["self"]
theorem sc_Stretch_repr : FnScope N_Stretch_repr ps_Stretch_repr (defScope s_Stretch_repr) := ⟨rfl, rfl, rfl, by decide +kernel, rfl, by decide +kernel, by decide +kernel⟩
abbrev dv_Stretch_repr : List V := []
abbrev s_number_at : Stmt := (top 11)
abbrev N_number_at : List Str := ["rows", "minute", "row"]
abbrev ps_number_at : List Str := ["rows", "minute"]
theorem sc_number_at : FnScope N_number_at ps_number_at (defScope s_number_at) := ⟨rfl, rfl, rfl, by decide +kernel, rfl, by decide +kernel, by decide +kernel⟩
abbrev dv_number_at : List V := []
abbrev s_Gauge_init : Stmt := (inClass (top 12) 0)
abbrev N_Gauge_init : List Str := ["self", "lag", "high", "top", "thin", "thick"]
abbrev ps_Gauge_init : List Str := ["self", "lag", "high", "top", "thin", "thick"]
theorem sc_Gauge_init : FnScope N_Gauge_init ps_Gauge_init (defScope s_Gauge_init) := ⟨rfl, rfl, rfl, by decide +kernel, rfl, by decide +kernel, by decide +kernel⟩
abbrev dv_Gauge_init : List V := [.int 60, .int 200, .int 400, .int 5, .int 20]
theorem dfv_Gauge_init : DfV [.int 60, .int 200, .int 400, .int 5, .int 20] dv_Gauge_init := fun _ _ _ _ => by simp [Reps, Rep]
abbrev s_Gauge_arrivals : Stmt := (inClass (top 12) 1)
abbrev N_Gauge_arrivals : List Str := ["self", "readings", "wanted", "later", "found", "minute", "kind", "number"]
abbrev ps_Gauge_arrivals : List Str := ["self", "readings", "wanted"]
theorem sc_Gauge_arrivals : FnScope N_Gauge_arrivals ps_Gauge_arrivals (defScope s_Gauge_arrivals) := ⟨rfl, rfl, rfl, by decide +kernel, rfl, by decide +kernel, by decide +kernel⟩
abbrev dv_Gauge_arrivals : List V := []
abbrev s_Gauge_stand_by : Stmt := (inClass (top 12) 2)
abbrev N_Gauge_stand_by : List Str := ["self", "water", "ice"]
abbrev ps_Gauge_stand_by : List Str := ["self", "water", "ice"]
theorem sc_Gauge_stand_by : FnScope N_Gauge_stand_by ps_Gauge_stand_by (defScope s_Gauge_stand_by) := ⟨rfl, rfl, rfl, by decide +kernel, rfl, by decide +kernel, by decide +kernel⟩
abbrev dv_Gauge_stand_by : List V := []
abbrev s_Gauge_stands : Stmt := (inClass (top 12) 4)
abbrev N_Gauge_stands : List Str := ["self", "readings", "within", "rows", "edges", "found", "first", "behind", "told", "kind", "row"]
abbrev ps_Gauge_stands : List Str := ["self", "readings", "within"]
theorem sc_Gauge_stands : FnScope N_Gauge_stands ps_Gauge_stands (defScope s_Gauge_stands) := ⟨rfl, rfl, rfl, by decide +kernel, rfl, by decide +kernel, by decide +kernel⟩
abbrev dv_Gauge_stands : List V := []
abbrev s__law_feed : Stmt := (top 14)
abbrev N__law_feed : List Str := ["_law_script"]
abbrev ps__law_feed : List Str := ["_law_script"]
theorem sc__law_feed : FnScope N__law_feed ps__law_feed (defScope s__law_feed) := ⟨rfl, rfl, rfl, by decide +kernel, rfl, by decide +kernel, by decide +kernel⟩
abbrev dv__law_feed : List V := []
abbrev s__law_draw : Stmt := (top 15)
abbrev N__law_draw : List Str := ["_law_feed_here", "_law_many", "_law_found", "_law_spot", "_law_cell", "_law_mixed"]
abbrev ps__law_draw : List Str := ["_law_feed_here", "_law_many"]
theorem sc__law_draw : FnScope N__law_draw ps__law_draw (defScope s__law_draw) := ⟨rfl, rfl, rfl, by decide +kernel, rfl, by decide +kernel, by decide +kernel⟩
abbrev dv__law_draw : List V := []
abbrev s__law_of : Stmt := (top 16)
abbrev N__law_of : List Str := ["_law_feed_here", "_law_some"]
abbrev ps__law_of : List Str := ["_law_feed_here", "_law_some"]
theorem sc__law_of : FnScope N__law_of ps__law_of (defScope s__law_of) := ⟨rfl, rfl, rfl, by decide +kernel, rfl, by decide +kernel, by decide +kernel⟩
abbrev dv__law_of : List V := []
abbrev s__law_readings : Stmt := (top 17)
abbrev N__law_readings : List Str := ["_law_feed_here", "_law_many", "_law_base", "_law_found", "_law_k", "_law_moment", "_law_number"]
abbrev ps__law_readings : List Str := ["_law_feed_here", "_law_many"]
theorem sc__law_readings : FnScope N__law_readings ps__law_readings (defScope s__law_readings) := ⟨rfl, rfl, rfl, by decide +kernel, rfl, by decide +kernel, by decide +kernel⟩
abbrev dv__law_readings : List V := []
abbrev s__law_bounds : Stmt := (top 18)
abbrev N__law_bounds : List Str := ["_law_feed_here", "_law_lag_drawn", "_law_waters", "_law_ices", "_law_k"]
abbrev ps__law_bounds : List Str := ["_law_feed_here"]
theorem sc__law_bounds : FnScope N__law_bounds ps__law_bounds (defScope s__law_bounds) := ⟨rfl, rfl, rfl, by decide +kernel, rfl, by decide +kernel, by decide +kernel⟩
abbrev dv__law_bounds : List V := []
abbrev s__law_last : Stmt := (top 19)
abbrev N__law_last : List Str := ["_law_rows", "_law_moment", "_law_best", "_law_when", "_law_number"]
abbrev ps__law_last : List Str := ["_law_rows", "_law_moment"]
theorem sc__law_last : FnScope N__law_last ps__law_last (defScope s__law_last) := ⟨rfl, rfl, rfl, by decide +kernel, rfl, by decide +kernel, by decide +kernel⟩
abbrev dv__law_last : List V := []
abbrev s__law_stand : Stmt := (top 20)
abbrev N__law_stand : List Str := ["_law_bounds_here", "_law_came", "_law_moment", "_law_water", "_law_ice", "_law_row"]
abbrev ps__law_stand : List Str := ["_law_bounds_here", "_law_came", "_law_moment"]
theorem sc__law_stand : FnScope N__law_stand ps__law_stand (defScope s__law_stand) := ⟨rfl, rfl, rfl, by decide +kernel, rfl, by decide +kernel, by decide +kernel⟩
abbrev dv__law_stand : List V := []
abbrev s__law_edges : Stmt := (top 21)
abbrev N__law_edges : List Str := ["_law_bounds_here", "_law_came", "_law_row"]
abbrev ps__law_edges : List Str := ["_law_bounds_here", "_law_came"]
theorem sc__law_edges : FnScope N__law_edges ps__law_edges (defScope s__law_edges) := ⟨rfl, rfl, rfl, by decide +kernel, rfl, by decide +kernel, by decide +kernel⟩
abbrev dv__law_edges : List V := []
abbrev s__law_right : Stmt := (top 22)
abbrev N__law_right : List Str := ["_law_bounds_here", "_law_came", "_law_told", "_law_start", "_law_upto", "_law_here", "_law_ahead", "_law_stretch", "_law_word", "_law_inner", "_law_moment", "_law_edge"]
abbrev ps__law_right : List Str := ["_law_bounds_here", "_law_came", "_law_told", "_law_start", "_law_upto"]
theorem sc__law_right : FnScope N__law_right ps__law_right (defScope s__law_right) := ⟨rfl, rfl, rfl, by decide +kernel, rfl, by decide +kernel, by decide +kernel⟩
abbrev dv__law_right : List V := []
abbrev s_law : Stmt := (top 23)
abbrev N_law : List Str := ["_law_script", "_law_feed_here", "_law_k", "_law_bounds_here", "_law_gauge", "_law_some", "_law_edges_here", "_law_held", "_law_turns", "_law_start", "_law_upto", "_law_handed", "_law_stretch", "_law_told", "_law_again", "_law_one", "_law_kept"]
abbrev ps_law : List Str := ["_law_script"]
theorem sc_law : FnScope N_law ps_law (defScope s_law) := ⟨rfl, rfl, rfl, by decide +kernel, rfl, by decide +kernel, by decide +kernel⟩
abbrev dv_law : List V := []
structure Ad where
  C_Stretch : Addr
  C_Gauge : Addr
theorem bnd_Gauge_arrivals_2_wanted : Bnd "arrivals" "Gauge.arrivals" s_Gauge_arrivals ps_Gauge_arrivals 2 ["wanted"] [.p 0, .p 1, .k 0] dv_Gauge_arrivals.length := .zero fun _ _ _ _ _ _ us ws h1 h2 => match us, ws, h1, h2 with | [_, _], [_], _, _ => rfl
theorem bnd_Gauge_stand_by_3 : Bnd "stand_by" "Gauge.stand_by" s_Gauge_stand_by ps_Gauge_stand_by 3 [] [.p 0, .p 1, .p 2] dv_Gauge_stand_by.length := .zero fun _ _ _ _ _ _ us ws h1 h2 => match us, ws, h1, h2 with | [_, _, _], [], _, _ => rfl
theorem bnd_number_at_2 : Bnd "number_at" "number_at" s_number_at ps_number_at 2 [] [.p 0, .p 1] dv_number_at.length := .zero fun _ _ _ _ _ _ us ws h1 h2 => match us, ws, h1, h2 with | [_, _], [], _, _ => rfl
theorem bnd_Stretch_init_3 : Bnd "__init__" "Stretch.__init__" s_Stretch_init ps_Stretch_init 3 [] [.p 0, .p 1, .p 2] dv_Stretch_init.length := .more 0 fun _ _ _ _ _ _ _ us its ws h1 h2 h3 => match us, its, ws, h1, h2, h3 with | [_, _, _], [_], [], _, _, _ => ⟨_, rfl, rfl⟩
theorem bnd__law_draw_2 : Bnd "_law_draw" "_law_draw" s__law_draw ps__law_draw 2 [] [.p 0, .p 1] dv__law_draw.length := .zero fun _ _ _ _ _ _ us ws h1 h2 => match us, ws, h1, h2 with | [_, _], [], _, _ => rfl
theorem bnd__law_of_2 : Bnd "_law_of" "_law_of" s__law_of ps__law_of 2 [] [.p 0, .p 1] dv__law_of.length := .zero fun _ _ _ _ _ _ us ws h1 h2 => match us, ws, h1, h2 with | [_, _], [], _, _ => rfl
theorem bnd__law_last_2 : Bnd "_law_last" "_law_last" s__law_last ps__law_last 2 [] [.p 0, .p 1] dv__law_last.length := .zero fun _ _ _ _ _ _ us ws h1 h2 => match us, ws, h1, h2 with | [_, _], [], _, _ => rfl
theorem bnd_Stretch_len_1 : Bnd "__len__" "Stretch.__len__" s_Stretch_len ps_Stretch_len 1 [] [.p 0] dv_Stretch_len.length := .zero fun _ _ _ _ _ _ us ws h1 h2 => match us, ws, h1, h2 with | [_], [], _, _ => rfl
theorem bnd__law_edges_2 : Bnd "_law_edges" "_law_edges" s__law_edges ps__law_edges 2 [] [.p 0, .p 1] dv__law_edges.length := .zero fun _ _ _ _ _ _ us ws h1 h2 => match us, ws, h1, h2 with | [_, _], [], _, _ => rfl
theorem bnd__law_stand_3 : Bnd "_law_stand" "_law_stand" s__law_stand ps__law_stand 3 [] [.p 0, .p 1, .p 2] dv__law_stand.length := .zero fun _ _ _ _ _ _ us ws h1 h2 => match us, ws, h1, h2 with | [_, _, _], [], _, _ => rfl
theorem bnd__law_feed_1 : Bnd "_law_feed" "_law_feed" s__law_feed ps__law_feed 1 [] [.p 0] dv__law_feed.length := .zero fun _ _ _ _ _ _ us ws h1 h2 => match us, ws, h1, h2 with | [_], [], _, _ => rfl
theorem bnd__law_bounds_1 : Bnd "_law_bounds" "_law_bounds" s__law_bounds ps__law_bounds 1 [] [.p 0] dv__law_bounds.length := .zero fun _ _ _ _ _ _ us ws h1 h2 => match us, ws, h1, h2 with | [_], [], _, _ => rfl
theorem bnd_Gauge_init_6 : Bnd "__init__" "Gauge.__init__" s_Gauge_init ps_Gauge_init 6 [] [.p 0, .p 1, .p 2, .p 3, .p 4, .p 5] dv_Gauge_init.length := .more 4 fun _ _ _ _ _ _ _ us its ws h1 h2 h3 => match us, its, ws, h1, h2, h3 with | [_, _, _, _, _, _], [_, _, _, _, _], [], _, _, _ => ⟨_, rfl, rfl⟩
theorem bnd__law_readings_2 : Bnd "_law_readings" "_law_readings" s__law_readings ps__law_readings 2 [] [.p 0, .p 1] dv__law_readings.length := .zero fun _ _ _ _ _ _ us ws h1 h2 => match us, ws, h1, h2 with | [_, _], [], _, _ => rfl
theorem bnd_Gauge_stands_3 : Bnd "stands" "Gauge.stands" s_Gauge_stands ps_Gauge_stands 3 [] [.p 0, .p 1, .p 2] dv_Gauge_stands.length := .zero fun _ _ _ _ _ _ us ws h1 h2 => match us, ws, h1, h2 with | [_, _, _], [], _, _ => rfl
theorem bnd__law_right_5 : Bnd "_law_right" "_law_right" s__law_right ps__law_right 5 [] [.p 0, .p 1, .p 2, .p 3, .p 4] dv__law_right.length := .zero fun _ _ _ _ _ _ us ws h1 h2 => match us, ws, h1, h2 with | [_, _, _, _, _], [], _, _ => rfl
theorem bnd_Gauge_stands_1_within_readings : Bnd "stands" "Gauge.stands" s_Gauge_stands ps_Gauge_stands 1 ["within", "readings"] [.p 0, .k 1, .k 0] dv_Gauge_stands.length := .zero fun _ _ _ _ _ _ us ws h1 h2 => match us, ws, h1, h2 with | [_], [_, _], _, _ => rfl
theorem bnd_Stretch_repr_1 : Bnd "__repr__" "Stretch.__repr__" s_Stretch_repr ps_Stretch_repr 1 [] [.p 0] dv_Stretch_repr.length := .zero fun _ _ _ _ _ _ us ws h1 h2 => match us, ws, h1, h2 with | [_], [], _, _ => rfl
theorem bnd_Stretch_eq_2 : Bnd "__eq__" "Stretch.__eq__" s_Stretch_eq ps_Stretch_eq 2 [] [.p 0, .p 1] dv_Stretch_eq.length := .zero fun _ _ _ _ _ _ us ws h1 h2 => match us, ws, h1, h2 with | [_, _], [], _, _ => rfl
theorem bnd_Gauge_init_1 : Bnd "__init__" "Gauge.__init__" s_Gauge_init ps_Gauge_init 1 [] [.p 0, .d 0, .d 1, .d 2, .d 3, .d 4] dv_Gauge_init.length := .more 4 fun _ _ _ _ _ _ _ us its ws h1 h2 h3 => match us, its, ws, h1, h2, h3 with | [_], [_, _, _, _, _], [], _, _, _ => ⟨_, rfl, rfl⟩
structure Txt (K : PySem.W.Frag) (mg : Str → Option Value) (a : Ad) : Prop where
  b_Stretch_init : MkB K a.C_Stretch "Stretch.__init__" s_Stretch_init dv_Stretch_init
  b_Stretch_len : MtB K a.C_Stretch "__len__" "Stretch.__len__" s_Stretch_len dv_Stretch_len
  b_Stretch_eq : MtB K a.C_Stretch "__eq__" "Stretch.__eq__" s_Stretch_eq dv_Stretch_eq
  b_Stretch_repr : MtB K a.C_Stretch "__repr__" "Stretch.__repr__" s_Stretch_repr dv_Stretch_repr
  b_number_at : FnB K mg "number_at" s_number_at dv_number_at
  b_Gauge_init : MkB K a.C_Gauge "Gauge.__init__" s_Gauge_init dv_Gauge_init
  b_Gauge_arrivals : MtB K a.C_Gauge "arrivals" "Gauge.arrivals" s_Gauge_arrivals dv_Gauge_arrivals
  b_Gauge_stand_by : MtB K a.C_Gauge "stand_by" "Gauge.stand_by" s_Gauge_stand_by dv_Gauge_stand_by
  b_Gauge_stands : MtB K a.C_Gauge "stands" "Gauge.stands" s_Gauge_stands dv_Gauge_stands
  b__law_feed : FnB K mg "_law_feed" s__law_feed dv__law_feed
  b__law_draw : FnB K mg "_law_draw" s__law_draw dv__law_draw
  b__law_of : FnB K mg "_law_of" s__law_of dv__law_of
  b__law_readings : FnB K mg "_law_readings" s__law_readings dv__law_readings
  b__law_bounds : FnB K mg "_law_bounds" s__law_bounds dv__law_bounds
  b__law_last : FnB K mg "_law_last" s__law_last dv__law_last
  b__law_stand : FnB K mg "_law_stand" s__law_stand dv__law_stand
  b__law_edges : FnB K mg "_law_edges" s__law_edges dv__law_edges
  b__law_right : FnB K mg "_law_right" s__law_right dv__law_right
  b_law : FnB K mg "law" s_law dv_law
  mC_Stretch : mg "Stretch" = some (.ref a.C_Stretch)
  cl_Stretch : Cls K a.C_Stretch
  mC_Gauge : mg "Gauge" = some (.ref a.C_Gauge)
  cl_Gauge : Cls K a.C_Gauge
  no_int : mg "int" = none
  no_isinstance : mg "isinstance" = none
  no_len : mg "len" = none
  no_list : mg "list" = none
  no_max : mg "max" = none
  no_range : mg "range" = none
  no_repr : mg "repr" = none
  no_set : mg "set" = none
  no_sorted : mg "sorted" = none
  no_zip : mg "zip" = none
  f_Stretch_first : FldOk K a.C_Stretch "first"
  f_Stretch_behind : FldOk K a.C_Stretch "behind"
  f_Gauge_lag : FldOk K a.C_Gauge "lag"
  f_Gauge_high : FldOk K a.C_Gauge "high"
  f_Gauge_top : FldOk K a.C_Gauge "top"
  f_Gauge_thin : FldOk K a.C_Gauge "thin"
  f_Gauge_thick : FldOk K a.C_Gauge "thick"
  kb_Stretch : KitB K a.C_Stretch
  kc_Stretch_Stretch : KitC K a.C_Stretch a.C_Stretch true
  kc_Gauge_Stretch : KitC K a.C_Gauge a.C_Stretch false
  is_Stretch : IsC K a.C_Stretch
  is_Gauge : IsC K a.C_Gauge
theorem st_Stretch_init (d0 d1 d2 : D) : startD N_Stretch_init [d0, d1, d2] = [some d0, some d1, some d2] := rfl
theorem st_Stretch_len (d0 : D) : startD N_Stretch_len [d0] = [some d0] := rfl
theorem st_Stretch_eq (d0 d1 : D) : startD N_Stretch_eq [d0, d1] = [some d0, some d1] := rfl
theorem st_Stretch_repr (d0 : D) : startD N_Stretch_repr [d0] = [some d0] := rfl
theorem st_number_at (d0 d1 : D) : startD N_number_at [d0, d1] = [some d0, some d1, none] := rfl
theorem st_Gauge_init (d0 d1 d2 d3 d4 d5 : D) : startD N_Gauge_init [d0, d1, d2, d3, d4, d5] = [some d0, some d1, some d2, some d3, some d4, some d5] := rfl
theorem st_Gauge_arrivals (d0 d1 d2 : D) : startD N_Gauge_arrivals [d0, d1, d2] = [some d0, some d1, some d2, none, none, none, none, none] := rfl
theorem st_Gauge_stand_by (d0 d1 d2 : D) : startD N_Gauge_stand_by [d0, d1, d2] = [some d0, some d1, some d2] := rfl
theorem st_Gauge_stands (d0 d1 d2 : D) : startD N_Gauge_stands [d0, d1, d2] = [some d0, some d1, some d2, none, none, none, none, none, none, none, none] := rfl
theorem st__law_feed (d0 : D) : startD N__law_feed [d0] = [some d0] := rfl
theorem st__law_draw (d0 d1 : D) : startD N__law_draw [d0, d1] = [some d0, some d1, none, none, none, none] := rfl
theorem st__law_of (d0 d1 : D) : startD N__law_of [d0, d1] = [some d0, some d1] := rfl
theorem st__law_readings (d0 d1 : D) : startD N__law_readings [d0, d1] = [some d0, some d1, none, none, none, none, none] := rfl
theorem st__law_bounds (d0 : D) : startD N__law_bounds [d0] = [some d0, none, none, none, none] := rfl
theorem st__law_last (d0 d1 : D) : startD N__law_last [d0, d1] = [some d0, some d1, none, none, none] := rfl
theorem st__law_stand (d0 d1 d2 : D) : startD N__law_stand [d0, d1, d2] = [some d0, some d1, some d2, none, none, none] := rfl
theorem st__law_edges (d0 d1 : D) : startD N__law_edges [d0, d1] = [some d0, some d1, none] := rfl
theorem st__law_right (d0 d1 d2 d3 d4 : D) : startD N__law_right [d0, d1, d2, d3, d4] = [some d0, some d1, some d2, some d3, some d4, none, none, none, none, none, none, none] := rfl
theorem st_law (d0 : D) : startD N_law [d0] = [some d0, none, none, none, none, none, none, none, none, none, none, none, none, none, none, none, none] := rfl
end Lw
namespace Lw
open PySem L2 Dl
def hd_Stretch_init : He.DefD := ⟨("Stretch", some "__init__"), "__init__", "Stretch.__init__", defArgs s_Stretch_init, defBody s_Stretch_init, defScope s_Stretch_init, [.non], []⟩
def hd_Stretch_len : He.DefD := ⟨("Stretch", some "__len__"), "__len__", "Stretch.__len__", defArgs s_Stretch_len, defBody s_Stretch_len, defScope s_Stretch_len, [], []⟩
def hd_Stretch_eq : He.DefD := ⟨("Stretch", some "__eq__"), "__eq__", "Stretch.__eq__", defArgs s_Stretch_eq, defBody s_Stretch_eq, defScope s_Stretch_eq, [], []⟩
def hd_Stretch_repr : He.DefD := ⟨("Stretch", some "__repr__"), "__repr__", "Stretch.__repr__", defArgs s_Stretch_repr, defBody s_Stretch_repr, defScope s_Stretch_repr, [], []⟩
def hd_number_at : He.DefD := ⟨("number_at", none), "number_at", "number_at", defArgs s_number_at, defBody s_number_at, defScope s_number_at, [], []⟩
def hd_Gauge_init : He.DefD := ⟨("Gauge", some "__init__"), "__init__", "Gauge.__init__", defArgs s_Gauge_init, defBody s_Gauge_init, defScope s_Gauge_init, [.int 60, .int 200, .int 400, .int 5, .int 20], []⟩
def hd_Gauge_arrivals : He.DefD := ⟨("Gauge", some "arrivals"), "arrivals", "Gauge.arrivals", defArgs s_Gauge_arrivals, defBody s_Gauge_arrivals, defScope s_Gauge_arrivals, [], []⟩
def hd_Gauge_stand_by : He.DefD := ⟨("Gauge", some "stand_by"), "stand_by", "Gauge.stand_by", defArgs s_Gauge_stand_by, defBody s_Gauge_stand_by, defScope s_Gauge_stand_by, [], []⟩
def hd_Gauge_stands : He.DefD := ⟨("Gauge", some "stands"), "stands", "Gauge.stands", defArgs s_Gauge_stands, defBody s_Gauge_stands, defScope s_Gauge_stands, [], []⟩
def hd__law_feed : He.DefD := ⟨("_law_feed", none), "_law_feed", "_law_feed", defArgs s__law_feed, defBody s__law_feed, defScope s__law_feed, [], []⟩
def hd__law_draw : He.DefD := ⟨("_law_draw", none), "_law_draw", "_law_draw", defArgs s__law_draw, defBody s__law_draw, defScope s__law_draw, [], []⟩
def hd__law_of : He.DefD := ⟨("_law_of", none), "_law_of", "_law_of", defArgs s__law_of, defBody s__law_of, defScope s__law_of, [], []⟩
def hd__law_readings : He.DefD := ⟨("_law_readings", none), "_law_readings", "_law_readings", defArgs s__law_readings, defBody s__law_readings, defScope s__law_readings, [], []⟩
def hd__law_bounds : He.DefD := ⟨("_law_bounds", none), "_law_bounds", "_law_bounds", defArgs s__law_bounds, defBody s__law_bounds, defScope s__law_bounds, [], []⟩
def hd__law_last : He.DefD := ⟨("_law_last", none), "_law_last", "_law_last", defArgs s__law_last, defBody s__law_last, defScope s__law_last, [], []⟩
def hd__law_stand : He.DefD := ⟨("_law_stand", none), "_law_stand", "_law_stand", defArgs s__law_stand, defBody s__law_stand, defScope s__law_stand, [], []⟩
def hd__law_edges : He.DefD := ⟨("_law_edges", none), "_law_edges", "_law_edges", defArgs s__law_edges, defBody s__law_edges, defScope s__law_edges, [], []⟩
def hd__law_right : He.DefD := ⟨("_law_right", none), "_law_right", "_law_right", defArgs s__law_right, defBody s__law_right, defScope s__law_right, [], []⟩
def hd_law : He.DefD := ⟨("law", none), "law", "law", defArgs s_law, defBody s_law, defScope s_law, [], []⟩
def hfn0 : List He.DefD := [hd_Stretch_init, hd_Stretch_len, hd_Stretch_eq, hd_Stretch_repr, hd_number_at, hd_Gauge_init, hd_Gauge_arrivals, hd_Gauge_stand_by, hd_Gauge_stands, hd__law_feed, hd__law_draw, hd__law_of, hd__law_readings, hd__law_bounds, hd__law_last, hd__law_stand, hd__law_edges, hd__law_right, hd_law]
def hfa0 : List Hd.Fq := [fun K => decide (PySem.W.nsIn K mainGlobals "Stretch" = some (some (.ref (He.ga K "Stretch")))), fun K => decide (PySem.W.nsIn K mainGlobals "Gauge" = some (some (.ref (He.ga K "Gauge")))), fun K => decide (PySem.W.findIn K (.ref (He.ga K "Stretch")) "__init__" = some (some (.ref (He.fAd K ("Stretch", some "__init__"))))), fun K => PySem.W.isFn K (.ref (He.fAd K ("Stretch", some "__init__"))), fun K => decide (PySem.W.findIn K (.ref (He.ga K "Stretch")) "__len__" = some (some (.ref (He.fAd K ("Stretch", some "__len__"))))), fun K => PySem.W.isFn K (.ref (He.fAd K ("Stretch", some "__len__"))), fun K => decide (PySem.W.findIn K (.ref (He.ga K "Stretch")) "__eq__" = some (some (.ref (He.fAd K ("Stretch", some "__eq__"))))), fun K => PySem.W.isFn K (.ref (He.fAd K ("Stretch", some "__eq__"))), fun K => decide (PySem.W.findIn K (.ref (He.ga K "Stretch")) "__repr__" = some (some (.ref (He.fAd K ("Stretch", some "__repr__"))))), fun K => PySem.W.isFn K (.ref (He.fAd K ("Stretch", some "__repr__"))), fun K => decide (PySem.W.nsIn K mainGlobals "number_at" = some (some (.ref (He.fAd K ("number_at", none))))), fun K => decide (PySem.W.findIn K (.ref (He.ga K "Gauge")) "__init__" = some (some (.ref (He.fAd K ("Gauge", some "__init__"))))), fun K => PySem.W.isFn K (.ref (He.fAd K ("Gauge", some "__init__"))), fun K => decide (PySem.W.findIn K (.ref (He.ga K "Gauge")) "arrivals" = some (some (.ref (He.fAd K ("Gauge", some "arrivals"))))), fun K => PySem.W.isFn K (.ref (He.fAd K ("Gauge", some "arrivals"))), fun K => decide (PySem.W.findIn K (.ref (He.ga K "Gauge")) "stand_by" = some (some (.ref (He.fAd K ("Gauge", some "stand_by"))))), fun K => PySem.W.isFn K (.ref (He.fAd K ("Gauge", some "stand_by"))), fun K => decide (PySem.W.findIn K (.ref (He.ga K "Gauge")) "stands" = some (some (.ref (He.fAd K ("Gauge", some "stands"))))), fun K => PySem.W.isFn K (.ref (He.fAd K ("Gauge", some "stands"))), fun K => decide (PySem.W.nsIn K mainGlobals "_law_feed" = some (some (.ref (He.fAd K ("_law_feed", none))))), fun K => decide (PySem.W.nsIn K mainGlobals "_law_draw" = some (some (.ref (He.fAd K ("_law_draw", none))))), fun K => decide (PySem.W.nsIn K mainGlobals "_law_of" = some (some (.ref (He.fAd K ("_law_of", none))))), fun K => decide (PySem.W.nsIn K mainGlobals "_law_readings" = some (some (.ref (He.fAd K ("_law_readings", none))))), fun K => decide (PySem.W.nsIn K mainGlobals "_law_bounds" = some (some (.ref (He.fAd K ("_law_bounds", none))))), fun K => decide (PySem.W.nsIn K mainGlobals "_law_last" = some (some (.ref (He.fAd K ("_law_last", none))))), fun K => decide (PySem.W.nsIn K mainGlobals "_law_stand" = some (some (.ref (He.fAd K ("_law_stand", none))))), fun K => decide (PySem.W.nsIn K mainGlobals "_law_edges" = some (some (.ref (He.fAd K ("_law_edges", none))))), fun K => decide (PySem.W.nsIn K mainGlobals "_law_right" = some (some (.ref (He.fAd K ("_law_right", none))))), fun K => decide (PySem.W.nsIn K mainGlobals "law" = some (some (.ref (He.fAd K ("law", none))))), fun K => PySem.W.plainGet K (He.ga K "Stretch") Str.empty, fun K => PySem.W.hasDictIn K (He.ga K "Stretch"), fun K => PySem.W.plainOver K (He.ga K "Stretch"), fun K => decide (PySem.W.findIn K (.ref (He.ga K "Stretch")) "__setattr__" = some (some (.builtin "object.__setattr__"))), fun K => PySem.W.makesIn K (He.ga K "Stretch"), fun K => PySem.W.keepIn K (.ref (He.ga K "Stretch")), fun K => PySem.W.plainGet K (He.ga K "Gauge") Str.empty, fun K => PySem.W.hasDictIn K (He.ga K "Gauge"), fun K => PySem.W.plainOver K (He.ga K "Gauge"), fun K => decide (PySem.W.findIn K (.ref (He.ga K "Gauge")) "__setattr__" = some (some (.builtin "object.__setattr__"))), fun K => PySem.W.makesIn K (He.ga K "Gauge"), fun K => PySem.W.keepIn K (.ref (He.ga K "Gauge")), fun K => decide (PySem.W.nsIn K mainGlobals "int" = some none), fun K => decide (PySem.W.nsIn K mainGlobals "isinstance" = some none), fun K => decide (PySem.W.nsIn K mainGlobals "len" = some none), fun K => decide (PySem.W.nsIn K mainGlobals "list" = some none), fun K => decide (PySem.W.nsIn K mainGlobals "max" = some none), fun K => decide (PySem.W.nsIn K mainGlobals "range" = some none), fun K => decide (PySem.W.nsIn K mainGlobals "repr" = some none), fun K => decide (PySem.W.nsIn K mainGlobals "set" = some none), fun K => decide (PySem.W.nsIn K mainGlobals "sorted" = some none), fun K => decide (PySem.W.nsIn K mainGlobals "zip" = some none), fun K => decide (PySem.W.findIn K (.ref (He.ga K "Stretch")) "first" = some none), fun K => decide (PySem.W.findIn K (.ref (He.ga K "Stretch")) "behind" = some none), fun K => decide (PySem.W.findIn K (.ref (He.ga K "Gauge")) "lag" = some none), fun K => decide (PySem.W.findIn K (.ref (He.ga K "Gauge")) "high" = some none), fun K => decide (PySem.W.findIn K (.ref (He.ga K "Gauge")) "top" = some none), fun K => decide (PySem.W.findIn K (.ref (He.ga K "Gauge")) "thin" = some none), fun K => decide (PySem.W.findIn K (.ref (He.ga K "Gauge")) "thick" = some none), fun K => PySem.W.isClsIn K (He.ga K "Stretch"), fun K => decide (PySem.W.typeIn K (.ref (He.ga K "Stretch")) = some (.type "type")), fun K => decide (PySem.W.subIn K (.type "NoneType") (.ref (He.ga K "Stretch")) = some false), fun K => decide (PySem.W.subIn K (.type "bool") (.ref (He.ga K "Stretch")) = some false), fun K => decide (PySem.W.subIn K (.type "int") (.ref (He.ga K "Stretch")) = some false), fun K => decide (PySem.W.subIn K (.type "str") (.ref (He.ga K "Stretch")) = some false), fun K => decide (PySem.W.subIn K (.type "tuple") (.ref (He.ga K "Stretch")) = some false), fun K => decide (PySem.W.subIn K (.type "list") (.ref (He.ga K "Stretch")) = some false), fun K => decide (PySem.W.subIn K (.type "dict") (.ref (He.ga K "Stretch")) = some false), fun K => decide (PySem.W.subIn K (.ref (He.ga K "Gauge")) (.ref (He.ga K "Stretch")) = some false), fun K => decide ((Value.ref (He.ga K "Gauge") == Value.ref (He.ga K "Stretch")) = false), fun K => decide (PySem.W.findIn K (.ref (He.ga K "Stretch")) "__class__" = some (some (.builtin "object.__class__"))), fun K => decide (PySem.W.specialIn K (.builtin "object.__class__") "__get__" = some (some (.builtin "getset_descriptor.__get__"))), fun K => decide (PySem.W.takesIn K (.builtin "object.__class__") = some true), fun K => decide (PySem.W.mroIn K (He.ga K "Stretch") (.type "object") = some true), fun K => decide (PySem.W.findIn K (.ref (He.ga K "Gauge")) "__class__" = some (some (.builtin "object.__class__"))), fun K => decide (PySem.W.mroIn K (He.ga K "Gauge") (.type "object") = some true)]
def hqs : Hd.Qs := [([], hfn0), (hfa0, [])]
abbrev hR : PySem.W.OpenRow := PySem.W.OpenLaw.row PySem.Challenge.rw_boatbridge_k43_stands_within_stretches
abbrev hk : PySem.W.Hook := Hd.hookQ 5 hqs
abbrev hob : PySem.W.SharedT → List He.AlD := fun s => Hd.obsL 5 hqs (HandSHeadRun.getT s)
theorem hob_eq (s : PySem.W.SharedT) : hob s = hk.obs s.abs := Hd.obsL_eq (HandSHeadRun.getT_eq s)
def hnames : List PySem.Str := (["_wall", "NoStretch", "HOUR", "DAY", "show_clock", "show_time", "Stretch", "number_at", "Gauge", "_law_feed", "_law_draw", "_law_of", "_law_readings", "_law_bounds", "_law_last", "_law_stand", "_law_edges", "_law_right"] : List PySem.Str)
theorem hrun_l (w : World) : Hd.Looks hR (PySem.W.view hR.prog [23]) 60000 hnames w := by
  intro os
  kernel_rfl
theorem hrun_0 (w : World) : Hd.Obs1 hR 5 [] hfn0 60000 w := by
  intro os
  kernel_rfl
theorem hrun_1 (w : World) : Hd.Obs1 hR 5 hfa0 [] 60000 w := by
  intro os
  kernel_rfl
theorem hrun (w : World) : HandSHeadRun.RunEq hR (PySem.W.view hR.prog [23]) hk hob 60000 hnames w := Hd.runEq_of (hrun_l w) (Hd.obsA_cons (hrun_0 w) (Hd.obsA_cons (hrun_1 w) (Hd.obsA_nil (hrun_l w))))
end Lw
namespace Lw
open PySem L2 Dl Mg
abbrev gaD (C : Addr) (l h t n k : Int) : D := .obj C ["lag", "high", "top", "thin", "thick"] [.int l, .int h, .int t, .int n, .int k]
theorem ix5 {S : Sto} {o : D} {l h t n k : Int} (ho : seqOf S o = some [.int l, .int h, .int t, .int n, .int k]) : (∀ q, aIx o (.int 0) S q ↔ q (.int l) S) ∧ (∀ q, aIx o (.int 1) S q ↔ q (.int h) S) ∧ (∀ q, aIx o (.int 2) S q ↔ q (.int t) S) ∧ (∀ q, aIx o (.int 3) S q ↔ q (.int n) S) ∧ ∀ q, aIx o (.int 4) S q ↔ q (.int k) S :=
  ⟨fun _ => x_ix ho rfl, fun _ => x_ix ho rfl, fun _ => x_ix ho rfl, fun _ => x_ix ho rfl, fun _ => x_ix ho rfl⟩
abbrev pcD (C : Addr) (p : Pc) : D := .tup [Mt.stD C p.1 p.2.1, .str p.2.2]
def OkR (R : List Rdg) : Prop := R.length ≤ 151 ∧ ∀ r ∈ R, 0 ≤ r.1 ∧ r.1 ≤ 1010000
/-- how a stretch shows -/
def stT (x y : Int) : Str := ((((Str.empty ++ Str.ofString "Stretch(") ++ showI x) ++ Str.ofString ", ") ++ showI y) ++ Str.ofString ")"
def pcT (p : Pc) : Str := tupleText [stT p.1 p.2.1, reprText p.2.2]
def psT (ps : List Pc) : Str := listText (ps.map pcT)
/-- a list of stands that may be written out -/
def OkP (ps : List Pc) : Prop := ps.length ≤ 200 ∧ ∀ p ∈ ps, (0 ≤ p.1 ∧ p.1 < 10 ^ 10) ∧ (0 ≤ p.2.1 ∧ p.2.1 < 10 ^ 10) ∧ PyData.strOk p.2.2 = true ∧ p.2.2.length ≤ 4
abbrev sp_Stretch_init (a : Ad) : DSp := Mt.stInit a.C_Stretch
abbrev sp_Stretch_len (a : Ad) : DSp := fun ds S q => ∃ x y, ds = [Mt.stD a.C_Stretch x y] ∧ x ≤ y ∧ y - x < 2 ^ 60 ∧ q (.int (y - x)) S
abbrev sp_Stretch_eq (a : Ad) : DSp := Mt.stEq a.C_Stretch
abbrev sp_Stretch_repr (a : Ad) : DSp := fun ds S q => ∃ x y, ds = [Mt.stD a.C_Stretch x y] ∧ (0 ≤ x ∧ x < 10 ^ 10) ∧ (0 ≤ y ∧ y < 10 ^ 10) ∧ q (.str (stT x y)) S
abbrev sp_number_at (a : Ad) : DSp := fun ds S q => ∃ (P : List Pr) (m : Int), ds = [.lst (P.map pD), .int m] ∧ P.length ≤ 400 ∧ ∀ n, NumAt P m n → q (.int n) S
abbrev sp_Gauge_init (a : Ad) : DSp := fun ds S q => ∃ (S0 : Sto) (l h t n k : Int), ds = [.loc S0.length, .int l, .int h, .int t, .int n, .int k] ∧ S = S0 ++ [some (.obj a.C_Gauge [] [])] ∧
  q .non (S0 ++ [some (.obj a.C_Gauge ["lag", "high", "top", "thin", "thick"] [.int l, .int h, .int t, .int n, .int k])])
abbrev sp_Gauge_arrivals (a : Ad) : DSp := fun ds S q => ∃ (l h t n k : Int) (R : List Rdg) (b : Bool), ds = [gaD a.C_Gauge l h t n k, .lst (R.map rD), .str (kW b)] ∧ R.length ≤ 400 ∧ q (.lst ((arr (if b then l else 0) b R).map pD)) S
abbrev sp_Gauge_stand_by (a : Ad) : DSp := fun ds S q => ∃ l h t n k w i : Int, ds = [gaD a.C_Gauge l h t n k, .int w, .int i] ∧ q (.str (standS h t n k w i)) S
abbrev sp_Gauge_stands (a : Ad) : DSp := fun ds S q => ∃ (l h t n k : Int) (R : List Rdg) (f b : Int), ds = [gaD a.C_Gauge l h t n k, .lst (R.map rD), Mt.stD a.C_Stretch f b] ∧ R.length ≤ 400 ∧ f ≤ b ∧
  ∀ E : List Int, E.Pairwise (· < ·) → (∀ x, x ∈ E ↔ x = f ∨ x = b ∨ (f < x ∧ x < b ∧ isT l R x)) → q (.lst ((pieces (stS l h t n k R) E).map (pcD a.C_Stretch))) S
abbrev sp_Gauge_stands_live (a : Ad) : DSp := fun ds S q => ∃ (l h t n k : Int) (R : List Rdg) (f b : Int), ds = [gaD a.C_Gauge l h t n k, .lst (R.map rD), Mt.stD a.C_Stretch f b] ∧ R.length ≤ 400 ∧ f ≤ b ∧
  ∀ E : List Int, E.Pairwise (· < ·) → (∀ x, x ∈ E ↔ x = f ∨ x = b ∨ (f < x ∧ x < b ∧ isT l R x)) → q (.loc S.length) (S ++ [some (.lst ((pieces (stS l h t n k R) E).map (pcD a.C_Stretch)))])
abbrev sp__law_feed (a : Ad) : DSp := Mt.tape
abbrev sp__law_draw (a : Ad) : DSp := Mt.draw
abbrev sp__law_of (a : Ad) : DSp := Mt.pickL
abbrev sp__law_readings (a : Ad) : DSp := fun ds S q => ∃ many : Int, 0 < many ∧ many ≤ 151 ∧ Mt.tk 2000 [.int many] (fun d => ∃ R : List Rdg, d = .lst (R.map rD) ∧ OkR R) ds S q
abbrev sp__law_bounds (a : Ad) : DSp := Mt.tk 20 [] (fun d => ∃ l h t n k : Int, (0 ≤ l ∧ l ≤ 1440) ∧ d = .lst [.int l, .int h, .int t, .int n, .int k])
abbrev sp__law_last (a : Ad) : DSp := fun ds S q => ∃ (P : List Pr) (m : Int), ds = [.lst (P.map pD), .int m] ∧ P.length ≤ 400 ∧ q (.int (lastNum P m)) S
abbrev sp__law_stand (a : Ad) : DSp := fun ds S q => ∃ (o : D) (l h t n k : Int) (R : List Rdg) (m : Int), seqOf S o = some [.int l, .int h, .int t, .int n, .int k] ∧ ds = [o, .lst (R.map rD), .int m] ∧ R.length ≤ 400 ∧ q (.str (stS l h t n k R m)) S
abbrev sp__law_edges (a : Ad) : DSp := fun ds S q => ∃ (o : D) (l h t n k : Int) (R : List Rdg), seqOf S o = some [.int l, .int h, .int t, .int n, .int k] ∧ ds = [o, .lst (R.map rD)] ∧ R.length ≤ 400 ∧ q (.lst ((edg l R).map .int)) S
abbrev sp__law_right (a : Ad) : DSp := fun ds S q => ∃ (o : D) (l h t n k : Int) (R : List Rdg) (d : D) (ps : List Pc) (s u : Int), seqOf S o = some [.int l, .int h, .int t, .int n, .int k] ∧ ds = [o, .lst (R.map rD), d, .int s, .int u] ∧ R.length ≤ 400 ∧ seqOf S d = some (ps.map (pcD a.C_Stretch)) ∧ Goes (stS l h t n k R) none s ps u ∧ u - s < 2 ^ 60 ∧ q (.bl true) S
abbrev sp_law : DSp := Mt.law
end Lw
namespace Lw
open PySem L2 Dl
section
variable {P : Program} {w : World} {K : PySem.W.Frag} {mg : Str → Option Value} {base : Heap} {a : Ad}
def g_Stretch_init (K : PySem.W.Frag) (a : Ad) : GS :=
  (gSeq (gIfS (gTest (gIsN (gVar 2))) (gSet 2 (gB2 (aAdd true) (gVar 1) (gC (.int 1)))) gNext) (gSeq (gIfS (gTest (gB2 aLt (gVar 2) (gVar 1))) gDead gNext) (gSeq (gFldSet K "first" (gVar 0) (gVar 1)) (gFldSet K "behind" (gVar 0) (gVar 2)))))
theorem t_Stretch_init (T : Txt K mg a)  {f : Addr} {cdv : Value} {A : Around} {outer : List Env} {s : Shared} {H : Hp} {E : XK} (hr : RoomG 0 (A.deeper (PyProof.Rows.envOfC "Stretch.__init__" (defScope s_Stretch_init) s.heap.objs.size f cdv))) :
    PSs (cxOf CX0 P w K mg base N_Stretch_init "Stretch.__init__" (defScope s_Stretch_init) f cdv A outer s H E).nox (defBody s_Stretch_init) (tofS K U0 (g_Stretch_init K a)) :=
  (ds_cons (d_if (d_tisN (d_var 2))
      (ds_one (d_set (i := 2) sc_Stretch_init.nd rfl (by first | exact .inl rfl | exact .inr rfl) (d_op or_add (vr_add (fz := true)) (d_var 1) d_int)))
      ds_nil)
    (ds_cons (d_if (d_tcmp op_lt vr_lt (d_var 2) (d_var 1))
      (ds_one d_dead)
      ds_nil)
    (ds_cons (d_fldset (d_var 0) (d_var 1))
    (ds_one (d_fldset (d_var 0) (d_var 2))))))
def g_Stretch_len (K : PySem.W.Frag) (a : Ad) : GS :=
  (gRet (gLenR (Dl.gCons (gFld K "first" (gVar 0)) (Dl.gCons (gFld K "behind" (gVar 0)) Dl.gNil))))
theorem t_Stretch_len (T : Txt K mg a)  {f : Addr} {cdv : Value} {A : Around} {outer : List Env} {s : Shared} {H : Hp} {E : XK} (hr : RoomG 0 (A.deeper (PyProof.Rows.envOfC "Stretch.__len__" (defScope s_Stretch_len) s.heap.objs.size f cdv))) :
    PSs (cxOf CX0 P w K mg base N_Stretch_len "Stretch.__len__" (defScope s_Stretch_len) f cdv A outer s H E).nox (defBody s_Stretch_len) (tofS K U0 (g_Stretch_len K a)) :=
  (ds_one (d_ret (d_lenrng (by rfl) T.no_len (by rfl) T.no_range (d_cons (d_fld (d_var 0)) (d_cons (d_fld (d_var 0)) d_nil)))))
def g_Stretch_eq (K : PySem.W.Frag) (a : Ad) : GS :=
  (gRet (gAndV (gCB (a2 (aIsiC K)) (Dl.gCons (gVar 1) (Dl.gCons (gC (.ref a.C_Stretch)) Dl.gNil))) (gB2 aEq (Dl.gTup (Dl.gCons (gFld K "first" (gVar 0)) (Dl.gCons (gFld K "behind" (gVar 0)) Dl.gNil))) (Dl.gTup (Dl.gCons (gFld K "first" (gVar 1)) (Dl.gCons (gFld K "behind" (gVar 1)) Dl.gNil))))))
theorem t_Stretch_eq (T : Txt K mg a)  {f : Addr} {cdv : Value} {A : Around} {outer : List Env} {s : Shared} {H : Hp} {E : XK} (hr : RoomG 0 (A.deeper (PyProof.Rows.envOfC "Stretch.__eq__" (defScope s_Stretch_eq) s.heap.objs.size f cdv))) :
    PSs (cxOf CX0 P w K mg base N_Stretch_eq "Stretch.__eq__" (defScope s_Stretch_eq) f cdv A outer s H E).nox (defBody s_Stretch_eq) (tofS K U0 (g_Stretch_eq K a)) :=
  (ds_one (d_ret (d_andV (d_callB call_isi vr_isiC (by rfl) T.no_isinstance (by decide +kernel) (d_cons (d_var 1) (d_cons (d_gref (by rfl) T.mC_Stretch) d_nil))) (d_oneV (d_cmp (op_eqD hr.units) vr_eq (d_tup (d_cons (d_fld (d_var 0)) (d_cons (d_fld (d_var 0)) d_nil))) (d_tup (d_cons (d_fld (d_var 1)) (d_cons (d_fld (d_var 1)) d_nil))))))))
def g_Stretch_repr (K : PySem.W.Frag) (a : Ad) : GS :=
  (gRet (gJoined [(gC (.str "Stretch(")), (gFmt (gFld K "first" (gVar 0))), (gC (.str ", ")), (gFmt (gFld K "behind" (gVar 0))), (gC (.str ")"))]))
theorem t_Stretch_repr (T : Txt K mg a)  {f : Addr} {cdv : Value} {A : Around} {outer : List Env} {s : Shared} {H : Hp} {E : XK} (hr : RoomG 0 (A.deeper (PyProof.Rows.envOfC "Stretch.__repr__" (defScope s_Stretch_repr) s.heap.objs.size f cdv))) :
    PSs (cxOf CX0 P w K mg base N_Stretch_repr "Stretch.__repr__" (defScope s_Stretch_repr) f cdv A outer s H E).nox (defBody s_Stretch_repr) (tofS K U0 (g_Stretch_repr K a)) :=
  (ds_one (d_ret (d_joined (.cons d_str (.cons (d_fmt (d_fld (d_var 0))) (.cons d_str (.cons (d_fmt (d_fld (d_var 0))) (.cons d_str .nil))))))))
def g_number_at (K : PySem.W.Frag) (a : Ad) : GS :=
  (gRet (gIx (gMMDef true (Dl.gCons (gLc true (gIt (gVar 0)) (.nm 2) (gTest (gB2 aLe (gIx (gVar 2) (gC (.int 0))) (gVar 1))) (gVar 2) [2]) Dl.gNil) (Dl.gCons (Dl.gTup (Dl.gCons (gC (.int 0)) (Dl.gCons (gC (.int 0)) Dl.gNil))) Dl.gNil)) (gC (.int 1))))
theorem t_number_at (T : Txt K mg a)  {f : Addr} {cdv : Value} {A : Around} {outer : List Env} {s : Shared} {H : Hp} {E : XK} (hr : RoomG 0 (A.deeper (PyProof.Rows.envOfC "number_at" (defScope s_number_at) s.heap.objs.size f cdv))) :
    PSs (cxOf CX0 P w K mg base N_number_at "number_at" (defScope s_number_at) f cdv A outer s H E).nox (defBody s_number_at) (tofS K U0 (g_number_at K a)) :=
  (ds_one (d_ret (d_ix (d_mmDef true (cr_maxDef rfl hr.units) (by rfl) T.no_max (by decide +kernel) (d_cons (d_lc (own := [("row", 2)]) (t := (.nm 2)) true rfl sc_number_at.nd (di_seq (d_var 0)) (blkOk_by (own := [("row", 2)]) (N := N_number_at) (sc := defScope s_number_at) (by decide +kernel)) (by decide) (fun _ _ _ _ _ => (pg_name (i := 2) sc_number_at.nd rfl (by first | exact .inl rfl | exact .inr rfl))) (fun _ _ _ _ _ => (dt_one (d_tcmp op_le vr_le (d_ix (d_var 2) d_int) (d_var 1)))) (fun _ _ _ _ _ => (d_var 2))) d_nil) (dk_cons (d_tup (d_cons d_int (d_cons d_int d_nil))) dk_nil)) d_int)))
def g_Gauge_init (K : PySem.W.Frag) (a : Ad) : GS :=
  (gSeq (gFldSet K "lag" (gVar 0) (gVar 1)) (gSeq (gFldSet K "high" (gVar 0) (gVar 2)) (gSeq (gFldSet K "top" (gVar 0) (gVar 3)) (gSeq (gFldSet K "thin" (gVar 0) (gVar 4)) (gFldSet K "thick" (gVar 0) (gVar 5))))))
theorem t_Gauge_init (T : Txt K mg a)  {f : Addr} {cdv : Value} {A : Around} {outer : List Env} {s : Shared} {H : Hp} {E : XK} (hr : RoomG 0 (A.deeper (PyProof.Rows.envOfC "Gauge.__init__" (defScope s_Gauge_init) s.heap.objs.size f cdv))) :
    PSs (cxOf CX0 P w K mg base N_Gauge_init "Gauge.__init__" (defScope s_Gauge_init) f cdv A outer s H E).nox (defBody s_Gauge_init) (tofS K U0 (g_Gauge_init K a)) :=
  (ds_cons (d_fldset (d_var 0) (d_var 1))
    (ds_cons (d_fldset (d_var 0) (d_var 2))
    (ds_cons (d_fldset (d_var 0) (d_var 3))
    (ds_cons (d_fldset (d_var 0) (d_var 4))
    (ds_one (d_fldset (d_var 0) (d_var 5)))))))
def g_Gauge_arrivals (K : PySem.W.Frag) (a : Ad) : GS :=
  (gSeq (gSet 3 (gIf (gTest (gB2 aEqS (gVar 2) (gC (.str "water")))) (gFld K "lag" (gVar 0)) (gC (.int 0)))) (gSeq (gSet 4 (gDNew false)) (gSeq (gFor (gIt (gVar 1)) (.tp [(.nm 5), (.nm 6), (.nm 7)]) (gIfS (gTest (gB2 aEqS (gVar 6) (gVar 2))) (gDSet (gVar 4) (gB2 (aAdd true) (gVar 5) (gVar 3)) (gVar 7)) gNext)) (gRet (gSItems (gVar 4))))))
theorem t_Gauge_arrivals (T : Txt K mg a)  {f : Addr} {cdv : Value} {A : Around} {outer : List Env} {s : Shared} {H : Hp} {E : XK} (hr : RoomG 0 (A.deeper (PyProof.Rows.envOfC "Gauge.arrivals" (defScope s_Gauge_arrivals) s.heap.objs.size f cdv))) :
    PSs (cxOf CX0 P w K mg base N_Gauge_arrivals "Gauge.arrivals" (defScope s_Gauge_arrivals) f cdv A outer s H E).nox (defBody s_Gauge_arrivals) (tofS K U0 (g_Gauge_arrivals K a)) :=
  (ds_cons (d_set (i := 3) sc_Gauge_arrivals.nd rfl (by first | exact .inl rfl | exact .inr rfl) (d_ifExp (d_tcmp op_eq vr_eqSS (d_var 2) d_str) (d_fld (d_var 0)) d_int))
    (ds_cons (d_set (i := 4) sc_Gauge_arrivals.nd rfl (by first | exact .inl rfl | exact .inr rfl) (d_dnew false))
    (ds_cons (d_for (t := (.tp [(.nm 5), (.nm 6), (.nm 7)])) PassesOwn.never rfl (di_seq (d_var 1)) (pg_tup rfl (pgs_cons (pg_name (i := 5) sc_Gauge_arrivals.nd rfl (by first | exact .inl rfl | exact .inr rfl)) (pgs_cons (pg_name (i := 6) sc_Gauge_arrivals.nd rfl (by first | exact .inl rfl | exact .inr rfl)) (pgs_cons (pg_name (i := 7) sc_Gauge_arrivals.nd rfl (by first | exact .inl rfl | exact .inr rfl)) pgs_nil))))
      (ds_one (d_if (d_tcmp op_eq vr_eqSS (d_var 6) (d_var 2))
      (ds_one (d_dset (d_var 4) (d_op or_add (vr_add (fz := true)) (d_var 5) (d_var 3)) (d_var 7) (hu_of hr)))
      ds_nil)))
    (ds_one (d_ret (d_sItems rfl hr.units (d_var 4) (by rfl) T.no_sorted (by decide +kernel)))))))
def g_Gauge_stand_by (K : PySem.W.Frag) (a : Ad) : GS :=
  (gSeq (gIfS (gTest (gB2 aGe (gVar 1) (gFld K "top" (gVar 0)))) (gRet (gC (.str "lost"))) gNext) (gSeq (gIfS (gTest (gB2 aGe (gVar 2) (gFld K "thick" (gVar 0)))) (gRet (gC (.str "shut"))) gNext) (gRet (gIf (gOrB (gTest (gB2 aGe (gVar 1) (gFld K "high" (gVar 0)))) (gTest (gB2 aGe (gVar 2) (gFld K "thin" (gVar 0))))) (gC (.str "slow")) (gC (.str "free"))))))
theorem t_Gauge_stand_by (T : Txt K mg a)  {f : Addr} {cdv : Value} {A : Around} {outer : List Env} {s : Shared} {H : Hp} {E : XK} (hr : RoomG 0 (A.deeper (PyProof.Rows.envOfC "Gauge.stand_by" (defScope s_Gauge_stand_by) s.heap.objs.size f cdv))) :
    PSs (cxOf CX0 P w K mg base N_Gauge_stand_by "Gauge.stand_by" (defScope s_Gauge_stand_by) f cdv A outer s H E).nox (defBody s_Gauge_stand_by) (tofS K U0 (g_Gauge_stand_by K a)) :=
  (ds_cons (d_if (d_tcmp op_ge vr_ge (d_var 1) (d_fld (d_var 0)))
      (ds_one (d_ret d_str))
      ds_nil)
    (ds_cons (d_if (d_tcmp op_ge vr_ge (d_var 2) (d_fld (d_var 0)))
      (ds_one (d_ret d_str))
      ds_nil)
    (ds_one (d_ret (d_ifExp (PW.pt (d_or (d_tcmp op_ge vr_ge (d_var 1) (d_fld (d_var 0))) (d_or1 (d_tcmp op_ge vr_ge (d_var 2) (d_fld (d_var 0)))))) d_str d_str)))))
def g_Gauge_stands (K : PySem.W.Frag) (a : Ad) : GS :=
  (gSeq (gSet 3 (gLc true (gIt (Dl.gTup (Dl.gCons (gC (.str "water")) (Dl.gCons (gC (.str "ice")) Dl.gNil)))) (.nm 9) gYes (gMeth a.C_Gauge "arrivals" 1 1 [.p 0, .p 1, .k 0] [] (sp_Gauge_arrivals a) (gVar 0) (gArgs (Dl.gCons (gVar 1) Dl.gNil) (Dl.gCons (gVar 9) Dl.gNil))) [9])) (gSeq (gSet 4 (gLc true (gIt (gB2 (aAdd true) (gIx (gVar 3) (gC (.int 0))) (gIx (gVar 3) (gC (.int 1))))) (.nm 10) (gTest (gChain aLt aLt (gFld K "first" (gVar 2)) (gIx (gVar 10) (gC (.int 0))) (gFld K "behind" (gVar 2)))) (gIx (gVar 10) (gC (.int 0))) [10])) (gSeq (gSet 4 (gSortSet true (gB2 (aAdd true) (gVar 4) (Dl.gLst true (Dl.gCons (gFld K "first" (gVar 2)) (Dl.gCons (gFld K "behind" (gVar 2)) Dl.gNil)))))) (gSeq (gSet 5 (Dl.gLst false Dl.gNil)) (gSeq (gFor (gZip (Dl.gCons (gVar 4) (Dl.gCons (gSl true (gVar 4) (gPart (gC (.int 1))) gNoP) Dl.gNil))) (.tp [(.nm 6), (.nm 7)]) (gSeq (gSet 8 (gMeth a.C_Gauge "stand_by" 2 0 [.p 0, .p 1, .p 2] [] (sp_Gauge_stand_by a) (gVar 0) (gArgs (Dl.gCons (gCall 2 0 [.p 0, .p 1] [] (sp_number_at a) (gArgs (Dl.gCons (gIx (gVar 3) (gC (.int 0))) (Dl.gCons (gVar 6) Dl.gNil)) Dl.gNil)) (Dl.gCons (gCall 2 0 [.p 0, .p 1] [] (sp_number_at a) (gArgs (Dl.gCons (gIx (gVar 3) (gC (.int 1))) (Dl.gCons (gVar 6) Dl.gNil)) Dl.gNil)) Dl.gNil)) Dl.gNil))) (gSeq (gIfS (gAndB (gTest (gB2 (aNil true) (gVar 5) (Dl.gLst true Dl.gNil))) (gTest (gB2 aEqS (gIx (gIx (gVar 5) (gU aNeg (gC (.int 1)))) (gC (.int 1))) (gVar 8)))) (gSet 6 (gFld K "first" (gIx (gMt "list" aPop (gVar 5) Dl.gNil) (gC (.int 0))))) gNext) (gDrop (gMt "list" aAppend (gVar 5) (Dl.gCons (Dl.gTup (Dl.gCons (gMakeF a.C_Stretch 2 0 [.p 0, .p 1, .p 2] [.non] (sp_Stretch_init a) (gArgs (Dl.gCons (gVar 6) (Dl.gCons (gVar 7) Dl.gNil)) Dl.gNil)) (Dl.gCons (gVar 8) Dl.gNil))) Dl.gNil)))))) (gRet (gVar 5)))))))
theorem t_Gauge_stands (T : Txt K mg a) (F_Gauge_arrivals : MFn P w K mg base a.C_Gauge "arrivals" "Gauge.arrivals" s_Gauge_arrivals dv_Gauge_arrivals 1 ps_Gauge_arrivals (sp_Gauge_arrivals a)) (F_Gauge_stand_by : MFn P w K mg base a.C_Gauge "stand_by" "Gauge.stand_by" s_Gauge_stand_by dv_Gauge_stand_by 1 ps_Gauge_stand_by (sp_Gauge_stand_by a)) (F_Stretch_init : CFn P w K mg base "Stretch" a.C_Stretch "Stretch.__init__" s_Stretch_init dv_Stretch_init 1 ps_Stretch_init (sp_Stretch_init a)) (F_number_at : Fnc P w K mg base "number_at" s_number_at dv_number_at 1 ps_number_at (sp_number_at a)) {f : Addr} {cdv : Value} {A : Around} {outer : List Env} {s : Shared} {H : Hp} {E : XK} (hr : RoomG 2 (A.deeper (PyProof.Rows.envOfC "Gauge.stands" (defScope s_Gauge_stands) s.heap.objs.size f cdv))) :
    PSs (cxOf CX0 P w K mg base N_Gauge_stands "Gauge.stands" (defScope s_Gauge_stands) f cdv A outer s H E).nox (defBody s_Gauge_stands) (tofS K U0 (g_Gauge_stands K a)) :=
  (ds_cons (d_setLc (own := [("kind", 9)]) (t := (.nm 9)) true (i := 3) rfl sc_Gauge_stands.nd rfl rfl (sw_true rfl rfl rfl (by decide +kernel)) (di_seq (d_tup (d_cons d_str (d_cons d_str d_nil)))) (blkOk_by (own := [("kind", 9)]) (N := N_Gauge_stands) (sc := defScope s_Gauge_stands) (by decide +kernel)) (by decide) (fun _ _ _ _ _ => (pg_name (i := 9) sc_Gauge_stands.nd rfl (by first | exact .inl rfl | exact .inr rfl))) (fun _ _ _ _ _ => dt_nil) (fun _ _ _ _ _ => (d_meth F_Gauge_arrivals (hr.mono (by decide)) bnd_Gauge_arrivals_2_wanted dfv_nil (d_var 0) (da_pk (d_cons (d_var 1) d_nil) (dk_cons (d_var 9) dk_nil)))))
    (ds_cons (d_setLc (own := [("row", 10)]) (t := (.nm 10)) true (i := 4) rfl sc_Gauge_stands.nd rfl rfl (sw_true rfl rfl rfl (by decide +kernel)) (di_seq (d_op or_add (vr_add (fz := true)) (d_ix (d_var 3) d_int) (d_ix (d_var 3) d_int))) (blkOk_by (own := [("row", 10)]) (N := N_Gauge_stands) (sc := defScope s_Gauge_stands) (by decide +kernel)) (by decide) (fun _ _ _ _ _ => (pg_name (i := 10) sc_Gauge_stands.nd rfl (by first | exact .inl rfl | exact .inr rfl))) (fun _ _ _ _ _ => (dt_one (d_tchain op_lt op_lt vr_lt vr_lt (d_fld (d_var 2)) (d_ix (d_var 10) d_int) (d_fld (d_var 2))))) (fun _ _ _ _ _ => (d_ix (d_var 10) d_int)))
    (ds_cons (d_set (i := 4) sc_Gauge_stands.nd rfl (by first | exact .inl rfl | exact .inr rfl) (d_sortSet true rfl hr.units (by rfl) T.no_sorted (by rfl) T.no_set (d_op or_add (vr_add (fz := true)) (d_var 4) (d_lst true (d_cons (d_fld (d_var 2)) (d_cons (d_fld (d_var 2)) d_nil))))))
    (ds_cons (d_set (i := 5) sc_Gauge_stands.nd rfl (by first | exact .inl rfl | exact .inr rfl) (d_lst false d_nil))
    (ds_cons (d_for (t := (.tp [(.nm 6), (.nm 7)])) PassesOwn.never rfl (di_zip (by rfl) T.no_zip (d_cons (d_var 4) (d_cons (d_sl true (d_var 4) (do_some d_int) do_none) d_nil))) (pg_tup rfl (pgs_cons (pg_name (i := 6) sc_Gauge_stands.nd rfl (by first | exact .inl rfl | exact .inr rfl)) (pgs_cons (pg_name (i := 7) sc_Gauge_stands.nd rfl (by first | exact .inl rfl | exact .inr rfl)) pgs_nil)))
      (ds_cons (d_set (i := 8) sc_Gauge_stands.nd rfl (by first | exact .inl rfl | exact .inr rfl) (d_meth F_Gauge_stand_by (hr.mono (by decide)) bnd_Gauge_stand_by_3 dfv_nil (d_var 0) (da_p0 (d_cons (d_call F_number_at (hr.mono (by decide)) (by rfl) bnd_number_at_2 dfv_nil (da_p0 (d_cons (d_ix (d_var 3) d_int) (d_cons (d_var 6) d_nil)))) (d_cons (d_call F_number_at (hr.mono (by decide)) (by rfl) bnd_number_at_2 dfv_nil (da_p0 (d_cons (d_ix (d_var 3) d_int) (d_cons (d_var 6) d_nil)))) d_nil)))))
    (ds_cons (d_if (PW.pt (d_and (d_tcmp (or_neNil hr) vr_nil (d_var 5) (d_lst true d_nil)) (d_and1 (d_tcmp op_eq vr_eqSS (d_ix (d_ix (d_var 5) (d_un un_neg vr_neg d_int)) d_int) (d_var 8)))))
      (ds_one (d_set (i := 6) sc_Gauge_stands.nd rfl (by first | exact .inl rfl | exact .inr rfl) (d_fld (d_ix (d_bm0 (by decide) PySem.F.plainAttrs_list PySem.F.slot_list_pop PySem.F.type_list_pop mt_pop vm_pop (d_var 5)) d_int))))
      ds_nil)
    (ds_one (d_expr (d_bm (by decide) PySem.F.plainAttrs_list PySem.F.slot_list_append PySem.F.type_list_append mt_append vm_append (d_var 5) (d_cons (d_tup (d_cons (d_makeF F_Stretch_init (hr.mono (by decide)) (by rfl) bnd_Stretch_init_3 dfv_Stretch_init (da_p0 (d_cons (d_var 6) (d_cons (d_var 7) d_nil)))) (d_cons (d_var 8) d_nil))) d_nil)))))))
    (ds_one (d_ret (d_var 5))))))))
def g__law_feed (K : PySem.W.Frag) (a : Ad) : GS :=
  (gRet (Dl.gLst false (Dl.gCons (gCB (a1 (aList true)) (Dl.gCons (gSl true (gVar 0) gNoP (gPart (gC (.int 63)))) Dl.gNil)) (Dl.gCons (gC (.int 0)) (Dl.gCons (gC (.int 0)) Dl.gNil)))))
theorem t__law_feed (T : Txt K mg a)  {f : Addr} {cdv : Value} {A : Around} {outer : List Env} {s : Shared} {H : Hp} {E : XK} (hr : RoomG 0 (A.deeper (PyProof.Rows.envOfC "_law_feed" (defScope s__law_feed) s.heap.objs.size f cdv))) :
    PSs (cxOf CX0 P w K mg base N__law_feed "_law_feed" (defScope s__law_feed) f cdv A outer s H E).nox (defBody s__law_feed) (tofS K U0 (g__law_feed K a)) :=
  (ds_one (d_ret (d_lst false (d_cons (d_callTy call_list_of (vr_list (fz := true)) (by rfl) T.no_list (by decide +kernel) (d_cons (d_sl true (d_var 0) do_none (do_some d_int)) d_nil)) (d_cons d_int (d_cons d_int d_nil))))))
def g__law_draw (K : PySem.W.Frag) (a : Ad) : GS :=
  (gSeq (gIfS (gTest (gB2 aGt (gIx (gVar 0) (gC (.int 2))) (gC (.int 0)))) (gSeq (gSet 2 (gB2 aMod (gIx (gVar 0) (gC (.int 2))) (gVar 1))) (gSeq (gSetIx (gVar 0) (gC (.int 2)) (gB2 aFdiv (gIx (gVar 0) (gC (.int 2))) (gVar 1))) (gRet (gVar 2)))) gNext) (gSeq (gSet 3 (gIx (gVar 0) (gC (.int 1)))) (gSeq (gSetIx (gVar 0) (gC (.int 1)) (gB2 (aAdd true) (gVar 3) (gC (.int 1)))) (gSeq (gSet 4 (gIf (gTest (gB2 aNe (gIx (gVar 0) (gC (.int 0))) (Dl.gLst true Dl.gNil))) (gIx (gIx (gVar 0) (gC (.int 0))) (gB2 aMod (gVar 3) (gCB (a1 aLen) (Dl.gCons (gIx (gVar 0) (gC (.int 0))) Dl.gNil)))) (gB2 (aAdd true) (gB2 (aMul true) (gC (.int 7919)) (gVar 3)) (gC (.int 11))))) (gSeq (gIfS (gAndB (gTest (gB2 aLt (gVar 3) (gCB (a1 aLen) (Dl.gCons (gIx (gVar 0) (gC (.int 0))) Dl.gNil)))) (gTest (gB2 aGe (gVar 4) (gB2 aPow (gC (.int 10)) (gC (.int 18)))))) (gSeq (gSetIx (gVar 0) (gC (.int 2)) (gB2 aFdiv (gVar 4) (gVar 1))) (gRet (gB2 aMod (gVar 4) (gVar 1)))) gNext) (gSeq (gSet 5 (gB2 aMod (gB2 aPow (gB2 (aAdd true) (gB2 (aAdd true) (gB2 aMod (gVar 4) (gC (.int 2147483629))) (gB2 (aMul true) (gC (.int 104729)) (gVar 3))) (gC (.int 1013))) (gC (.int 3))) (gC (.int 2147483647)))) (gSeq (gSet 5 (gB2 aMod (gB2 (aMul true) (gB2 (aAdd true) (gB2 aFdiv (gVar 5) (gC (.int 16))) (gC (.int 40763))) (gB2 (aAdd true) (gB2 aMod (gB2 (aMul true) (gC (.int 48271)) (gVar 3)) (gC (.int 65521))) (gC (.int 3)))) (gC (.int 2147483587)))) (gRet (gB2 aMod (gB2 aFdiv (gVar 5) (gC (.int 32))) (gVar 1))))))))))
theorem t__law_draw (T : Txt K mg a)  {f : Addr} {cdv : Value} {A : Around} {outer : List Env} {s : Shared} {H : Hp} {E : XK} (hr : RoomG 0 (A.deeper (PyProof.Rows.envOfC "_law_draw" (defScope s__law_draw) s.heap.objs.size f cdv))) :
    PSs (cxOf CX0 P w K mg base N__law_draw "_law_draw" (defScope s__law_draw) f cdv A outer s H E).nox (defBody s__law_draw) (tofS K U0 (g__law_draw K a)) :=
  (ds_cons (d_if (d_tcmp op_gt vr_gt (d_ix (d_var 0) d_int) d_int)
      (ds_cons (d_set (i := 2) sc__law_draw.nd rfl (by first | exact .inl rfl | exact .inr rfl) (d_op op_mod vr_mod (d_ix (d_var 0) d_int) (d_var 1)))
    (ds_cons (d_setix (d_var 0) d_int (d_op or_fdiv vr_fdiv (d_ix (d_var 0) d_int) (d_var 1)))
    (ds_one (d_ret (d_var 2)))))
      ds_nil)
    (ds_cons (d_set (i := 3) sc__law_draw.nd rfl (by first | exact .inl rfl | exact .inr rfl) (d_ix (d_var 0) d_int))
    (ds_cons (d_setix (d_var 0) d_int (d_op or_add (vr_add (fz := true)) (d_var 3) d_int))
    (ds_cons (d_set (i := 4) sc__law_draw.nd rfl (by first | exact .inl rfl | exact .inr rfl) (d_ifExp (d_tcmp (op_neD hr.units) vr_ne (d_ix (d_var 0) d_int) (d_lst true d_nil)) (d_ix (d_ix (d_var 0) d_int) (d_op op_mod vr_mod (d_var 3) (d_callB or_len vr_len (by rfl) T.no_len (by decide +kernel) (d_cons (d_ix (d_var 0) d_int) d_nil)))) (d_op or_add (vr_add (fz := true)) (d_op or_mul (vr_mul (fz := true)) d_int (d_var 3)) d_int)))
    (ds_cons (d_if (PW.pt (d_and (d_tcmp op_lt vr_lt (d_var 3) (d_callB or_len vr_len (by rfl) T.no_len (by decide +kernel) (d_cons (d_ix (d_var 0) d_int) d_nil))) (d_and1 (d_tcmp op_ge vr_ge (d_var 4) (d_op op_pow vr_pow d_int d_int)))))
      (ds_cons (d_setix (d_var 0) d_int (d_op or_fdiv vr_fdiv (d_var 4) (d_var 1)))
    (ds_one (d_ret (d_op op_mod vr_mod (d_var 4) (d_var 1)))))
      ds_nil)
    (ds_cons (d_set (i := 5) sc__law_draw.nd rfl (by first | exact .inl rfl | exact .inr rfl) (d_op op_mod vr_mod (d_op op_pow vr_pow (d_op or_add (vr_add (fz := true)) (d_op or_add (vr_add (fz := true)) (d_op op_mod vr_mod (d_var 4) d_int) (d_op or_mul (vr_mul (fz := true)) d_int (d_var 3))) d_int) d_int) d_int))
    (ds_cons (d_set (i := 5) sc__law_draw.nd rfl (by first | exact .inl rfl | exact .inr rfl) (d_op op_mod vr_mod (d_op or_mul (vr_mul (fz := true)) (d_op or_add (vr_add (fz := true)) (d_op or_fdiv vr_fdiv (d_var 5) d_int) d_int) (d_op or_add (vr_add (fz := true)) (d_op op_mod vr_mod (d_op or_mul (vr_mul (fz := true)) d_int (d_var 3)) d_int) d_int)) d_int))
    (ds_one (d_ret (d_op op_mod vr_mod (d_op or_fdiv vr_fdiv (d_var 5) d_int) (d_var 1)))))))))))
def g__law_of (K : PySem.W.Frag) (a : Ad) : GS :=
  (gRet (gIx (gVar 1) (gCall 2 0 [.p 0, .p 1] [] (sp__law_draw a) (gArgs (Dl.gCons (gVar 0) (Dl.gCons (gCB (a1 aLen) (Dl.gCons (gVar 1) Dl.gNil)) Dl.gNil)) Dl.gNil))))
theorem t__law_of (T : Txt K mg a) (F__law_draw : Fnc P w K mg base "_law_draw" s__law_draw dv__law_draw 1 ps__law_draw (sp__law_draw a)) {f : Addr} {cdv : Value} {A : Around} {outer : List Env} {s : Shared} {H : Hp} {E : XK} (hr : RoomG 1 (A.deeper (PyProof.Rows.envOfC "_law_of" (defScope s__law_of) s.heap.objs.size f cdv))) :
    PSs (cxOf CX0 P w K mg base N__law_of "_law_of" (defScope s__law_of) f cdv A outer s H E).nox (defBody s__law_of) (tofS K U0 (g__law_of K a)) :=
  (ds_one (d_ret (d_ix (d_var 1) (d_call F__law_draw (hr.mono (by decide)) (by rfl) bnd__law_draw_2 dfv_nil (da_p0 (d_cons (d_var 0) (d_cons (d_callB or_len vr_len (by rfl) T.no_len (by decide +kernel) (d_cons (d_var 1) d_nil)) d_nil)))))))
def g__law_readings (K : PySem.W.Frag) (a : Ad) : GS :=
  (gSeq (gPar 2 3 (Dl.gCons (gCall 2 0 [.p 0, .p 1] [] (sp__law_of a) (gArgs (Dl.gCons (gVar 0) (Dl.gCons (Dl.gLst true (Dl.gCons (gC (.int 0)) (Dl.gCons (gCall 2 0 [.p 0, .p 1] [] (sp__law_draw a) (gArgs (Dl.gCons (gVar 0) (Dl.gCons (gC (.int 3000)) Dl.gNil)) Dl.gNil)) (Dl.gCons (gCall 2 0 [.p 0, .p 1] [] (sp__law_draw a) (gArgs (Dl.gCons (gVar 0) (Dl.gCons (gB2 aPow (gC (.int 10)) (gC (.int 6))) Dl.gNil)) Dl.gNil)) Dl.gNil)))) Dl.gNil)) Dl.gNil)) (Dl.gCons (Dl.gLst false Dl.gNil) Dl.gNil))) (gSeq (gFor (gRng1 (Dl.gCons (gCall 2 0 [.p 0, .p 1] [] (sp__law_draw a) (gArgs (Dl.gCons (gVar 0) (Dl.gCons (gVar 1) Dl.gNil)) Dl.gNil)) Dl.gNil)) (.nm 4) (gSeq (gSet 5 (gB2 (aAdd true) (gVar 2) (gCall 2 0 [.p 0, .p 1] [] (sp__law_of a) (gArgs (Dl.gCons (gVar 0) (Dl.gCons (Dl.gLst true (Dl.gCons (gC (.int 0)) (Dl.gCons (gCall 2 0 [.p 0, .p 1] [] (sp__law_draw a) (gArgs (Dl.gCons (gVar 0) (Dl.gCons (gC (.int 12)) Dl.gNil)) Dl.gNil)) (Dl.gCons (gCall 2 0 [.p 0, .p 1] [] (sp__law_draw a) (gArgs (Dl.gCons (gVar 0) (Dl.gCons (gC (.int 400)) Dl.gNil)) Dl.gNil)) (Dl.gCons (gCall 2 0 [.p 0, .p 1] [] (sp__law_draw a) (gArgs (Dl.gCons (gVar 0) (Dl.gCons (gC (.int 3000)) Dl.gNil)) Dl.gNil)) Dl.gNil))))) Dl.gNil)) Dl.gNil)))) (gSeq (gIfS (gAndB (gTest (gB2 aNe (gVar 3) (Dl.gLst true Dl.gNil))) (gTest (gB2 aEq (gCall 2 0 [.p 0, .p 1] [] (sp__law_draw a) (gArgs (Dl.gCons (gVar 0) (Dl.gCons (gC (.int 4)) Dl.gNil)) Dl.gNil)) (gC (.int 0))))) (gSet 5 (gIx (gCall 2 0 [.p 0, .p 1] [] (sp__law_of a) (gArgs (Dl.gCons (gVar 0) (Dl.gCons (gVar 3) Dl.gNil)) Dl.gNil)) (gC (.int 0)))) gNext) (gSeq (gSet 6 (gCall 2 0 [.p 0, .p 1] [] (sp__law_of a) (gArgs (Dl.gCons (gVar 0) (Dl.gCons (Dl.gLst true (Dl.gCons (gC (.int 0)) (Dl.gCons (gC (.int 4095)) (Dl.gCons (gCall 2 0 [.p 0, .p 1] [] (sp__law_draw a) (gArgs (Dl.gCons (gVar 0) (Dl.gCons (gC (.int 30)) Dl.gNil)) Dl.gNil)) (Dl.gCons (gCall 2 0 [.p 0, .p 1] [] (sp__law_draw a) (gArgs (Dl.gCons (gVar 0) (Dl.gCons (gC (.int 600)) Dl.gNil)) Dl.gNil)) (Dl.gCons (gCall 2 0 [.p 0, .p 1] [] (sp__law_draw a) (gArgs (Dl.gCons (gVar 0) (Dl.gCons (gC (.int 4096)) Dl.gNil)) Dl.gNil)) Dl.gNil)))))) Dl.gNil)) Dl.gNil))) (gDrop (gMt "list" aAppend (gVar 3) (Dl.gCons (Dl.gTup (Dl.gCons (gVar 5) (Dl.gCons (gIx (Dl.gLst true (Dl.gCons (gC (.str "water")) (Dl.gCons (gC (.str "ice")) Dl.gNil))) (gCall 2 0 [.p 0, .p 1] [] (sp__law_draw a) (gArgs (Dl.gCons (gVar 0) (Dl.gCons (gC (.int 2)) Dl.gNil)) Dl.gNil))) (Dl.gCons (gVar 6) Dl.gNil)))) Dl.gNil))))))) (gRet (gVar 3))))
theorem t__law_readings (T : Txt K mg a) (F__law_draw : Fnc P w K mg base "_law_draw" s__law_draw dv__law_draw 1 ps__law_draw (sp__law_draw a)) (F__law_of : Fnc P w K mg base "_law_of" s__law_of dv__law_of 2 ps__law_of (sp__law_of a)) {f : Addr} {cdv : Value} {A : Around} {outer : List Env} {s : Shared} {H : Hp} {E : XK} (hr : RoomG 2 (A.deeper (PyProof.Rows.envOfC "_law_readings" (defScope s__law_readings) s.heap.objs.size f cdv))) :
    PSs (cxOf CX0 P w K mg base N__law_readings "_law_readings" (defScope s__law_readings) f cdv A outer s H E).nox (defBody s__law_readings) (tofS K U0 (g__law_readings K a)) :=
  (ds_cons (d_par sc__law_readings.nd (d_cons (d_call F__law_of (hr.mono (by decide)) (by rfl) bnd__law_of_2 dfv_nil (da_p0 (d_cons (d_var 0) (d_cons (d_lst true (d_cons d_int (d_cons (d_call F__law_draw (hr.mono (by decide)) (by rfl) bnd__law_draw_2 dfv_nil (da_p0 (d_cons (d_var 0) (d_cons d_int d_nil)))) (d_cons (d_call F__law_draw (hr.mono (by decide)) (by rfl) bnd__law_draw_2 dfv_nil (da_p0 (d_cons (d_var 0) (d_cons (d_op op_pow vr_pow d_int d_int) d_nil)))) d_nil)))) d_nil)))) (d_cons (d_lst false d_nil) d_nil)))
    (ds_cons (d_for (t := (.nm 4)) PassesOwn.never rfl (di_rng1 (by rfl) T.no_range (d_cons (d_call F__law_draw (hr.mono (by decide)) (by rfl) bnd__law_draw_2 dfv_nil (da_p0 (d_cons (d_var 0) (d_cons (d_var 1) d_nil)))) d_nil)) (pg_name (i := 4) sc__law_readings.nd rfl (by first | exact .inl rfl | exact .inr rfl))
      (ds_cons (d_set (i := 5) sc__law_readings.nd rfl (by first | exact .inl rfl | exact .inr rfl) (d_op or_add (vr_add (fz := true)) (d_var 2) (d_call F__law_of (hr.mono (by decide)) (by rfl) bnd__law_of_2 dfv_nil (da_p0 (d_cons (d_var 0) (d_cons (d_lst true (d_cons d_int (d_cons (d_call F__law_draw (hr.mono (by decide)) (by rfl) bnd__law_draw_2 dfv_nil (da_p0 (d_cons (d_var 0) (d_cons d_int d_nil)))) (d_cons (d_call F__law_draw (hr.mono (by decide)) (by rfl) bnd__law_draw_2 dfv_nil (da_p0 (d_cons (d_var 0) (d_cons d_int d_nil)))) (d_cons (d_call F__law_draw (hr.mono (by decide)) (by rfl) bnd__law_draw_2 dfv_nil (da_p0 (d_cons (d_var 0) (d_cons d_int d_nil)))) d_nil))))) d_nil))))))
    (ds_cons (d_if (PW.pt (d_and (d_tcmp (op_neD hr.units) vr_ne (d_var 3) (d_lst true d_nil)) (d_and1 (d_tcmp (op_eqD hr.units) vr_eq (d_call F__law_draw (hr.mono (by decide)) (by rfl) bnd__law_draw_2 dfv_nil (da_p0 (d_cons (d_var 0) (d_cons d_int d_nil)))) d_int))))
      (ds_one (d_set (i := 5) sc__law_readings.nd rfl (by first | exact .inl rfl | exact .inr rfl) (d_ix (d_call F__law_of (hr.mono (by decide)) (by rfl) bnd__law_of_2 dfv_nil (da_p0 (d_cons (d_var 0) (d_cons (d_var 3) d_nil)))) d_int)))
      ds_nil)
    (ds_cons (d_set (i := 6) sc__law_readings.nd rfl (by first | exact .inl rfl | exact .inr rfl) (d_call F__law_of (hr.mono (by decide)) (by rfl) bnd__law_of_2 dfv_nil (da_p0 (d_cons (d_var 0) (d_cons (d_lst true (d_cons d_int (d_cons d_int (d_cons (d_call F__law_draw (hr.mono (by decide)) (by rfl) bnd__law_draw_2 dfv_nil (da_p0 (d_cons (d_var 0) (d_cons d_int d_nil)))) (d_cons (d_call F__law_draw (hr.mono (by decide)) (by rfl) bnd__law_draw_2 dfv_nil (da_p0 (d_cons (d_var 0) (d_cons d_int d_nil)))) (d_cons (d_call F__law_draw (hr.mono (by decide)) (by rfl) bnd__law_draw_2 dfv_nil (da_p0 (d_cons (d_var 0) (d_cons d_int d_nil)))) d_nil)))))) d_nil)))))
    (ds_one (d_expr (d_bm (by decide) PySem.F.plainAttrs_list PySem.F.slot_list_append PySem.F.type_list_append mt_append vm_append (d_var 3) (d_cons (d_tup (d_cons (d_var 5) (d_cons (d_ix (d_lst true (d_cons d_str (d_cons d_str d_nil))) (d_call F__law_draw (hr.mono (by decide)) (by rfl) bnd__law_draw_2 dfv_nil (da_p0 (d_cons (d_var 0) (d_cons d_int d_nil))))) (d_cons (d_var 6) d_nil)))) d_nil))))))))
    (ds_one (d_ret (d_var 3)))))
def g__law_bounds (K : PySem.W.Frag) (a : Ad) : GS :=
  (gSeq (gSet 1 (gCall 2 0 [.p 0, .p 1] [] (sp__law_of a) (gArgs (Dl.gCons (gVar 0) (Dl.gCons (Dl.gLst true (Dl.gCons (gC (.int 0)) (Dl.gCons (gC (.int 60)) (Dl.gCons (gC (.int 1440)) (Dl.gCons (gCall 2 0 [.p 0, .p 1] [] (sp__law_draw a) (gArgs (Dl.gCons (gVar 0) (Dl.gCons (gC (.int 90)) Dl.gNil)) Dl.gNil)) Dl.gNil))))) Dl.gNil)) Dl.gNil))) (gSeq (gSet 2 (gCB (a1 (aSorted true)) (Dl.gCons (gLc true (gRng1 (Dl.gCons (gC (.int 2)) Dl.gNil)) (.nm 4) gYes (gB2 (aAdd true) (gC (.int 1)) (gCall 2 0 [.p 0, .p 1] [] (sp__law_draw a) (gArgs (Dl.gCons (gVar 0) (Dl.gCons (gCall 2 0 [.p 0, .p 1] [] (sp__law_of a) (gArgs (Dl.gCons (gVar 0) (Dl.gCons (Dl.gLst true (Dl.gCons (gC (.int 30)) (Dl.gCons (gC (.int 500)) (Dl.gCons (gC (.int 4095)) Dl.gNil)))) Dl.gNil)) Dl.gNil)) Dl.gNil)) Dl.gNil))) [4]) Dl.gNil))) (gSeq (gSet 3 (gCB (a1 (aSorted true)) (Dl.gCons (gLc true (gRng1 (Dl.gCons (gC (.int 2)) Dl.gNil)) (.nm 4) gYes (gB2 (aAdd true) (gC (.int 1)) (gCall 2 0 [.p 0, .p 1] [] (sp__law_draw a) (gArgs (Dl.gCons (gVar 0) (Dl.gCons (gCall 2 0 [.p 0, .p 1] [] (sp__law_of a) (gArgs (Dl.gCons (gVar 0) (Dl.gCons (Dl.gLst true (Dl.gCons (gC (.int 12)) (Dl.gCons (gC (.int 30)) (Dl.gCons (gC (.int 4095)) Dl.gNil)))) Dl.gNil)) Dl.gNil)) Dl.gNil)) Dl.gNil))) [4]) Dl.gNil))) (gRet (gB2 (aAdd true) (gB2 (aAdd true) (Dl.gLst true (Dl.gCons (gVar 1) Dl.gNil)) (gVar 2)) (gVar 3))))))
theorem t__law_bounds (T : Txt K mg a) (F__law_draw : Fnc P w K mg base "_law_draw" s__law_draw dv__law_draw 1 ps__law_draw (sp__law_draw a)) (F__law_of : Fnc P w K mg base "_law_of" s__law_of dv__law_of 2 ps__law_of (sp__law_of a)) {f : Addr} {cdv : Value} {A : Around} {outer : List Env} {s : Shared} {H : Hp} {E : XK} (hr : RoomG 2 (A.deeper (PyProof.Rows.envOfC "_law_bounds" (defScope s__law_bounds) s.heap.objs.size f cdv))) :
    PSs (cxOf CX0 P w K mg base N__law_bounds "_law_bounds" (defScope s__law_bounds) f cdv A outer s H E).nox (defBody s__law_bounds) (tofS K U0 (g__law_bounds K a)) :=
  (ds_cons (d_set (i := 1) sc__law_bounds.nd rfl (by first | exact .inl rfl | exact .inr rfl) (d_call F__law_of (hr.mono (by decide)) (by rfl) bnd__law_of_2 dfv_nil (da_p0 (d_cons (d_var 0) (d_cons (d_lst true (d_cons d_int (d_cons d_int (d_cons d_int (d_cons (d_call F__law_draw (hr.mono (by decide)) (by rfl) bnd__law_draw_2 dfv_nil (da_p0 (d_cons (d_var 0) (d_cons d_int d_nil)))) d_nil))))) d_nil)))))
    (ds_cons (d_set (i := 2) sc__law_bounds.nd rfl (by first | exact .inl rfl | exact .inr rfl) (d_callB (cr_sortedD hr.units) (vr_sorted (fz := true)) (by rfl) T.no_sorted (by decide +kernel) (d_cons (d_lc (own := [("_law_k", 4)]) (t := (.nm 4)) true rfl sc__law_bounds.nd (di_rng1 (by rfl) T.no_range (d_cons d_int d_nil)) (blkOk_by (own := [("_law_k", 4)]) (N := N__law_bounds) (sc := defScope s__law_bounds) (by decide +kernel)) (by decide) (fun _ _ _ _ _ => (pg_name (i := 4) sc__law_bounds.nd rfl (by first | exact .inl rfl | exact .inr rfl))) (fun _ _ _ _ _ => dt_nil) (fun _ _ _ _ _ => (d_op or_add (vr_add (fz := true)) d_int (d_call F__law_draw (hr.mono (by decide)) (by rfl) bnd__law_draw_2 dfv_nil (da_p0 (d_cons (d_var 0) (d_cons (d_call F__law_of (hr.mono (by decide)) (by rfl) bnd__law_of_2 dfv_nil (da_p0 (d_cons (d_var 0) (d_cons (d_lst true (d_cons d_int (d_cons d_int (d_cons d_int d_nil)))) d_nil)))) d_nil))))))) d_nil)))
    (ds_cons (d_set (i := 3) sc__law_bounds.nd rfl (by first | exact .inl rfl | exact .inr rfl) (d_callB (cr_sortedD hr.units) (vr_sorted (fz := true)) (by rfl) T.no_sorted (by decide +kernel) (d_cons (d_lc (own := [("_law_k", 4)]) (t := (.nm 4)) true rfl sc__law_bounds.nd (di_rng1 (by rfl) T.no_range (d_cons d_int d_nil)) (blkOk_by (own := [("_law_k", 4)]) (N := N__law_bounds) (sc := defScope s__law_bounds) (by decide +kernel)) (by decide) (fun _ _ _ _ _ => (pg_name (i := 4) sc__law_bounds.nd rfl (by first | exact .inl rfl | exact .inr rfl))) (fun _ _ _ _ _ => dt_nil) (fun _ _ _ _ _ => (d_op or_add (vr_add (fz := true)) d_int (d_call F__law_draw (hr.mono (by decide)) (by rfl) bnd__law_draw_2 dfv_nil (da_p0 (d_cons (d_var 0) (d_cons (d_call F__law_of (hr.mono (by decide)) (by rfl) bnd__law_of_2 dfv_nil (da_p0 (d_cons (d_var 0) (d_cons (d_lst true (d_cons d_int (d_cons d_int (d_cons d_int d_nil)))) d_nil)))) d_nil))))))) d_nil)))
    (ds_one (d_ret (d_op or_add (vr_add (fz := true)) (d_op or_add (vr_add (fz := true)) (d_lst true (d_cons (d_var 1) d_nil)) (d_var 2)) (d_var 3)))))))
def g__law_last (K : PySem.W.Frag) (a : Ad) : GS :=
  (gSeq (gSet 2 (gC .non)) (gSeq (gFor (gIt (gVar 0)) (.tp [(.nm 3), (.nm 4)]) (gIfS (gAndB (gTest (gB2 aLe (gVar 3) (gVar 1))) (gOrB (gTest (gIsN (gVar 2))) (gTest (gB2 aGe (gVar 3) (gIx (gVar 2) (gC (.int 0))))))) (gSet 2 (Dl.gTup (Dl.gCons (gVar 3) (Dl.gCons (gVar 4) Dl.gNil)))) gNext)) (gRet (gIf (gTest (gIsN (gVar 2))) (gC (.int 0)) (gIx (gVar 2) (gC (.int 1)))))))
theorem t__law_last (T : Txt K mg a)  {f : Addr} {cdv : Value} {A : Around} {outer : List Env} {s : Shared} {H : Hp} {E : XK} (hr : RoomG 0 (A.deeper (PyProof.Rows.envOfC "_law_last" (defScope s__law_last) s.heap.objs.size f cdv))) :
    PSs (cxOf CX0 P w K mg base N__law_last "_law_last" (defScope s__law_last) f cdv A outer s H E).nox (defBody s__law_last) (tofS K U0 (g__law_last K a)) :=
  (ds_cons (d_set (i := 2) sc__law_last.nd rfl (by first | exact .inl rfl | exact .inr rfl) d_non)
    (ds_cons (d_for (t := (.tp [(.nm 3), (.nm 4)])) PassesOwn.never rfl (di_seq (d_var 0)) (pg_tup rfl (pgs_cons (pg_name (i := 3) sc__law_last.nd rfl (by first | exact .inl rfl | exact .inr rfl)) (pgs_cons (pg_name (i := 4) sc__law_last.nd rfl (by first | exact .inl rfl | exact .inr rfl)) pgs_nil)))
      (ds_one (d_if (PW.pt (d_and (d_tcmp op_le vr_le (d_var 3) (d_var 1)) (d_and1 (PW.pt (d_or (d_tisN (d_var 2)) (d_or1 (d_tcmp op_ge vr_ge (d_var 3) (d_ix (d_var 2) d_int))))))))
      (ds_one (d_set (i := 2) sc__law_last.nd rfl (by first | exact .inl rfl | exact .inr rfl) (d_tup (d_cons (d_var 3) (d_cons (d_var 4) d_nil)))))
      ds_nil)))
    (ds_one (d_ret (d_ifExp (d_tisN (d_var 2)) d_int (d_ix (d_var 2) d_int))))))
def g__law_stand (K : PySem.W.Frag) (a : Ad) : GS :=
  (gSeq (gSet 3 (gCall 2 0 [.p 0, .p 1] [] (sp__law_last a) (gArgs (Dl.gCons (gLc true (gIt (gVar 1)) (.nm 5) (gTest (gB2 aEqS (gIx (gVar 5) (gC (.int 1))) (gC (.str "water")))) (Dl.gTup (Dl.gCons (gB2 (aAdd true) (gIx (gVar 5) (gC (.int 0))) (gIx (gVar 0) (gC (.int 0)))) (Dl.gCons (gIx (gVar 5) (gC (.int 2))) Dl.gNil))) [5]) (Dl.gCons (gVar 2) Dl.gNil)) Dl.gNil))) (gSeq (gSet 4 (gCall 2 0 [.p 0, .p 1] [] (sp__law_last a) (gArgs (Dl.gCons (gLc true (gIt (gVar 1)) (.nm 5) (gTest (gB2 aEqS (gIx (gVar 5) (gC (.int 1))) (gC (.str "ice")))) (Dl.gTup (Dl.gCons (gIx (gVar 5) (gC (.int 0))) (Dl.gCons (gIx (gVar 5) (gC (.int 2))) Dl.gNil))) [5]) (Dl.gCons (gVar 2) Dl.gNil)) Dl.gNil))) (gSeq (gIfS (gTest (gB2 aGe (gVar 3) (gIx (gVar 0) (gC (.int 2))))) (gRet (gC (.str "lost"))) gNext) (gSeq (gIfS (gTest (gB2 aGe (gVar 4) (gIx (gVar 0) (gC (.int 4))))) (gRet (gC (.str "shut"))) gNext) (gRet (gIf (gOrB (gTest (gB2 aGe (gVar 3) (gIx (gVar 0) (gC (.int 1))))) (gTest (gB2 aGe (gVar 4) (gIx (gVar 0) (gC (.int 3)))))) (gC (.str "slow")) (gC (.str "free"))))))))
theorem t__law_stand (T : Txt K mg a) (F__law_last : Fnc P w K mg base "_law_last" s__law_last dv__law_last 1 ps__law_last (sp__law_last a)) {f : Addr} {cdv : Value} {A : Around} {outer : List Env} {s : Shared} {H : Hp} {E : XK} (hr : RoomG 1 (A.deeper (PyProof.Rows.envOfC "_law_stand" (defScope s__law_stand) s.heap.objs.size f cdv))) :
    PSs (cxOf CX0 P w K mg base N__law_stand "_law_stand" (defScope s__law_stand) f cdv A outer s H E).nox (defBody s__law_stand) (tofS K U0 (g__law_stand K a)) :=
  (ds_cons (d_set (i := 3) sc__law_stand.nd rfl (by first | exact .inl rfl | exact .inr rfl) (d_call F__law_last (hr.mono (by decide)) (by rfl) bnd__law_last_2 dfv_nil (da_p0 (d_cons (d_lc (own := [("_law_row", 5)]) (t := (.nm 5)) true rfl sc__law_stand.nd (di_seq (d_var 1)) (blkOk_by (own := [("_law_row", 5)]) (N := N__law_stand) (sc := defScope s__law_stand) (by decide +kernel)) (by decide) (fun _ _ _ _ _ => (pg_name (i := 5) sc__law_stand.nd rfl (by first | exact .inl rfl | exact .inr rfl))) (fun _ _ _ _ _ => (dt_one (d_tcmp op_eq vr_eqSS (d_ix (d_var 5) d_int) d_str))) (fun _ _ _ _ _ => (d_tup (d_cons (d_op or_add (vr_add (fz := true)) (d_ix (d_var 5) d_int) (d_ix (d_var 0) d_int)) (d_cons (d_ix (d_var 5) d_int) d_nil))))) (d_cons (d_var 2) d_nil)))))
    (ds_cons (d_set (i := 4) sc__law_stand.nd rfl (by first | exact .inl rfl | exact .inr rfl) (d_call F__law_last (hr.mono (by decide)) (by rfl) bnd__law_last_2 dfv_nil (da_p0 (d_cons (d_lc (own := [("_law_row", 5)]) (t := (.nm 5)) true rfl sc__law_stand.nd (di_seq (d_var 1)) (blkOk_by (own := [("_law_row", 5)]) (N := N__law_stand) (sc := defScope s__law_stand) (by decide +kernel)) (by decide) (fun _ _ _ _ _ => (pg_name (i := 5) sc__law_stand.nd rfl (by first | exact .inl rfl | exact .inr rfl))) (fun _ _ _ _ _ => (dt_one (d_tcmp op_eq vr_eqSS (d_ix (d_var 5) d_int) d_str))) (fun _ _ _ _ _ => (d_tup (d_cons (d_ix (d_var 5) d_int) (d_cons (d_ix (d_var 5) d_int) d_nil))))) (d_cons (d_var 2) d_nil)))))
    (ds_cons (d_if (d_tcmp op_ge vr_ge (d_var 3) (d_ix (d_var 0) d_int))
      (ds_one (d_ret d_str))
      ds_nil)
    (ds_cons (d_if (d_tcmp op_ge vr_ge (d_var 4) (d_ix (d_var 0) d_int))
      (ds_one (d_ret d_str))
      ds_nil)
    (ds_one (d_ret (d_ifExp (PW.pt (d_or (d_tcmp op_ge vr_ge (d_var 3) (d_ix (d_var 0) d_int)) (d_or1 (d_tcmp op_ge vr_ge (d_var 4) (d_ix (d_var 0) d_int))))) d_str d_str)))))))
def g__law_edges (K : PySem.W.Frag) (a : Ad) : GS :=
  (gRet (gLc true (gIt (gVar 1)) (.nm 2) gYes (gB2 (aAdd true) (gIx (gVar 2) (gC (.int 0))) (gIx (Dl.gLst true (Dl.gCons (gC (.int 0)) (Dl.gCons (gIx (gVar 0) (gC (.int 0))) Dl.gNil))) (gCB (a1 aInt) (Dl.gCons (gB2 aEqS (gIx (gVar 2) (gC (.int 1))) (gC (.str "water"))) Dl.gNil)))) [2]))
theorem t__law_edges (T : Txt K mg a)  {f : Addr} {cdv : Value} {A : Around} {outer : List Env} {s : Shared} {H : Hp} {E : XK} (hr : RoomG 0 (A.deeper (PyProof.Rows.envOfC "_law_edges" (defScope s__law_edges) s.heap.objs.size f cdv))) :
    PSs (cxOf CX0 P w K mg base N__law_edges "_law_edges" (defScope s__law_edges) f cdv A outer s H E).nox (defBody s__law_edges) (tofS K U0 (g__law_edges K a)) :=
  (ds_one (d_ret (d_lc (own := [("_law_row", 2)]) (t := (.nm 2)) true rfl sc__law_edges.nd (di_seq (d_var 1)) (blkOk_by (own := [("_law_row", 2)]) (N := N__law_edges) (sc := defScope s__law_edges) (by decide +kernel)) (by decide) (fun _ _ _ _ _ => (pg_name (i := 2) sc__law_edges.nd rfl (by first | exact .inl rfl | exact .inr rfl))) (fun _ _ _ _ _ => dt_nil) (fun _ _ _ _ _ => (d_op or_add (vr_add (fz := true)) (d_ix (d_var 2) d_int) (d_ix (d_lst true (d_cons d_int (d_cons (d_ix (d_var 0) d_int) d_nil))) (d_callTy or_int vr_int (by rfl) T.no_int (by decide +kernel) (d_cons (d_cmp op_eq vr_eqSS (d_ix (d_var 2) d_int) d_str) d_nil))))))))
def g__law_right (K : PySem.W.Frag) (a : Ad) : GS :=
  (gSeq (gPar 5 6 (Dl.gCons (gVar 3) (Dl.gCons (gC .non) Dl.gNil))) (gSeq (gFor (gIt (gVar 2)) (.tp [(.nm 7), (.nm 8)]) (gSeq (gIfS (gOrB (gNotB (gTest (gCB (a2 (aIsiC K)) (Dl.gCons (gVar 7) (Dl.gCons (gC (.ref a.C_Stretch)) Dl.gNil))))) (gOrB (gTest (gB2 aNe (gFld K "first" (gVar 7)) (gVar 5))) (gOrB (gTest (gB2 aEq (gCB (a1 (aLenO a.C_Stretch (sp_Stretch_len a))) (Dl.gCons (gVar 7) Dl.gNil)) (gC (.int 0)))) (gTest (gB2 aEqO (gVar 8) (gVar 6)))))) (gRet (gC (.bl false))) gNext) (gSeq (gSet 9 (gLc true (gIt (gCall 2 0 [.p 0, .p 1] [] (sp__law_edges a) (gArgs (Dl.gCons (gVar 0) (Dl.gCons (gVar 1) Dl.gNil)) Dl.gNil))) (.nm 11) (gTest (gChain aLe aLt (gFld K "first" (gVar 7)) (gVar 11) (gFld K "behind" (gVar 7)))) (gVar 11) [11])) (gSeq (gFor (gIt (gB2 (aAdd true) (gVar 9) (Dl.gLst true (Dl.gCons (gFld K "first" (gVar 7)) (Dl.gCons (gB2 aSub (gFld K "behind" (gVar 7)) (gC (.int 1))) Dl.gNil))))) (.nm 10) (gIfS (gTest (gB2 aNeS (gCall 3 0 [.p 0, .p 1, .p 2] [] (sp__law_stand a) (gArgs (Dl.gCons (gVar 0) (Dl.gCons (gVar 1) (Dl.gCons (gVar 10) Dl.gNil))) Dl.gNil)) (gVar 8))) (gRet (gC (.bl false))) gNext)) (gPar 5 6 (Dl.gCons (gFld K "behind" (gVar 7)) (Dl.gCons (gVar 8) Dl.gNil))))))) (gRet (gB2 aEq (gVar 5) (gVar 4)))))
theorem t__law_right (T : Txt K mg a) (F_Stretch_len : MFn P w K mg base a.C_Stretch "__len__" "Stretch.__len__" s_Stretch_len dv_Stretch_len 1 ps_Stretch_len (sp_Stretch_len a)) (F__law_edges : Fnc P w K mg base "_law_edges" s__law_edges dv__law_edges 1 ps__law_edges (sp__law_edges a)) (F__law_stand : Fnc P w K mg base "_law_stand" s__law_stand dv__law_stand 2 ps__law_stand (sp__law_stand a)) {f : Addr} {cdv : Value} {A : Around} {outer : List Env} {s : Shared} {H : Hp} {E : XK} (hr : RoomG 2 (A.deeper (PyProof.Rows.envOfC "_law_right" (defScope s__law_right) s.heap.objs.size f cdv))) :
    PSs (cxOf CX0 P w K mg base N__law_right "_law_right" (defScope s__law_right) f cdv A outer s H E).nox (defBody s__law_right) (tofS K U0 (g__law_right K a)) :=
  (ds_cons (d_par sc__law_right.nd (d_cons (d_var 3) (d_cons d_non d_nil)))
    (ds_cons (d_for (t := (.tp [(.nm 7), (.nm 8)])) PassesOwn.never rfl (di_seq (d_var 2)) (pg_tup rfl (pgs_cons (pg_name (i := 7) sc__law_right.nd rfl (by first | exact .inl rfl | exact .inr rfl)) (pgs_cons (pg_name (i := 8) sc__law_right.nd rfl (by first | exact .inl rfl | exact .inr rfl)) pgs_nil)))
      (ds_cons (d_if (PW.pt (d_or (d_not (d_val (d_callB call_isi vr_isiC (by rfl) T.no_isinstance (by decide +kernel) (d_cons (d_var 7) (d_cons (d_gref (by rfl) T.mC_Stretch) d_nil))))) (d_or (d_tcmp (op_neD hr.units) vr_ne (d_fld (d_var 7)) (d_var 5)) (d_or (d_tcmp (op_eqD hr.units) vr_eq (d_callB (or_lenO F_Stretch_len (hr.mono (by decide)) bnd_Stretch_len_1) vr_lenO (by rfl) T.no_len (by decide +kernel) (d_cons (d_var 7) d_nil)) d_int) (d_or1 (d_tcmp (or_eqO hr.units op_eq) vr_eqO (d_var 8) (d_var 6)))))))
      (ds_one (d_ret d_bl))
      ds_nil)
    (ds_cons (d_setLc (own := [("_law_edge", 11)]) (t := (.nm 11)) true (i := 9) rfl sc__law_right.nd rfl rfl (sw_true rfl rfl rfl (by decide +kernel)) (di_seq (d_call F__law_edges (hr.mono (by decide)) (by rfl) bnd__law_edges_2 dfv_nil (da_p0 (d_cons (d_var 0) (d_cons (d_var 1) d_nil))))) (blkOk_by (own := [("_law_edge", 11)]) (N := N__law_right) (sc := defScope s__law_right) (by decide +kernel)) (by decide) (fun _ _ _ _ _ => (pg_name (i := 11) sc__law_right.nd rfl (by first | exact .inl rfl | exact .inr rfl))) (fun _ _ _ _ _ => (dt_one (d_tchain op_le op_lt vr_le vr_lt (d_fld (d_var 7)) (d_var 11) (d_fld (d_var 7))))) (fun _ _ _ _ _ => (d_var 11)))
    (ds_cons (d_for (t := (.nm 10)) PassesOwn.never rfl (di_seq (d_op or_add (vr_add (fz := true)) (d_var 9) (d_lst true (d_cons (d_fld (d_var 7)) (d_cons (d_op op_sub vr_sub (d_fld (d_var 7)) d_int) d_nil))))) (pg_name (i := 10) sc__law_right.nd rfl (by first | exact .inl rfl | exact .inr rfl))
      (ds_one (d_if (d_tcmp op_ne vr_neSS (d_call F__law_stand (hr.mono (by decide)) (by rfl) bnd__law_stand_3 dfv_nil (da_p0 (d_cons (d_var 0) (d_cons (d_var 1) (d_cons (d_var 10) d_nil))))) (d_var 8))
      (ds_one (d_ret d_bl))
      ds_nil)))
    (ds_one (d_par sc__law_right.nd (d_cons (d_fld (d_var 7)) (d_cons (d_var 8) d_nil))))))))
    (ds_one (d_ret (d_cmp (op_eqD hr.units) vr_eq (d_var 5) (d_var 4))))))
def g_law (K : PySem.W.Frag) (a : Ad) : GS :=
  (gSeq (gSet 1 (gCall 1 0 [.p 0] [] (sp__law_feed a) (gArgs (Dl.gCons (gVar 0) Dl.gNil) Dl.gNil))) (gSeq (gFor (gRng1 (Dl.gCons (gC (.int 3)) Dl.gNil)) (.nm 2) (gSeq (gSet 3 (gCall 1 0 [.p 0] [] (sp__law_bounds a) (gArgs (Dl.gCons (gVar 1) Dl.gNil) Dl.gNil))) (gSeq (gSet 4 (gMakeF a.C_Gauge 5 0 [.p 0, .p 1, .p 2, .p 3, .p 4, .p 5] [.int 60, .int 200, .int 400, .int 5, .int 20] (sp_Gauge_init a) (gArgs (Dl.gCons (gIx (gVar 3) (gC (.int 0))) (Dl.gCons (gIx (gVar 3) (gC (.int 1))) (Dl.gCons (gIx (gVar 3) (gC (.int 2))) (Dl.gCons (gIx (gVar 3) (gC (.int 3))) (Dl.gCons (gIx (gVar 3) (gC (.int 4))) Dl.gNil))))) Dl.gNil))) (gSeq (gSet 5 (gCall 2 0 [.p 0, .p 1] [] (sp__law_readings a) (gArgs (Dl.gCons (gVar 1) (Dl.gCons (gCall 2 0 [.p 0, .p 1] [] (sp__law_of a) (gArgs (Dl.gCons (gVar 1) (Dl.gCons (Dl.gLst true (Dl.gCons (gC (.int 16)) (Dl.gCons (gC (.int 16)) (Dl.gCons (gC (.int 16)) (Dl.gCons (gC (.int 151)) Dl.gNil))))) Dl.gNil)) Dl.gNil)) Dl.gNil)) Dl.gNil))) (gSeq (gPar 6 7 (Dl.gCons (gB2 (aAdd true) (gCall 2 0 [.p 0, .p 1] [] (sp__law_edges a) (gArgs (Dl.gCons (gVar 3) (Dl.gCons (gVar 5) Dl.gNil)) Dl.gNil)) (Dl.gLst true (Dl.gCons (gC (.int 0)) (Dl.gCons (gC (.int 1)) Dl.gNil)))) (Dl.gCons (Dl.gLst false Dl.gNil) Dl.gNil))) (gSeq (gFor (gRng1 (Dl.gCons (gIf (gTest (gB2 aGt (gCB (a1 aLen) (Dl.gCons (gVar 5) Dl.gNil)) (gC (.int 30)))) (gC (.int 1)) (gC (.int 4))) Dl.gNil)) (.nm 8) (gSeq (gSet 9 (gCB (a2 aMax2) (Dl.gCons (gC (.int 0)) (Dl.gCons (gB2 aSub (gB2 (aAdd true) (gCall 2 0 [.p 0, .p 1] [] (sp__law_of a) (gArgs (Dl.gCons (gVar 1) (Dl.gCons (gVar 6) Dl.gNil)) Dl.gNil)) (gCall 2 0 [.p 0, .p 1] [] (sp__law_draw a) (gArgs (Dl.gCons (gVar 1) (Dl.gCons (gC (.int 5)) Dl.gNil)) Dl.gNil))) (gC (.int 2))) Dl.gNil)))) (gSeq (gSet 10 (gB2 (aAdd true) (gVar 9) (gCall 2 0 [.p 0, .p 1] [] (sp__law_of a) (gArgs (Dl.gCons (gVar 1) (Dl.gCons (Dl.gLst true (Dl.gCons (gC (.int 0)) (Dl.gCons (gC (.int 1)) (Dl.gCons (gCall 2 0 [.p 0, .p 1] [] (sp__law_draw a) (gArgs (Dl.gCons (gVar 1) (Dl.gCons (gC (.int 90)) Dl.gNil)) Dl.gNil)) (Dl.gCons (gCall 2 0 [.p 0, .p 1] [] (sp__law_draw a) (gArgs (Dl.gCons (gVar 1) (Dl.gCons (gC (.int 5000)) Dl.gNil)) Dl.gNil)) (Dl.gCons (gB2 aPow (gC (.int 10)) (gC (.int 8))) Dl.gNil)))))) Dl.gNil)) Dl.gNil)))) (gSeq (gIfS (gTest (gB2 aEq (gCall 2 0 [.p 0, .p 1] [] (sp__law_draw a) (gArgs (Dl.gCons (gVar 1) (Dl.gCons (gC (.int 3)) Dl.gNil)) Dl.gNil)) (gC (.int 0)))) (gSet 10 (gCB (a2 aMax2) (Dl.gCons (gVar 9) (Dl.gCons (gB2 aSub (gB2 (aAdd true) (gCall 2 0 [.p 0, .p 1] [] (sp__law_of a) (gArgs (Dl.gCons (gVar 1) (Dl.gCons (gVar 6) Dl.gNil)) Dl.gNil)) (gCall 2 0 [.p 0, .p 1] [] (sp__law_draw a) (gArgs (Dl.gCons (gVar 1) (Dl.gCons (gC (.int 3)) Dl.gNil)) Dl.gNil))) (gC (.int 1))) Dl.gNil)))) gNext) (gSeq (gPar 11 12 (Dl.gCons (gCB (a1 (aList true)) (Dl.gCons (gVar 5) Dl.gNil)) (Dl.gCons (gMakeF a.C_Stretch 2 0 [.p 0, .p 1, .p 2] [.non] (sp_Stretch_init a) (gArgs (Dl.gCons (gVar 9) (Dl.gCons (gVar 10) Dl.gNil)) Dl.gNil)) Dl.gNil))) (gSeq (gSet 13 (gMeth a.C_Gauge "stands" 2 0 [.p 0, .p 1, .p 2] [] (sp_Gauge_stands_live a) (gVar 4) (gArgs (Dl.gCons (gVar 11) (Dl.gCons (gVar 12) Dl.gNil)) Dl.gNil))) (gSeq (gIfS (gOrB (gNotB (gTest (gCB (a2 aIsi) (Dl.gCons (gVar 13) (Dl.gCons (gC (.ty "list")) Dl.gNil))))) (gOrB (gNotB (gTest (gCall 5 0 [.p 0, .p 1, .p 2, .p 3, .p 4] [] (sp__law_right a) (gArgs (Dl.gCons (gVar 3) (Dl.gCons (gVar 5) (Dl.gCons (gVar 13) (Dl.gCons (gVar 9) (Dl.gCons (gVar 10) Dl.gNil))))) Dl.gNil)))) (gTest (gB2 aNe (gVar 11) (gVar 5))))) (gRet (gC (.bl false))) gNext) (gSeq (gSet 14 (gMeth a.C_Gauge "stands" 0 2 [.p 0, .k 1, .k 0] [] (sp_Gauge_stands a) (gVar 4) (gArgs Dl.gNil (Dl.gCons (gVar 12) (Dl.gCons (gVar 11) Dl.gNil))))) (gSeq (gDrop (gMt "list" aAppend (gVar 7) (Dl.gCons (Dl.gTup (Dl.gCons (gVar 14) (Dl.gCons (gCB (a1 (aReprO [⟨a.C_Stretch, 1, (sp_Stretch_repr a)⟩] 1 3)) (Dl.gCons (gVar 14) Dl.gNil)) Dl.gNil))) Dl.gNil))) (gSeq (gDrop (gMt "list" aClear (gVar 13) Dl.gNil)) (gSeq (gIfS (gNotB (gTest (gCall 5 0 [.p 0, .p 1, .p 2, .p 3, .p 4] [] (sp__law_right a) (gArgs (Dl.gCons (gVar 3) (Dl.gCons (gVar 5) (Dl.gCons (gVar 14) (Dl.gCons (gVar 9) (Dl.gCons (gVar 10) Dl.gNil))))) Dl.gNil)))) (gRet (gC (.bl false))) gNext) (gIfS (gAndB (gTest (gB2 aEq (gVar 9) (gVar 10))) (gTest (gB2 (aNil true) (gVar 14) (Dl.gLst true Dl.gNil)))) (gRet (gC (.bl false))) gNext)))))))))))) (gIfS (gTest (gB2 (aNil true) (gLc true (gIt (gVar 7)) (.tp [(.nm 15), (.nm 16)]) (gTest (gB2 aNeS (gCB (a1 (aReprO [⟨a.C_Stretch, 1, (sp_Stretch_repr a)⟩] 1 3)) (Dl.gCons (gVar 15) Dl.gNil)) (gVar 16))) (gVar 16) [15, 16]) (Dl.gLst true Dl.gNil))) (gRet (gC (.bl false))) gNext))))))) (gRet (gB2 (aEqTL a.C_Stretch (sp_Stretch_eq a)) (gMeth a.C_Gauge "stands" 2 0 [.p 0, .p 1, .p 2] [] (sp_Gauge_stands a) (gMakeF a.C_Gauge 0 0 [.p 0, .d 0, .d 1, .d 2, .d 3, .d 4] [.int 60, .int 200, .int 400, .int 5, .int 20] (sp_Gauge_init a) (gArgs Dl.gNil Dl.gNil)) (gArgs (Dl.gCons (Dl.gLst true Dl.gNil) (Dl.gCons (gMakeF a.C_Stretch 2 0 [.p 0, .p 1, .p 2] [.non] (sp_Stretch_init a) (gArgs (Dl.gCons (gC (.int 3)) (Dl.gCons (gC (.int 9)) Dl.gNil)) Dl.gNil)) Dl.gNil)) Dl.gNil)) (Dl.gLst true (Dl.gCons (Dl.gTup (Dl.gCons (gMakeF a.C_Stretch 2 0 [.p 0, .p 1, .p 2] [.non] (sp_Stretch_init a) (gArgs (Dl.gCons (gC (.int 3)) (Dl.gCons (gC (.int 9)) Dl.gNil)) Dl.gNil)) (Dl.gCons (gC (.str "free")) Dl.gNil))) Dl.gNil))))))
theorem t_law (T : Txt K mg a) (F_Gauge_init : CFn P w K mg base "Gauge" a.C_Gauge "Gauge.__init__" s_Gauge_init dv_Gauge_init 1 ps_Gauge_init (sp_Gauge_init a)) (F_Gauge_stands_live : MFn P w K mg base a.C_Gauge "stands" "Gauge.stands" s_Gauge_stands dv_Gauge_stands 3 ps_Gauge_stands (sp_Gauge_stands_live a)) (F_Gauge_stands : MFn P w K mg base a.C_Gauge "stands" "Gauge.stands" s_Gauge_stands dv_Gauge_stands 3 ps_Gauge_stands (sp_Gauge_stands a)) (F_Stretch_eq : MFn P w K mg base a.C_Stretch "__eq__" "Stretch.__eq__" s_Stretch_eq dv_Stretch_eq 1 ps_Stretch_eq (sp_Stretch_eq a)) (F_Stretch_init : CFn P w K mg base "Stretch" a.C_Stretch "Stretch.__init__" s_Stretch_init dv_Stretch_init 1 ps_Stretch_init (sp_Stretch_init a)) (F_Stretch_repr : MFn P w K mg base a.C_Stretch "__repr__" "Stretch.__repr__" s_Stretch_repr dv_Stretch_repr 1 ps_Stretch_repr (sp_Stretch_repr a)) (F__law_bounds : Fnc P w K mg base "_law_bounds" s__law_bounds dv__law_bounds 3 ps__law_bounds (sp__law_bounds a)) (F__law_draw : Fnc P w K mg base "_law_draw" s__law_draw dv__law_draw 1 ps__law_draw (sp__law_draw a)) (F__law_edges : Fnc P w K mg base "_law_edges" s__law_edges dv__law_edges 1 ps__law_edges (sp__law_edges a)) (F__law_feed : Fnc P w K mg base "_law_feed" s__law_feed dv__law_feed 1 ps__law_feed (sp__law_feed a)) (F__law_of : Fnc P w K mg base "_law_of" s__law_of dv__law_of 2 ps__law_of (sp__law_of a)) (F__law_readings : Fnc P w K mg base "_law_readings" s__law_readings dv__law_readings 3 ps__law_readings (sp__law_readings a)) (F__law_right : Fnc P w K mg base "_law_right" s__law_right dv__law_right 3 ps__law_right (sp__law_right a)) {f : Addr} {cdv : Value} {A : Around} {outer : List Env} {s : Shared} {H : Hp} {E : XK} (hr : RoomG 164 (A.deeper (PyProof.Rows.envOfC "law" (defScope s_law) s.heap.objs.size f cdv))) :
    PSs (cxOf CX0 P w K mg base N_law "law" (defScope s_law) f cdv A outer s H E).nox (defBody s_law) (tofS K U0 (g_law K a)) :=
  (ds_cons (d_set (i := 1) sc_law.nd rfl (by first | exact .inl rfl | exact .inr rfl) (d_call F__law_feed (hr.mono (by decide)) (by rfl) bnd__law_feed_1 dfv_nil (da_p0 (d_cons (d_var 0) d_nil))))
    (ds_cons (d_for (t := (.nm 2)) PassesOwn.never rfl (di_rng1 (by rfl) T.no_range (d_cons d_int d_nil)) (pg_name (i := 2) sc_law.nd rfl (by first | exact .inl rfl | exact .inr rfl))
      (ds_cons (d_set (i := 3) sc_law.nd rfl (by first | exact .inl rfl | exact .inr rfl) (d_call F__law_bounds (hr.mono (by decide)) (by rfl) bnd__law_bounds_1 dfv_nil (da_p0 (d_cons (d_var 1) d_nil))))
    (ds_cons (d_set (i := 4) sc_law.nd rfl (by first | exact .inl rfl | exact .inr rfl) (d_makeF F_Gauge_init (hr.mono (by decide)) (by rfl) bnd_Gauge_init_6 dfv_Gauge_init (da_p0 (d_cons (d_ix (d_var 3) d_int) (d_cons (d_ix (d_var 3) d_int) (d_cons (d_ix (d_var 3) d_int) (d_cons (d_ix (d_var 3) d_int) (d_cons (d_ix (d_var 3) d_int) d_nil))))))))
    (ds_cons (d_set (i := 5) sc_law.nd rfl (by first | exact .inl rfl | exact .inr rfl) (d_call F__law_readings (hr.mono (by decide)) (by rfl) bnd__law_readings_2 dfv_nil (da_p0 (d_cons (d_var 1) (d_cons (d_call F__law_of (hr.mono (by decide)) (by rfl) bnd__law_of_2 dfv_nil (da_p0 (d_cons (d_var 1) (d_cons (d_lst true (d_cons d_int (d_cons d_int (d_cons d_int (d_cons d_int d_nil))))) d_nil)))) d_nil)))))
    (ds_cons (d_par sc_law.nd (d_cons (d_op or_add (vr_add (fz := true)) (d_call F__law_edges (hr.mono (by decide)) (by rfl) bnd__law_edges_2 dfv_nil (da_p0 (d_cons (d_var 3) (d_cons (d_var 5) d_nil)))) (d_lst true (d_cons d_int (d_cons d_int d_nil)))) (d_cons (d_lst false d_nil) d_nil)))
    (ds_cons (d_for (t := (.nm 8)) PassesOwn.never rfl (di_rng1 (by rfl) T.no_range (d_cons (d_ifExp (d_tcmp op_gt vr_gt (d_callB or_len vr_len (by rfl) T.no_len (by decide +kernel) (d_cons (d_var 5) d_nil)) d_int) d_int d_int) d_nil)) (pg_name (i := 8) sc_law.nd rfl (by first | exact .inl rfl | exact .inr rfl))
      (ds_cons (d_set (i := 9) sc_law.nd rfl (by first | exact .inl rfl | exact .inr rfl) (d_callB (call_max2 rfl) vr_max2 (by rfl) T.no_max (by decide +kernel) (d_cons d_int (d_cons (d_op op_sub vr_sub (d_op or_add (vr_add (fz := true)) (d_call F__law_of (hr.mono (by decide)) (by rfl) bnd__law_of_2 dfv_nil (da_p0 (d_cons (d_var 1) (d_cons (d_var 6) d_nil)))) (d_call F__law_draw (hr.mono (by decide)) (by rfl) bnd__law_draw_2 dfv_nil (da_p0 (d_cons (d_var 1) (d_cons d_int d_nil))))) d_int) d_nil))))
    (ds_cons (d_set (i := 10) sc_law.nd rfl (by first | exact .inl rfl | exact .inr rfl) (d_op or_add (vr_add (fz := true)) (d_var 9) (d_call F__law_of (hr.mono (by decide)) (by rfl) bnd__law_of_2 dfv_nil (da_p0 (d_cons (d_var 1) (d_cons (d_lst true (d_cons d_int (d_cons d_int (d_cons (d_call F__law_draw (hr.mono (by decide)) (by rfl) bnd__law_draw_2 dfv_nil (da_p0 (d_cons (d_var 1) (d_cons d_int d_nil)))) (d_cons (d_call F__law_draw (hr.mono (by decide)) (by rfl) bnd__law_draw_2 dfv_nil (da_p0 (d_cons (d_var 1) (d_cons d_int d_nil)))) (d_cons (d_op op_pow vr_pow d_int d_int) d_nil)))))) d_nil))))))
    (ds_cons (d_if (d_tcmp (op_eqD hr.units) vr_eq (d_call F__law_draw (hr.mono (by decide)) (by rfl) bnd__law_draw_2 dfv_nil (da_p0 (d_cons (d_var 1) (d_cons d_int d_nil)))) d_int)
      (ds_one (d_set (i := 10) sc_law.nd rfl (by first | exact .inl rfl | exact .inr rfl) (d_callB (call_max2 rfl) vr_max2 (by rfl) T.no_max (by decide +kernel) (d_cons (d_var 9) (d_cons (d_op op_sub vr_sub (d_op or_add (vr_add (fz := true)) (d_call F__law_of (hr.mono (by decide)) (by rfl) bnd__law_of_2 dfv_nil (da_p0 (d_cons (d_var 1) (d_cons (d_var 6) d_nil)))) (d_call F__law_draw (hr.mono (by decide)) (by rfl) bnd__law_draw_2 dfv_nil (da_p0 (d_cons (d_var 1) (d_cons d_int d_nil))))) d_int) d_nil)))))
      ds_nil)
    (ds_cons (d_par sc_law.nd (d_cons (d_callTy call_list_of (vr_list (fz := true)) (by rfl) T.no_list (by decide +kernel) (d_cons (d_var 5) d_nil)) (d_cons (d_makeF F_Stretch_init (hr.mono (by decide)) (by rfl) bnd_Stretch_init_3 dfv_Stretch_init (da_p0 (d_cons (d_var 9) (d_cons (d_var 10) d_nil)))) d_nil)))
    (ds_cons (d_set (i := 13) sc_law.nd rfl (by first | exact .inl rfl | exact .inr rfl) (d_meth F_Gauge_stands_live (hr.mono (by decide)) bnd_Gauge_stands_3 dfv_nil (d_var 4) (da_p0 (d_cons (d_var 11) (d_cons (d_var 12) d_nil)))))
    (ds_cons (d_if (PW.pt (d_or (d_not (d_val (d_callB call_isi vr_isi (by rfl) T.no_isinstance (by decide +kernel) (d_cons (d_var 13) (d_cons (d_gty (by rfl) T.no_list (by decide +kernel)) d_nil))))) (d_or (d_not (d_val (d_call F__law_right (hr.mono (by decide)) (by rfl) bnd__law_right_5 dfv_nil (da_p0 (d_cons (d_var 3) (d_cons (d_var 5) (d_cons (d_var 13) (d_cons (d_var 9) (d_cons (d_var 10) d_nil))))))))) (d_or1 (d_tcmp (op_neD hr.units) vr_ne (d_var 11) (d_var 5))))))
      (ds_one (d_ret d_bl))
      ds_nil)
    (ds_cons (d_set (i := 14) sc_law.nd rfl (by first | exact .inl rfl | exact .inr rfl) (d_meth F_Gauge_stands (hr.mono (by decide)) bnd_Gauge_stands_1_within_readings dfv_nil (d_var 4) (da_0k (dk_cons (d_var 12) (dk_cons (d_var 11) dk_nil)))))
    (ds_cons (d_expr (d_bm (by decide) PySem.F.plainAttrs_list PySem.F.slot_list_append PySem.F.type_list_append mt_append vm_append (d_var 7) (d_cons (d_tup (d_cons (d_var 14) (d_cons (d_callB (cr_reprO (n := 3) (sts_cons (c := ⟨a.C_Stretch, 1, (sp_Stretch_repr a)⟩) ⟨_, _, _, _, F_Stretch_repr , bnd_Stretch_repr_1⟩ sts_nil) hr (by decide) (by decide)) vr_reprO (by rfl) T.no_repr (by decide +kernel) (d_cons (d_var 14) d_nil)) d_nil))) d_nil)))
    (ds_cons (d_expr (d_bm0 (by decide) PySem.F.plainAttrs_list PySem.F.slot_list_clear PySem.F.type_list_clear mt_clear vm_clear (d_var 13)))
    (ds_cons (d_if (d_not (d_val (d_call F__law_right (hr.mono (by decide)) (by rfl) bnd__law_right_5 dfv_nil (da_p0 (d_cons (d_var 3) (d_cons (d_var 5) (d_cons (d_var 14) (d_cons (d_var 9) (d_cons (d_var 10) d_nil)))))))))
      (ds_one (d_ret d_bl))
      ds_nil)
    (ds_one (d_if (PW.pt (d_and (d_tcmp (op_eqD hr.units) vr_eq (d_var 9) (d_var 10)) (d_and1 (d_tcmp (or_neNil hr) vr_nil (d_var 14) (d_lst true d_nil)))))
      (ds_one (d_ret d_bl))
      ds_nil)))))))))))))
    (ds_one (d_if (d_tcmp (or_neNil hr) vr_nil (d_lc (own := [("_law_one", 15), ("_law_kept", 16)]) (t := (.tp [(.nm 15), (.nm 16)])) true rfl sc_law.nd (di_seq (d_var 7)) (blkOk_by (own := [("_law_one", 15), ("_law_kept", 16)]) (N := N_law) (sc := defScope s_law) (by decide +kernel)) (by decide) (fun _ _ _ _ _ => (pg_tup rfl (pgs_cons (pg_name (i := 15) sc_law.nd rfl (by first | exact .inl rfl | exact .inr rfl)) (pgs_cons (pg_name (i := 16) sc_law.nd rfl (by first | exact .inl rfl | exact .inr rfl)) pgs_nil)))) (fun _ _ _ _ _ => (dt_one (d_tcmp op_ne vr_neSS (d_callB (cr_reprO (n := 3) (sts_cons (c := ⟨a.C_Stretch, 1, (sp_Stretch_repr a)⟩) ⟨_, _, _, _, F_Stretch_repr , bnd_Stretch_repr_1⟩ sts_nil) hr (by decide) (by decide)) vr_reprO (by rfl) T.no_repr (by decide +kernel) (d_cons (d_var 15) d_nil)) (d_var 16)))) (fun _ _ _ _ _ => (d_var 16))) (d_lst true d_nil))
      (ds_one (d_ret d_bl))
      ds_nil))))))))
    (ds_one (d_ret (d_cmp (or_eqTL F_Stretch_eq (hr.mono (by decide)) bnd_Stretch_eq_2) vr_eqTL (d_meth F_Gauge_stands (hr.mono (by decide)) bnd_Gauge_stands_3 dfv_nil (d_makeF F_Gauge_init (hr.mono (by decide)) (by rfl) bnd_Gauge_init_1 dfv_Gauge_init da_00) (da_p0 (d_cons (d_lst true d_nil) (d_cons (d_makeF F_Stretch_init (hr.mono (by decide)) (by rfl) bnd_Stretch_init_3 dfv_Stretch_init (da_p0 (d_cons d_int (d_cons d_int d_nil)))) d_nil)))) (d_lst true (d_cons (d_tup (d_cons (d_makeF F_Stretch_init (hr.mono (by decide)) (by rfl) bnd_Stretch_init_3 dfv_Stretch_init (da_p0 (d_cons d_int (d_cons d_int d_nil)))) (d_cons d_str d_nil))) d_nil)))))))
end
end Lw
namespace Lw
open PySem L2 Dl Mg
section
variable {P : Program} {w : World} {K : PySem.W.Frag} {mg : Str → Option Value} {base : Heap} {a : Ad}
theorem r__law_feed : ∀ ds S q, sp__law_feed a ds S q → g__law_feed K a { nx := fun _ S' => q .non S', rt := q } (startD N__law_feed ds) S := by
  rintro ds S q ⟨ns, rfl, rfl, h⟩
  rw [st__law_feed]
  simp only [g__law_feed, ↓x_eqSS, ↓x_neSS, ↓gKGet, ↓x_kget, ↓x_ixE, at_last, ↓x_appE, ↓x_tyE, ↓x_itE, ↓x_lenE, ↓x_nePr, ↓x_eqPr, ↓x_neE, ↓x_lenr, ↓x_lenrI, ↓gRev, ↓x_par3, ↓x_par33, ↓x_fld, ↓x_fset, ↓x_mkF, ↓x_mk, ↓x_meth, ↓x_fldO, ↓x_fsetE, ↓x_fldE, ↓x_methO, ↓x_isiCO, ↓x_isiCN, ↓x_isiCT, ↓x_isiCLi, ↓x_isiCS, ↓x_isiCI, ↓x_own, ↓x_eqT2, ↓x_neT2, ↓x_neL4, ↓x_eqLN, ↓x_neNil, ↓x_gset, ↓x_lc, ↓x_for, ↓x_it, ↓x_rn1, ↓x_rn2, ↓x_enu, ↓x_zip, ↓x_itS, ↓x_itL, ↓x_itK, ↓x_itT, ↓x_rn1I, ↓x_rn2I, ↓x_enuL, ↓x_enuK, ↓x_zipL, ↓x_ixS0, ↓x_ixL, ↓x_ixT, ↓x_ixK, x_at0, x_at1, x_at2, x_at3, x_at4, ↓x_set00, ↓x_set01, ↓x_set02, ↓x_aug1, ↓x_aug2, ↓x_aug3, ↓x_aug4, ↓x_aug5, ↓x_aug6, ↓x_aug7, ↓x_aug8, ↓x_aug9, ↓x_aug10, ↓x_aug11, ↓x_aug12, ↓x_aug13, ↓x_aug14, ↓x_aug15, ↓x_aug16, ↓x_aug17, ↓x_aug18, ↓x_aug19, ↓x_aug20, ↓x_aug21, ↓x_aug22, ↓x_aug23, Int.reduceToNat, Int.reducePow, ↓gSeq, ↓gIfS, ↓gSet, ↓gAsg, ↓x_par, ↓x_par2, ↓gRet, ↓gRetN, ↓gNext, ↓gDrop, ↓gBreak, ↓gCont, ↓gDead, ↓gCB, ↓gB2, ↓gU, ↓gC, ↓Dl.gCons, ↓Dl.gNil, ↓Dl.gTup, ↓Dl.gLst, ↓gTest, ↓gOrB, ↓gAndB, ↓gNotB, ↓gAndV, ↓gOrV, ↓gNotV, ↓gIf, ↓gIx, ↓gSl, ↓gPart, ↓gNoP, ↓gMt, ↓gCall, ↓gArgs, ↓gIsN, ↓gNotN, ↓gChain, ↓x_fmtS, ↓x_afS, ↓x_afI, ↓x_js0, ↓x_jsc, ↓gJoined, ↓gYes, ↓x_bnm, ↓x_btp, ↓x_bn, ↓x_bc, ↓x_nnN, ↓x_nnI, ↓x_nnS, ↓x_nnB, ↓x_nnT, ↓x_nnL, ↓x_nnO, ↓x_nnl, ↓x_tyS, ↓x_tyL, ↓x_i2, ↓aSub, ↓aFdiv, ↓aMod, ↓aPow, ↓aShr, ↓aLt, ↓aLe, ↓aGt, ↓aGe, ↓x_addI, ↓x_addS, ↓x_mulI, ↓x_iaddS, ↓x_iaddI, ↓x_neg, ↓x_eqI, ↓x_neI, ↓x_eqS, ↓x_neS, ↓x_eqB, ↓x_neB, ↓x_eqNI, ↓x_neNI, ↓x_lenS, ↓x_lenL_l, ↓x_lenL_k, ↓x_lenL_t, ↓x_str, ↓x_intI, ↓x_intB, ↓x_divmod, ↓x_max2, ↓x_min2, ↓x_ixS, ↓x_slS, ↓x_slT, ↓x_slL_l, ↓x_slL_k, ↓x_inS, ↓x_newT, ↓x_newF, ↓x_si, ↓x_s1, ↓x_s0, ↓x_rpart, ↓x_part, ↓x_a1, ↓x_a2, ↓x_isiStr, ↓x_isiInt, ↓x_isiIntB, ↓x_isiIntS, ↓x_isiBB, ↓x_isiBI, ↓x_isiStrI, ↓x_isiNonI, ↓x_isiNonS, ↓x_isiT, ↓x_isiL, ↓x_var0, ↓x_varS, ↓x_ex, ↓x_aug0, gat, pick, Option.some.injEq, D.bl.injEq, D.int.injEq, D.str.injEq, D.tup.injEq, D.lst.injEq, List.cons.injEq, and_true, true_and, List.set_cons_zero, List.set_cons_succ, List.length_cons, List.length_nil, List.filterMap_cons, List.filterMap_nil, List.getElem?_cons_zero, List.getElem?_cons_succ, Option.bind_some, ↓reduceIte, if_true, if_false, Bool.false_eq_true, Bool.true_eq_false, decide_eq_true_eq, beq_self_eq_true, Bool.not_true, Bool.not_false, Bool.not_eq_true', decide_eq_false_iff_not, exists_eq_left', exists_eq_left, exists_eq, ↓x_dnT, ↓x_dnF, ↓gAsgL, ↓gMMDef, ↓gDSet, ↓gSItems, ↓x_nilL, ↓x_nilE, List.isEmpty_nil, List.isEmpty_cons, Bool.true_xor, Bool.false_xor, ↓gSortSet, ↓gOrT, ↓gAndT, ↓gTryAs, ↓gTryO, ↓gRaise, ↓gCallX, ↓gMethX, ↓gMakeX, ↓gFldX, ↓x_fmtRS, ↓x_afRS, ↓x_afRI, ↓x_stO]
  refine ⟨_, rfl, ?_⟩
  rw [x_newT]
  refine ⟨by decide, ?_⟩
  rw [show cutD (ns.map D.int) none (some 63) = (ns.take 63).map D.int from ?_]
  · exact h
  · simp [cutD, HT.sIx, List.map_take]
theorem r__law_draw : ∀ ds S q, sp__law_draw a ds S q → g__law_draw K a { nx := fun _ S' => q .non S', rt := q } (startD N__law_draw ds) S := by
  rintro ds S q ⟨many, h1, h2, o, R0, B, rfl, rfl, ⟨ns, t, r, rfl, h3, h4, h5⟩, hb, h⟩
  rw [st__law_draw]
  simp only [g__law_draw, ↓x_eqSS, ↓x_neSS, ↓gKGet, ↓x_kget, ↓x_ixE, at_last, ↓x_appE, ↓x_tyE, ↓x_itE, ↓x_lenE, ↓x_nePr, ↓x_eqPr, ↓x_neE, ↓x_lenr, ↓x_lenrI, ↓gRev, ↓x_par3, ↓x_par33, ↓x_fld, ↓x_fset, ↓x_mkF, ↓x_mk, ↓x_meth, ↓x_fldO, ↓x_fsetE, ↓x_fldE, ↓x_methO, ↓x_isiCO, ↓x_isiCN, ↓x_isiCT, ↓x_isiCLi, ↓x_isiCS, ↓x_isiCI, ↓x_own, ↓x_eqT2, ↓x_neT2, ↓x_neL4, ↓x_eqLN, ↓x_neNil, ↓x_gset, ↓x_lc, ↓x_for, ↓x_it, ↓x_rn1, ↓x_rn2, ↓x_enu, ↓x_zip, ↓x_itS, ↓x_itL, ↓x_itK, ↓x_itT, ↓x_rn1I, ↓x_rn2I, ↓x_enuL, ↓x_enuK, ↓x_zipL, ↓x_ixS0, ↓x_ixL, ↓x_ixT, ↓x_ixK, x_at0, x_at1, x_at2, x_at3, x_at4, ↓x_set00, ↓x_set01, ↓x_set02, ↓x_aug1, ↓x_aug2, ↓x_aug3, ↓x_aug4, ↓x_aug5, ↓x_aug6, ↓x_aug7, ↓x_aug8, ↓x_aug9, ↓x_aug10, ↓x_aug11, ↓x_aug12, ↓x_aug13, ↓x_aug14, ↓x_aug15, ↓x_aug16, ↓x_aug17, ↓x_aug18, ↓x_aug19, ↓x_aug20, ↓x_aug21, ↓x_aug22, ↓x_aug23, Int.reduceToNat, Int.reducePow, ↓gSeq, ↓gIfS, ↓gSet, ↓gAsg, ↓x_par, ↓x_par2, ↓gRet, ↓gRetN, ↓gNext, ↓gDrop, ↓gBreak, ↓gCont, ↓gDead, ↓gCB, ↓gB2, ↓gU, ↓gC, ↓Dl.gCons, ↓Dl.gNil, ↓Dl.gTup, ↓Dl.gLst, ↓gTest, ↓gOrB, ↓gAndB, ↓gNotB, ↓gAndV, ↓gOrV, ↓gNotV, ↓gIf, ↓gIx, ↓gSl, ↓gPart, ↓gNoP, ↓gMt, ↓gCall, ↓gArgs, ↓gIsN, ↓gNotN, ↓gChain, ↓x_fmtS, ↓x_afS, ↓x_afI, ↓x_js0, ↓x_jsc, ↓gJoined, ↓gYes, ↓x_bnm, ↓x_btp, ↓x_bn, ↓x_bc, ↓x_nnN, ↓x_nnI, ↓x_nnS, ↓x_nnB, ↓x_nnT, ↓x_nnL, ↓x_nnO, ↓x_nnl, ↓x_tyS, ↓x_tyL, ↓x_i2, ↓aSub, ↓aFdiv, ↓aMod, ↓aPow, ↓aShr, ↓aLt, ↓aLe, ↓aGt, ↓aGe, ↓x_addI, ↓x_addS, ↓x_mulI, ↓x_iaddS, ↓x_iaddI, ↓x_neg, ↓x_eqI, ↓x_neI, ↓x_eqS, ↓x_neS, ↓x_eqB, ↓x_neB, ↓x_eqNI, ↓x_neNI, ↓x_lenS, ↓x_lenL_l, ↓x_lenL_k, ↓x_lenL_t, ↓x_str, ↓x_intI, ↓x_intB, ↓x_divmod, ↓x_max2, ↓x_min2, ↓x_ixS, ↓x_slS, ↓x_slT, ↓x_slL_l, ↓x_slL_k, ↓x_inS, ↓x_newT, ↓x_newF, ↓x_si, ↓x_s1, ↓x_s0, ↓x_rpart, ↓x_part, ↓x_a1, ↓x_a2, ↓x_isiStr, ↓x_isiInt, ↓x_isiIntB, ↓x_isiIntS, ↓x_isiBB, ↓x_isiBI, ↓x_isiStrI, ↓x_isiNonI, ↓x_isiNonS, ↓x_isiT, ↓x_isiL, ↓x_var0, ↓x_varS, ↓x_ex, ↓x_aug0, gat, pick, Option.some.injEq, D.bl.injEq, D.int.injEq, D.str.injEq, D.tup.injEq, D.lst.injEq, List.cons.injEq, and_true, true_and, List.set_cons_zero, List.set_cons_succ, List.length_cons, List.length_nil, List.filterMap_cons, List.filterMap_nil, List.getElem?_cons_zero, List.getElem?_cons_succ, Option.bind_some, ↓reduceIte, if_true, if_false, Bool.false_eq_true, Bool.true_eq_false, decide_eq_true_eq, beq_self_eq_true, Bool.not_true, Bool.not_false, Bool.not_eq_true', decide_eq_false_iff_not, exists_eq_left', exists_eq_left, exists_eq, ↓x_dnT, ↓x_dnF, ↓gAsgL, ↓gMMDef, ↓gDSet, ↓gSItems, ↓x_nilL, ↓x_nilE, List.isEmpty_nil, List.isEmpty_cons, Bool.true_xor, Bool.false_xor, ↓gSortSet, ↓gOrT, ↓gAndT, ↓gTryAs, ↓gTryO, ↓gRaise, ↓gCallX, ↓gMethX, ↓gMakeX, ↓gFldX, ↓x_fmtRS, ↓x_afRS, ↓x_afRI, ↓x_stO]
  have hT : ∀ x r', 0 ≤ x → x < many → 0 ≤ r' → q (.int x) (some (.lst [.lst (ns.map .int), .int (t + 1), .int r']) :: R0) := fun x r' a1 a2 a3 => h _ _ ⟨x, rfl, a1, a2⟩ ⟨ns, t + 1, r', rfl, by omega, by omega, a3⟩
  have m1 : ∀ x, 0 ≤ x % many ∧ x % many < many := fun x => ⟨Int.emod_nonneg _ (by omega), Int.emod_lt_of_pos _ h1⟩
  have hb' : B + 1 ≤ 1000000000000 := hb
  have u1 : ∀ x : Int, 0 ≤ x % 2147483629 ∧ x % 2147483629 < 2147483629 := fun x => ⟨Int.emod_nonneg _ (by decide), Int.emod_lt_of_pos _ (by decide)⟩
  split
  · exact ⟨h1, .inl ⟨h1, h2⟩, h _ _ ⟨_, rfl, (m1 _).1, (m1 _).2⟩ ⟨ns, t, r / many, rfl, h3, by omega, Int.ediv_nonneg h5 (by omega)⟩⟩
  · refine ⟨by decide, ?_⟩
    by_cases hn : ns = []
    · rw [if_neg (by simpa using hn)]
      subst hn
      refine ⟨mulOk_l (by decide) (by decide), ?_⟩
      rw [if_neg (by simp; omega)]
      have := u1 (7919 * t + 11)
      refine ⟨by decide, mulOk_l (by decide) (by decide), ⟨by decide, by decide, by omega⟩, by decide, .inl ⟨by decide, by decide⟩, mulOk_l (by decide) (by decide), by decide, ?_⟩
      generalize hy : (_ : Int) % 2147483647 = y
      have hy0 : 0 ≤ y ∧ y < 2147483647 := by rw [← hy]; exact ⟨Int.emod_nonneg _ (by decide), Int.emod_lt_of_pos _ (by decide)⟩
      refine ⟨mulOk_l (by omega) (by omega), by decide, .inl ⟨by decide, by decide⟩, h1, ?_⟩
      exact hT _ _ (m1 _).1 (m1 _).2 h5
    · rw [if_pos hn]
      have hl : 0 < ns.length := List.length_pos_iff.mpr hn
      have hlm : (ns.map D.int).length = ns.length := List.length_map ..
      have hk0 : 0 ≤ t % ((ns.map D.int).length : Int) := Int.emod_nonneg _ (by omega)
      have hk1 : t % ((ns.map D.int).length : Int) < ((ns.map D.int).length : Int) := Int.emod_lt_of_pos _ (by omega)
      obtain ⟨c, hc⟩ : ∃ c, ns[(t % ((ns.map D.int).length : Int)).toNat]? = some c := ⟨ns[(t % ((ns.map D.int).length : Int)).toNat]'(by omega), by simp⟩
      refine ⟨by omega, .int c, ?_, ?_⟩
      · have e := atI_lit (xs := ns.map D.int) (k := (t % ((ns.map D.int).length : Int)).toNat) (v := .int c) (by rw [List.getElem?_map, hc]; rfl)
        rwa [show (((t % ((ns.map D.int).length : Int)).toNat : Nat) : Int) = t % ((ns.map D.int).length : Int) by omega] at e
      · simp only [↓x_eqSS, ↓x_neSS, ↓gKGet, ↓x_kget, ↓x_ixE, at_last, ↓x_appE, ↓x_tyE, ↓x_itE, ↓x_lenE, ↓x_nePr, ↓x_eqPr, ↓x_neE, ↓x_lenr, ↓x_lenrI, ↓gRev, ↓x_par3, ↓x_par33, ↓x_fld, ↓x_fset, ↓x_mkF, ↓x_mk, ↓x_meth, ↓x_fldO, ↓x_fsetE, ↓x_fldE, ↓x_methO, ↓x_isiCO, ↓x_isiCN, ↓x_isiCT, ↓x_isiCLi, ↓x_isiCS, ↓x_isiCI, ↓x_own, ↓x_eqT2, ↓x_neT2, ↓x_neL4, ↓x_eqLN, ↓x_neNil, ↓x_gset, ↓x_lc, ↓x_for, ↓x_it, ↓x_rn1, ↓x_rn2, ↓x_enu, ↓x_zip, ↓x_itS, ↓x_itL, ↓x_itK, ↓x_itT, ↓x_rn1I, ↓x_rn2I, ↓x_enuL, ↓x_enuK, ↓x_zipL, ↓x_ixS0, ↓x_ixL, ↓x_ixT, ↓x_ixK, x_at0, x_at1, x_at2, x_at3, x_at4, ↓x_set00, ↓x_set01, ↓x_set02, ↓x_aug1, ↓x_aug2, ↓x_aug3, ↓x_aug4, ↓x_aug5, ↓x_aug6, ↓x_aug7, ↓x_aug8, ↓x_aug9, ↓x_aug10, ↓x_aug11, ↓x_aug12, ↓x_aug13, ↓x_aug14, ↓x_aug15, ↓x_aug16, ↓x_aug17, ↓x_aug18, ↓x_aug19, ↓x_aug20, ↓x_aug21, ↓x_aug22, ↓x_aug23, Int.reduceToNat, Int.reducePow, ↓gSeq, ↓gIfS, ↓gSet, ↓gAsg, ↓x_par, ↓x_par2, ↓gRet, ↓gRetN, ↓gNext, ↓gDrop, ↓gBreak, ↓gCont, ↓gDead, ↓gCB, ↓gB2, ↓gU, ↓gC, ↓Dl.gCons, ↓Dl.gNil, ↓Dl.gTup, ↓Dl.gLst, ↓gTest, ↓gOrB, ↓gAndB, ↓gNotB, ↓gAndV, ↓gOrV, ↓gNotV, ↓gIf, ↓gIx, ↓gSl, ↓gPart, ↓gNoP, ↓gMt, ↓gCall, ↓gArgs, ↓gIsN, ↓gNotN, ↓gChain, ↓x_fmtS, ↓x_afS, ↓x_afI, ↓x_js0, ↓x_jsc, ↓gJoined, ↓gYes, ↓x_bnm, ↓x_btp, ↓x_bn, ↓x_bc, ↓x_nnN, ↓x_nnI, ↓x_nnS, ↓x_nnB, ↓x_nnT, ↓x_nnL, ↓x_nnO, ↓x_nnl, ↓x_tyS, ↓x_tyL, ↓x_i2, ↓aSub, ↓aFdiv, ↓aMod, ↓aPow, ↓aShr, ↓aLt, ↓aLe, ↓aGt, ↓aGe, ↓x_addI, ↓x_addS, ↓x_mulI, ↓x_iaddS, ↓x_iaddI, ↓x_neg, ↓x_eqI, ↓x_neI, ↓x_eqS, ↓x_neS, ↓x_eqB, ↓x_neB, ↓x_eqNI, ↓x_neNI, ↓x_lenS, ↓x_lenL_l, ↓x_lenL_k, ↓x_lenL_t, ↓x_str, ↓x_intI, ↓x_intB, ↓x_divmod, ↓x_max2, ↓x_min2, ↓x_ixS, ↓x_slS, ↓x_slT, ↓x_slL_l, ↓x_slL_k, ↓x_inS, ↓x_newT, ↓x_newF, ↓x_si, ↓x_s1, ↓x_s0, ↓x_rpart, ↓x_part, ↓x_a1, ↓x_a2, ↓x_isiStr, ↓x_isiInt, ↓x_isiIntB, ↓x_isiIntS, ↓x_isiBB, ↓x_isiBI, ↓x_isiStrI, ↓x_isiNonI, ↓x_isiNonS, ↓x_isiT, ↓x_isiL, ↓x_var0, ↓x_varS, ↓x_ex, ↓x_aug0, gat, pick, Option.some.injEq, D.bl.injEq, D.int.injEq, D.str.injEq, D.tup.injEq, D.lst.injEq, List.cons.injEq, and_true, true_and, List.set_cons_zero, List.set_cons_succ, List.length_cons, List.length_nil, List.filterMap_cons, List.filterMap_nil, List.getElem?_cons_zero, List.getElem?_cons_succ, Option.bind_some, ↓reduceIte, if_true, if_false, Bool.false_eq_true, Bool.true_eq_false, decide_eq_true_eq, beq_self_eq_true, Bool.not_true, Bool.not_false, Bool.not_eq_true', decide_eq_false_iff_not, exists_eq_left', exists_eq_left, exists_eq, ↓x_dnT, ↓x_dnF, ↓gAsgL, ↓gMMDef, ↓gDSet, ↓gSItems, ↓x_nilL, ↓x_nilE, List.isEmpty_nil, List.isEmpty_cons, Bool.true_xor, Bool.false_xor, ↓gSortSet, ↓gOrT, ↓gAndT, ↓gTryAs, ↓gTryO, ↓gRaise, ↓gCallX, ↓gMethX, ↓gMakeX, ↓gFldX, ↓x_fmtRS, ↓x_afRS, ↓x_afRI, ↓x_stO]
        have := u1 c
        split
        · refine ⟨⟨by decide, by decide, by decide⟩, ?_⟩
          split
          · rename_i hc1
            exact ⟨.inl ⟨h1, h2⟩, h1, hT _ _ (m1 _).1 (m1 _).2 (Int.ediv_nonneg (by omega) (by omega))⟩
          · refine ⟨by decide, mulOk_l (by decide) (by decide), ⟨by decide, by decide, by omega⟩, by decide, .inl ⟨by decide, by decide⟩, mulOk_l (by decide) (by decide), by decide, ?_⟩
            generalize hy : (_ : Int) % 2147483647 = y
            have hy0 : 0 ≤ y ∧ y < 2147483647 := by rw [← hy]; exact ⟨Int.emod_nonneg _ (by decide), Int.emod_lt_of_pos _ (by decide)⟩
            refine ⟨mulOk_l (by omega) (by omega), by decide, .inl ⟨by decide, by decide⟩, h1, ?_⟩
            exact hT _ _ (m1 _).1 (m1 _).2 h5
        · refine ⟨by decide, mulOk_l (by decide) (by decide), ⟨by decide, by decide, by omega⟩, by decide, .inl ⟨by decide, by decide⟩, mulOk_l (by decide) (by decide), by decide, ?_⟩
          generalize hy : (_ : Int) % 2147483647 = y
          have hy0 : 0 ≤ y ∧ y < 2147483647 := by rw [← hy]; exact ⟨Int.emod_nonneg _ (by decide), Int.emod_lt_of_pos _ (by decide)⟩
          refine ⟨mulOk_l (by omega) (by omega), by decide, .inl ⟨by decide, by decide⟩, h1, ?_⟩
          exact hT _ _ (m1 _).1 (m1 _).2 h5
theorem r__law_of : ∀ ds S q, sp__law_of a ds S q → g__law_of K a { nx := fun _ S' => q .non S', rt := q } (startD N__law_of ds) S := by
  rintro ds S q ⟨d, es, h1, h2, o, R0, B, rfl, rfl, ht, hb, hd, h⟩
  rw [st__law_of]
  simp only [g__law_of, ↓x_eqSS, ↓x_neSS, ↓gKGet, ↓x_kget, ↓x_ixE, at_last, ↓x_appE, ↓x_tyE, ↓x_itE, ↓x_lenE, ↓x_nePr, ↓x_eqPr, ↓x_neE, ↓x_lenr, ↓x_lenrI, ↓gRev, ↓x_par3, ↓x_par33, ↓x_fld, ↓x_fset, ↓x_mkF, ↓x_mk, ↓x_meth, ↓x_fldO, ↓x_fsetE, ↓x_fldE, ↓x_methO, ↓x_isiCO, ↓x_isiCN, ↓x_isiCT, ↓x_isiCLi, ↓x_isiCS, ↓x_isiCI, ↓x_own, ↓x_eqT2, ↓x_neT2, ↓x_neL4, ↓x_eqLN, ↓x_neNil, ↓x_gset, ↓x_lc, ↓x_for, ↓x_it, ↓x_rn1, ↓x_rn2, ↓x_enu, ↓x_zip, ↓x_itS, ↓x_itL, ↓x_itK, ↓x_itT, ↓x_rn1I, ↓x_rn2I, ↓x_enuL, ↓x_enuK, ↓x_zipL, ↓x_ixS0, ↓x_ixL, ↓x_ixT, ↓x_ixK, x_at0, x_at1, x_at2, x_at3, x_at4, ↓x_set00, ↓x_set01, ↓x_set02, ↓x_aug1, ↓x_aug2, ↓x_aug3, ↓x_aug4, ↓x_aug5, ↓x_aug6, ↓x_aug7, ↓x_aug8, ↓x_aug9, ↓x_aug10, ↓x_aug11, ↓x_aug12, ↓x_aug13, ↓x_aug14, ↓x_aug15, ↓x_aug16, ↓x_aug17, ↓x_aug18, ↓x_aug19, ↓x_aug20, ↓x_aug21, ↓x_aug22, ↓x_aug23, Int.reduceToNat, Int.reducePow, ↓gSeq, ↓gIfS, ↓gSet, ↓gAsg, ↓x_par, ↓x_par2, ↓gRet, ↓gRetN, ↓gNext, ↓gDrop, ↓gBreak, ↓gCont, ↓gDead, ↓gCB, ↓gB2, ↓gU, ↓gC, ↓Dl.gCons, ↓Dl.gNil, ↓Dl.gTup, ↓Dl.gLst, ↓gTest, ↓gOrB, ↓gAndB, ↓gNotB, ↓gAndV, ↓gOrV, ↓gNotV, ↓gIf, ↓gIx, ↓gSl, ↓gPart, ↓gNoP, ↓gMt, ↓gCall, ↓gArgs, ↓gIsN, ↓gNotN, ↓gChain, ↓x_fmtS, ↓x_afS, ↓x_afI, ↓x_js0, ↓x_jsc, ↓gJoined, ↓gYes, ↓x_bnm, ↓x_btp, ↓x_bn, ↓x_bc, ↓x_nnN, ↓x_nnI, ↓x_nnS, ↓x_nnB, ↓x_nnT, ↓x_nnL, ↓x_nnO, ↓x_nnl, ↓x_tyS, ↓x_tyL, ↓x_i2, ↓aSub, ↓aFdiv, ↓aMod, ↓aPow, ↓aShr, ↓aLt, ↓aLe, ↓aGt, ↓aGe, ↓x_addI, ↓x_addS, ↓x_mulI, ↓x_iaddS, ↓x_iaddI, ↓x_neg, ↓x_eqI, ↓x_neI, ↓x_eqS, ↓x_neS, ↓x_eqB, ↓x_neB, ↓x_eqNI, ↓x_neNI, ↓x_lenS, ↓x_lenL_l, ↓x_lenL_k, ↓x_lenL_t, ↓x_str, ↓x_intI, ↓x_intB, ↓x_divmod, ↓x_max2, ↓x_min2, ↓x_ixS, ↓x_slS, ↓x_slT, ↓x_slL_l, ↓x_slL_k, ↓x_inS, ↓x_newT, ↓x_newF, ↓x_si, ↓x_s1, ↓x_s0, ↓x_rpart, ↓x_part, ↓x_a1, ↓x_a2, ↓x_isiStr, ↓x_isiInt, ↓x_isiIntB, ↓x_isiIntS, ↓x_isiBB, ↓x_isiBI, ↓x_isiStrI, ↓x_isiNonI, ↓x_isiNonS, ↓x_isiT, ↓x_isiL, ↓x_var0, ↓x_varS, ↓x_ex, ↓x_aug0, gat, pick, Option.some.injEq, D.bl.injEq, D.int.injEq, D.str.injEq, D.tup.injEq, D.lst.injEq, List.cons.injEq, and_true, true_and, List.set_cons_zero, List.set_cons_succ, List.length_cons, List.length_nil, List.filterMap_cons, List.filterMap_nil, List.getElem?_cons_zero, List.getElem?_cons_succ, Option.bind_some, ↓reduceIte, if_true, if_false, Bool.false_eq_true, Bool.true_eq_false, decide_eq_true_eq, beq_self_eq_true, Bool.not_true, Bool.not_false, Bool.not_eq_true', decide_eq_false_iff_not, exists_eq_left', exists_eq_left, exists_eq, ↓x_dnT, ↓x_dnF, ↓gAsgL, ↓gMMDef, ↓gDSet, ↓gSItems, ↓x_nilL, ↓x_nilE, List.isEmpty_nil, List.isEmpty_cons, Bool.true_xor, Bool.false_xor, ↓gSortSet, ↓gOrT, ↓gAndT, ↓gTryAs, ↓gTryO, ↓gRaise, ↓gCallX, ↓gMethX, ↓gMakeX, ↓gFldX, ↓x_fmtRS, ↓x_afRS, ↓x_afRI, ↓x_stO]
  rw [x_lenL (hd o)]
  refine Mt.draw_in (by omega) h2 ht hb fun x o' h3 h4 h5 => ?_
  obtain ⟨e, he⟩ : ∃ e, es[x.toNat]? = some e := ⟨es[x.toNat]'(by omega), by simp⟩
  have hat := atI_lit he
  rw [show ((x.toNat : Nat) : Int) = x by omega] at hat
  rw [x_ix (hd o') hat]
  exact h e o' (List.mem_of_getElem? he) h5
end
end Lw
namespace Lw
open PySem L2 Dl Mg
section
variable {P : Program} {w : World} {K : PySem.W.Frag} {mg : Str → Option Value} {base : Heap} {a : Ad}
theorem r_number_at : ∀ ds S q, sp_number_at a ds S q → g_number_at K a { nx := fun _ S' => q .non S', rt := q } (startD N_number_at ds) S := by
  rintro ds S q ⟨P, m, rfl, hP, h⟩
  rw [st_number_at]
  simp only [g_number_at, ↓x_eqSS, ↓x_neSS, ↓gKGet, ↓x_kget, ↓x_ixE, at_last, ↓x_appE, ↓x_tyE, ↓x_itE, ↓x_lenE, ↓x_nePr, ↓x_eqPr, ↓x_neE, ↓x_lenr, ↓x_lenrI, ↓gRev, ↓x_par3, ↓x_par33, ↓x_fld, ↓x_fset, ↓x_mkF, ↓x_mk, ↓x_meth, ↓x_fldO, ↓x_fsetE, ↓x_fldE, ↓x_methO, ↓x_isiCO, ↓x_isiCN, ↓x_isiCT, ↓x_isiCLi, ↓x_isiCS, ↓x_isiCI, ↓x_own, ↓x_eqT2, ↓x_neT2, ↓x_neL4, ↓x_eqLN, ↓x_neNil, ↓x_gset, ↓x_lc, ↓x_for, ↓x_it, ↓x_rn1, ↓x_rn2, ↓x_enu, ↓x_zip, ↓x_itS, ↓x_itL, ↓x_itK, ↓x_itT, ↓x_rn1I, ↓x_rn2I, ↓x_enuL, ↓x_enuK, ↓x_zipL, ↓x_ixS0, ↓x_ixL, ↓x_ixT, ↓x_ixK, x_at0, x_at1, x_at2, x_at3, x_at4, ↓x_set00, ↓x_set01, ↓x_set02, ↓x_aug1, ↓x_aug2, ↓x_aug3, ↓x_aug4, ↓x_aug5, ↓x_aug6, ↓x_aug7, ↓x_aug8, ↓x_aug9, ↓x_aug10, ↓x_aug11, ↓x_aug12, ↓x_aug13, ↓x_aug14, ↓x_aug15, ↓x_aug16, ↓x_aug17, ↓x_aug18, ↓x_aug19, ↓x_aug20, ↓x_aug21, ↓x_aug22, ↓x_aug23, Int.reduceToNat, Int.reducePow, ↓gSeq, ↓gIfS, ↓gSet, ↓gAsg, ↓x_par, ↓x_par2, ↓gRet, ↓gRetN, ↓gNext, ↓gDrop, ↓gBreak, ↓gCont, ↓gDead, ↓gCB, ↓gB2, ↓gU, ↓gC, ↓Dl.gCons, ↓Dl.gNil, ↓Dl.gTup, ↓Dl.gLst, ↓gTest, ↓gOrB, ↓gAndB, ↓gNotB, ↓gAndV, ↓gOrV, ↓gNotV, ↓gIf, ↓gIx, ↓gSl, ↓gPart, ↓gNoP, ↓gMt, ↓gCall, ↓gArgs, ↓gIsN, ↓gNotN, ↓gChain, ↓x_fmtS, ↓x_afS, ↓x_afI, ↓x_js0, ↓x_jsc, ↓gJoined, ↓gYes, ↓x_bnm, ↓x_btp, ↓x_bn, ↓x_bc, ↓x_nnN, ↓x_nnI, ↓x_nnS, ↓x_nnB, ↓x_nnT, ↓x_nnL, ↓x_nnO, ↓x_nnl, ↓x_tyS, ↓x_tyL, ↓x_i2, ↓aSub, ↓aFdiv, ↓aMod, ↓aPow, ↓aShr, ↓aLt, ↓aLe, ↓aGt, ↓aGe, ↓x_addI, ↓x_addS, ↓x_mulI, ↓x_iaddS, ↓x_iaddI, ↓x_neg, ↓x_eqI, ↓x_neI, ↓x_eqS, ↓x_neS, ↓x_eqB, ↓x_neB, ↓x_eqNI, ↓x_neNI, ↓x_lenS, ↓x_lenL_l, ↓x_lenL_k, ↓x_lenL_t, ↓x_str, ↓x_intI, ↓x_intB, ↓x_divmod, ↓x_max2, ↓x_min2, ↓x_ixS, ↓x_slS, ↓x_slT, ↓x_slL_l, ↓x_slL_k, ↓x_inS, ↓x_newT, ↓x_newF, ↓x_si, ↓x_s1, ↓x_s0, ↓x_rpart, ↓x_part, ↓x_a1, ↓x_a2, ↓x_isiStr, ↓x_isiInt, ↓x_isiIntB, ↓x_isiIntS, ↓x_isiBB, ↓x_isiBI, ↓x_isiStrI, ↓x_isiNonI, ↓x_isiNonS, ↓x_isiT, ↓x_isiL, ↓x_var0, ↓x_varS, ↓x_ex, ↓x_aug0, gat, pick, Option.some.injEq, D.bl.injEq, D.int.injEq, D.str.injEq, D.tup.injEq, D.lst.injEq, List.cons.injEq, and_true, true_and, List.set_cons_zero, List.set_cons_succ, List.length_cons, List.length_nil, List.filterMap_cons, List.filterMap_nil, List.getElem?_cons_zero, List.getElem?_cons_succ, Option.bind_some, ↓reduceIte, if_true, if_false, Bool.false_eq_true, Bool.true_eq_false, decide_eq_true_eq, beq_self_eq_true, Bool.not_true, Bool.not_false, Bool.not_eq_true', decide_eq_false_iff_not, exists_eq_left', exists_eq_left, exists_eq, ↓x_dnT, ↓x_dnF, ↓gAsgL, ↓gMMDef, ↓gDSet, ↓gSItems, ↓x_nilL, ↓x_nilE, List.isEmpty_nil, List.isEmpty_cons, Bool.true_xor, Bool.false_xor, ↓gSortSet, ↓gOrT, ↓gAndT, ↓gTryAs, ↓gTryO, ↓gRaise, ↓gCallX, ↓gMethX, ↓gMakeX, ↓gFldX, ↓x_fmtRS, ↓x_afRS, ↓x_afRI, ↓x_stO]
  have hs' : 400 ≤ sizeLine := by decide
  refine lc_on (fun p : Pr => if p.1 ≤ m then some (pD p) else none) trivial (by omega) (fun x hx acc R hac hR => ⟨_, x_bnm, ?_⟩) ?_
  · simp only [wipeD, ↓x_eqSS, ↓x_neSS, ↓gKGet, ↓x_kget, ↓x_ixE, at_last, ↓x_appE, ↓x_tyE, ↓x_itE, ↓x_lenE, ↓x_nePr, ↓x_eqPr, ↓x_neE, ↓x_lenr, ↓x_lenrI, ↓gRev, ↓x_par3, ↓x_par33, ↓x_fld, ↓x_fset, ↓x_mkF, ↓x_mk, ↓x_meth, ↓x_fldO, ↓x_fsetE, ↓x_fldE, ↓x_methO, ↓x_isiCO, ↓x_isiCN, ↓x_isiCT, ↓x_isiCLi, ↓x_isiCS, ↓x_isiCI, ↓x_own, ↓x_eqT2, ↓x_neT2, ↓x_neL4, ↓x_eqLN, ↓x_neNil, ↓x_gset, ↓x_lc, ↓x_for, ↓x_it, ↓x_rn1, ↓x_rn2, ↓x_enu, ↓x_zip, ↓x_itS, ↓x_itL, ↓x_itK, ↓x_itT, ↓x_rn1I, ↓x_rn2I, ↓x_enuL, ↓x_enuK, ↓x_zipL, ↓x_ixS0, ↓x_ixL, ↓x_ixT, ↓x_ixK, x_at0, x_at1, x_at2, x_at3, x_at4, ↓x_set00, ↓x_set01, ↓x_set02, ↓x_aug1, ↓x_aug2, ↓x_aug3, ↓x_aug4, ↓x_aug5, ↓x_aug6, ↓x_aug7, ↓x_aug8, ↓x_aug9, ↓x_aug10, ↓x_aug11, ↓x_aug12, ↓x_aug13, ↓x_aug14, ↓x_aug15, ↓x_aug16, ↓x_aug17, ↓x_aug18, ↓x_aug19, ↓x_aug20, ↓x_aug21, ↓x_aug22, ↓x_aug23, Int.reduceToNat, Int.reducePow, ↓gSeq, ↓gIfS, ↓gSet, ↓gAsg, ↓x_par, ↓x_par2, ↓gRet, ↓gRetN, ↓gNext, ↓gDrop, ↓gBreak, ↓gCont, ↓gDead, ↓gCB, ↓gB2, ↓gU, ↓gC, ↓Dl.gCons, ↓Dl.gNil, ↓Dl.gTup, ↓Dl.gLst, ↓gTest, ↓gOrB, ↓gAndB, ↓gNotB, ↓gAndV, ↓gOrV, ↓gNotV, ↓gIf, ↓gIx, ↓gSl, ↓gPart, ↓gNoP, ↓gMt, ↓gCall, ↓gArgs, ↓gIsN, ↓gNotN, ↓gChain, ↓x_fmtS, ↓x_afS, ↓x_afI, ↓x_js0, ↓x_jsc, ↓gJoined, ↓gYes, ↓x_bnm, ↓x_btp, ↓x_bn, ↓x_bc, ↓x_nnN, ↓x_nnI, ↓x_nnS, ↓x_nnB, ↓x_nnT, ↓x_nnL, ↓x_nnO, ↓x_nnl, ↓x_tyS, ↓x_tyL, ↓x_i2, ↓aSub, ↓aFdiv, ↓aMod, ↓aPow, ↓aShr, ↓aLt, ↓aLe, ↓aGt, ↓aGe, ↓x_addI, ↓x_addS, ↓x_mulI, ↓x_iaddS, ↓x_iaddI, ↓x_neg, ↓x_eqI, ↓x_neI, ↓x_eqS, ↓x_neS, ↓x_eqB, ↓x_neB, ↓x_eqNI, ↓x_neNI, ↓x_lenS, ↓x_lenL_l, ↓x_lenL_k, ↓x_lenL_t, ↓x_str, ↓x_intI, ↓x_intB, ↓x_divmod, ↓x_max2, ↓x_min2, ↓x_ixS, ↓x_slS, ↓x_slT, ↓x_slL_l, ↓x_slL_k, ↓x_inS, ↓x_newT, ↓x_newF, ↓x_si, ↓x_s1, ↓x_s0, ↓x_rpart, ↓x_part, ↓x_a1, ↓x_a2, ↓x_isiStr, ↓x_isiInt, ↓x_isiIntB, ↓x_isiIntS, ↓x_isiBB, ↓x_isiBI, ↓x_isiStrI, ↓x_isiNonI, ↓x_isiNonS, ↓x_isiT, ↓x_isiL, ↓x_var0, ↓x_varS, ↓x_ex, ↓x_aug0, gat, pick, Option.some.injEq, D.bl.injEq, D.int.injEq, D.str.injEq, D.tup.injEq, D.lst.injEq, List.cons.injEq, and_true, true_and, List.set_cons_zero, List.set_cons_succ, List.length_cons, List.length_nil, List.filterMap_cons, List.filterMap_nil, List.getElem?_cons_zero, List.getElem?_cons_succ, Option.bind_some, ↓reduceIte, if_true, if_false, Bool.false_eq_true, Bool.true_eq_false, decide_eq_true_eq, beq_self_eq_true, Bool.not_true, Bool.not_false, Bool.not_eq_true', decide_eq_false_iff_not, exists_eq_left', exists_eq_left, exists_eq, ↓x_dnT, ↓x_dnF, ↓gAsgL, ↓gMMDef, ↓gDSet, ↓gSItems, ↓x_nilL, ↓x_nilE, List.isEmpty_nil, List.isEmpty_cons, Bool.true_xor, Bool.false_xor, ↓gSortSet, ↓gOrT, ↓gAndT, ↓gTryAs, ↓gTryO, ↓gRaise, ↓gCallX, ↓gMethX, ↓gMakeX, ↓gFldX, ↓x_fmtRS, ↓x_afRS, ↓x_afRI, ↓x_stO]
    by_cases hc : x.1 ≤ m
    · rw [if_pos hc] at hR
      rw [if_pos hc]
      exact ⟨hac, hR⟩
    · rw [if_neg hc] at hR
      rw [if_neg hc]
      simpa using hR
  · rw [x_newT, fm_if]
    refine ⟨by decide, _, _, rfl, rfl, x_maxP rfl rfl (fun he => ?_) fun p hp hmax => ?_⟩
    · simp only [↓x_eqSS, ↓x_neSS, ↓gKGet, ↓x_kget, ↓x_ixE, at_last, ↓x_appE, ↓x_tyE, ↓x_itE, ↓x_lenE, ↓x_nePr, ↓x_eqPr, ↓x_neE, ↓x_lenr, ↓x_lenrI, ↓gRev, ↓x_par3, ↓x_par33, ↓x_fld, ↓x_fset, ↓x_mkF, ↓x_mk, ↓x_meth, ↓x_fldO, ↓x_fsetE, ↓x_fldE, ↓x_methO, ↓x_isiCO, ↓x_isiCN, ↓x_isiCT, ↓x_isiCLi, ↓x_isiCS, ↓x_isiCI, ↓x_own, ↓x_eqT2, ↓x_neT2, ↓x_neL4, ↓x_eqLN, ↓x_neNil, ↓x_gset, ↓x_lc, ↓x_for, ↓x_it, ↓x_rn1, ↓x_rn2, ↓x_enu, ↓x_zip, ↓x_itS, ↓x_itL, ↓x_itK, ↓x_itT, ↓x_rn1I, ↓x_rn2I, ↓x_enuL, ↓x_enuK, ↓x_zipL, ↓x_ixS0, ↓x_ixL, ↓x_ixT, ↓x_ixK, x_at0, x_at1, x_at2, x_at3, x_at4, ↓x_set00, ↓x_set01, ↓x_set02, ↓x_aug1, ↓x_aug2, ↓x_aug3, ↓x_aug4, ↓x_aug5, ↓x_aug6, ↓x_aug7, ↓x_aug8, ↓x_aug9, ↓x_aug10, ↓x_aug11, ↓x_aug12, ↓x_aug13, ↓x_aug14, ↓x_aug15, ↓x_aug16, ↓x_aug17, ↓x_aug18, ↓x_aug19, ↓x_aug20, ↓x_aug21, ↓x_aug22, ↓x_aug23, Int.reduceToNat, Int.reducePow, ↓gSeq, ↓gIfS, ↓gSet, ↓gAsg, ↓x_par, ↓x_par2, ↓gRet, ↓gRetN, ↓gNext, ↓gDrop, ↓gBreak, ↓gCont, ↓gDead, ↓gCB, ↓gB2, ↓gU, ↓gC, ↓Dl.gCons, ↓Dl.gNil, ↓Dl.gTup, ↓Dl.gLst, ↓gTest, ↓gOrB, ↓gAndB, ↓gNotB, ↓gAndV, ↓gOrV, ↓gNotV, ↓gIf, ↓gIx, ↓gSl, ↓gPart, ↓gNoP, ↓gMt, ↓gCall, ↓gArgs, ↓gIsN, ↓gNotN, ↓gChain, ↓x_fmtS, ↓x_afS, ↓x_afI, ↓x_js0, ↓x_jsc, ↓gJoined, ↓gYes, ↓x_bnm, ↓x_btp, ↓x_bn, ↓x_bc, ↓x_nnN, ↓x_nnI, ↓x_nnS, ↓x_nnB, ↓x_nnT, ↓x_nnL, ↓x_nnO, ↓x_nnl, ↓x_tyS, ↓x_tyL, ↓x_i2, ↓aSub, ↓aFdiv, ↓aMod, ↓aPow, ↓aShr, ↓aLt, ↓aLe, ↓aGt, ↓aGe, ↓x_addI, ↓x_addS, ↓x_mulI, ↓x_iaddS, ↓x_iaddI, ↓x_neg, ↓x_eqI, ↓x_neI, ↓x_eqS, ↓x_neS, ↓x_eqB, ↓x_neB, ↓x_eqNI, ↓x_neNI, ↓x_lenS, ↓x_lenL_l, ↓x_lenL_k, ↓x_lenL_t, ↓x_str, ↓x_intI, ↓x_intB, ↓x_divmod, ↓x_max2, ↓x_min2, ↓x_ixS, ↓x_slS, ↓x_slT, ↓x_slL_l, ↓x_slL_k, ↓x_inS, ↓x_newT, ↓x_newF, ↓x_si, ↓x_s1, ↓x_s0, ↓x_rpart, ↓x_part, ↓x_a1, ↓x_a2, ↓x_isiStr, ↓x_isiInt, ↓x_isiIntB, ↓x_isiIntS, ↓x_isiBB, ↓x_isiBI, ↓x_isiStrI, ↓x_isiNonI, ↓x_isiNonS, ↓x_isiT, ↓x_isiL, ↓x_var0, ↓x_varS, ↓x_ex, ↓x_aug0, gat, pick, Option.some.injEq, D.bl.injEq, D.int.injEq, D.str.injEq, D.tup.injEq, D.lst.injEq, List.cons.injEq, and_true, true_and, List.set_cons_zero, List.set_cons_succ, List.length_cons, List.length_nil, List.filterMap_cons, List.filterMap_nil, List.getElem?_cons_zero, List.getElem?_cons_succ, Option.bind_some, ↓reduceIte, if_true, if_false, Bool.false_eq_true, Bool.true_eq_false, decide_eq_true_eq, beq_self_eq_true, Bool.not_true, Bool.not_false, Bool.not_eq_true', decide_eq_false_iff_not, exists_eq_left', exists_eq_left, exists_eq, ↓x_dnT, ↓x_dnF, ↓gAsgL, ↓gMMDef, ↓gDSet, ↓gSItems, ↓x_nilL, ↓x_nilE, List.isEmpty_nil, List.isEmpty_cons, Bool.true_xor, Bool.false_xor, ↓gSortSet, ↓gOrT, ↓gAndT, ↓gTryAs, ↓gTryO, ↓gRaise, ↓gCallX, ↓gMethX, ↓gMakeX, ↓gFldX, ↓x_fmtRS, ↓x_afRS, ↓x_afRI, ↓x_stO]
      refine h _ (.inl ⟨fun p hp hm => ?_, rfl⟩)
      have : p ∈ P.filter fun a => decide (a.1 ≤ m) := List.mem_filter.mpr ⟨hp, decide_eq_true hm⟩
      rw [he] at this
      cases this
    · obtain ⟨h1, h2⟩ := List.mem_filter.mp hp
      simp only [↓x_eqSS, ↓x_neSS, ↓gKGet, ↓x_kget, ↓x_ixE, at_last, ↓x_appE, ↓x_tyE, ↓x_itE, ↓x_lenE, ↓x_nePr, ↓x_eqPr, ↓x_neE, ↓x_lenr, ↓x_lenrI, ↓gRev, ↓x_par3, ↓x_par33, ↓x_fld, ↓x_fset, ↓x_mkF, ↓x_mk, ↓x_meth, ↓x_fldO, ↓x_fsetE, ↓x_fldE, ↓x_methO, ↓x_isiCO, ↓x_isiCN, ↓x_isiCT, ↓x_isiCLi, ↓x_isiCS, ↓x_isiCI, ↓x_own, ↓x_eqT2, ↓x_neT2, ↓x_neL4, ↓x_eqLN, ↓x_neNil, ↓x_gset, ↓x_lc, ↓x_for, ↓x_it, ↓x_rn1, ↓x_rn2, ↓x_enu, ↓x_zip, ↓x_itS, ↓x_itL, ↓x_itK, ↓x_itT, ↓x_rn1I, ↓x_rn2I, ↓x_enuL, ↓x_enuK, ↓x_zipL, ↓x_ixS0, ↓x_ixL, ↓x_ixT, ↓x_ixK, x_at0, x_at1, x_at2, x_at3, x_at4, ↓x_set00, ↓x_set01, ↓x_set02, ↓x_aug1, ↓x_aug2, ↓x_aug3, ↓x_aug4, ↓x_aug5, ↓x_aug6, ↓x_aug7, ↓x_aug8, ↓x_aug9, ↓x_aug10, ↓x_aug11, ↓x_aug12, ↓x_aug13, ↓x_aug14, ↓x_aug15, ↓x_aug16, ↓x_aug17, ↓x_aug18, ↓x_aug19, ↓x_aug20, ↓x_aug21, ↓x_aug22, ↓x_aug23, Int.reduceToNat, Int.reducePow, ↓gSeq, ↓gIfS, ↓gSet, ↓gAsg, ↓x_par, ↓x_par2, ↓gRet, ↓gRetN, ↓gNext, ↓gDrop, ↓gBreak, ↓gCont, ↓gDead, ↓gCB, ↓gB2, ↓gU, ↓gC, ↓Dl.gCons, ↓Dl.gNil, ↓Dl.gTup, ↓Dl.gLst, ↓gTest, ↓gOrB, ↓gAndB, ↓gNotB, ↓gAndV, ↓gOrV, ↓gNotV, ↓gIf, ↓gIx, ↓gSl, ↓gPart, ↓gNoP, ↓gMt, ↓gCall, ↓gArgs, ↓gIsN, ↓gNotN, ↓gChain, ↓x_fmtS, ↓x_afS, ↓x_afI, ↓x_js0, ↓x_jsc, ↓gJoined, ↓gYes, ↓x_bnm, ↓x_btp, ↓x_bn, ↓x_bc, ↓x_nnN, ↓x_nnI, ↓x_nnS, ↓x_nnB, ↓x_nnT, ↓x_nnL, ↓x_nnO, ↓x_nnl, ↓x_tyS, ↓x_tyL, ↓x_i2, ↓aSub, ↓aFdiv, ↓aMod, ↓aPow, ↓aShr, ↓aLt, ↓aLe, ↓aGt, ↓aGe, ↓x_addI, ↓x_addS, ↓x_mulI, ↓x_iaddS, ↓x_iaddI, ↓x_neg, ↓x_eqI, ↓x_neI, ↓x_eqS, ↓x_neS, ↓x_eqB, ↓x_neB, ↓x_eqNI, ↓x_neNI, ↓x_lenS, ↓x_lenL_l, ↓x_lenL_k, ↓x_lenL_t, ↓x_str, ↓x_intI, ↓x_intB, ↓x_divmod, ↓x_max2, ↓x_min2, ↓x_ixS, ↓x_slS, ↓x_slT, ↓x_slL_l, ↓x_slL_k, ↓x_inS, ↓x_newT, ↓x_newF, ↓x_si, ↓x_s1, ↓x_s0, ↓x_rpart, ↓x_part, ↓x_a1, ↓x_a2, ↓x_isiStr, ↓x_isiInt, ↓x_isiIntB, ↓x_isiIntS, ↓x_isiBB, ↓x_isiBI, ↓x_isiStrI, ↓x_isiNonI, ↓x_isiNonS, ↓x_isiT, ↓x_isiL, ↓x_var0, ↓x_varS, ↓x_ex, ↓x_aug0, gat, pick, Option.some.injEq, D.bl.injEq, D.int.injEq, D.str.injEq, D.tup.injEq, D.lst.injEq, List.cons.injEq, and_true, true_and, List.set_cons_zero, List.set_cons_succ, List.length_cons, List.length_nil, List.filterMap_cons, List.filterMap_nil, List.getElem?_cons_zero, List.getElem?_cons_succ, Option.bind_some, ↓reduceIte, if_true, if_false, Bool.false_eq_true, Bool.true_eq_false, decide_eq_true_eq, beq_self_eq_true, Bool.not_true, Bool.not_false, Bool.not_eq_true', decide_eq_false_iff_not, exists_eq_left', exists_eq_left, exists_eq, ↓x_dnT, ↓x_dnF, ↓gAsgL, ↓gMMDef, ↓gDSet, ↓gSItems, ↓x_nilL, ↓x_nilE, List.isEmpty_nil, List.isEmpty_cons, Bool.true_xor, Bool.false_xor, ↓gSortSet, ↓gOrT, ↓gAndT, ↓gTryAs, ↓gTryO, ↓gRaise, ↓gCallX, ↓gMethX, ↓gMakeX, ↓gFldX, ↓x_fmtRS, ↓x_afRS, ↓x_afRI, ↓x_stO]
      exact h _ (.inr ⟨p, h1, of_decide_eq_true h2, fun y hy hm => hmax y (List.mem_filter.mpr ⟨hy, decide_eq_true hm⟩), rfl⟩)
theorem r_Gauge_init (T : Txt K mg a) : ∀ ds S q, sp_Gauge_init a ds S q → g_Gauge_init K a { nx := fun _ S' => q .non S', rt := q } (startD N_Gauge_init ds) S := by
  rintro ds S q ⟨S0, l, h, t, n, k, rfl, rfl, hq⟩
  rw [st_Gauge_init]
  simp only [g_Gauge_init, T.f_Gauge_lag, T.f_Gauge_high, T.f_Gauge_top, T.f_Gauge_thin, T.f_Gauge_thick, ↓x_eqSS, ↓x_neSS, ↓gKGet, ↓x_kget, ↓x_ixE, at_last, ↓x_appE, ↓x_tyE, ↓x_itE, ↓x_lenE, ↓x_nePr, ↓x_eqPr, ↓x_neE, ↓x_lenr, ↓x_lenrI, ↓gRev, ↓x_par3, ↓x_par33, ↓x_fld, ↓x_fset, ↓x_mkF, ↓x_mk, ↓x_meth, ↓x_fldO, ↓x_fsetE, ↓x_fldE, ↓x_methO, ↓x_isiCO, ↓x_isiCN, ↓x_isiCT, ↓x_isiCLi, ↓x_isiCS, ↓x_isiCI, ↓x_own, ↓x_eqT2, ↓x_neT2, ↓x_neL4, ↓x_eqLN, ↓x_neNil, ↓x_gset, ↓x_lc, ↓x_for, ↓x_it, ↓x_rn1, ↓x_rn2, ↓x_enu, ↓x_zip, ↓x_itS, ↓x_itL, ↓x_itK, ↓x_itT, ↓x_rn1I, ↓x_rn2I, ↓x_enuL, ↓x_enuK, ↓x_zipL, ↓x_ixS0, ↓x_ixL, ↓x_ixT, ↓x_ixK, x_at0, x_at1, x_at2, x_at3, x_at4, ↓x_set00, ↓x_set01, ↓x_set02, ↓x_aug1, ↓x_aug2, ↓x_aug3, ↓x_aug4, ↓x_aug5, ↓x_aug6, ↓x_aug7, ↓x_aug8, ↓x_aug9, ↓x_aug10, ↓x_aug11, ↓x_aug12, ↓x_aug13, ↓x_aug14, ↓x_aug15, ↓x_aug16, ↓x_aug17, ↓x_aug18, ↓x_aug19, ↓x_aug20, ↓x_aug21, ↓x_aug22, ↓x_aug23, Int.reduceToNat, Int.reducePow, ↓gSeq, ↓gIfS, ↓gSet, ↓gAsg, ↓x_par, ↓x_par2, ↓gRet, ↓gRetN, ↓gNext, ↓gDrop, ↓gBreak, ↓gCont, ↓gDead, ↓gCB, ↓gB2, ↓gU, ↓gC, ↓Dl.gCons, ↓Dl.gNil, ↓Dl.gTup, ↓Dl.gLst, ↓gTest, ↓gOrB, ↓gAndB, ↓gNotB, ↓gAndV, ↓gOrV, ↓gNotV, ↓gIf, ↓gIx, ↓gSl, ↓gPart, ↓gNoP, ↓gMt, ↓gCall, ↓gArgs, ↓gIsN, ↓gNotN, ↓gChain, ↓x_fmtS, ↓x_afS, ↓x_afI, ↓x_js0, ↓x_jsc, ↓gJoined, ↓gYes, ↓x_bnm, ↓x_btp, ↓x_bn, ↓x_bc, ↓x_nnN, ↓x_nnI, ↓x_nnS, ↓x_nnB, ↓x_nnT, ↓x_nnL, ↓x_nnO, ↓x_nnl, ↓x_tyS, ↓x_tyL, ↓x_i2, ↓aSub, ↓aFdiv, ↓aMod, ↓aPow, ↓aShr, ↓aLt, ↓aLe, ↓aGt, ↓aGe, ↓x_addI, ↓x_addS, ↓x_mulI, ↓x_iaddS, ↓x_iaddI, ↓x_neg, ↓x_eqI, ↓x_neI, ↓x_eqS, ↓x_neS, ↓x_eqB, ↓x_neB, ↓x_eqNI, ↓x_neNI, ↓x_lenS, ↓x_lenL_l, ↓x_lenL_k, ↓x_lenL_t, ↓x_str, ↓x_intI, ↓x_intB, ↓x_divmod, ↓x_max2, ↓x_min2, ↓x_ixS, ↓x_slS, ↓x_slT, ↓x_slL_l, ↓x_slL_k, ↓x_inS, ↓x_newT, ↓x_newF, ↓x_si, ↓x_s1, ↓x_s0, ↓x_rpart, ↓x_part, ↓x_a1, ↓x_a2, ↓x_isiStr, ↓x_isiInt, ↓x_isiIntB, ↓x_isiIntS, ↓x_isiBB, ↓x_isiBI, ↓x_isiStrI, ↓x_isiNonI, ↓x_isiNonS, ↓x_isiT, ↓x_isiL, ↓x_var0, ↓x_varS, ↓x_ex, ↓x_aug0, gat, pick, Option.some.injEq, D.bl.injEq, D.int.injEq, D.str.injEq, D.tup.injEq, D.lst.injEq, List.cons.injEq, and_true, true_and, List.set_cons_zero, List.set_cons_succ, List.length_cons, List.length_nil, List.filterMap_cons, List.filterMap_nil, List.getElem?_cons_zero, List.getElem?_cons_succ, Option.bind_some, ↓reduceIte, if_true, if_false, Bool.false_eq_true, Bool.true_eq_false, decide_eq_true_eq, beq_self_eq_true, Bool.not_true, Bool.not_false, Bool.not_eq_true', decide_eq_false_iff_not, exists_eq_left', exists_eq_left, exists_eq, ↓x_dnT, ↓x_dnF, ↓gAsgL, ↓gMMDef, ↓gDSet, ↓gSItems, ↓x_nilL, ↓x_nilE, List.isEmpty_nil, List.isEmpty_cons, Bool.true_xor, Bool.false_xor, ↓gSortSet, ↓gOrT, ↓gAndT, ↓gTryAs, ↓gTryO, ↓gRaise, ↓gCallX, ↓gMethX, ↓gMakeX, ↓gFldX, ↓x_fmtRS, ↓x_afRS, ↓x_afRI, ↓x_stO]
  rw [show putK "lag" [] = (["lag"] : List Str) by decide +kernel, show putK "high" ["lag"] = (["lag", "high"] : List Str) by decide +kernel, show putK "top" ["lag", "high"] = (["lag", "high", "top"] : List Str) by decide +kernel,
    show putK "thin" ["lag", "high", "top"] = (["lag", "high", "top", "thin"] : List Str) by decide +kernel, show putK "thick" ["lag", "high", "top", "thin"] = (["lag", "high", "top", "thin", "thick"] : List Str) by decide +kernel]
  exact ⟨by decide, by decide, by decide, by decide, by decide, hq⟩
theorem fg_lag {x y z u v : D} : fget "lag" ["lag", "high", "top", "thin", "thick"] [x, y, z, u, v] = some x := rfl
theorem fg_high {x y z u v : D} : fget "high" ["lag", "high", "top", "thin", "thick"] [x, y, z, u, v] = some y := rfl
theorem fg_top {x y z u v : D} : fget "top" ["lag", "high", "top", "thin", "thick"] [x, y, z, u, v] = some z := rfl
theorem fg_thin {x y z u v : D} : fget "thin" ["lag", "high", "top", "thin", "thick"] [x, y, z, u, v] = some u := rfl
theorem fg_thick {x y z u v : D} : fget "thick" ["lag", "high", "top", "thin", "thick"] [x, y, z, u, v] = some v := rfl
theorem stand_out {h t n k w i : Int} {q : D → Sto → Prop} {S : Sto} (hq : q (.str (standS h t n k w i)) S) : if t ≤ w then q (D.str (Str.ofString "lost")) S
  else if k ≤ i then q (D.str (Str.ofString "shut")) S else if h ≤ w then q (D.str (Str.ofString "slow")) S else if n ≤ i then q (D.str (Str.ofString "slow")) S else q (D.str (Str.ofString "free")) S := by
  unfold standS at hq
  by_cases c1 : t ≤ w
  · rw [if_pos c1] at hq
    rw [if_pos c1]
    exact hq
  rw [if_neg c1] at hq
  rw [if_neg c1]
  by_cases c2 : k ≤ i
  · rw [if_pos c2] at hq
    rw [if_pos c2]
    exact hq
  rw [if_neg c2] at hq
  rw [if_neg c2]
  by_cases c3 : h ≤ w
  · rw [if_pos (Or.inl c3)] at hq
    rw [if_pos c3]
    exact hq
  rw [if_neg c3]
  by_cases c4 : n ≤ i
  · rw [if_pos (Or.inr c4)] at hq
    rw [if_pos c4]
    exact hq
  rw [if_neg (by omega)] at hq
  rw [if_neg c4]
  exact hq
theorem r_Gauge_stand_by (T : Txt K mg a) : ∀ ds S q, sp_Gauge_stand_by a ds S q → g_Gauge_stand_by K a { nx := fun _ S' => q .non S', rt := q } (startD N_Gauge_stand_by ds) S := by
  rintro ds S q ⟨l, h, t, n, k, w, i, rfl, hq⟩
  rw [st_Gauge_stand_by]
  simp only [g_Gauge_stand_by, T.f_Gauge_high, T.f_Gauge_top, T.f_Gauge_thin, T.f_Gauge_thick, fg_high, fg_top, fg_thin, fg_thick, ↓x_eqSS, ↓x_neSS, ↓gKGet, ↓x_kget, ↓x_ixE, at_last, ↓x_appE, ↓x_tyE, ↓x_itE, ↓x_lenE, ↓x_nePr, ↓x_eqPr, ↓x_neE, ↓x_lenr, ↓x_lenrI, ↓gRev, ↓x_par3, ↓x_par33, ↓x_fld, ↓x_fset, ↓x_mkF, ↓x_mk, ↓x_meth, ↓x_fldO, ↓x_fsetE, ↓x_fldE, ↓x_methO, ↓x_isiCO, ↓x_isiCN, ↓x_isiCT, ↓x_isiCLi, ↓x_isiCS, ↓x_isiCI, ↓x_own, ↓x_eqT2, ↓x_neT2, ↓x_neL4, ↓x_eqLN, ↓x_neNil, ↓x_gset, ↓x_lc, ↓x_for, ↓x_it, ↓x_rn1, ↓x_rn2, ↓x_enu, ↓x_zip, ↓x_itS, ↓x_itL, ↓x_itK, ↓x_itT, ↓x_rn1I, ↓x_rn2I, ↓x_enuL, ↓x_enuK, ↓x_zipL, ↓x_ixS0, ↓x_ixL, ↓x_ixT, ↓x_ixK, x_at0, x_at1, x_at2, x_at3, x_at4, ↓x_set00, ↓x_set01, ↓x_set02, ↓x_aug1, ↓x_aug2, ↓x_aug3, ↓x_aug4, ↓x_aug5, ↓x_aug6, ↓x_aug7, ↓x_aug8, ↓x_aug9, ↓x_aug10, ↓x_aug11, ↓x_aug12, ↓x_aug13, ↓x_aug14, ↓x_aug15, ↓x_aug16, ↓x_aug17, ↓x_aug18, ↓x_aug19, ↓x_aug20, ↓x_aug21, ↓x_aug22, ↓x_aug23, Int.reduceToNat, Int.reducePow, ↓gSeq, ↓gIfS, ↓gSet, ↓gAsg, ↓x_par, ↓x_par2, ↓gRet, ↓gRetN, ↓gNext, ↓gDrop, ↓gBreak, ↓gCont, ↓gDead, ↓gCB, ↓gB2, ↓gU, ↓gC, ↓Dl.gCons, ↓Dl.gNil, ↓Dl.gTup, ↓Dl.gLst, ↓gTest, ↓gOrB, ↓gAndB, ↓gNotB, ↓gAndV, ↓gOrV, ↓gNotV, ↓gIf, ↓gIx, ↓gSl, ↓gPart, ↓gNoP, ↓gMt, ↓gCall, ↓gArgs, ↓gIsN, ↓gNotN, ↓gChain, ↓x_fmtS, ↓x_afS, ↓x_afI, ↓x_js0, ↓x_jsc, ↓gJoined, ↓gYes, ↓x_bnm, ↓x_btp, ↓x_bn, ↓x_bc, ↓x_nnN, ↓x_nnI, ↓x_nnS, ↓x_nnB, ↓x_nnT, ↓x_nnL, ↓x_nnO, ↓x_nnl, ↓x_tyS, ↓x_tyL, ↓x_i2, ↓aSub, ↓aFdiv, ↓aMod, ↓aPow, ↓aShr, ↓aLt, ↓aLe, ↓aGt, ↓aGe, ↓x_addI, ↓x_addS, ↓x_mulI, ↓x_iaddS, ↓x_iaddI, ↓x_neg, ↓x_eqI, ↓x_neI, ↓x_eqS, ↓x_neS, ↓x_eqB, ↓x_neB, ↓x_eqNI, ↓x_neNI, ↓x_lenS, ↓x_lenL_l, ↓x_lenL_k, ↓x_lenL_t, ↓x_str, ↓x_intI, ↓x_intB, ↓x_divmod, ↓x_max2, ↓x_min2, ↓x_ixS, ↓x_slS, ↓x_slT, ↓x_slL_l, ↓x_slL_k, ↓x_inS, ↓x_newT, ↓x_newF, ↓x_si, ↓x_s1, ↓x_s0, ↓x_rpart, ↓x_part, ↓x_a1, ↓x_a2, ↓x_isiStr, ↓x_isiInt, ↓x_isiIntB, ↓x_isiIntS, ↓x_isiBB, ↓x_isiBI, ↓x_isiStrI, ↓x_isiNonI, ↓x_isiNonS, ↓x_isiT, ↓x_isiL, ↓x_var0, ↓x_varS, ↓x_ex, ↓x_aug0, gat, pick, Option.some.injEq, D.bl.injEq, D.int.injEq, D.str.injEq, D.tup.injEq, D.lst.injEq, List.cons.injEq, and_true, true_and, List.set_cons_zero, List.set_cons_succ, List.length_cons, List.length_nil, List.filterMap_cons, List.filterMap_nil, List.getElem?_cons_zero, List.getElem?_cons_succ, Option.bind_some, ↓reduceIte, if_true, if_false, Bool.false_eq_true, Bool.true_eq_false, decide_eq_true_eq, beq_self_eq_true, Bool.not_true, Bool.not_false, Bool.not_eq_true', decide_eq_false_iff_not, exists_eq_left', exists_eq_left, exists_eq, ↓x_dnT, ↓x_dnF, ↓gAsgL, ↓gMMDef, ↓gDSet, ↓gSItems, ↓x_nilL, ↓x_nilE, List.isEmpty_nil, List.isEmpty_cons, Bool.true_xor, Bool.false_xor, ↓gSortSet, ↓gOrT, ↓gAndT, ↓gTryAs, ↓gTryO, ↓gRaise, ↓gCallX, ↓gMethX, ↓gMakeX, ↓gFldX, ↓x_fmtRS, ↓x_afRS, ↓x_afRI, ↓x_stO]
  exact stand_out hq
theorem take_snoc {A : Type} {L : List A} {i : Nat} {x : A} (h : L[i]? = some x) : L.take (i + 1) = L.take i ++ [x] := by rw [List.take_add_one, h]; rfl
theorem rf_Gauge_arrivals (T : Txt K mg a) : ∀ ds S q, D.unders S.length ds = true → Sto.under S.length S = true → sp_Gauge_arrivals a ds S q → g_Gauge_arrivals K a { nx := fun _ S' => fin S.length q .non S', rt := fin S.length q } (startD N_Gauge_arrivals ds) S := by
  rintro ds S q hu hs ⟨l, h, t, n, k, R, b, rfl, hR, hq⟩
  rw [st_Gauge_arrivals]
  simp only [g_Gauge_arrivals, T.f_Gauge_lag, fg_lag, ↓x_eqSS, ↓x_neSS, ↓gKGet, ↓x_kget, ↓x_ixE, at_last, ↓x_appE, ↓x_tyE, ↓x_itE, ↓x_lenE, ↓x_nePr, ↓x_eqPr, ↓x_neE, ↓x_lenr, ↓x_lenrI, ↓gRev, ↓x_par3, ↓x_par33, ↓x_fld, ↓x_fset, ↓x_mkF, ↓x_mk, ↓x_meth, ↓x_fldO, ↓x_fsetE, ↓x_fldE, ↓x_methO, ↓x_isiCO, ↓x_isiCN, ↓x_isiCT, ↓x_isiCLi, ↓x_isiCS, ↓x_isiCI, ↓x_own, ↓x_eqT2, ↓x_neT2, ↓x_neL4, ↓x_eqLN, ↓x_neNil, ↓x_gset, ↓x_lc, ↓x_for, ↓x_it, ↓x_rn1, ↓x_rn2, ↓x_enu, ↓x_zip, ↓x_itS, ↓x_itL, ↓x_itK, ↓x_itT, ↓x_rn1I, ↓x_rn2I, ↓x_enuL, ↓x_enuK, ↓x_zipL, ↓x_ixS0, ↓x_ixL, ↓x_ixT, ↓x_ixK, x_at0, x_at1, x_at2, x_at3, x_at4, ↓x_set00, ↓x_set01, ↓x_set02, ↓x_aug1, ↓x_aug2, ↓x_aug3, ↓x_aug4, ↓x_aug5, ↓x_aug6, ↓x_aug7, ↓x_aug8, ↓x_aug9, ↓x_aug10, ↓x_aug11, ↓x_aug12, ↓x_aug13, ↓x_aug14, ↓x_aug15, ↓x_aug16, ↓x_aug17, ↓x_aug18, ↓x_aug19, ↓x_aug20, ↓x_aug21, ↓x_aug22, ↓x_aug23, Int.reduceToNat, Int.reducePow, ↓gSeq, ↓gIfS, ↓gSet, ↓gAsg, ↓x_par, ↓x_par2, ↓gRet, ↓gRetN, ↓gNext, ↓gDrop, ↓gBreak, ↓gCont, ↓gDead, ↓gCB, ↓gB2, ↓gU, ↓gC, ↓Dl.gCons, ↓Dl.gNil, ↓Dl.gTup, ↓Dl.gLst, ↓gTest, ↓gOrB, ↓gAndB, ↓gNotB, ↓gAndV, ↓gOrV, ↓gNotV, ↓gIf, ↓gIx, ↓gSl, ↓gPart, ↓gNoP, ↓gMt, ↓gCall, ↓gArgs, ↓gIsN, ↓gNotN, ↓gChain, ↓x_fmtS, ↓x_afS, ↓x_afI, ↓x_js0, ↓x_jsc, ↓gJoined, ↓gYes, ↓x_bnm, ↓x_btp, ↓x_bn, ↓x_bc, ↓x_nnN, ↓x_nnI, ↓x_nnS, ↓x_nnB, ↓x_nnT, ↓x_nnL, ↓x_nnO, ↓x_nnl, ↓x_tyS, ↓x_tyL, ↓x_i2, ↓aSub, ↓aFdiv, ↓aMod, ↓aPow, ↓aShr, ↓aLt, ↓aLe, ↓aGt, ↓aGe, ↓x_addI, ↓x_addS, ↓x_mulI, ↓x_iaddS, ↓x_iaddI, ↓x_neg, ↓x_eqI, ↓x_neI, ↓x_eqS, ↓x_neS, ↓x_eqB, ↓x_neB, ↓x_eqNI, ↓x_neNI, ↓x_lenS, ↓x_lenL_l, ↓x_lenL_k, ↓x_lenL_t, ↓x_str, ↓x_intI, ↓x_intB, ↓x_divmod, ↓x_max2, ↓x_min2, ↓x_ixS, ↓x_slS, ↓x_slT, ↓x_slL_l, ↓x_slL_k, ↓x_inS, ↓x_newT, ↓x_newF, ↓x_si, ↓x_s1, ↓x_s0, ↓x_rpart, ↓x_part, ↓x_a1, ↓x_a2, ↓x_isiStr, ↓x_isiInt, ↓x_isiIntB, ↓x_isiIntS, ↓x_isiBB, ↓x_isiBI, ↓x_isiStrI, ↓x_isiNonI, ↓x_isiNonS, ↓x_isiT, ↓x_isiL, ↓x_var0, ↓x_varS, ↓x_ex, ↓x_aug0, gat, pick, Option.some.injEq, D.bl.injEq, D.int.injEq, D.str.injEq, D.tup.injEq, D.lst.injEq, List.cons.injEq, and_true, true_and, List.set_cons_zero, List.set_cons_succ, List.length_cons, List.length_nil, List.filterMap_cons, List.filterMap_nil, List.getElem?_cons_zero, List.getElem?_cons_succ, Option.bind_some, ↓reduceIte, if_true, if_false, Bool.false_eq_true, Bool.true_eq_false, decide_eq_true_eq, beq_self_eq_true, Bool.not_true, Bool.not_false, Bool.not_eq_true', decide_eq_false_iff_not, exists_eq_left', exists_eq_left, exists_eq, ↓x_dnT, ↓x_dnF, ↓gAsgL, ↓gMMDef, ↓gDSet, ↓gSItems, ↓x_nilL, ↓x_nilE, List.isEmpty_nil, List.isEmpty_cons, Bool.true_xor, Bool.false_xor, ↓gSortSet, ↓gOrT, ↓gAndT, ↓gTryAs, ↓gTryO, ↓gRaise, ↓gCallX, ↓gMethX, ↓gMakeX, ↓gFldX, ↓x_fmtRS, ↓x_afRS, ↓x_afRI, ↓x_stO]
  have hs' : 400 < sizeLine := by decide
  have key : ∀ lt : Int, q (.lst ((arr lt b R).map pD)) S → aFor (Tgt.tp [Tgt.nm 5, Tgt.nm 6, Tgt.nm 7])
      (gIfS (gTest (gB2 aEqS (gVar 6) (gVar 2))) (gDSet (gVar 4) (gB2 (aAdd true) (gVar 5) (gVar 3)) (gVar 7)) gNext)
      { nx := gRet (gSItems (gVar 4)) { nx := fun x S' => fin (List.length S) q D.non S', rt := fin (List.length S) q },
        rt := fin (List.length S) q }
      [some (gaD a.C_Gauge l h t n k), some (D.lst (List.map rD R)), some (D.str (kW b)), some (D.int lt),
        some (D.loc (List.length S)), none, none, none]
      (List.map rD R) (fun x => True) (S ++ [some (MO.dic [] [])]) := by
    intro lt hq
    refine ⟨fun i ρ S' => ∃ x5 x6 x7 : Option D, ρ = [some (gaD a.C_Gauge l h t n k), some (D.lst (List.map rD R)), some (D.str (kW b)), some (D.int lt), some (D.loc S.length), x5, x6, x7] ∧
      S' = S ++ [some (.dic (dk (foldP (rowsOf lt b (R.take i)))) (dv (foldP (rowsOf lt b (R.take i)))))], ⟨_, _, _, rfl, rfl⟩, ?_, ?_⟩
    · rintro i d ρ S' hd ⟨x5, x6, x7, rfl, rfl⟩
      rw [List.getElem?_map] at hd
      obtain ⟨r, hr, rfl⟩ := Option.map_eq_some_iff.mp hd
      refine ⟨trivial, _, x_b3, ?_⟩
      simp only [↓x_eqSS, ↓x_neSS, ↓gKGet, ↓x_kget, ↓x_ixE, at_last, ↓x_appE, ↓x_tyE, ↓x_itE, ↓x_lenE, ↓x_nePr, ↓x_eqPr, ↓x_neE, ↓x_lenr, ↓x_lenrI, ↓gRev, ↓x_par3, ↓x_par33, ↓x_fld, ↓x_fset, ↓x_mkF, ↓x_mk, ↓x_meth, ↓x_fldO, ↓x_fsetE, ↓x_fldE, ↓x_methO, ↓x_isiCO, ↓x_isiCN, ↓x_isiCT, ↓x_isiCLi, ↓x_isiCS, ↓x_isiCI, ↓x_own, ↓x_eqT2, ↓x_neT2, ↓x_neL4, ↓x_eqLN, ↓x_neNil, ↓x_gset, ↓x_lc, ↓x_for, ↓x_it, ↓x_rn1, ↓x_rn2, ↓x_enu, ↓x_zip, ↓x_itS, ↓x_itL, ↓x_itK, ↓x_itT, ↓x_rn1I, ↓x_rn2I, ↓x_enuL, ↓x_enuK, ↓x_zipL, ↓x_ixS0, ↓x_ixL, ↓x_ixT, ↓x_ixK, x_at0, x_at1, x_at2, x_at3, x_at4, ↓x_set00, ↓x_set01, ↓x_set02, ↓x_aug1, ↓x_aug2, ↓x_aug3, ↓x_aug4, ↓x_aug5, ↓x_aug6, ↓x_aug7, ↓x_aug8, ↓x_aug9, ↓x_aug10, ↓x_aug11, ↓x_aug12, ↓x_aug13, ↓x_aug14, ↓x_aug15, ↓x_aug16, ↓x_aug17, ↓x_aug18, ↓x_aug19, ↓x_aug20, ↓x_aug21, ↓x_aug22, ↓x_aug23, Int.reduceToNat, Int.reducePow, ↓gSeq, ↓gIfS, ↓gSet, ↓gAsg, ↓x_par, ↓x_par2, ↓gRet, ↓gRetN, ↓gNext, ↓gDrop, ↓gBreak, ↓gCont, ↓gDead, ↓gCB, ↓gB2, ↓gU, ↓gC, ↓Dl.gCons, ↓Dl.gNil, ↓Dl.gTup, ↓Dl.gLst, ↓gTest, ↓gOrB, ↓gAndB, ↓gNotB, ↓gAndV, ↓gOrV, ↓gNotV, ↓gIf, ↓gIx, ↓gSl, ↓gPart, ↓gNoP, ↓gMt, ↓gCall, ↓gArgs, ↓gIsN, ↓gNotN, ↓gChain, ↓x_fmtS, ↓x_afS, ↓x_afI, ↓x_js0, ↓x_jsc, ↓gJoined, ↓gYes, ↓x_bnm, ↓x_btp, ↓x_bn, ↓x_bc, ↓x_nnN, ↓x_nnI, ↓x_nnS, ↓x_nnB, ↓x_nnT, ↓x_nnL, ↓x_nnO, ↓x_nnl, ↓x_tyS, ↓x_tyL, ↓x_i2, ↓aSub, ↓aFdiv, ↓aMod, ↓aPow, ↓aShr, ↓aLt, ↓aLe, ↓aGt, ↓aGe, ↓x_addI, ↓x_addS, ↓x_mulI, ↓x_iaddS, ↓x_iaddI, ↓x_neg, ↓x_eqI, ↓x_neI, ↓x_eqS, ↓x_neS, ↓x_eqB, ↓x_neB, ↓x_eqNI, ↓x_neNI, ↓x_lenS, ↓x_lenL_l, ↓x_lenL_k, ↓x_lenL_t, ↓x_str, ↓x_intI, ↓x_intB, ↓x_divmod, ↓x_max2, ↓x_min2, ↓x_ixS, ↓x_slS, ↓x_slT, ↓x_slL_l, ↓x_slL_k, ↓x_inS, ↓x_newT, ↓x_newF, ↓x_si, ↓x_s1, ↓x_s0, ↓x_rpart, ↓x_part, ↓x_a1, ↓x_a2, ↓x_isiStr, ↓x_isiInt, ↓x_isiIntB, ↓x_isiIntS, ↓x_isiBB, ↓x_isiBI, ↓x_isiStrI, ↓x_isiNonI, ↓x_isiNonS, ↓x_isiT, ↓x_isiL, ↓x_var0, ↓x_varS, ↓x_ex, ↓x_aug0, gat, pick, Option.some.injEq, D.bl.injEq, D.int.injEq, D.str.injEq, D.tup.injEq, D.lst.injEq, List.cons.injEq, and_true, true_and, List.set_cons_zero, List.set_cons_succ, List.length_cons, List.length_nil, List.filterMap_cons, List.filterMap_nil, List.getElem?_cons_zero, List.getElem?_cons_succ, Option.bind_some, ↓reduceIte, if_true, if_false, Bool.false_eq_true, Bool.true_eq_false, decide_eq_true_eq, beq_self_eq_true, Bool.not_true, Bool.not_false, Bool.not_eq_true', decide_eq_false_iff_not, exists_eq_left', exists_eq_left, exists_eq, ↓x_dnT, ↓x_dnF, ↓gAsgL, ↓gMMDef, ↓gDSet, ↓gSItems, ↓x_nilL, ↓x_nilE, List.isEmpty_nil, List.isEmpty_cons, Bool.true_xor, Bool.false_xor, ↓gSortSet, ↓gOrT, ↓gAndT, ↓gTryAs, ↓gTryO, ↓gRaise, ↓gCallX, ↓gMethX, ↓gMakeX, ↓gFldX, ↓x_fmtRS, ↓x_afRS, ↓x_afRI, ↓x_stO]
      have hlen : (foldP (rowsOf lt b (R.take i))).length ≤ 400 := by
        have h1 := foldP_len (lt := lt) (b := b) (R := R.take i)
        rw [List.length_take] at h1
        omega
      by_cases hb : r.2.1 = b
      · rw [if_pos (kW_inj.mpr hb)]
        refine ⟨S.length, _, _, .inl (r.1 + lt), rfl, snoc_getN, rfl, ?_, _, _, _, ⟨rfl, rfl, rfl⟩, ?_⟩
        · unfold dk; rw [List.length_map]; omega
        · rw [snoc_setN, take_snoc hr, rows_snoc, if_pos hb, fold_snoc, kput_dk, dput_dv]
      · rw [if_neg (fun z => hb (kW_inj.mp z))]
        refine ⟨_, _, _, ⟨rfl, rfl, rfl⟩, ?_⟩
        rw [take_snoc hr, rows_snoc, if_neg hb, List.append_nil]
    · rintro ρ S' ⟨x5, x6, x7, rfl, rfl⟩
      refine ⟨trivial, ?_⟩
      rw [List.length_map, List.take_length]
      simp only [↓x_eqSS, ↓x_neSS, ↓gKGet, ↓x_kget, ↓x_ixE, at_last, ↓x_appE, ↓x_tyE, ↓x_itE, ↓x_lenE, ↓x_nePr, ↓x_eqPr, ↓x_neE, ↓x_lenr, ↓x_lenrI, ↓gRev, ↓x_par3, ↓x_par33, ↓x_fld, ↓x_fset, ↓x_mkF, ↓x_mk, ↓x_meth, ↓x_fldO, ↓x_fsetE, ↓x_fldE, ↓x_methO, ↓x_isiCO, ↓x_isiCN, ↓x_isiCT, ↓x_isiCLi, ↓x_isiCS, ↓x_isiCI, ↓x_own, ↓x_eqT2, ↓x_neT2, ↓x_neL4, ↓x_eqLN, ↓x_neNil, ↓x_gset, ↓x_lc, ↓x_for, ↓x_it, ↓x_rn1, ↓x_rn2, ↓x_enu, ↓x_zip, ↓x_itS, ↓x_itL, ↓x_itK, ↓x_itT, ↓x_rn1I, ↓x_rn2I, ↓x_enuL, ↓x_enuK, ↓x_zipL, ↓x_ixS0, ↓x_ixL, ↓x_ixT, ↓x_ixK, x_at0, x_at1, x_at2, x_at3, x_at4, ↓x_set00, ↓x_set01, ↓x_set02, ↓x_aug1, ↓x_aug2, ↓x_aug3, ↓x_aug4, ↓x_aug5, ↓x_aug6, ↓x_aug7, ↓x_aug8, ↓x_aug9, ↓x_aug10, ↓x_aug11, ↓x_aug12, ↓x_aug13, ↓x_aug14, ↓x_aug15, ↓x_aug16, ↓x_aug17, ↓x_aug18, ↓x_aug19, ↓x_aug20, ↓x_aug21, ↓x_aug22, ↓x_aug23, Int.reduceToNat, Int.reducePow, ↓gSeq, ↓gIfS, ↓gSet, ↓gAsg, ↓x_par, ↓x_par2, ↓gRet, ↓gRetN, ↓gNext, ↓gDrop, ↓gBreak, ↓gCont, ↓gDead, ↓gCB, ↓gB2, ↓gU, ↓gC, ↓Dl.gCons, ↓Dl.gNil, ↓Dl.gTup, ↓Dl.gLst, ↓gTest, ↓gOrB, ↓gAndB, ↓gNotB, ↓gAndV, ↓gOrV, ↓gNotV, ↓gIf, ↓gIx, ↓gSl, ↓gPart, ↓gNoP, ↓gMt, ↓gCall, ↓gArgs, ↓gIsN, ↓gNotN, ↓gChain, ↓x_fmtS, ↓x_afS, ↓x_afI, ↓x_js0, ↓x_jsc, ↓gJoined, ↓gYes, ↓x_bnm, ↓x_btp, ↓x_bn, ↓x_bc, ↓x_nnN, ↓x_nnI, ↓x_nnS, ↓x_nnB, ↓x_nnT, ↓x_nnL, ↓x_nnO, ↓x_nnl, ↓x_tyS, ↓x_tyL, ↓x_i2, ↓aSub, ↓aFdiv, ↓aMod, ↓aPow, ↓aShr, ↓aLt, ↓aLe, ↓aGt, ↓aGe, ↓x_addI, ↓x_addS, ↓x_mulI, ↓x_iaddS, ↓x_iaddI, ↓x_neg, ↓x_eqI, ↓x_neI, ↓x_eqS, ↓x_neS, ↓x_eqB, ↓x_neB, ↓x_eqNI, ↓x_neNI, ↓x_lenS, ↓x_lenL_l, ↓x_lenL_k, ↓x_lenL_t, ↓x_str, ↓x_intI, ↓x_intB, ↓x_divmod, ↓x_max2, ↓x_min2, ↓x_ixS, ↓x_slS, ↓x_slT, ↓x_slL_l, ↓x_slL_k, ↓x_inS, ↓x_newT, ↓x_newF, ↓x_si, ↓x_s1, ↓x_s0, ↓x_rpart, ↓x_part, ↓x_a1, ↓x_a2, ↓x_isiStr, ↓x_isiInt, ↓x_isiIntB, ↓x_isiIntS, ↓x_isiBB, ↓x_isiBI, ↓x_isiStrI, ↓x_isiNonI, ↓x_isiNonS, ↓x_isiT, ↓x_isiL, ↓x_var0, ↓x_varS, ↓x_ex, ↓x_aug0, gat, pick, Option.some.injEq, D.bl.injEq, D.int.injEq, D.str.injEq, D.tup.injEq, D.lst.injEq, List.cons.injEq, and_true, true_and, List.set_cons_zero, List.set_cons_succ, List.length_cons, List.length_nil, List.filterMap_cons, List.filterMap_nil, List.getElem?_cons_zero, List.getElem?_cons_succ, Option.bind_some, ↓reduceIte, if_true, if_false, Bool.false_eq_true, Bool.true_eq_false, decide_eq_true_eq, beq_self_eq_true, Bool.not_true, Bool.not_false, Bool.not_eq_true', decide_eq_false_iff_not, exists_eq_left', exists_eq_left, exists_eq, ↓x_dnT, ↓x_dnF, ↓gAsgL, ↓gMMDef, ↓gDSet, ↓gSItems, ↓x_nilL, ↓x_nilE, List.isEmpty_nil, List.isEmpty_cons, Bool.true_xor, Bool.false_xor, ↓gSortSet, ↓gOrT, ↓gAndT, ↓gTryAs, ↓gTryO, ↓gRaise, ↓gCallX, ↓gMethX, ↓gMakeX, ↓gFldX, ↓x_fmtRS, ↓x_afRS, ↓x_afRI, ↓x_stO]
      refine ⟨dk (foldP (rowsOf lt b R)), dv (foldP (rowsOf lt b R)), by simp [dicOf], ?_⟩
      rw [zip_dkv]
      refine x_sortedP ?_
      rw [x_newT]
      exact (x_finL hs).mpr ⟨und_pr, hq⟩
  cases b with
  | true =>
    rw [if_pos (kW_t.mpr rfl)]
    exact key l hq
  | false =>
    rw [if_neg (show ¬ kW false = Str.ofString "water" from fun z => nomatch kW_t.mp z)]
    exact key 0 hq
def oD : Option Pr → D
  | none => .non
  | some b => pD b
theorem r__law_last : ∀ ds S q, sp__law_last a ds S q → g__law_last K a { nx := fun _ S' => q .non S', rt := q } (startD N__law_last ds) S := by
  rintro ds S q ⟨P, m, rfl, hP, h⟩
  rw [st__law_last]
  simp only [g__law_last, ↓x_eqSS, ↓x_neSS, ↓gKGet, ↓x_kget, ↓x_ixE, at_last, ↓x_appE, ↓x_tyE, ↓x_itE, ↓x_lenE, ↓x_nePr, ↓x_eqPr, ↓x_neE, ↓x_lenr, ↓x_lenrI, ↓gRev, ↓x_par3, ↓x_par33, ↓x_fld, ↓x_fset, ↓x_mkF, ↓x_mk, ↓x_meth, ↓x_fldO, ↓x_fsetE, ↓x_fldE, ↓x_methO, ↓x_isiCO, ↓x_isiCN, ↓x_isiCT, ↓x_isiCLi, ↓x_isiCS, ↓x_isiCI, ↓x_own, ↓x_eqT2, ↓x_neT2, ↓x_neL4, ↓x_eqLN, ↓x_neNil, ↓x_gset, ↓x_lc, ↓x_for, ↓x_it, ↓x_rn1, ↓x_rn2, ↓x_enu, ↓x_zip, ↓x_itS, ↓x_itL, ↓x_itK, ↓x_itT, ↓x_rn1I, ↓x_rn2I, ↓x_enuL, ↓x_enuK, ↓x_zipL, ↓x_ixS0, ↓x_ixL, ↓x_ixT, ↓x_ixK, x_at0, x_at1, x_at2, x_at3, x_at4, ↓x_set00, ↓x_set01, ↓x_set02, ↓x_aug1, ↓x_aug2, ↓x_aug3, ↓x_aug4, ↓x_aug5, ↓x_aug6, ↓x_aug7, ↓x_aug8, ↓x_aug9, ↓x_aug10, ↓x_aug11, ↓x_aug12, ↓x_aug13, ↓x_aug14, ↓x_aug15, ↓x_aug16, ↓x_aug17, ↓x_aug18, ↓x_aug19, ↓x_aug20, ↓x_aug21, ↓x_aug22, ↓x_aug23, Int.reduceToNat, Int.reducePow, ↓gSeq, ↓gIfS, ↓gSet, ↓gAsg, ↓x_par, ↓x_par2, ↓gRet, ↓gRetN, ↓gNext, ↓gDrop, ↓gBreak, ↓gCont, ↓gDead, ↓gCB, ↓gB2, ↓gU, ↓gC, ↓Dl.gCons, ↓Dl.gNil, ↓Dl.gTup, ↓Dl.gLst, ↓gTest, ↓gOrB, ↓gAndB, ↓gNotB, ↓gAndV, ↓gOrV, ↓gNotV, ↓gIf, ↓gIx, ↓gSl, ↓gPart, ↓gNoP, ↓gMt, ↓gCall, ↓gArgs, ↓gIsN, ↓gNotN, ↓gChain, ↓x_fmtS, ↓x_afS, ↓x_afI, ↓x_js0, ↓x_jsc, ↓gJoined, ↓gYes, ↓x_bnm, ↓x_btp, ↓x_bn, ↓x_bc, ↓x_nnN, ↓x_nnI, ↓x_nnS, ↓x_nnB, ↓x_nnT, ↓x_nnL, ↓x_nnO, ↓x_nnl, ↓x_tyS, ↓x_tyL, ↓x_i2, ↓aSub, ↓aFdiv, ↓aMod, ↓aPow, ↓aShr, ↓aLt, ↓aLe, ↓aGt, ↓aGe, ↓x_addI, ↓x_addS, ↓x_mulI, ↓x_iaddS, ↓x_iaddI, ↓x_neg, ↓x_eqI, ↓x_neI, ↓x_eqS, ↓x_neS, ↓x_eqB, ↓x_neB, ↓x_eqNI, ↓x_neNI, ↓x_lenS, ↓x_lenL_l, ↓x_lenL_k, ↓x_lenL_t, ↓x_str, ↓x_intI, ↓x_intB, ↓x_divmod, ↓x_max2, ↓x_min2, ↓x_ixS, ↓x_slS, ↓x_slT, ↓x_slL_l, ↓x_slL_k, ↓x_inS, ↓x_newT, ↓x_newF, ↓x_si, ↓x_s1, ↓x_s0, ↓x_rpart, ↓x_part, ↓x_a1, ↓x_a2, ↓x_isiStr, ↓x_isiInt, ↓x_isiIntB, ↓x_isiIntS, ↓x_isiBB, ↓x_isiBI, ↓x_isiStrI, ↓x_isiNonI, ↓x_isiNonS, ↓x_isiT, ↓x_isiL, ↓x_var0, ↓x_varS, ↓x_ex, ↓x_aug0, gat, pick, Option.some.injEq, D.bl.injEq, D.int.injEq, D.str.injEq, D.tup.injEq, D.lst.injEq, List.cons.injEq, and_true, true_and, List.set_cons_zero, List.set_cons_succ, List.length_cons, List.length_nil, List.filterMap_cons, List.filterMap_nil, List.getElem?_cons_zero, List.getElem?_cons_succ, Option.bind_some, ↓reduceIte, if_true, if_false, Bool.false_eq_true, Bool.true_eq_false, decide_eq_true_eq, beq_self_eq_true, Bool.not_true, Bool.not_false, Bool.not_eq_true', decide_eq_false_iff_not, exists_eq_left', exists_eq_left, exists_eq, ↓x_dnT, ↓x_dnF, ↓gAsgL, ↓gMMDef, ↓gDSet, ↓gSItems, ↓x_nilL, ↓x_nilE, List.isEmpty_nil, List.isEmpty_cons, Bool.true_xor, Bool.false_xor, ↓gSortSet, ↓gOrT, ↓gAndT, ↓gTryAs, ↓gTryO, ↓gRaise, ↓gCallX, ↓gMethX, ↓gMakeX, ↓gFldX, ↓x_fmtRS, ↓x_afRS, ↓x_afRI, ↓x_stO]
  refine ⟨fun i ρ S' => S' = S ∧ ∃ x3 x4 : Option D, ρ = [some (D.lst (List.map pD P)), some (D.int m), some (oD (bestOf (P.take i) m)), x3, x4], ⟨rfl, _, _, rfl⟩, ?_, ?_⟩
  · rintro i d ρ S' hd ⟨rfl, x3, x4, rfl⟩
    rw [List.getElem?_map] at hd
    obtain ⟨r, hr, rfl⟩ := Option.map_eq_some_iff.mp hd
    refine ⟨trivial, _, x_b2, ?_⟩
    have e : bestOf (P.take (i + 1)) m = stepB m (bestOf (P.take i) m) r := by rw [take_snoc hr, bestOf_snoc]
    generalize bestOf (P.take i) m = c at e ⊢
    unfold stepB at e
    cases c with
    | none =>
      simp only [e, oD, ↓x_eqSS, ↓x_neSS, ↓gKGet, ↓x_kget, ↓x_ixE, at_last, ↓x_appE, ↓x_tyE, ↓x_itE, ↓x_lenE, ↓x_nePr, ↓x_eqPr, ↓x_neE, ↓x_lenr, ↓x_lenrI, ↓gRev, ↓x_par3, ↓x_par33, ↓x_fld, ↓x_fset, ↓x_mkF, ↓x_mk, ↓x_meth, ↓x_fldO, ↓x_fsetE, ↓x_fldE, ↓x_methO, ↓x_isiCO, ↓x_isiCN, ↓x_isiCT, ↓x_isiCLi, ↓x_isiCS, ↓x_isiCI, ↓x_own, ↓x_eqT2, ↓x_neT2, ↓x_neL4, ↓x_eqLN, ↓x_neNil, ↓x_gset, ↓x_lc, ↓x_for, ↓x_it, ↓x_rn1, ↓x_rn2, ↓x_enu, ↓x_zip, ↓x_itS, ↓x_itL, ↓x_itK, ↓x_itT, ↓x_rn1I, ↓x_rn2I, ↓x_enuL, ↓x_enuK, ↓x_zipL, ↓x_ixS0, ↓x_ixL, ↓x_ixT, ↓x_ixK, x_at0, x_at1, x_at2, x_at3, x_at4, ↓x_set00, ↓x_set01, ↓x_set02, ↓x_aug1, ↓x_aug2, ↓x_aug3, ↓x_aug4, ↓x_aug5, ↓x_aug6, ↓x_aug7, ↓x_aug8, ↓x_aug9, ↓x_aug10, ↓x_aug11, ↓x_aug12, ↓x_aug13, ↓x_aug14, ↓x_aug15, ↓x_aug16, ↓x_aug17, ↓x_aug18, ↓x_aug19, ↓x_aug20, ↓x_aug21, ↓x_aug22, ↓x_aug23, Int.reduceToNat, Int.reducePow, ↓gSeq, ↓gIfS, ↓gSet, ↓gAsg, ↓x_par, ↓x_par2, ↓gRet, ↓gRetN, ↓gNext, ↓gDrop, ↓gBreak, ↓gCont, ↓gDead, ↓gCB, ↓gB2, ↓gU, ↓gC, ↓Dl.gCons, ↓Dl.gNil, ↓Dl.gTup, ↓Dl.gLst, ↓gTest, ↓gOrB, ↓gAndB, ↓gNotB, ↓gAndV, ↓gOrV, ↓gNotV, ↓gIf, ↓gIx, ↓gSl, ↓gPart, ↓gNoP, ↓gMt, ↓gCall, ↓gArgs, ↓gIsN, ↓gNotN, ↓gChain, ↓x_fmtS, ↓x_afS, ↓x_afI, ↓x_js0, ↓x_jsc, ↓gJoined, ↓gYes, ↓x_bnm, ↓x_btp, ↓x_bn, ↓x_bc, ↓x_nnN, ↓x_nnI, ↓x_nnS, ↓x_nnB, ↓x_nnT, ↓x_nnL, ↓x_nnO, ↓x_nnl, ↓x_tyS, ↓x_tyL, ↓x_i2, ↓aSub, ↓aFdiv, ↓aMod, ↓aPow, ↓aShr, ↓aLt, ↓aLe, ↓aGt, ↓aGe, ↓x_addI, ↓x_addS, ↓x_mulI, ↓x_iaddS, ↓x_iaddI, ↓x_neg, ↓x_eqI, ↓x_neI, ↓x_eqS, ↓x_neS, ↓x_eqB, ↓x_neB, ↓x_eqNI, ↓x_neNI, ↓x_lenS, ↓x_lenL_l, ↓x_lenL_k, ↓x_lenL_t, ↓x_str, ↓x_intI, ↓x_intB, ↓x_divmod, ↓x_max2, ↓x_min2, ↓x_ixS, ↓x_slS, ↓x_slT, ↓x_slL_l, ↓x_slL_k, ↓x_inS, ↓x_newT, ↓x_newF, ↓x_si, ↓x_s1, ↓x_s0, ↓x_rpart, ↓x_part, ↓x_a1, ↓x_a2, ↓x_isiStr, ↓x_isiInt, ↓x_isiIntB, ↓x_isiIntS, ↓x_isiBB, ↓x_isiBI, ↓x_isiStrI, ↓x_isiNonI, ↓x_isiNonS, ↓x_isiT, ↓x_isiL, ↓x_var0, ↓x_varS, ↓x_ex, ↓x_aug0, gat, pick, Option.some.injEq, D.bl.injEq, D.int.injEq, D.str.injEq, D.tup.injEq, D.lst.injEq, List.cons.injEq, and_true, true_and, List.set_cons_zero, List.set_cons_succ, List.length_cons, List.length_nil, List.filterMap_cons, List.filterMap_nil, List.getElem?_cons_zero, List.getElem?_cons_succ, Option.bind_some, ↓reduceIte, if_true, if_false, Bool.false_eq_true, Bool.true_eq_false, decide_eq_true_eq, beq_self_eq_true, Bool.not_true, Bool.not_false, Bool.not_eq_true', decide_eq_false_iff_not, exists_eq_left', exists_eq_left, exists_eq, ↓x_dnT, ↓x_dnF, ↓gAsgL, ↓gMMDef, ↓gDSet, ↓gSItems, ↓x_nilL, ↓x_nilE, List.isEmpty_nil, List.isEmpty_cons, Bool.true_xor, Bool.false_xor, ↓gSortSet, ↓gOrT, ↓gAndT, ↓gTryAs, ↓gTryO, ↓gRaise, ↓gCallX, ↓gMethX, ↓gMakeX, ↓gFldX, ↓x_fmtRS, ↓x_afRS, ↓x_afRI, ↓x_stO]
      by_cases h1 : r.1 ≤ m
      · rw [if_pos h1, if_pos ⟨h1, fun b z => nomatch z⟩]
        exact ⟨by decide, _, _, rfl, rfl, rfl⟩
      · rw [if_neg h1, if_neg (fun z => h1 z.1)]
        exact ⟨_, _, rfl, rfl, rfl⟩
    | some c =>
      simp only [e, oD, ↓x_eqSS, ↓x_neSS, ↓gKGet, ↓x_kget, ↓x_ixE, at_last, ↓x_appE, ↓x_tyE, ↓x_itE, ↓x_lenE, ↓x_nePr, ↓x_eqPr, ↓x_neE, ↓x_lenr, ↓x_lenrI, ↓gRev, ↓x_par3, ↓x_par33, ↓x_fld, ↓x_fset, ↓x_mkF, ↓x_mk, ↓x_meth, ↓x_fldO, ↓x_fsetE, ↓x_fldE, ↓x_methO, ↓x_isiCO, ↓x_isiCN, ↓x_isiCT, ↓x_isiCLi, ↓x_isiCS, ↓x_isiCI, ↓x_own, ↓x_eqT2, ↓x_neT2, ↓x_neL4, ↓x_eqLN, ↓x_neNil, ↓x_gset, ↓x_lc, ↓x_for, ↓x_it, ↓x_rn1, ↓x_rn2, ↓x_enu, ↓x_zip, ↓x_itS, ↓x_itL, ↓x_itK, ↓x_itT, ↓x_rn1I, ↓x_rn2I, ↓x_enuL, ↓x_enuK, ↓x_zipL, ↓x_ixS0, ↓x_ixL, ↓x_ixT, ↓x_ixK, x_at0, x_at1, x_at2, x_at3, x_at4, ↓x_set00, ↓x_set01, ↓x_set02, ↓x_aug1, ↓x_aug2, ↓x_aug3, ↓x_aug4, ↓x_aug5, ↓x_aug6, ↓x_aug7, ↓x_aug8, ↓x_aug9, ↓x_aug10, ↓x_aug11, ↓x_aug12, ↓x_aug13, ↓x_aug14, ↓x_aug15, ↓x_aug16, ↓x_aug17, ↓x_aug18, ↓x_aug19, ↓x_aug20, ↓x_aug21, ↓x_aug22, ↓x_aug23, Int.reduceToNat, Int.reducePow, ↓gSeq, ↓gIfS, ↓gSet, ↓gAsg, ↓x_par, ↓x_par2, ↓gRet, ↓gRetN, ↓gNext, ↓gDrop, ↓gBreak, ↓gCont, ↓gDead, ↓gCB, ↓gB2, ↓gU, ↓gC, ↓Dl.gCons, ↓Dl.gNil, ↓Dl.gTup, ↓Dl.gLst, ↓gTest, ↓gOrB, ↓gAndB, ↓gNotB, ↓gAndV, ↓gOrV, ↓gNotV, ↓gIf, ↓gIx, ↓gSl, ↓gPart, ↓gNoP, ↓gMt, ↓gCall, ↓gArgs, ↓gIsN, ↓gNotN, ↓gChain, ↓x_fmtS, ↓x_afS, ↓x_afI, ↓x_js0, ↓x_jsc, ↓gJoined, ↓gYes, ↓x_bnm, ↓x_btp, ↓x_bn, ↓x_bc, ↓x_nnN, ↓x_nnI, ↓x_nnS, ↓x_nnB, ↓x_nnT, ↓x_nnL, ↓x_nnO, ↓x_nnl, ↓x_tyS, ↓x_tyL, ↓x_i2, ↓aSub, ↓aFdiv, ↓aMod, ↓aPow, ↓aShr, ↓aLt, ↓aLe, ↓aGt, ↓aGe, ↓x_addI, ↓x_addS, ↓x_mulI, ↓x_iaddS, ↓x_iaddI, ↓x_neg, ↓x_eqI, ↓x_neI, ↓x_eqS, ↓x_neS, ↓x_eqB, ↓x_neB, ↓x_eqNI, ↓x_neNI, ↓x_lenS, ↓x_lenL_l, ↓x_lenL_k, ↓x_lenL_t, ↓x_str, ↓x_intI, ↓x_intB, ↓x_divmod, ↓x_max2, ↓x_min2, ↓x_ixS, ↓x_slS, ↓x_slT, ↓x_slL_l, ↓x_slL_k, ↓x_inS, ↓x_newT, ↓x_newF, ↓x_si, ↓x_s1, ↓x_s0, ↓x_rpart, ↓x_part, ↓x_a1, ↓x_a2, ↓x_isiStr, ↓x_isiInt, ↓x_isiIntB, ↓x_isiIntS, ↓x_isiBB, ↓x_isiBI, ↓x_isiStrI, ↓x_isiNonI, ↓x_isiNonS, ↓x_isiT, ↓x_isiL, ↓x_var0, ↓x_varS, ↓x_ex, ↓x_aug0, gat, pick, Option.some.injEq, D.bl.injEq, D.int.injEq, D.str.injEq, D.tup.injEq, D.lst.injEq, List.cons.injEq, and_true, true_and, List.set_cons_zero, List.set_cons_succ, List.length_cons, List.length_nil, List.filterMap_cons, List.filterMap_nil, List.getElem?_cons_zero, List.getElem?_cons_succ, Option.bind_some, ↓reduceIte, if_true, if_false, Bool.false_eq_true, Bool.true_eq_false, decide_eq_true_eq, beq_self_eq_true, Bool.not_true, Bool.not_false, Bool.not_eq_true', decide_eq_false_iff_not, exists_eq_left', exists_eq_left, exists_eq, ↓x_dnT, ↓x_dnF, ↓gAsgL, ↓gMMDef, ↓gDSet, ↓gSItems, ↓x_nilL, ↓x_nilE, List.isEmpty_nil, List.isEmpty_cons, Bool.true_xor, Bool.false_xor, ↓gSortSet, ↓gOrT, ↓gAndT, ↓gTryAs, ↓gTryO, ↓gRaise, ↓gCallX, ↓gMethX, ↓gMakeX, ↓gFldX, ↓x_fmtRS, ↓x_afRS, ↓x_afRI, ↓x_stO]
      by_cases h1 : r.1 ≤ m
      · rw [if_pos h1]
        by_cases h2 : c.1 ≤ r.1
        · rw [if_pos h2, if_pos ⟨h1, fun b z => by cases z; exact h2⟩]
          exact ⟨by decide, _, _, rfl, rfl, rfl⟩
        · rw [if_neg h2, if_neg (fun z => h2 (z.2 _ rfl))]
          exact ⟨_, _, rfl, rfl, rfl⟩
      · rw [if_neg h1, if_neg (fun z => h1 z.1)]
        exact ⟨_, _, rfl, rfl, rfl⟩
  · rintro ρ S' ⟨rfl, x3, x4, rfl⟩
    refine ⟨trivial, ?_⟩
    rw [List.length_map, List.take_length]
    unfold lastNum at h
    cases hb : bestOf P m with
    | none =>
      rw [hb] at h
      simp only [oD, ↓x_eqSS, ↓x_neSS, ↓gKGet, ↓x_kget, ↓x_ixE, at_last, ↓x_appE, ↓x_tyE, ↓x_itE, ↓x_lenE, ↓x_nePr, ↓x_eqPr, ↓x_neE, ↓x_lenr, ↓x_lenrI, ↓gRev, ↓x_par3, ↓x_par33, ↓x_fld, ↓x_fset, ↓x_mkF, ↓x_mk, ↓x_meth, ↓x_fldO, ↓x_fsetE, ↓x_fldE, ↓x_methO, ↓x_isiCO, ↓x_isiCN, ↓x_isiCT, ↓x_isiCLi, ↓x_isiCS, ↓x_isiCI, ↓x_own, ↓x_eqT2, ↓x_neT2, ↓x_neL4, ↓x_eqLN, ↓x_neNil, ↓x_gset, ↓x_lc, ↓x_for, ↓x_it, ↓x_rn1, ↓x_rn2, ↓x_enu, ↓x_zip, ↓x_itS, ↓x_itL, ↓x_itK, ↓x_itT, ↓x_rn1I, ↓x_rn2I, ↓x_enuL, ↓x_enuK, ↓x_zipL, ↓x_ixS0, ↓x_ixL, ↓x_ixT, ↓x_ixK, x_at0, x_at1, x_at2, x_at3, x_at4, ↓x_set00, ↓x_set01, ↓x_set02, ↓x_aug1, ↓x_aug2, ↓x_aug3, ↓x_aug4, ↓x_aug5, ↓x_aug6, ↓x_aug7, ↓x_aug8, ↓x_aug9, ↓x_aug10, ↓x_aug11, ↓x_aug12, ↓x_aug13, ↓x_aug14, ↓x_aug15, ↓x_aug16, ↓x_aug17, ↓x_aug18, ↓x_aug19, ↓x_aug20, ↓x_aug21, ↓x_aug22, ↓x_aug23, Int.reduceToNat, Int.reducePow, ↓gSeq, ↓gIfS, ↓gSet, ↓gAsg, ↓x_par, ↓x_par2, ↓gRet, ↓gRetN, ↓gNext, ↓gDrop, ↓gBreak, ↓gCont, ↓gDead, ↓gCB, ↓gB2, ↓gU, ↓gC, ↓Dl.gCons, ↓Dl.gNil, ↓Dl.gTup, ↓Dl.gLst, ↓gTest, ↓gOrB, ↓gAndB, ↓gNotB, ↓gAndV, ↓gOrV, ↓gNotV, ↓gIf, ↓gIx, ↓gSl, ↓gPart, ↓gNoP, ↓gMt, ↓gCall, ↓gArgs, ↓gIsN, ↓gNotN, ↓gChain, ↓x_fmtS, ↓x_afS, ↓x_afI, ↓x_js0, ↓x_jsc, ↓gJoined, ↓gYes, ↓x_bnm, ↓x_btp, ↓x_bn, ↓x_bc, ↓x_nnN, ↓x_nnI, ↓x_nnS, ↓x_nnB, ↓x_nnT, ↓x_nnL, ↓x_nnO, ↓x_nnl, ↓x_tyS, ↓x_tyL, ↓x_i2, ↓aSub, ↓aFdiv, ↓aMod, ↓aPow, ↓aShr, ↓aLt, ↓aLe, ↓aGt, ↓aGe, ↓x_addI, ↓x_addS, ↓x_mulI, ↓x_iaddS, ↓x_iaddI, ↓x_neg, ↓x_eqI, ↓x_neI, ↓x_eqS, ↓x_neS, ↓x_eqB, ↓x_neB, ↓x_eqNI, ↓x_neNI, ↓x_lenS, ↓x_lenL_l, ↓x_lenL_k, ↓x_lenL_t, ↓x_str, ↓x_intI, ↓x_intB, ↓x_divmod, ↓x_max2, ↓x_min2, ↓x_ixS, ↓x_slS, ↓x_slT, ↓x_slL_l, ↓x_slL_k, ↓x_inS, ↓x_newT, ↓x_newF, ↓x_si, ↓x_s1, ↓x_s0, ↓x_rpart, ↓x_part, ↓x_a1, ↓x_a2, ↓x_isiStr, ↓x_isiInt, ↓x_isiIntB, ↓x_isiIntS, ↓x_isiBB, ↓x_isiBI, ↓x_isiStrI, ↓x_isiNonI, ↓x_isiNonS, ↓x_isiT, ↓x_isiL, ↓x_var0, ↓x_varS, ↓x_ex, ↓x_aug0, gat, pick, Option.some.injEq, D.bl.injEq, D.int.injEq, D.str.injEq, D.tup.injEq, D.lst.injEq, List.cons.injEq, and_true, true_and, List.set_cons_zero, List.set_cons_succ, List.length_cons, List.length_nil, List.filterMap_cons, List.filterMap_nil, List.getElem?_cons_zero, List.getElem?_cons_succ, Option.bind_some, ↓reduceIte, if_true, if_false, Bool.false_eq_true, Bool.true_eq_false, decide_eq_true_eq, beq_self_eq_true, Bool.not_true, Bool.not_false, Bool.not_eq_true', decide_eq_false_iff_not, exists_eq_left', exists_eq_left, exists_eq, ↓x_dnT, ↓x_dnF, ↓gAsgL, ↓gMMDef, ↓gDSet, ↓gSItems, ↓x_nilL, ↓x_nilE, List.isEmpty_nil, List.isEmpty_cons, Bool.true_xor, Bool.false_xor, ↓gSortSet, ↓gOrT, ↓gAndT, ↓gTryAs, ↓gTryO, ↓gRaise, ↓gCallX, ↓gMethX, ↓gMakeX, ↓gFldX, ↓x_fmtRS, ↓x_afRS, ↓x_afRI, ↓x_stO]
      exact h
    | some c =>
      rw [hb] at h
      simp only [oD, ↓x_eqSS, ↓x_neSS, ↓gKGet, ↓x_kget, ↓x_ixE, at_last, ↓x_appE, ↓x_tyE, ↓x_itE, ↓x_lenE, ↓x_nePr, ↓x_eqPr, ↓x_neE, ↓x_lenr, ↓x_lenrI, ↓gRev, ↓x_par3, ↓x_par33, ↓x_fld, ↓x_fset, ↓x_mkF, ↓x_mk, ↓x_meth, ↓x_fldO, ↓x_fsetE, ↓x_fldE, ↓x_methO, ↓x_isiCO, ↓x_isiCN, ↓x_isiCT, ↓x_isiCLi, ↓x_isiCS, ↓x_isiCI, ↓x_own, ↓x_eqT2, ↓x_neT2, ↓x_neL4, ↓x_eqLN, ↓x_neNil, ↓x_gset, ↓x_lc, ↓x_for, ↓x_it, ↓x_rn1, ↓x_rn2, ↓x_enu, ↓x_zip, ↓x_itS, ↓x_itL, ↓x_itK, ↓x_itT, ↓x_rn1I, ↓x_rn2I, ↓x_enuL, ↓x_enuK, ↓x_zipL, ↓x_ixS0, ↓x_ixL, ↓x_ixT, ↓x_ixK, x_at0, x_at1, x_at2, x_at3, x_at4, ↓x_set00, ↓x_set01, ↓x_set02, ↓x_aug1, ↓x_aug2, ↓x_aug3, ↓x_aug4, ↓x_aug5, ↓x_aug6, ↓x_aug7, ↓x_aug8, ↓x_aug9, ↓x_aug10, ↓x_aug11, ↓x_aug12, ↓x_aug13, ↓x_aug14, ↓x_aug15, ↓x_aug16, ↓x_aug17, ↓x_aug18, ↓x_aug19, ↓x_aug20, ↓x_aug21, ↓x_aug22, ↓x_aug23, Int.reduceToNat, Int.reducePow, ↓gSeq, ↓gIfS, ↓gSet, ↓gAsg, ↓x_par, ↓x_par2, ↓gRet, ↓gRetN, ↓gNext, ↓gDrop, ↓gBreak, ↓gCont, ↓gDead, ↓gCB, ↓gB2, ↓gU, ↓gC, ↓Dl.gCons, ↓Dl.gNil, ↓Dl.gTup, ↓Dl.gLst, ↓gTest, ↓gOrB, ↓gAndB, ↓gNotB, ↓gAndV, ↓gOrV, ↓gNotV, ↓gIf, ↓gIx, ↓gSl, ↓gPart, ↓gNoP, ↓gMt, ↓gCall, ↓gArgs, ↓gIsN, ↓gNotN, ↓gChain, ↓x_fmtS, ↓x_afS, ↓x_afI, ↓x_js0, ↓x_jsc, ↓gJoined, ↓gYes, ↓x_bnm, ↓x_btp, ↓x_bn, ↓x_bc, ↓x_nnN, ↓x_nnI, ↓x_nnS, ↓x_nnB, ↓x_nnT, ↓x_nnL, ↓x_nnO, ↓x_nnl, ↓x_tyS, ↓x_tyL, ↓x_i2, ↓aSub, ↓aFdiv, ↓aMod, ↓aPow, ↓aShr, ↓aLt, ↓aLe, ↓aGt, ↓aGe, ↓x_addI, ↓x_addS, ↓x_mulI, ↓x_iaddS, ↓x_iaddI, ↓x_neg, ↓x_eqI, ↓x_neI, ↓x_eqS, ↓x_neS, ↓x_eqB, ↓x_neB, ↓x_eqNI, ↓x_neNI, ↓x_lenS, ↓x_lenL_l, ↓x_lenL_k, ↓x_lenL_t, ↓x_str, ↓x_intI, ↓x_intB, ↓x_divmod, ↓x_max2, ↓x_min2, ↓x_ixS, ↓x_slS, ↓x_slT, ↓x_slL_l, ↓x_slL_k, ↓x_inS, ↓x_newT, ↓x_newF, ↓x_si, ↓x_s1, ↓x_s0, ↓x_rpart, ↓x_part, ↓x_a1, ↓x_a2, ↓x_isiStr, ↓x_isiInt, ↓x_isiIntB, ↓x_isiIntS, ↓x_isiBB, ↓x_isiBI, ↓x_isiStrI, ↓x_isiNonI, ↓x_isiNonS, ↓x_isiT, ↓x_isiL, ↓x_var0, ↓x_varS, ↓x_ex, ↓x_aug0, gat, pick, Option.some.injEq, D.bl.injEq, D.int.injEq, D.str.injEq, D.tup.injEq, D.lst.injEq, List.cons.injEq, and_true, true_and, List.set_cons_zero, List.set_cons_succ, List.length_cons, List.length_nil, List.filterMap_cons, List.filterMap_nil, List.getElem?_cons_zero, List.getElem?_cons_succ, Option.bind_some, ↓reduceIte, if_true, if_false, Bool.false_eq_true, Bool.true_eq_false, decide_eq_true_eq, beq_self_eq_true, Bool.not_true, Bool.not_false, Bool.not_eq_true', decide_eq_false_iff_not, exists_eq_left', exists_eq_left, exists_eq, ↓x_dnT, ↓x_dnF, ↓gAsgL, ↓gMMDef, ↓gDSet, ↓gSItems, ↓x_nilL, ↓x_nilE, List.isEmpty_nil, List.isEmpty_cons, Bool.true_xor, Bool.false_xor, ↓gSortSet, ↓gOrT, ↓gAndT, ↓gTryAs, ↓gTryO, ↓gRaise, ↓gCallX, ↓gMethX, ↓gMakeX, ↓gFldX, ↓x_fmtRS, ↓x_afRS, ↓x_afRI, ↓x_stO]
      exact h
theorem r__law_stand : ∀ ds S q, sp__law_stand a ds S q → g__law_stand K a { nx := fun _ S' => q .non S', rt := q } (startD N__law_stand ds) S := by
  rintro ds S q ⟨o, l, h, t, n, k, R, m, ho, rfl, hR, hq⟩
  obtain ⟨i0, i1, i2, i3, i4⟩ := ix5 ho
  rw [st__law_stand]
  simp only [g__law_stand, i0, i1, i2, i3, i4, ↓x_eqSS, ↓x_neSS, ↓gKGet, ↓x_kget, ↓x_ixE, at_last, ↓x_appE, ↓x_tyE, ↓x_itE, ↓x_lenE, ↓x_nePr, ↓x_eqPr, ↓x_neE, ↓x_lenr, ↓x_lenrI, ↓gRev, ↓x_par3, ↓x_par33, ↓x_fld, ↓x_fset, ↓x_mkF, ↓x_mk, ↓x_meth, ↓x_fldO, ↓x_fsetE, ↓x_fldE, ↓x_methO, ↓x_isiCO, ↓x_isiCN, ↓x_isiCT, ↓x_isiCLi, ↓x_isiCS, ↓x_isiCI, ↓x_own, ↓x_eqT2, ↓x_neT2, ↓x_neL4, ↓x_eqLN, ↓x_neNil, ↓x_gset, ↓x_lc, ↓x_for, ↓x_it, ↓x_rn1, ↓x_rn2, ↓x_enu, ↓x_zip, ↓x_itS, ↓x_itL, ↓x_itK, ↓x_itT, ↓x_rn1I, ↓x_rn2I, ↓x_enuL, ↓x_enuK, ↓x_zipL, ↓x_ixS0, ↓x_ixL, ↓x_ixT, ↓x_ixK, x_at0, x_at1, x_at2, x_at3, x_at4, ↓x_set00, ↓x_set01, ↓x_set02, ↓x_aug1, ↓x_aug2, ↓x_aug3, ↓x_aug4, ↓x_aug5, ↓x_aug6, ↓x_aug7, ↓x_aug8, ↓x_aug9, ↓x_aug10, ↓x_aug11, ↓x_aug12, ↓x_aug13, ↓x_aug14, ↓x_aug15, ↓x_aug16, ↓x_aug17, ↓x_aug18, ↓x_aug19, ↓x_aug20, ↓x_aug21, ↓x_aug22, ↓x_aug23, Int.reduceToNat, Int.reducePow, ↓gSeq, ↓gIfS, ↓gSet, ↓gAsg, ↓x_par, ↓x_par2, ↓gRet, ↓gRetN, ↓gNext, ↓gDrop, ↓gBreak, ↓gCont, ↓gDead, ↓gCB, ↓gB2, ↓gU, ↓gC, ↓Dl.gCons, ↓Dl.gNil, ↓Dl.gTup, ↓Dl.gLst, ↓gTest, ↓gOrB, ↓gAndB, ↓gNotB, ↓gAndV, ↓gOrV, ↓gNotV, ↓gIf, ↓gIx, ↓gSl, ↓gPart, ↓gNoP, ↓gMt, ↓gCall, ↓gArgs, ↓gIsN, ↓gNotN, ↓gChain, ↓x_fmtS, ↓x_afS, ↓x_afI, ↓x_js0, ↓x_jsc, ↓gJoined, ↓gYes, ↓x_bnm, ↓x_btp, ↓x_bn, ↓x_bc, ↓x_nnN, ↓x_nnI, ↓x_nnS, ↓x_nnB, ↓x_nnT, ↓x_nnL, ↓x_nnO, ↓x_nnl, ↓x_tyS, ↓x_tyL, ↓x_i2, ↓aSub, ↓aFdiv, ↓aMod, ↓aPow, ↓aShr, ↓aLt, ↓aLe, ↓aGt, ↓aGe, ↓x_addI, ↓x_addS, ↓x_mulI, ↓x_iaddS, ↓x_iaddI, ↓x_neg, ↓x_eqI, ↓x_neI, ↓x_eqS, ↓x_neS, ↓x_eqB, ↓x_neB, ↓x_eqNI, ↓x_neNI, ↓x_lenS, ↓x_lenL_l, ↓x_lenL_k, ↓x_lenL_t, ↓x_str, ↓x_intI, ↓x_intB, ↓x_divmod, ↓x_max2, ↓x_min2, ↓x_ixS, ↓x_slS, ↓x_slT, ↓x_slL_l, ↓x_slL_k, ↓x_inS, ↓x_newT, ↓x_newF, ↓x_si, ↓x_s1, ↓x_s0, ↓x_rpart, ↓x_part, ↓x_a1, ↓x_a2, ↓x_isiStr, ↓x_isiInt, ↓x_isiIntB, ↓x_isiIntS, ↓x_isiBB, ↓x_isiBI, ↓x_isiStrI, ↓x_isiNonI, ↓x_isiNonS, ↓x_isiT, ↓x_isiL, ↓x_var0, ↓x_varS, ↓x_ex, ↓x_aug0, gat, pick, Option.some.injEq, D.bl.injEq, D.int.injEq, D.str.injEq, D.tup.injEq, D.lst.injEq, List.cons.injEq, and_true, true_and, List.set_cons_zero, List.set_cons_succ, List.length_cons, List.length_nil, List.filterMap_cons, List.filterMap_nil, List.getElem?_cons_zero, List.getElem?_cons_succ, Option.bind_some, ↓reduceIte, if_true, if_false, Bool.false_eq_true, Bool.true_eq_false, decide_eq_true_eq, beq_self_eq_true, Bool.not_true, Bool.not_false, Bool.not_eq_true', decide_eq_false_iff_not, exists_eq_left', exists_eq_left, exists_eq, ↓x_dnT, ↓x_dnF, ↓gAsgL, ↓gMMDef, ↓gDSet, ↓gSItems, ↓x_nilL, ↓x_nilE, List.isEmpty_nil, List.isEmpty_cons, Bool.true_xor, Bool.false_xor, ↓gSortSet, ↓gOrT, ↓gAndT, ↓gTryAs, ↓gTryO, ↓gRaise, ↓gCallX, ↓gMethX, ↓gMakeX, ↓gFldX, ↓x_fmtRS, ↓x_afRS, ↓x_afRI, ↓x_stO]
  have hs' : 400 < sizeLine := by decide
  refine lc_on (fun r : Rdg => if r.2.1 = true then some (pD (r.1 + l, r.2.2)) else none) trivial (by omega) (fun r hr acc R' hac hR' => ⟨_, x_bnm, ?_⟩) ?_
  · simp only [wipeD, i0, i1, i2, i3, i4, ↓x_eqSS, ↓x_neSS, ↓gKGet, ↓x_kget, ↓x_ixE, at_last, ↓x_appE, ↓x_tyE, ↓x_itE, ↓x_lenE, ↓x_nePr, ↓x_eqPr, ↓x_neE, ↓x_lenr, ↓x_lenrI, ↓gRev, ↓x_par3, ↓x_par33, ↓x_fld, ↓x_fset, ↓x_mkF, ↓x_mk, ↓x_meth, ↓x_fldO, ↓x_fsetE, ↓x_fldE, ↓x_methO, ↓x_isiCO, ↓x_isiCN, ↓x_isiCT, ↓x_isiCLi, ↓x_isiCS, ↓x_isiCI, ↓x_own, ↓x_eqT2, ↓x_neT2, ↓x_neL4, ↓x_eqLN, ↓x_neNil, ↓x_gset, ↓x_lc, ↓x_for, ↓x_it, ↓x_rn1, ↓x_rn2, ↓x_enu, ↓x_zip, ↓x_itS, ↓x_itL, ↓x_itK, ↓x_itT, ↓x_rn1I, ↓x_rn2I, ↓x_enuL, ↓x_enuK, ↓x_zipL, ↓x_ixS0, ↓x_ixL, ↓x_ixT, ↓x_ixK, x_at0, x_at1, x_at2, x_at3, x_at4, ↓x_set00, ↓x_set01, ↓x_set02, ↓x_aug1, ↓x_aug2, ↓x_aug3, ↓x_aug4, ↓x_aug5, ↓x_aug6, ↓x_aug7, ↓x_aug8, ↓x_aug9, ↓x_aug10, ↓x_aug11, ↓x_aug12, ↓x_aug13, ↓x_aug14, ↓x_aug15, ↓x_aug16, ↓x_aug17, ↓x_aug18, ↓x_aug19, ↓x_aug20, ↓x_aug21, ↓x_aug22, ↓x_aug23, Int.reduceToNat, Int.reducePow, ↓gSeq, ↓gIfS, ↓gSet, ↓gAsg, ↓x_par, ↓x_par2, ↓gRet, ↓gRetN, ↓gNext, ↓gDrop, ↓gBreak, ↓gCont, ↓gDead, ↓gCB, ↓gB2, ↓gU, ↓gC, ↓Dl.gCons, ↓Dl.gNil, ↓Dl.gTup, ↓Dl.gLst, ↓gTest, ↓gOrB, ↓gAndB, ↓gNotB, ↓gAndV, ↓gOrV, ↓gNotV, ↓gIf, ↓gIx, ↓gSl, ↓gPart, ↓gNoP, ↓gMt, ↓gCall, ↓gArgs, ↓gIsN, ↓gNotN, ↓gChain, ↓x_fmtS, ↓x_afS, ↓x_afI, ↓x_js0, ↓x_jsc, ↓gJoined, ↓gYes, ↓x_bnm, ↓x_btp, ↓x_bn, ↓x_bc, ↓x_nnN, ↓x_nnI, ↓x_nnS, ↓x_nnB, ↓x_nnT, ↓x_nnL, ↓x_nnO, ↓x_nnl, ↓x_tyS, ↓x_tyL, ↓x_i2, ↓aSub, ↓aFdiv, ↓aMod, ↓aPow, ↓aShr, ↓aLt, ↓aLe, ↓aGt, ↓aGe, ↓x_addI, ↓x_addS, ↓x_mulI, ↓x_iaddS, ↓x_iaddI, ↓x_neg, ↓x_eqI, ↓x_neI, ↓x_eqS, ↓x_neS, ↓x_eqB, ↓x_neB, ↓x_eqNI, ↓x_neNI, ↓x_lenS, ↓x_lenL_l, ↓x_lenL_k, ↓x_lenL_t, ↓x_str, ↓x_intI, ↓x_intB, ↓x_divmod, ↓x_max2, ↓x_min2, ↓x_ixS, ↓x_slS, ↓x_slT, ↓x_slL_l, ↓x_slL_k, ↓x_inS, ↓x_newT, ↓x_newF, ↓x_si, ↓x_s1, ↓x_s0, ↓x_rpart, ↓x_part, ↓x_a1, ↓x_a2, ↓x_isiStr, ↓x_isiInt, ↓x_isiIntB, ↓x_isiIntS, ↓x_isiBB, ↓x_isiBI, ↓x_isiStrI, ↓x_isiNonI, ↓x_isiNonS, ↓x_isiT, ↓x_isiL, ↓x_var0, ↓x_varS, ↓x_ex, ↓x_aug0, gat, pick, Option.some.injEq, D.bl.injEq, D.int.injEq, D.str.injEq, D.tup.injEq, D.lst.injEq, List.cons.injEq, and_true, true_and, List.set_cons_zero, List.set_cons_succ, List.length_cons, List.length_nil, List.filterMap_cons, List.filterMap_nil, List.getElem?_cons_zero, List.getElem?_cons_succ, Option.bind_some, ↓reduceIte, if_true, if_false, Bool.false_eq_true, Bool.true_eq_false, decide_eq_true_eq, beq_self_eq_true, Bool.not_true, Bool.not_false, Bool.not_eq_true', decide_eq_false_iff_not, exists_eq_left', exists_eq_left, exists_eq, ↓x_dnT, ↓x_dnF, ↓gAsgL, ↓gMMDef, ↓gDSet, ↓gSItems, ↓x_nilL, ↓x_nilE, List.isEmpty_nil, List.isEmpty_cons, Bool.true_xor, Bool.false_xor, ↓gSortSet, ↓gOrT, ↓gAndT, ↓gTryAs, ↓gTryO, ↓gRaise, ↓gCallX, ↓gMethX, ↓gMakeX, ↓gFldX, ↓x_fmtRS, ↓x_afRS, ↓x_afRI, ↓x_stO]
    by_cases hb : r.2.1 = true
    · rw [if_pos (kW_t.mpr hb)]
      rw [if_pos hb] at hR'
      exact ⟨by decide, hac, hR'⟩
    · rw [if_neg (fun z => hb (kW_t.mp z))]
      rw [if_neg hb] at hR'
      simpa using hR'
  rw [x_newT, rows_fm]
  refine ⟨_, _, rfl, Nat.le_trans rows_len hR, ?_⟩
  refine lc_on (fun r : Rdg => if r.2.1 = false then some (pD (r.1 + 0, r.2.2)) else none) trivial (by omega) (fun r hr acc R' hac hR' => ⟨_, x_bnm, ?_⟩) ?_
  · simp only [wipeD, i0, i1, i2, i3, i4, ↓x_eqSS, ↓x_neSS, ↓gKGet, ↓x_kget, ↓x_ixE, at_last, ↓x_appE, ↓x_tyE, ↓x_itE, ↓x_lenE, ↓x_nePr, ↓x_eqPr, ↓x_neE, ↓x_lenr, ↓x_lenrI, ↓gRev, ↓x_par3, ↓x_par33, ↓x_fld, ↓x_fset, ↓x_mkF, ↓x_mk, ↓x_meth, ↓x_fldO, ↓x_fsetE, ↓x_fldE, ↓x_methO, ↓x_isiCO, ↓x_isiCN, ↓x_isiCT, ↓x_isiCLi, ↓x_isiCS, ↓x_isiCI, ↓x_own, ↓x_eqT2, ↓x_neT2, ↓x_neL4, ↓x_eqLN, ↓x_neNil, ↓x_gset, ↓x_lc, ↓x_for, ↓x_it, ↓x_rn1, ↓x_rn2, ↓x_enu, ↓x_zip, ↓x_itS, ↓x_itL, ↓x_itK, ↓x_itT, ↓x_rn1I, ↓x_rn2I, ↓x_enuL, ↓x_enuK, ↓x_zipL, ↓x_ixS0, ↓x_ixL, ↓x_ixT, ↓x_ixK, x_at0, x_at1, x_at2, x_at3, x_at4, ↓x_set00, ↓x_set01, ↓x_set02, ↓x_aug1, ↓x_aug2, ↓x_aug3, ↓x_aug4, ↓x_aug5, ↓x_aug6, ↓x_aug7, ↓x_aug8, ↓x_aug9, ↓x_aug10, ↓x_aug11, ↓x_aug12, ↓x_aug13, ↓x_aug14, ↓x_aug15, ↓x_aug16, ↓x_aug17, ↓x_aug18, ↓x_aug19, ↓x_aug20, ↓x_aug21, ↓x_aug22, ↓x_aug23, Int.reduceToNat, Int.reducePow, ↓gSeq, ↓gIfS, ↓gSet, ↓gAsg, ↓x_par, ↓x_par2, ↓gRet, ↓gRetN, ↓gNext, ↓gDrop, ↓gBreak, ↓gCont, ↓gDead, ↓gCB, ↓gB2, ↓gU, ↓gC, ↓Dl.gCons, ↓Dl.gNil, ↓Dl.gTup, ↓Dl.gLst, ↓gTest, ↓gOrB, ↓gAndB, ↓gNotB, ↓gAndV, ↓gOrV, ↓gNotV, ↓gIf, ↓gIx, ↓gSl, ↓gPart, ↓gNoP, ↓gMt, ↓gCall, ↓gArgs, ↓gIsN, ↓gNotN, ↓gChain, ↓x_fmtS, ↓x_afS, ↓x_afI, ↓x_js0, ↓x_jsc, ↓gJoined, ↓gYes, ↓x_bnm, ↓x_btp, ↓x_bn, ↓x_bc, ↓x_nnN, ↓x_nnI, ↓x_nnS, ↓x_nnB, ↓x_nnT, ↓x_nnL, ↓x_nnO, ↓x_nnl, ↓x_tyS, ↓x_tyL, ↓x_i2, ↓aSub, ↓aFdiv, ↓aMod, ↓aPow, ↓aShr, ↓aLt, ↓aLe, ↓aGt, ↓aGe, ↓x_addI, ↓x_addS, ↓x_mulI, ↓x_iaddS, ↓x_iaddI, ↓x_neg, ↓x_eqI, ↓x_neI, ↓x_eqS, ↓x_neS, ↓x_eqB, ↓x_neB, ↓x_eqNI, ↓x_neNI, ↓x_lenS, ↓x_lenL_l, ↓x_lenL_k, ↓x_lenL_t, ↓x_str, ↓x_intI, ↓x_intB, ↓x_divmod, ↓x_max2, ↓x_min2, ↓x_ixS, ↓x_slS, ↓x_slT, ↓x_slL_l, ↓x_slL_k, ↓x_inS, ↓x_newT, ↓x_newF, ↓x_si, ↓x_s1, ↓x_s0, ↓x_rpart, ↓x_part, ↓x_a1, ↓x_a2, ↓x_isiStr, ↓x_isiInt, ↓x_isiIntB, ↓x_isiIntS, ↓x_isiBB, ↓x_isiBI, ↓x_isiStrI, ↓x_isiNonI, ↓x_isiNonS, ↓x_isiT, ↓x_isiL, ↓x_var0, ↓x_varS, ↓x_ex, ↓x_aug0, gat, pick, Option.some.injEq, D.bl.injEq, D.int.injEq, D.str.injEq, D.tup.injEq, D.lst.injEq, List.cons.injEq, and_true, true_and, List.set_cons_zero, List.set_cons_succ, List.length_cons, List.length_nil, List.filterMap_cons, List.filterMap_nil, List.getElem?_cons_zero, List.getElem?_cons_succ, Option.bind_some, ↓reduceIte, if_true, if_false, Bool.false_eq_true, Bool.true_eq_false, decide_eq_true_eq, beq_self_eq_true, Bool.not_true, Bool.not_false, Bool.not_eq_true', decide_eq_false_iff_not, exists_eq_left', exists_eq_left, exists_eq, ↓x_dnT, ↓x_dnF, ↓gAsgL, ↓gMMDef, ↓gDSet, ↓gSItems, ↓x_nilL, ↓x_nilE, List.isEmpty_nil, List.isEmpty_cons, Bool.true_xor, Bool.false_xor, ↓gSortSet, ↓gOrT, ↓gAndT, ↓gTryAs, ↓gTryO, ↓gRaise, ↓gCallX, ↓gMethX, ↓gMakeX, ↓gFldX, ↓x_fmtRS, ↓x_afRS, ↓x_afRI, ↓x_stO]
    by_cases hb : r.2.1 = false
    · rw [if_pos (kW_f.mpr hb)]
      rw [if_pos hb, Int.add_zero] at hR'
      exact ⟨by decide, hac, hR'⟩
    · rw [if_neg (fun z => hb (kW_f.mp z))]
      rw [if_neg hb] at hR'
      simpa using hR'
  rw [x_newT, rows_fm]
  refine ⟨_, _, rfl, Nat.le_trans rows_len hR, ?_⟩
  simp only [i0, i1, i2, i3, i4, ↓x_eqSS, ↓x_neSS, ↓gKGet, ↓x_kget, ↓x_ixE, at_last, ↓x_appE, ↓x_tyE, ↓x_itE, ↓x_lenE, ↓x_nePr, ↓x_eqPr, ↓x_neE, ↓x_lenr, ↓x_lenrI, ↓gRev, ↓x_par3, ↓x_par33, ↓x_fld, ↓x_fset, ↓x_mkF, ↓x_mk, ↓x_meth, ↓x_fldO, ↓x_fsetE, ↓x_fldE, ↓x_methO, ↓x_isiCO, ↓x_isiCN, ↓x_isiCT, ↓x_isiCLi, ↓x_isiCS, ↓x_isiCI, ↓x_own, ↓x_eqT2, ↓x_neT2, ↓x_neL4, ↓x_eqLN, ↓x_neNil, ↓x_gset, ↓x_lc, ↓x_for, ↓x_it, ↓x_rn1, ↓x_rn2, ↓x_enu, ↓x_zip, ↓x_itS, ↓x_itL, ↓x_itK, ↓x_itT, ↓x_rn1I, ↓x_rn2I, ↓x_enuL, ↓x_enuK, ↓x_zipL, ↓x_ixS0, ↓x_ixL, ↓x_ixT, ↓x_ixK, x_at0, x_at1, x_at2, x_at3, x_at4, ↓x_set00, ↓x_set01, ↓x_set02, ↓x_aug1, ↓x_aug2, ↓x_aug3, ↓x_aug4, ↓x_aug5, ↓x_aug6, ↓x_aug7, ↓x_aug8, ↓x_aug9, ↓x_aug10, ↓x_aug11, ↓x_aug12, ↓x_aug13, ↓x_aug14, ↓x_aug15, ↓x_aug16, ↓x_aug17, ↓x_aug18, ↓x_aug19, ↓x_aug20, ↓x_aug21, ↓x_aug22, ↓x_aug23, Int.reduceToNat, Int.reducePow, ↓gSeq, ↓gIfS, ↓gSet, ↓gAsg, ↓x_par, ↓x_par2, ↓gRet, ↓gRetN, ↓gNext, ↓gDrop, ↓gBreak, ↓gCont, ↓gDead, ↓gCB, ↓gB2, ↓gU, ↓gC, ↓Dl.gCons, ↓Dl.gNil, ↓Dl.gTup, ↓Dl.gLst, ↓gTest, ↓gOrB, ↓gAndB, ↓gNotB, ↓gAndV, ↓gOrV, ↓gNotV, ↓gIf, ↓gIx, ↓gSl, ↓gPart, ↓gNoP, ↓gMt, ↓gCall, ↓gArgs, ↓gIsN, ↓gNotN, ↓gChain, ↓x_fmtS, ↓x_afS, ↓x_afI, ↓x_js0, ↓x_jsc, ↓gJoined, ↓gYes, ↓x_bnm, ↓x_btp, ↓x_bn, ↓x_bc, ↓x_nnN, ↓x_nnI, ↓x_nnS, ↓x_nnB, ↓x_nnT, ↓x_nnL, ↓x_nnO, ↓x_nnl, ↓x_tyS, ↓x_tyL, ↓x_i2, ↓aSub, ↓aFdiv, ↓aMod, ↓aPow, ↓aShr, ↓aLt, ↓aLe, ↓aGt, ↓aGe, ↓x_addI, ↓x_addS, ↓x_mulI, ↓x_iaddS, ↓x_iaddI, ↓x_neg, ↓x_eqI, ↓x_neI, ↓x_eqS, ↓x_neS, ↓x_eqB, ↓x_neB, ↓x_eqNI, ↓x_neNI, ↓x_lenS, ↓x_lenL_l, ↓x_lenL_k, ↓x_lenL_t, ↓x_str, ↓x_intI, ↓x_intB, ↓x_divmod, ↓x_max2, ↓x_min2, ↓x_ixS, ↓x_slS, ↓x_slT, ↓x_slL_l, ↓x_slL_k, ↓x_inS, ↓x_newT, ↓x_newF, ↓x_si, ↓x_s1, ↓x_s0, ↓x_rpart, ↓x_part, ↓x_a1, ↓x_a2, ↓x_isiStr, ↓x_isiInt, ↓x_isiIntB, ↓x_isiIntS, ↓x_isiBB, ↓x_isiBI, ↓x_isiStrI, ↓x_isiNonI, ↓x_isiNonS, ↓x_isiT, ↓x_isiL, ↓x_var0, ↓x_varS, ↓x_ex, ↓x_aug0, gat, pick, Option.some.injEq, D.bl.injEq, D.int.injEq, D.str.injEq, D.tup.injEq, D.lst.injEq, List.cons.injEq, and_true, true_and, List.set_cons_zero, List.set_cons_succ, List.length_cons, List.length_nil, List.filterMap_cons, List.filterMap_nil, List.getElem?_cons_zero, List.getElem?_cons_succ, Option.bind_some, ↓reduceIte, if_true, if_false, Bool.false_eq_true, Bool.true_eq_false, decide_eq_true_eq, beq_self_eq_true, Bool.not_true, Bool.not_false, Bool.not_eq_true', decide_eq_false_iff_not, exists_eq_left', exists_eq_left, exists_eq, ↓x_dnT, ↓x_dnF, ↓gAsgL, ↓gMMDef, ↓gDSet, ↓gSItems, ↓x_nilL, ↓x_nilE, List.isEmpty_nil, List.isEmpty_cons, Bool.true_xor, Bool.false_xor, ↓gSortSet, ↓gOrT, ↓gAndT, ↓gTryAs, ↓gTryO, ↓gRaise, ↓gCallX, ↓gMethX, ↓gMakeX, ↓gFldX, ↓x_fmtRS, ↓x_afRS, ↓x_afRI, ↓x_stO]
  exact stand_out hq
theorem two_ints {L : List Int} (h : L.length = 2) (hp : ∀ x ∈ L, 0 < x) : ∃ x y, L = [x, y] ∧ 0 < x ∧ 0 < y := by
  match L, h with
  | [x, y], _ => exact ⟨x, y, rfl, hp x (by simp), hp y (by simp)⟩
theorem two_sorted {L : List Int} (h : L.length = 2) (hp : ∀ x ∈ L, 0 < x) : ∃ x y, sortI L = [x, y] ∧ 0 < x ∧ 0 < y :=
  two_ints (by rw [sortI, List.length_mergeSort, h]) fun x hx => hp x ((List.mergeSort_perm L _).mem_iff.mp hx)
theorem lc_two {o : Option MO} {R0 : Sto} {B x y z : Int} {o1 o2 o3 o4 : Option D} {q : D → Sto → Prop} (hx : 0 < x ∧ x < 5000) (hy : 0 < y ∧ y < 5000) (hz : 0 < z ∧ z < 5000) (ht : Mt.Tp B o) (hb : B + 4 ≤ 10 ^ 12)
    (hq : ∀ (L : List Int) o', L.length = 2 → (∀ x ∈ L, 0 < x) → Mt.Tp (B + 4) o' → q (.lst (L.map D.int)) (o' :: R0)) : aLc true (Tgt.nm 4) gYes (gB2 (aAdd true) (gC (D.int 1)) (gCall 2 0 [Src.p 0, Src.p 1] [] (sp__law_draw a) (gArgs (Dl.gCons (gVar 0) (Dl.gCons (gCall 2 0 [Src.p 0, Src.p 1] [] (sp__law_of a)
      (gArgs (Dl.gCons (gVar 0) (Dl.gCons (Dl.gLst true (Dl.gCons (gC (D.int x)) (Dl.gCons (gC (D.int y)) (Dl.gCons (gC (D.int z)) Dl.gNil)))) Dl.gNil)) Dl.gNil)) Dl.gNil)) Dl.gNil))) [4] [some (.loc 0), o1, o2, o3, o4] (rngD 0 2) (fun _ => True) (o :: R0) q := by
  have hs' : 100 ≤ sizeLine := by decide
  have t15 := Mt.ten15
  refine ⟨fun i acc S' => ∃ (L : List Int) (o' : Option MO), L.length = i ∧ (∀ x ∈ L, 0 < x) ∧ i ≤ 2 ∧ acc = L.map D.int ∧ S' = o' :: R0 ∧ Mt.Tp (B + 2 * i) o', ⟨[], o, rfl, fun _ h => (nomatch h), by decide, rfl, rfl, ht.mono (by omega)⟩, ?_, ?_⟩
  · rintro i d acc S' hd ⟨L, o', hL, hp, hi, rfl, rfl, ht'⟩
    have hi2 : i < 2 := by
      have := (List.getElem?_eq_some_iff.mp hd).1
      rwa [x_rngL] at this
    refine ⟨trivial, _, x_bnm, ?_⟩
    simp only [wipeD, ↓x_eqSS, ↓x_neSS, ↓gKGet, ↓x_kget, ↓x_ixE, at_last, ↓x_appE, ↓x_tyE, ↓x_itE, ↓x_lenE, ↓x_nePr, ↓x_eqPr, ↓x_neE, ↓x_lenr, ↓x_lenrI, ↓gRev, ↓x_par3, ↓x_par33, ↓x_fld, ↓x_fset, ↓x_mkF, ↓x_mk, ↓x_meth, ↓x_fldO, ↓x_fsetE, ↓x_fldE, ↓x_methO, ↓x_isiCO, ↓x_isiCN, ↓x_isiCT, ↓x_isiCLi, ↓x_isiCS, ↓x_isiCI, ↓x_own, ↓x_eqT2, ↓x_neT2, ↓x_neL4, ↓x_eqLN, ↓x_neNil, ↓x_gset, ↓x_lc, ↓x_for, ↓x_it, ↓x_rn1, ↓x_rn2, ↓x_enu, ↓x_zip, ↓x_itS, ↓x_itL, ↓x_itK, ↓x_itT, ↓x_rn1I, ↓x_rn2I, ↓x_enuL, ↓x_enuK, ↓x_zipL, ↓x_ixS0, ↓x_ixL, ↓x_ixT, ↓x_ixK, x_at0, x_at1, x_at2, x_at3, x_at4, ↓x_set00, ↓x_set01, ↓x_set02, ↓x_aug1, ↓x_aug2, ↓x_aug3, ↓x_aug4, ↓x_aug5, ↓x_aug6, ↓x_aug7, ↓x_aug8, ↓x_aug9, ↓x_aug10, ↓x_aug11, ↓x_aug12, ↓x_aug13, ↓x_aug14, ↓x_aug15, ↓x_aug16, ↓x_aug17, ↓x_aug18, ↓x_aug19, ↓x_aug20, ↓x_aug21, ↓x_aug22, ↓x_aug23, Int.reduceToNat, Int.reducePow, ↓gSeq, ↓gIfS, ↓gSet, ↓gAsg, ↓x_par, ↓x_par2, ↓gRet, ↓gRetN, ↓gNext, ↓gDrop, ↓gBreak, ↓gCont, ↓gDead, ↓gCB, ↓gB2, ↓gU, ↓gC, ↓Dl.gCons, ↓Dl.gNil, ↓Dl.gTup, ↓Dl.gLst, ↓gTest, ↓gOrB, ↓gAndB, ↓gNotB, ↓gAndV, ↓gOrV, ↓gNotV, ↓gIf, ↓gIx, ↓gSl, ↓gPart, ↓gNoP, ↓gMt, ↓gCall, ↓gArgs, ↓gIsN, ↓gNotN, ↓gChain, ↓x_fmtS, ↓x_afS, ↓x_afI, ↓x_js0, ↓x_jsc, ↓gJoined, ↓gYes, ↓x_bnm, ↓x_btp, ↓x_bn, ↓x_bc, ↓x_nnN, ↓x_nnI, ↓x_nnS, ↓x_nnB, ↓x_nnT, ↓x_nnL, ↓x_nnO, ↓x_nnl, ↓x_tyS, ↓x_tyL, ↓x_i2, ↓aSub, ↓aFdiv, ↓aMod, ↓aPow, ↓aShr, ↓aLt, ↓aLe, ↓aGt, ↓aGe, ↓x_addI, ↓x_addS, ↓x_mulI, ↓x_iaddS, ↓x_iaddI, ↓x_neg, ↓x_eqI, ↓x_neI, ↓x_eqS, ↓x_neS, ↓x_eqB, ↓x_neB, ↓x_eqNI, ↓x_neNI, ↓x_lenS, ↓x_lenL_l, ↓x_lenL_k, ↓x_lenL_t, ↓x_str, ↓x_intI, ↓x_intB, ↓x_divmod, ↓x_max2, ↓x_min2, ↓x_ixS, ↓x_slS, ↓x_slT, ↓x_slL_l, ↓x_slL_k, ↓x_inS, ↓x_newT, ↓x_newF, ↓x_si, ↓x_s1, ↓x_s0, ↓x_rpart, ↓x_part, ↓x_a1, ↓x_a2, ↓x_isiStr, ↓x_isiInt, ↓x_isiIntB, ↓x_isiIntS, ↓x_isiBB, ↓x_isiBI, ↓x_isiStrI, ↓x_isiNonI, ↓x_isiNonS, ↓x_isiT, ↓x_isiL, ↓x_var0, ↓x_varS, ↓x_ex, ↓x_aug0, gat, pick, Option.some.injEq, D.bl.injEq, D.int.injEq, D.str.injEq, D.tup.injEq, D.lst.injEq, List.cons.injEq, and_true, true_and, List.set_cons_zero, List.set_cons_succ, List.length_cons, List.length_nil, List.filterMap_cons, List.filterMap_nil, List.getElem?_cons_zero, List.getElem?_cons_succ, Option.bind_some, ↓reduceIte, if_true, if_false, Bool.false_eq_true, Bool.true_eq_false, decide_eq_true_eq, beq_self_eq_true, Bool.not_true, Bool.not_false, Bool.not_eq_true', decide_eq_false_iff_not, exists_eq_left', exists_eq_left, exists_eq, ↓x_dnT, ↓x_dnF, ↓gAsgL, ↓gMMDef, ↓gDSet, ↓gSItems, ↓x_nilL, ↓x_nilE, List.isEmpty_nil, List.isEmpty_cons, Bool.true_xor, Bool.false_xor, ↓gSortSet, ↓gOrT, ↓gAndT, ↓gTryAs, ↓gTryO, ↓gRaise, ↓gCallX, ↓gMethX, ↓gMakeX, ↓gFldX, ↓x_fmtRS, ↓x_afRS, ↓x_afRI, ↓x_stO]
    refine ⟨by decide, Mt.pickL_in (by simp) (by simp) ht' (by omega) fun e o2 he ht2 => ?_⟩
    obtain ⟨v, rfl, hv1, hv2⟩ : ∃ v : Int, e = .int v ∧ 0 < v ∧ v < 5000 := by
      simp only [List.mem_cons, List.not_mem_nil, or_false] at he
      rcases he with rfl | rfl | rfl
      · exact ⟨_, rfl, hx⟩
      · exact ⟨_, rfl, hy⟩
      · exact ⟨_, rfl, hz⟩
    refine Mt.draw_in hv1 (by omega) ht2 (by omega) fun u o3 hu1 hu2 ht3 => ?_
    (try simp only [↓x_eqSS, ↓x_neSS, ↓gKGet, ↓x_kget, ↓x_ixE, at_last, ↓x_appE, ↓x_tyE, ↓x_itE, ↓x_lenE, ↓x_nePr, ↓x_eqPr, ↓x_neE, ↓x_lenr, ↓x_lenrI, ↓gRev, ↓x_par3, ↓x_par33, ↓x_fld, ↓x_fset, ↓x_mkF, ↓x_mk, ↓x_meth, ↓x_fldO, ↓x_fsetE, ↓x_fldE, ↓x_methO, ↓x_isiCO, ↓x_isiCN, ↓x_isiCT, ↓x_isiCLi, ↓x_isiCS, ↓x_isiCI, ↓x_own, ↓x_eqT2, ↓x_neT2, ↓x_neL4, ↓x_eqLN, ↓x_neNil, ↓x_gset, ↓x_lc, ↓x_for, ↓x_it, ↓x_rn1, ↓x_rn2, ↓x_enu, ↓x_zip, ↓x_itS, ↓x_itL, ↓x_itK, ↓x_itT, ↓x_rn1I, ↓x_rn2I, ↓x_enuL, ↓x_enuK, ↓x_zipL, ↓x_ixS0, ↓x_ixL, ↓x_ixT, ↓x_ixK, x_at0, x_at1, x_at2, x_at3, x_at4, ↓x_set00, ↓x_set01, ↓x_set02, ↓x_aug1, ↓x_aug2, ↓x_aug3, ↓x_aug4, ↓x_aug5, ↓x_aug6, ↓x_aug7, ↓x_aug8, ↓x_aug9, ↓x_aug10, ↓x_aug11, ↓x_aug12, ↓x_aug13, ↓x_aug14, ↓x_aug15, ↓x_aug16, ↓x_aug17, ↓x_aug18, ↓x_aug19, ↓x_aug20, ↓x_aug21, ↓x_aug22, ↓x_aug23, Int.reduceToNat, Int.reducePow, ↓gSeq, ↓gIfS, ↓gSet, ↓gAsg, ↓x_par, ↓x_par2, ↓gRet, ↓gRetN, ↓gNext, ↓gDrop, ↓gBreak, ↓gCont, ↓gDead, ↓gCB, ↓gB2, ↓gU, ↓gC, ↓Dl.gCons, ↓Dl.gNil, ↓Dl.gTup, ↓Dl.gLst, ↓gTest, ↓gOrB, ↓gAndB, ↓gNotB, ↓gAndV, ↓gOrV, ↓gNotV, ↓gIf, ↓gIx, ↓gSl, ↓gPart, ↓gNoP, ↓gMt, ↓gCall, ↓gArgs, ↓gIsN, ↓gNotN, ↓gChain, ↓x_fmtS, ↓x_afS, ↓x_afI, ↓x_js0, ↓x_jsc, ↓gJoined, ↓gYes, ↓x_bnm, ↓x_btp, ↓x_bn, ↓x_bc, ↓x_nnN, ↓x_nnI, ↓x_nnS, ↓x_nnB, ↓x_nnT, ↓x_nnL, ↓x_nnO, ↓x_nnl, ↓x_tyS, ↓x_tyL, ↓x_i2, ↓aSub, ↓aFdiv, ↓aMod, ↓aPow, ↓aShr, ↓aLt, ↓aLe, ↓aGt, ↓aGe, ↓x_addI, ↓x_addS, ↓x_mulI, ↓x_iaddS, ↓x_iaddI, ↓x_neg, ↓x_eqI, ↓x_neI, ↓x_eqS, ↓x_neS, ↓x_eqB, ↓x_neB, ↓x_eqNI, ↓x_neNI, ↓x_lenS, ↓x_lenL_l, ↓x_lenL_k, ↓x_lenL_t, ↓x_str, ↓x_intI, ↓x_intB, ↓x_divmod, ↓x_max2, ↓x_min2, ↓x_ixS, ↓x_slS, ↓x_slT, ↓x_slL_l, ↓x_slL_k, ↓x_inS, ↓x_newT, ↓x_newF, ↓x_si, ↓x_s1, ↓x_s0, ↓x_rpart, ↓x_part, ↓x_a1, ↓x_a2, ↓x_isiStr, ↓x_isiInt, ↓x_isiIntB, ↓x_isiIntS, ↓x_isiBB, ↓x_isiBI, ↓x_isiStrI, ↓x_isiNonI, ↓x_isiNonS, ↓x_isiT, ↓x_isiL, ↓x_var0, ↓x_varS, ↓x_ex, ↓x_aug0, gat, pick, Option.some.injEq, D.bl.injEq, D.int.injEq, D.str.injEq, D.tup.injEq, D.lst.injEq, List.cons.injEq, and_true, true_and, List.set_cons_zero, List.set_cons_succ, List.length_cons, List.length_nil, List.filterMap_cons, List.filterMap_nil, List.getElem?_cons_zero, List.getElem?_cons_succ, Option.bind_some, ↓reduceIte, if_true, if_false, Bool.false_eq_true, Bool.true_eq_false, decide_eq_true_eq, beq_self_eq_true, Bool.not_true, Bool.not_false, Bool.not_eq_true', decide_eq_false_iff_not, exists_eq_left', exists_eq_left, exists_eq, ↓x_dnT, ↓x_dnF, ↓gAsgL, ↓gMMDef, ↓gDSet, ↓gSItems, ↓x_nilL, ↓x_nilE, List.isEmpty_nil, List.isEmpty_cons, Bool.true_xor, Bool.false_xor, ↓gSortSet, ↓gOrT, ↓gAndT, ↓gTryAs, ↓gTryO, ↓gRaise, ↓gCallX, ↓gMethX, ↓gMakeX, ↓gFldX, ↓x_fmtRS, ↓x_afRS, ↓x_afRI, ↓x_stO])
    refine ⟨by rw [List.length_map]; omega, L ++ [1 + u], o3, by simp [hL], fun x hx => ?_, by omega, by simp, rfl, ht3.mono (by omega)⟩
    rcases List.mem_append.mp hx with z | z
    · exact hp x z
    · rw [List.mem_singleton.mp z]; omega
  · rintro acc S' ⟨L, o', hL, hp, hi, rfl, rfl, ht'⟩
    rw [x_rngL] at hL
    refine ⟨trivial, ?_⟩
    rw [x_newT]
    exact hq L o' hL hp (ht'.mono (by rw [x_rngL]; omega))
theorem r__law_bounds : ∀ ds S q, sp__law_bounds a ds S q → g__law_bounds K a { nx := fun _ S' => q .non S', rt := q } (startD N__law_bounds ds) S := by
  rintro ds S q ⟨o, R0, B, rfl, rfl, ht, hb, hq⟩
  rw [st__law_bounds]
  simp only [g__law_bounds, ↓x_eqSS, ↓x_neSS, ↓gKGet, ↓x_kget, ↓x_ixE, at_last, ↓x_appE, ↓x_tyE, ↓x_itE, ↓x_lenE, ↓x_nePr, ↓x_eqPr, ↓x_neE, ↓x_lenr, ↓x_lenrI, ↓gRev, ↓x_par3, ↓x_par33, ↓x_fld, ↓x_fset, ↓x_mkF, ↓x_mk, ↓x_meth, ↓x_fldO, ↓x_fsetE, ↓x_fldE, ↓x_methO, ↓x_isiCO, ↓x_isiCN, ↓x_isiCT, ↓x_isiCLi, ↓x_isiCS, ↓x_isiCI, ↓x_own, ↓x_eqT2, ↓x_neT2, ↓x_neL4, ↓x_eqLN, ↓x_neNil, ↓x_gset, ↓x_lc, ↓x_for, ↓x_it, ↓x_rn1, ↓x_rn2, ↓x_enu, ↓x_zip, ↓x_itS, ↓x_itL, ↓x_itK, ↓x_itT, ↓x_rn1I, ↓x_rn2I, ↓x_enuL, ↓x_enuK, ↓x_zipL, ↓x_ixS0, ↓x_ixL, ↓x_ixT, ↓x_ixK, x_at0, x_at1, x_at2, x_at3, x_at4, ↓x_set00, ↓x_set01, ↓x_set02, ↓x_aug1, ↓x_aug2, ↓x_aug3, ↓x_aug4, ↓x_aug5, ↓x_aug6, ↓x_aug7, ↓x_aug8, ↓x_aug9, ↓x_aug10, ↓x_aug11, ↓x_aug12, ↓x_aug13, ↓x_aug14, ↓x_aug15, ↓x_aug16, ↓x_aug17, ↓x_aug18, ↓x_aug19, ↓x_aug20, ↓x_aug21, ↓x_aug22, ↓x_aug23, Int.reduceToNat, Int.reducePow, ↓gSeq, ↓gIfS, ↓gSet, ↓gAsg, ↓x_par, ↓x_par2, ↓gRet, ↓gRetN, ↓gNext, ↓gDrop, ↓gBreak, ↓gCont, ↓gDead, ↓gCB, ↓gB2, ↓gU, ↓gC, ↓Dl.gCons, ↓Dl.gNil, ↓Dl.gTup, ↓Dl.gLst, ↓gTest, ↓gOrB, ↓gAndB, ↓gNotB, ↓gAndV, ↓gOrV, ↓gNotV, ↓gIf, ↓gIx, ↓gSl, ↓gPart, ↓gNoP, ↓gMt, ↓gCall, ↓gArgs, ↓gIsN, ↓gNotN, ↓gChain, ↓x_fmtS, ↓x_afS, ↓x_afI, ↓x_js0, ↓x_jsc, ↓gJoined, ↓gYes, ↓x_bnm, ↓x_btp, ↓x_bn, ↓x_bc, ↓x_nnN, ↓x_nnI, ↓x_nnS, ↓x_nnB, ↓x_nnT, ↓x_nnL, ↓x_nnO, ↓x_nnl, ↓x_tyS, ↓x_tyL, ↓x_i2, ↓aSub, ↓aFdiv, ↓aMod, ↓aPow, ↓aShr, ↓aLt, ↓aLe, ↓aGt, ↓aGe, ↓x_addI, ↓x_addS, ↓x_mulI, ↓x_iaddS, ↓x_iaddI, ↓x_neg, ↓x_eqI, ↓x_neI, ↓x_eqS, ↓x_neS, ↓x_eqB, ↓x_neB, ↓x_eqNI, ↓x_neNI, ↓x_lenS, ↓x_lenL_l, ↓x_lenL_k, ↓x_lenL_t, ↓x_str, ↓x_intI, ↓x_intB, ↓x_divmod, ↓x_max2, ↓x_min2, ↓x_ixS, ↓x_slS, ↓x_slT, ↓x_slL_l, ↓x_slL_k, ↓x_inS, ↓x_newT, ↓x_newF, ↓x_si, ↓x_s1, ↓x_s0, ↓x_rpart, ↓x_part, ↓x_a1, ↓x_a2, ↓x_isiStr, ↓x_isiInt, ↓x_isiIntB, ↓x_isiIntS, ↓x_isiBB, ↓x_isiBI, ↓x_isiStrI, ↓x_isiNonI, ↓x_isiNonS, ↓x_isiT, ↓x_isiL, ↓x_var0, ↓x_varS, ↓x_ex, ↓x_aug0, gat, pick, Option.some.injEq, D.bl.injEq, D.int.injEq, D.str.injEq, D.tup.injEq, D.lst.injEq, List.cons.injEq, and_true, true_and, List.set_cons_zero, List.set_cons_succ, List.length_cons, List.length_nil, List.filterMap_cons, List.filterMap_nil, List.getElem?_cons_zero, List.getElem?_cons_succ, Option.bind_some, ↓reduceIte, if_true, if_false, Bool.false_eq_true, Bool.true_eq_false, decide_eq_true_eq, beq_self_eq_true, Bool.not_true, Bool.not_false, Bool.not_eq_true', decide_eq_false_iff_not, exists_eq_left', exists_eq_left, exists_eq, ↓x_dnT, ↓x_dnF, ↓gAsgL, ↓gMMDef, ↓gDSet, ↓gSItems, ↓x_nilL, ↓x_nilE, List.isEmpty_nil, List.isEmpty_cons, Bool.true_xor, Bool.false_xor, ↓gSortSet, ↓gOrT, ↓gAndT, ↓gTryAs, ↓gTryO, ↓gRaise, ↓gCallX, ↓gMethX, ↓gMakeX, ↓gFldX, ↓x_fmtRS, ↓x_afRS, ↓x_afRI, ↓x_stO]
  have t15 := Mt.ten15
  refine Mt.draw_in (by decide) (by decide) ht (by omega) fun u o1 hu1 hu2 ht1 => ?_
  refine ⟨by decide, Mt.pickL_in (by simp) (by simp) ht1 (by omega) fun e o2 he ht2 => ?_⟩
  obtain ⟨v, rfl, hv0, hv1⟩ : ∃ v : Int, e = .int v ∧ 0 ≤ v ∧ v ≤ 1440 := by
    simp only [List.mem_cons, List.not_mem_nil, or_false] at he
    rcases he with rfl | rfl | rfl | rfl <;> exact ⟨_, rfl, by omega, by omega⟩
  refine ⟨by decide, by decide, lc_two (by decide) (by decide) (by decide) ht2 (by omega) fun L o3 hL hLp ht3 => ?_⟩
  refine x_sortedI ?_
  rw [x_newT]
  obtain ⟨w1, w2, hw, hw1, hw2⟩ := two_sorted hL hLp
  rw [hw]
  refine ⟨by decide, by decide, lc_two (by decide) (by decide) (by decide) ht3 (by omega) fun L o4 hL hLp ht4 => ?_⟩
  refine x_sortedI ?_
  rw [x_newT]
  obtain ⟨i1, i2, hi, hi1, hi2⟩ := two_sorted hL hLp
  rw [hi]
  refine ⟨by decide, x_addLL.mpr ⟨(by decide : 3 ≤ sizeLine), ?_⟩⟩
  rw [x_newT]
  refine x_addLL.mpr ⟨(by decide : 5 ≤ sizeLine), ?_⟩
  rw [x_newT]
  exact hq _ o4 ⟨_, _, _, _, _, ⟨hv0, hv1⟩, rfl⟩ (ht4.mono (by omega))
theorem under_cons {n : Nat} {o : Option MO} {S : Sto} : Sto.under n (o :: S) = ((match o with | none => true | some x => x.under n) && Sto.under n S) := by
  unfold Sto.under
  rw [List.all_cons]
  all_goals (cases o <;> rfl)
theorem und_int {n : Nat} : ∀ {P : List Int}, D.unders n (P.map D.int) = true
  | [] => rfl
  | p :: P => by
    rw [List.map_cons, D.unders, und_int (P := P)]
    rfl
theorem tape_under {o o' : Option MO} {R0 : Sto} {B : Int} (h : Mt.Tp B o') (hs : Sto.under (R0.length + 1) (o :: R0) = true) : Sto.under (o' :: R0).length (o' :: R0) = true := by
  obtain ⟨ns, t, r, rfl, _⟩ := h
  rw [under_cons, Bool.and_eq_true] at hs
  rw [under_cons, Bool.and_eq_true]
  refine ⟨?_, hs.2⟩
  show D.unders _ [.lst (ns.map D.int), .int t, .int r] = true
  simp [D.unders, D.under, und_int]
theorem rf__law_readings : ∀ ds S q, D.unders S.length ds = true → Sto.under S.length S = true → sp__law_readings a ds S q → g__law_readings K a { nx := fun _ S' => fin S.length q .non S', rt := fin S.length q } (startD N__law_readings ds) S := by
  rintro ds S q hu hs ⟨many, h1, h2, o, R0, B, rfl, rfl, ht, hb, hq⟩
  rw [st__law_readings]
  simp only [g__law_readings, ↓x_eqSS, ↓x_neSS, ↓gKGet, ↓x_kget, ↓x_ixE, at_last, ↓x_appE, ↓x_tyE, ↓x_itE, ↓x_lenE, ↓x_nePr, ↓x_eqPr, ↓x_neE, ↓x_lenr, ↓x_lenrI, ↓gRev, ↓x_par3, ↓x_par33, ↓x_fld, ↓x_fset, ↓x_mkF, ↓x_mk, ↓x_meth, ↓x_fldO, ↓x_fsetE, ↓x_fldE, ↓x_methO, ↓x_isiCO, ↓x_isiCN, ↓x_isiCT, ↓x_isiCLi, ↓x_isiCS, ↓x_isiCI, ↓x_own, ↓x_eqT2, ↓x_neT2, ↓x_neL4, ↓x_eqLN, ↓x_neNil, ↓x_gset, ↓x_lc, ↓x_for, ↓x_it, ↓x_rn1, ↓x_rn2, ↓x_enu, ↓x_zip, ↓x_itS, ↓x_itL, ↓x_itK, ↓x_itT, ↓x_rn1I, ↓x_rn2I, ↓x_enuL, ↓x_enuK, ↓x_zipL, ↓x_ixS0, ↓x_ixL, ↓x_ixT, ↓x_ixK, x_at0, x_at1, x_at2, x_at3, x_at4, ↓x_set00, ↓x_set01, ↓x_set02, ↓x_aug1, ↓x_aug2, ↓x_aug3, ↓x_aug4, ↓x_aug5, ↓x_aug6, ↓x_aug7, ↓x_aug8, ↓x_aug9, ↓x_aug10, ↓x_aug11, ↓x_aug12, ↓x_aug13, ↓x_aug14, ↓x_aug15, ↓x_aug16, ↓x_aug17, ↓x_aug18, ↓x_aug19, ↓x_aug20, ↓x_aug21, ↓x_aug22, ↓x_aug23, Int.reduceToNat, Int.reducePow, ↓gSeq, ↓gIfS, ↓gSet, ↓gAsg, ↓x_par, ↓x_par2, ↓gRet, ↓gRetN, ↓gNext, ↓gDrop, ↓gBreak, ↓gCont, ↓gDead, ↓gCB, ↓gB2, ↓gU, ↓gC, ↓Dl.gCons, ↓Dl.gNil, ↓Dl.gTup, ↓Dl.gLst, ↓gTest, ↓gOrB, ↓gAndB, ↓gNotB, ↓gAndV, ↓gOrV, ↓gNotV, ↓gIf, ↓gIx, ↓gSl, ↓gPart, ↓gNoP, ↓gMt, ↓gCall, ↓gArgs, ↓gIsN, ↓gNotN, ↓gChain, ↓x_fmtS, ↓x_afS, ↓x_afI, ↓x_js0, ↓x_jsc, ↓gJoined, ↓gYes, ↓x_bnm, ↓x_btp, ↓x_bn, ↓x_bc, ↓x_nnN, ↓x_nnI, ↓x_nnS, ↓x_nnB, ↓x_nnT, ↓x_nnL, ↓x_nnO, ↓x_nnl, ↓x_tyS, ↓x_tyL, ↓x_i2, ↓aSub, ↓aFdiv, ↓aMod, ↓aPow, ↓aShr, ↓aLt, ↓aLe, ↓aGt, ↓aGe, ↓x_addI, ↓x_addS, ↓x_mulI, ↓x_iaddS, ↓x_iaddI, ↓x_neg, ↓x_eqI, ↓x_neI, ↓x_eqS, ↓x_neS, ↓x_eqB, ↓x_neB, ↓x_eqNI, ↓x_neNI, ↓x_lenS, ↓x_lenL_l, ↓x_lenL_k, ↓x_lenL_t, ↓x_str, ↓x_intI, ↓x_intB, ↓x_divmod, ↓x_max2, ↓x_min2, ↓x_ixS, ↓x_slS, ↓x_slT, ↓x_slL_l, ↓x_slL_k, ↓x_inS, ↓x_newT, ↓x_newF, ↓x_si, ↓x_s1, ↓x_s0, ↓x_rpart, ↓x_part, ↓x_a1, ↓x_a2, ↓x_isiStr, ↓x_isiInt, ↓x_isiIntB, ↓x_isiIntS, ↓x_isiBB, ↓x_isiBI, ↓x_isiStrI, ↓x_isiNonI, ↓x_isiNonS, ↓x_isiT, ↓x_isiL, ↓x_var0, ↓x_varS, ↓x_ex, ↓x_aug0, gat, pick, Option.some.injEq, D.bl.injEq, D.int.injEq, D.str.injEq, D.tup.injEq, D.lst.injEq, List.cons.injEq, and_true, true_and, List.set_cons_zero, List.set_cons_succ, List.length_cons, List.length_nil, List.filterMap_cons, List.filterMap_nil, List.getElem?_cons_zero, List.getElem?_cons_succ, Option.bind_some, ↓reduceIte, if_true, if_false, Bool.false_eq_true, Bool.true_eq_false, decide_eq_true_eq, beq_self_eq_true, Bool.not_true, Bool.not_false, Bool.not_eq_true', decide_eq_false_iff_not, exists_eq_left', exists_eq_left, exists_eq, ↓x_dnT, ↓x_dnF, ↓gAsgL, ↓gMMDef, ↓gDSet, ↓gSItems, ↓x_nilL, ↓x_nilE, List.isEmpty_nil, List.isEmpty_cons, Bool.true_xor, Bool.false_xor, ↓gSortSet, ↓gOrT, ↓gAndT, ↓gTryAs, ↓gTryO, ↓gRaise, ↓gCallX, ↓gMethX, ↓gMakeX, ↓gFldX, ↓x_fmtRS, ↓x_afRS, ↓x_afRI, ↓x_stO]
  have hs' : 1000 ≤ sizeLine := by decide
  have t15 := Mt.ten15
  refine Mt.draw_in (by decide) (by decide) ht (by omega) fun u1 o1 hu1 hu2 ht1 => ⟨⟨by decide, by decide, by decide⟩, Mt.draw_in (by decide) (by decide) ht1 (by omega) fun u2 o2 hu3 hu4 ht2 => ⟨by decide, Mt.pickL_in (by simp) (by simp) ht2 (by omega) fun e o3 he ht3 => ?_⟩⟩
  obtain ⟨base', rfl, hb0, hb1⟩ : ∃ v : Int, e = .int v ∧ 0 ≤ v ∧ v ≤ 1000000 := by
    simp only [List.mem_cons, List.not_mem_nil, or_false] at he
    rcases he with rfl | rfl | rfl <;> exact ⟨_, rfl, by omega, by omega⟩
  refine ⟨by decide, ?_⟩
  rw [List.cons_append]
  refine Mt.draw_in (R0 := R0 ++ [some (.lst [])]) (by omega) (by omega) ht3 (by omega) fun c o4 hc1 hc2 ht4 => ?_
  simp only [↓x_eqSS, ↓x_neSS, ↓gKGet, ↓x_kget, ↓x_ixE, at_last, ↓x_appE, ↓x_tyE, ↓x_itE, ↓x_lenE, ↓x_nePr, ↓x_eqPr, ↓x_neE, ↓x_lenr, ↓x_lenrI, ↓gRev, ↓x_par3, ↓x_par33, ↓x_fld, ↓x_fset, ↓x_mkF, ↓x_mk, ↓x_meth, ↓x_fldO, ↓x_fsetE, ↓x_fldE, ↓x_methO, ↓x_isiCO, ↓x_isiCN, ↓x_isiCT, ↓x_isiCLi, ↓x_isiCS, ↓x_isiCI, ↓x_own, ↓x_eqT2, ↓x_neT2, ↓x_neL4, ↓x_eqLN, ↓x_neNil, ↓x_gset, ↓x_lc, ↓x_for, ↓x_it, ↓x_rn1, ↓x_rn2, ↓x_enu, ↓x_zip, ↓x_itS, ↓x_itL, ↓x_itK, ↓x_itT, ↓x_rn1I, ↓x_rn2I, ↓x_enuL, ↓x_enuK, ↓x_zipL, ↓x_ixS0, ↓x_ixL, ↓x_ixT, ↓x_ixK, x_at0, x_at1, x_at2, x_at3, x_at4, ↓x_set00, ↓x_set01, ↓x_set02, ↓x_aug1, ↓x_aug2, ↓x_aug3, ↓x_aug4, ↓x_aug5, ↓x_aug6, ↓x_aug7, ↓x_aug8, ↓x_aug9, ↓x_aug10, ↓x_aug11, ↓x_aug12, ↓x_aug13, ↓x_aug14, ↓x_aug15, ↓x_aug16, ↓x_aug17, ↓x_aug18, ↓x_aug19, ↓x_aug20, ↓x_aug21, ↓x_aug22, ↓x_aug23, Int.reduceToNat, Int.reducePow, ↓gSeq, ↓gIfS, ↓gSet, ↓gAsg, ↓x_par, ↓x_par2, ↓gRet, ↓gRetN, ↓gNext, ↓gDrop, ↓gBreak, ↓gCont, ↓gDead, ↓gCB, ↓gB2, ↓gU, ↓gC, ↓Dl.gCons, ↓Dl.gNil, ↓Dl.gTup, ↓Dl.gLst, ↓gTest, ↓gOrB, ↓gAndB, ↓gNotB, ↓gAndV, ↓gOrV, ↓gNotV, ↓gIf, ↓gIx, ↓gSl, ↓gPart, ↓gNoP, ↓gMt, ↓gCall, ↓gArgs, ↓gIsN, ↓gNotN, ↓gChain, ↓x_fmtS, ↓x_afS, ↓x_afI, ↓x_js0, ↓x_jsc, ↓gJoined, ↓gYes, ↓x_bnm, ↓x_btp, ↓x_bn, ↓x_bc, ↓x_nnN, ↓x_nnI, ↓x_nnS, ↓x_nnB, ↓x_nnT, ↓x_nnL, ↓x_nnO, ↓x_nnl, ↓x_tyS, ↓x_tyL, ↓x_i2, ↓aSub, ↓aFdiv, ↓aMod, ↓aPow, ↓aShr, ↓aLt, ↓aLe, ↓aGt, ↓aGe, ↓x_addI, ↓x_addS, ↓x_mulI, ↓x_iaddS, ↓x_iaddI, ↓x_neg, ↓x_eqI, ↓x_neI, ↓x_eqS, ↓x_neS, ↓x_eqB, ↓x_neB, ↓x_eqNI, ↓x_neNI, ↓x_lenS, ↓x_lenL_l, ↓x_lenL_k, ↓x_lenL_t, ↓x_str, ↓x_intI, ↓x_intB, ↓x_divmod, ↓x_max2, ↓x_min2, ↓x_ixS, ↓x_slS, ↓x_slT, ↓x_slL_l, ↓x_slL_k, ↓x_inS, ↓x_newT, ↓x_newF, ↓x_si, ↓x_s1, ↓x_s0, ↓x_rpart, ↓x_part, ↓x_a1, ↓x_a2, ↓x_isiStr, ↓x_isiInt, ↓x_isiIntB, ↓x_isiIntS, ↓x_isiBB, ↓x_isiBI, ↓x_isiStrI, ↓x_isiNonI, ↓x_isiNonS, ↓x_isiT, ↓x_isiL, ↓x_var0, ↓x_varS, ↓x_ex, ↓x_aug0, gat, pick, Option.some.injEq, D.bl.injEq, D.int.injEq, D.str.injEq, D.tup.injEq, D.lst.injEq, List.cons.injEq, and_true, true_and, List.set_cons_zero, List.set_cons_succ, List.length_cons, List.length_nil, List.filterMap_cons, List.filterMap_nil, List.getElem?_cons_zero, List.getElem?_cons_succ, Option.bind_some, ↓reduceIte, if_true, if_false, Bool.false_eq_true, Bool.true_eq_false, decide_eq_true_eq, beq_self_eq_true, Bool.not_true, Bool.not_false, Bool.not_eq_true', decide_eq_false_iff_not, exists_eq_left', exists_eq_left, exists_eq, ↓x_dnT, ↓x_dnF, ↓gAsgL, ↓gMMDef, ↓gDSet, ↓gSItems, ↓x_nilL, ↓x_nilE, List.isEmpty_nil, List.isEmpty_cons, Bool.true_xor, Bool.false_xor, ↓gSortSet, ↓gOrT, ↓gAndT, ↓gTryAs, ↓gTryO, ↓gRaise, ↓gCallX, ↓gMethX, ↓gMakeX, ↓gFldX, ↓x_fmtRS, ↓x_afRS, ↓x_afRI, ↓x_stO]
  refine ⟨by omega, by omega, ?_⟩
  have hgetS : ∀ (o2 : Option MO) (ds : List D), (o2 :: (R0 ++ [some (MO.lst ds)]))[R0.length + 1]? = some (some (MO.lst ds)) := fun o2 ds => by simp
  refine ⟨fun i ρ S' => ∃ (R : List Rdg) (o' : Option MO) (y4 y5 y6 : Option D), R.length = i ∧ (∀ r ∈ R, 0 ≤ r.1 ∧ r.1 ≤ 1010000) ∧ Mt.Tp (B + 4 + 12 * i) o' ∧ S' = o' :: (R0 ++ [some (.lst (R.map rD))]) ∧
    ρ = [some (.loc 0), some (.int many), some (.int base'), some (.loc (R0.length + 1)), y4, y5, y6], ⟨[], o4, _, _, _, rfl, fun _ h => (nomatch h), ht4.mono (by omega), rfl, rfl⟩, ?_, ?_⟩
  · rintro i d ρ S' hd ⟨R, o', y4, y5, y6, hRl, hRb, ht', rfl, rfl⟩
    have hi : i < c.toNat := by
      have := (List.getElem?_eq_some_iff.mp hd).1
      rwa [x_rngL] at this
    refine ⟨trivial, _, x_bnm, ?_⟩
    simp only [↓x_eqSS, ↓x_neSS, ↓gKGet, ↓x_kget, ↓x_ixE, at_last, ↓x_appE, ↓x_tyE, ↓x_itE, ↓x_lenE, ↓x_nePr, ↓x_eqPr, ↓x_neE, ↓x_lenr, ↓x_lenrI, ↓gRev, ↓x_par3, ↓x_par33, ↓x_fld, ↓x_fset, ↓x_mkF, ↓x_mk, ↓x_meth, ↓x_fldO, ↓x_fsetE, ↓x_fldE, ↓x_methO, ↓x_isiCO, ↓x_isiCN, ↓x_isiCT, ↓x_isiCLi, ↓x_isiCS, ↓x_isiCI, ↓x_own, ↓x_eqT2, ↓x_neT2, ↓x_neL4, ↓x_eqLN, ↓x_neNil, ↓x_gset, ↓x_lc, ↓x_for, ↓x_it, ↓x_rn1, ↓x_rn2, ↓x_enu, ↓x_zip, ↓x_itS, ↓x_itL, ↓x_itK, ↓x_itT, ↓x_rn1I, ↓x_rn2I, ↓x_enuL, ↓x_enuK, ↓x_zipL, ↓x_ixS0, ↓x_ixL, ↓x_ixT, ↓x_ixK, x_at0, x_at1, x_at2, x_at3, x_at4, ↓x_set00, ↓x_set01, ↓x_set02, ↓x_aug1, ↓x_aug2, ↓x_aug3, ↓x_aug4, ↓x_aug5, ↓x_aug6, ↓x_aug7, ↓x_aug8, ↓x_aug9, ↓x_aug10, ↓x_aug11, ↓x_aug12, ↓x_aug13, ↓x_aug14, ↓x_aug15, ↓x_aug16, ↓x_aug17, ↓x_aug18, ↓x_aug19, ↓x_aug20, ↓x_aug21, ↓x_aug22, ↓x_aug23, Int.reduceToNat, Int.reducePow, ↓gSeq, ↓gIfS, ↓gSet, ↓gAsg, ↓x_par, ↓x_par2, ↓gRet, ↓gRetN, ↓gNext, ↓gDrop, ↓gBreak, ↓gCont, ↓gDead, ↓gCB, ↓gB2, ↓gU, ↓gC, ↓Dl.gCons, ↓Dl.gNil, ↓Dl.gTup, ↓Dl.gLst, ↓gTest, ↓gOrB, ↓gAndB, ↓gNotB, ↓gAndV, ↓gOrV, ↓gNotV, ↓gIf, ↓gIx, ↓gSl, ↓gPart, ↓gNoP, ↓gMt, ↓gCall, ↓gArgs, ↓gIsN, ↓gNotN, ↓gChain, ↓x_fmtS, ↓x_afS, ↓x_afI, ↓x_js0, ↓x_jsc, ↓gJoined, ↓gYes, ↓x_bnm, ↓x_btp, ↓x_bn, ↓x_bc, ↓x_nnN, ↓x_nnI, ↓x_nnS, ↓x_nnB, ↓x_nnT, ↓x_nnL, ↓x_nnO, ↓x_nnl, ↓x_tyS, ↓x_tyL, ↓x_i2, ↓aSub, ↓aFdiv, ↓aMod, ↓aPow, ↓aShr, ↓aLt, ↓aLe, ↓aGt, ↓aGe, ↓x_addI, ↓x_addS, ↓x_mulI, ↓x_iaddS, ↓x_iaddI, ↓x_neg, ↓x_eqI, ↓x_neI, ↓x_eqS, ↓x_neS, ↓x_eqB, ↓x_neB, ↓x_eqNI, ↓x_neNI, ↓x_lenS, ↓x_lenL_l, ↓x_lenL_k, ↓x_lenL_t, ↓x_str, ↓x_intI, ↓x_intB, ↓x_divmod, ↓x_max2, ↓x_min2, ↓x_ixS, ↓x_slS, ↓x_slT, ↓x_slL_l, ↓x_slL_k, ↓x_inS, ↓x_newT, ↓x_newF, ↓x_si, ↓x_s1, ↓x_s0, ↓x_rpart, ↓x_part, ↓x_a1, ↓x_a2, ↓x_isiStr, ↓x_isiInt, ↓x_isiIntB, ↓x_isiIntS, ↓x_isiBB, ↓x_isiBI, ↓x_isiStrI, ↓x_isiNonI, ↓x_isiNonS, ↓x_isiT, ↓x_isiL, ↓x_var0, ↓x_varS, ↓x_ex, ↓x_aug0, gat, pick, Option.some.injEq, D.bl.injEq, D.int.injEq, D.str.injEq, D.tup.injEq, D.lst.injEq, List.cons.injEq, and_true, true_and, List.set_cons_zero, List.set_cons_succ, List.length_cons, List.length_nil, List.filterMap_cons, List.filterMap_nil, List.getElem?_cons_zero, List.getElem?_cons_succ, Option.bind_some, ↓reduceIte, if_true, if_false, Bool.false_eq_true, Bool.true_eq_false, decide_eq_true_eq, beq_self_eq_true, Bool.not_true, Bool.not_false, Bool.not_eq_true', decide_eq_false_iff_not, exists_eq_left', exists_eq_left, exists_eq, ↓x_dnT, ↓x_dnF, ↓gAsgL, ↓gMMDef, ↓gDSet, ↓gSItems, ↓x_nilL, ↓x_nilE, List.isEmpty_nil, List.isEmpty_cons, Bool.true_xor, Bool.false_xor, ↓gSortSet, ↓gOrT, ↓gAndT, ↓gTryAs, ↓gTryO, ↓gRaise, ↓gCallX, ↓gMethX, ↓gMakeX, ↓gFldX, ↓x_fmtRS, ↓x_afRS, ↓x_afRI, ↓x_stO]
    refine Mt.draw_in (by decide) (by decide) ht' (by omega) fun a1 p1 ha1 ha1' hp1 => Mt.draw_in (by decide) (by decide) hp1 (by omega) fun a2 p2 ha2 ha2' hp2 => Mt.draw_in (by decide) (by decide) hp2 (by omega) fun a3 p3 ha3 ha3' hp3 => ⟨by decide, Mt.pickL_in (by simp) (by simp) hp3 (by omega) fun e p4 he hp4 => ?_⟩
    obtain ⟨v, rfl, hv0, hv1⟩ : ∃ v : Int, e = .int v ∧ 0 ≤ v ∧ v ≤ 3000 := by
      simp only [List.mem_cons, List.not_mem_nil, or_false] at he
      rcases he with rfl | rfl | rfl | rfl <;> exact ⟨_, rfl, by omega, by omega⟩
    have tail : ∀ (f : Int) (o2 : Option MO), 0 ≤ f → f ≤ 1010000 → Mt.Tp (B + 4 + 12 * (i : Int) + 6) o2 → sp__law_draw a [D.loc 0, D.int 30] (o2 :: (R0 ++ [some (MO.lst (List.map Mg.rD R))])) fun a_1 S1 =>
              sp__law_draw a [D.loc 0, D.int 600] S1 fun a_2 S1 =>
                sp__law_draw a [D.loc 0, D.int 4096] S1 fun a_3 S1 =>
                  0 + 1 + 1 + 1 + 1 + 1 ≤ sizeLine ∧
                    sp__law_of a [D.loc 0, D.lst [D.int 0, D.int 4095, a_1, a_2, a_3]] S1 fun d_2 S1 =>
                      isTy "list" S1 (D.loc (R0.length + 1)) = true ∧
                        0 + 1 + 1 ≤ sizeLine ∧
                          sp__law_draw a [D.loc 0, D.int 2] S1 fun b S2 =>
                            aIx (D.lst [D.str (Str.ofString "water"), D.str (Str.ofString "ice")]) b S2 fun a S1 =>
                              0 + 1 + 1 + 1 ≤ sizeLine ∧
                                aAppend (D.loc (R0.length + 1)) [D.tup [D.int f, a, d_2]] S1 fun x S1 =>
                                  ∃ R o' y4 y5 y6,
                                    R.length = i + 1 ∧ (∀ r ∈ R, 0 ≤ r.1 ∧ r.1 ≤ 1010000) ∧
                                      Mt.Tp (B + 4 + 12 * ((i + 1 : Nat) : Int)) o' ∧
                                        S1 = o' :: (R0 ++ [some (MO.lst (List.map Mg.rD R))]) ∧
                                          some d = y4 ∧ some (D.int f) = y5 ∧ some d_2 = y6 := by
      intro f o2 hf0 hf1 ht2
      refine Mt.draw_in (by decide) (by decide) ht2 (by omega) fun b1 r1 _ _ hr1 => Mt.draw_in (by decide) (by decide) hr1 (by omega) fun b2 r2 _ _ hr2 => Mt.draw_in (by decide) (by decide) hr2 (by omega) fun b3 r3 _ _ hr3 => ⟨by decide, Mt.pickL_in (by simp) (by simp) hr3 (by omega) fun e r4 he hr4 => ?_⟩
      obtain ⟨n, rfl⟩ : ∃ v : Int, e = .int v := by
        simp only [List.mem_cons, List.not_mem_nil, or_false] at he
        rcases he with rfl | rfl | rfl | rfl | rfl <;> exact ⟨_, rfl⟩
      refine ⟨x_tyO (hgetS _ _), by decide, Mt.draw_in (by decide) (by decide) hr4 (by omega) fun kd r5 hk1 hk2 hr5 => ?_⟩
      obtain ⟨b, hb'⟩ : ∃ b : Bool, atI [D.str (Str.ofString "water"), D.str (Str.ofString "ice")] kd = some (.str (kW b)) := by
        have : kd = 0 ∨ kd = 1 := by omega
        rcases this with rfl | rfl
        · exact ⟨true, x_at0⟩
        · exact ⟨false, x_at1⟩
      refine (x_ix rfl hb').mpr ⟨by decide, (x_app (hgetS _ _)).mpr ⟨by rw [List.length_map]; omega, R ++ [(f, b, n)], r5, _, _, _, by rw [List.length_append, hRl]; rfl, fun r hr => ?_, hr5.mono (by omega), by simp, rfl, rfl, rfl⟩⟩
      rcases List.mem_append.mp hr with z | z
      · exact hRb r z
      · rw [List.mem_singleton.mp z]; exact ⟨hf0, hf1⟩
    (try simp only [↓x_eqSS, ↓x_neSS, ↓gKGet, ↓x_kget, ↓x_ixE, at_last, ↓x_appE, ↓x_tyE, ↓x_itE, ↓x_lenE, ↓x_nePr, ↓x_eqPr, ↓x_neE, ↓x_lenr, ↓x_lenrI, ↓gRev, ↓x_par3, ↓x_par33, ↓x_fld, ↓x_fset, ↓x_mkF, ↓x_mk, ↓x_meth, ↓x_fldO, ↓x_fsetE, ↓x_fldE, ↓x_methO, ↓x_isiCO, ↓x_isiCN, ↓x_isiCT, ↓x_isiCLi, ↓x_isiCS, ↓x_isiCI, ↓x_own, ↓x_eqT2, ↓x_neT2, ↓x_neL4, ↓x_eqLN, ↓x_neNil, ↓x_gset, ↓x_lc, ↓x_for, ↓x_it, ↓x_rn1, ↓x_rn2, ↓x_enu, ↓x_zip, ↓x_itS, ↓x_itL, ↓x_itK, ↓x_itT, ↓x_rn1I, ↓x_rn2I, ↓x_enuL, ↓x_enuK, ↓x_zipL, ↓x_ixS0, ↓x_ixL, ↓x_ixT, ↓x_ixK, x_at0, x_at1, x_at2, x_at3, x_at4, ↓x_set00, ↓x_set01, ↓x_set02, ↓x_aug1, ↓x_aug2, ↓x_aug3, ↓x_aug4, ↓x_aug5, ↓x_aug6, ↓x_aug7, ↓x_aug8, ↓x_aug9, ↓x_aug10, ↓x_aug11, ↓x_aug12, ↓x_aug13, ↓x_aug14, ↓x_aug15, ↓x_aug16, ↓x_aug17, ↓x_aug18, ↓x_aug19, ↓x_aug20, ↓x_aug21, ↓x_aug22, ↓x_aug23, Int.reduceToNat, Int.reducePow, ↓gSeq, ↓gIfS, ↓gSet, ↓gAsg, ↓x_par, ↓x_par2, ↓gRet, ↓gRetN, ↓gNext, ↓gDrop, ↓gBreak, ↓gCont, ↓gDead, ↓gCB, ↓gB2, ↓gU, ↓gC, ↓Dl.gCons, ↓Dl.gNil, ↓Dl.gTup, ↓Dl.gLst, ↓gTest, ↓gOrB, ↓gAndB, ↓gNotB, ↓gAndV, ↓gOrV, ↓gNotV, ↓gIf, ↓gIx, ↓gSl, ↓gPart, ↓gNoP, ↓gMt, ↓gCall, ↓gArgs, ↓gIsN, ↓gNotN, ↓gChain, ↓x_fmtS, ↓x_afS, ↓x_afI, ↓x_js0, ↓x_jsc, ↓gJoined, ↓gYes, ↓x_bnm, ↓x_btp, ↓x_bn, ↓x_bc, ↓x_nnN, ↓x_nnI, ↓x_nnS, ↓x_nnB, ↓x_nnT, ↓x_nnL, ↓x_nnO, ↓x_nnl, ↓x_tyS, ↓x_tyL, ↓x_i2, ↓aSub, ↓aFdiv, ↓aMod, ↓aPow, ↓aShr, ↓aLt, ↓aLe, ↓aGt, ↓aGe, ↓x_addI, ↓x_addS, ↓x_mulI, ↓x_iaddS, ↓x_iaddI, ↓x_neg, ↓x_eqI, ↓x_neI, ↓x_eqS, ↓x_neS, ↓x_eqB, ↓x_neB, ↓x_eqNI, ↓x_neNI, ↓x_lenS, ↓x_lenL_l, ↓x_lenL_k, ↓x_lenL_t, ↓x_str, ↓x_intI, ↓x_intB, ↓x_divmod, ↓x_max2, ↓x_min2, ↓x_ixS, ↓x_slS, ↓x_slT, ↓x_slL_l, ↓x_slL_k, ↓x_inS, ↓x_newT, ↓x_newF, ↓x_si, ↓x_s1, ↓x_s0, ↓x_rpart, ↓x_part, ↓x_a1, ↓x_a2, ↓x_isiStr, ↓x_isiInt, ↓x_isiIntB, ↓x_isiIntS, ↓x_isiBB, ↓x_isiBI, ↓x_isiStrI, ↓x_isiNonI, ↓x_isiNonS, ↓x_isiT, ↓x_isiL, ↓x_var0, ↓x_varS, ↓x_ex, ↓x_aug0, gat, pick, Option.some.injEq, D.bl.injEq, D.int.injEq, D.str.injEq, D.tup.injEq, D.lst.injEq, List.cons.injEq, and_true, true_and, List.set_cons_zero, List.set_cons_succ, List.length_cons, List.length_nil, List.filterMap_cons, List.filterMap_nil, List.getElem?_cons_zero, List.getElem?_cons_succ, Option.bind_some, ↓reduceIte, if_true, if_false, Bool.false_eq_true, Bool.true_eq_false, decide_eq_true_eq, beq_self_eq_true, Bool.not_true, Bool.not_false, Bool.not_eq_true', decide_eq_false_iff_not, exists_eq_left', exists_eq_left, exists_eq, ↓x_dnT, ↓x_dnF, ↓gAsgL, ↓gMMDef, ↓gDSet, ↓gSItems, ↓x_nilL, ↓x_nilE, List.isEmpty_nil, List.isEmpty_cons, Bool.true_xor, Bool.false_xor, ↓gSortSet, ↓gOrT, ↓gAndT, ↓gTryAs, ↓gTryO, ↓gRaise, ↓gCallX, ↓gMethX, ↓gMakeX, ↓gFldX, ↓x_fmtRS, ↓x_afRS, ↓x_afRI, ↓x_stO])
    refine ⟨by decide, (x_ne (p := .list (R.map rY)) (p' := .list (([] : List Rdg).map rY)) (by simp [toPyS, toPys_rd]) (by simp [toPyS, toPy, toPys])).mpr ⟨sh_rd _, sh_rd _, _, rfl, ?_⟩⟩
    simp only [PyData.eqv, List.map_nil, eqv_rd0, ← decide_not, decide_eq_true_eq]
    by_cases hRn : R = []
    · rw [if_neg (fun z => z hRn)]
      exact tail _ p4 (by omega) (by omega) (hp4.mono (by omega))
    · rw [if_pos hRn]
      refine Mt.draw_in (by decide) (by decide) hp4 (by omega) fun g p5 hg1 hg2 hp5 => ?_
      simp only [↓x_eqSS, ↓x_neSS, ↓gKGet, ↓x_kget, ↓x_ixE, at_last, ↓x_appE, ↓x_tyE, ↓x_itE, ↓x_lenE, ↓x_nePr, ↓x_eqPr, ↓x_neE, ↓x_lenr, ↓x_lenrI, ↓gRev, ↓x_par3, ↓x_par33, ↓x_fld, ↓x_fset, ↓x_mkF, ↓x_mk, ↓x_meth, ↓x_fldO, ↓x_fsetE, ↓x_fldE, ↓x_methO, ↓x_isiCO, ↓x_isiCN, ↓x_isiCT, ↓x_isiCLi, ↓x_isiCS, ↓x_isiCI, ↓x_own, ↓x_eqT2, ↓x_neT2, ↓x_neL4, ↓x_eqLN, ↓x_neNil, ↓x_gset, ↓x_lc, ↓x_for, ↓x_it, ↓x_rn1, ↓x_rn2, ↓x_enu, ↓x_zip, ↓x_itS, ↓x_itL, ↓x_itK, ↓x_itT, ↓x_rn1I, ↓x_rn2I, ↓x_enuL, ↓x_enuK, ↓x_zipL, ↓x_ixS0, ↓x_ixL, ↓x_ixT, ↓x_ixK, x_at0, x_at1, x_at2, x_at3, x_at4, ↓x_set00, ↓x_set01, ↓x_set02, ↓x_aug1, ↓x_aug2, ↓x_aug3, ↓x_aug4, ↓x_aug5, ↓x_aug6, ↓x_aug7, ↓x_aug8, ↓x_aug9, ↓x_aug10, ↓x_aug11, ↓x_aug12, ↓x_aug13, ↓x_aug14, ↓x_aug15, ↓x_aug16, ↓x_aug17, ↓x_aug18, ↓x_aug19, ↓x_aug20, ↓x_aug21, ↓x_aug22, ↓x_aug23, Int.reduceToNat, Int.reducePow, ↓gSeq, ↓gIfS, ↓gSet, ↓gAsg, ↓x_par, ↓x_par2, ↓gRet, ↓gRetN, ↓gNext, ↓gDrop, ↓gBreak, ↓gCont, ↓gDead, ↓gCB, ↓gB2, ↓gU, ↓gC, ↓Dl.gCons, ↓Dl.gNil, ↓Dl.gTup, ↓Dl.gLst, ↓gTest, ↓gOrB, ↓gAndB, ↓gNotB, ↓gAndV, ↓gOrV, ↓gNotV, ↓gIf, ↓gIx, ↓gSl, ↓gPart, ↓gNoP, ↓gMt, ↓gCall, ↓gArgs, ↓gIsN, ↓gNotN, ↓gChain, ↓x_fmtS, ↓x_afS, ↓x_afI, ↓x_js0, ↓x_jsc, ↓gJoined, ↓gYes, ↓x_bnm, ↓x_btp, ↓x_bn, ↓x_bc, ↓x_nnN, ↓x_nnI, ↓x_nnS, ↓x_nnB, ↓x_nnT, ↓x_nnL, ↓x_nnO, ↓x_nnl, ↓x_tyS, ↓x_tyL, ↓x_i2, ↓aSub, ↓aFdiv, ↓aMod, ↓aPow, ↓aShr, ↓aLt, ↓aLe, ↓aGt, ↓aGe, ↓x_addI, ↓x_addS, ↓x_mulI, ↓x_iaddS, ↓x_iaddI, ↓x_neg, ↓x_eqI, ↓x_neI, ↓x_eqS, ↓x_neS, ↓x_eqB, ↓x_neB, ↓x_eqNI, ↓x_neNI, ↓x_lenS, ↓x_lenL_l, ↓x_lenL_k, ↓x_lenL_t, ↓x_str, ↓x_intI, ↓x_intB, ↓x_divmod, ↓x_max2, ↓x_min2, ↓x_ixS, ↓x_slS, ↓x_slT, ↓x_slL_l, ↓x_slL_k, ↓x_inS, ↓x_newT, ↓x_newF, ↓x_si, ↓x_s1, ↓x_s0, ↓x_rpart, ↓x_part, ↓x_a1, ↓x_a2, ↓x_isiStr, ↓x_isiInt, ↓x_isiIntB, ↓x_isiIntS, ↓x_isiBB, ↓x_isiBI, ↓x_isiStrI, ↓x_isiNonI, ↓x_isiNonS, ↓x_isiT, ↓x_isiL, ↓x_var0, ↓x_varS, ↓x_ex, ↓x_aug0, gat, pick, Option.some.injEq, D.bl.injEq, D.int.injEq, D.str.injEq, D.tup.injEq, D.lst.injEq, List.cons.injEq, and_true, true_and, List.set_cons_zero, List.set_cons_succ, List.length_cons, List.length_nil, List.filterMap_cons, List.filterMap_nil, List.getElem?_cons_zero, List.getElem?_cons_succ, Option.bind_some, ↓reduceIte, if_true, if_false, Bool.false_eq_true, Bool.true_eq_false, decide_eq_true_eq, beq_self_eq_true, Bool.not_true, Bool.not_false, Bool.not_eq_true', decide_eq_false_iff_not, exists_eq_left', exists_eq_left, exists_eq, ↓x_dnT, ↓x_dnF, ↓gAsgL, ↓gMMDef, ↓gDSet, ↓gSItems, ↓x_nilL, ↓x_nilE, List.isEmpty_nil, List.isEmpty_cons, Bool.true_xor, Bool.false_xor, ↓gSortSet, ↓gOrT, ↓gAndT, ↓gTryAs, ↓gTryO, ↓gRaise, ↓gCallX, ↓gMethX, ↓gMakeX, ↓gFldX, ↓x_fmtRS, ↓x_afRS, ↓x_afRI, ↓x_stO]
      by_cases hg : g = 0
      · rw [if_pos hg]
        have hRp : 0 < R.length := List.length_pos_iff.mpr hRn
        refine Mt.pickL_loc (es := R.map rD) (by simp) (by rw [List.length_map]; omega) (by rw [List.length_map]; omega) hp5 (by omega) fun e p6 he hp6 => ?_
        obtain ⟨r, hr, rfl⟩ := List.mem_map.mp he
        simp only [↓x_eqSS, ↓x_neSS, ↓gKGet, ↓x_kget, ↓x_ixE, at_last, ↓x_appE, ↓x_tyE, ↓x_itE, ↓x_lenE, ↓x_nePr, ↓x_eqPr, ↓x_neE, ↓x_lenr, ↓x_lenrI, ↓gRev, ↓x_par3, ↓x_par33, ↓x_fld, ↓x_fset, ↓x_mkF, ↓x_mk, ↓x_meth, ↓x_fldO, ↓x_fsetE, ↓x_fldE, ↓x_methO, ↓x_isiCO, ↓x_isiCN, ↓x_isiCT, ↓x_isiCLi, ↓x_isiCS, ↓x_isiCI, ↓x_own, ↓x_eqT2, ↓x_neT2, ↓x_neL4, ↓x_eqLN, ↓x_neNil, ↓x_gset, ↓x_lc, ↓x_for, ↓x_it, ↓x_rn1, ↓x_rn2, ↓x_enu, ↓x_zip, ↓x_itS, ↓x_itL, ↓x_itK, ↓x_itT, ↓x_rn1I, ↓x_rn2I, ↓x_enuL, ↓x_enuK, ↓x_zipL, ↓x_ixS0, ↓x_ixL, ↓x_ixT, ↓x_ixK, x_at0, x_at1, x_at2, x_at3, x_at4, ↓x_set00, ↓x_set01, ↓x_set02, ↓x_aug1, ↓x_aug2, ↓x_aug3, ↓x_aug4, ↓x_aug5, ↓x_aug6, ↓x_aug7, ↓x_aug8, ↓x_aug9, ↓x_aug10, ↓x_aug11, ↓x_aug12, ↓x_aug13, ↓x_aug14, ↓x_aug15, ↓x_aug16, ↓x_aug17, ↓x_aug18, ↓x_aug19, ↓x_aug20, ↓x_aug21, ↓x_aug22, ↓x_aug23, Int.reduceToNat, Int.reducePow, ↓gSeq, ↓gIfS, ↓gSet, ↓gAsg, ↓x_par, ↓x_par2, ↓gRet, ↓gRetN, ↓gNext, ↓gDrop, ↓gBreak, ↓gCont, ↓gDead, ↓gCB, ↓gB2, ↓gU, ↓gC, ↓Dl.gCons, ↓Dl.gNil, ↓Dl.gTup, ↓Dl.gLst, ↓gTest, ↓gOrB, ↓gAndB, ↓gNotB, ↓gAndV, ↓gOrV, ↓gNotV, ↓gIf, ↓gIx, ↓gSl, ↓gPart, ↓gNoP, ↓gMt, ↓gCall, ↓gArgs, ↓gIsN, ↓gNotN, ↓gChain, ↓x_fmtS, ↓x_afS, ↓x_afI, ↓x_js0, ↓x_jsc, ↓gJoined, ↓gYes, ↓x_bnm, ↓x_btp, ↓x_bn, ↓x_bc, ↓x_nnN, ↓x_nnI, ↓x_nnS, ↓x_nnB, ↓x_nnT, ↓x_nnL, ↓x_nnO, ↓x_nnl, ↓x_tyS, ↓x_tyL, ↓x_i2, ↓aSub, ↓aFdiv, ↓aMod, ↓aPow, ↓aShr, ↓aLt, ↓aLe, ↓aGt, ↓aGe, ↓x_addI, ↓x_addS, ↓x_mulI, ↓x_iaddS, ↓x_iaddI, ↓x_neg, ↓x_eqI, ↓x_neI, ↓x_eqS, ↓x_neS, ↓x_eqB, ↓x_neB, ↓x_eqNI, ↓x_neNI, ↓x_lenS, ↓x_lenL_l, ↓x_lenL_k, ↓x_lenL_t, ↓x_str, ↓x_intI, ↓x_intB, ↓x_divmod, ↓x_max2, ↓x_min2, ↓x_ixS, ↓x_slS, ↓x_slT, ↓x_slL_l, ↓x_slL_k, ↓x_inS, ↓x_newT, ↓x_newF, ↓x_si, ↓x_s1, ↓x_s0, ↓x_rpart, ↓x_part, ↓x_a1, ↓x_a2, ↓x_isiStr, ↓x_isiInt, ↓x_isiIntB, ↓x_isiIntS, ↓x_isiBB, ↓x_isiBI, ↓x_isiStrI, ↓x_isiNonI, ↓x_isiNonS, ↓x_isiT, ↓x_isiL, ↓x_var0, ↓x_varS, ↓x_ex, ↓x_aug0, gat, pick, Option.some.injEq, D.bl.injEq, D.int.injEq, D.str.injEq, D.tup.injEq, D.lst.injEq, List.cons.injEq, and_true, true_and, List.set_cons_zero, List.set_cons_succ, List.length_cons, List.length_nil, List.filterMap_cons, List.filterMap_nil, List.getElem?_cons_zero, List.getElem?_cons_succ, Option.bind_some, ↓reduceIte, if_true, if_false, Bool.false_eq_true, Bool.true_eq_false, decide_eq_true_eq, beq_self_eq_true, Bool.not_true, Bool.not_false, Bool.not_eq_true', decide_eq_false_iff_not, exists_eq_left', exists_eq_left, exists_eq, ↓x_dnT, ↓x_dnF, ↓gAsgL, ↓gMMDef, ↓gDSet, ↓gSItems, ↓x_nilL, ↓x_nilE, List.isEmpty_nil, List.isEmpty_cons, Bool.true_xor, Bool.false_xor, ↓gSortSet, ↓gOrT, ↓gAndT, ↓gTryAs, ↓gTryO, ↓gRaise, ↓gCallX, ↓gMethX, ↓gMakeX, ↓gFldX, ↓x_fmtRS, ↓x_afRS, ↓x_afRI, ↓x_stO]
        exact tail r.1 p6 (hRb r hr).1 (hRb r hr).2 (hp6.mono (by omega))
      · rw [if_neg hg]
        exact tail _ p5 (by omega) (by omega) (hp5.mono (by omega))
  · rintro ρ S' ⟨R, o', y4, y5, y6, hRl, hRb, ht', rfl, rfl⟩
    refine ⟨trivial, ?_⟩
    rw [x_rngL] at hRl ht'
    simp only [↓x_eqSS, ↓x_neSS, ↓gKGet, ↓x_kget, ↓x_ixE, at_last, ↓x_appE, ↓x_tyE, ↓x_itE, ↓x_lenE, ↓x_nePr, ↓x_eqPr, ↓x_neE, ↓x_lenr, ↓x_lenrI, ↓gRev, ↓x_par3, ↓x_par33, ↓x_fld, ↓x_fset, ↓x_mkF, ↓x_mk, ↓x_meth, ↓x_fldO, ↓x_fsetE, ↓x_fldE, ↓x_methO, ↓x_isiCO, ↓x_isiCN, ↓x_isiCT, ↓x_isiCLi, ↓x_isiCS, ↓x_isiCI, ↓x_own, ↓x_eqT2, ↓x_neT2, ↓x_neL4, ↓x_eqLN, ↓x_neNil, ↓x_gset, ↓x_lc, ↓x_for, ↓x_it, ↓x_rn1, ↓x_rn2, ↓x_enu, ↓x_zip, ↓x_itS, ↓x_itL, ↓x_itK, ↓x_itT, ↓x_rn1I, ↓x_rn2I, ↓x_enuL, ↓x_enuK, ↓x_zipL, ↓x_ixS0, ↓x_ixL, ↓x_ixT, ↓x_ixK, x_at0, x_at1, x_at2, x_at3, x_at4, ↓x_set00, ↓x_set01, ↓x_set02, ↓x_aug1, ↓x_aug2, ↓x_aug3, ↓x_aug4, ↓x_aug5, ↓x_aug6, ↓x_aug7, ↓x_aug8, ↓x_aug9, ↓x_aug10, ↓x_aug11, ↓x_aug12, ↓x_aug13, ↓x_aug14, ↓x_aug15, ↓x_aug16, ↓x_aug17, ↓x_aug18, ↓x_aug19, ↓x_aug20, ↓x_aug21, ↓x_aug22, ↓x_aug23, Int.reduceToNat, Int.reducePow, ↓gSeq, ↓gIfS, ↓gSet, ↓gAsg, ↓x_par, ↓x_par2, ↓gRet, ↓gRetN, ↓gNext, ↓gDrop, ↓gBreak, ↓gCont, ↓gDead, ↓gCB, ↓gB2, ↓gU, ↓gC, ↓Dl.gCons, ↓Dl.gNil, ↓Dl.gTup, ↓Dl.gLst, ↓gTest, ↓gOrB, ↓gAndB, ↓gNotB, ↓gAndV, ↓gOrV, ↓gNotV, ↓gIf, ↓gIx, ↓gSl, ↓gPart, ↓gNoP, ↓gMt, ↓gCall, ↓gArgs, ↓gIsN, ↓gNotN, ↓gChain, ↓x_fmtS, ↓x_afS, ↓x_afI, ↓x_js0, ↓x_jsc, ↓gJoined, ↓gYes, ↓x_bnm, ↓x_btp, ↓x_bn, ↓x_bc, ↓x_nnN, ↓x_nnI, ↓x_nnS, ↓x_nnB, ↓x_nnT, ↓x_nnL, ↓x_nnO, ↓x_nnl, ↓x_tyS, ↓x_tyL, ↓x_i2, ↓aSub, ↓aFdiv, ↓aMod, ↓aPow, ↓aShr, ↓aLt, ↓aLe, ↓aGt, ↓aGe, ↓x_addI, ↓x_addS, ↓x_mulI, ↓x_iaddS, ↓x_iaddI, ↓x_neg, ↓x_eqI, ↓x_neI, ↓x_eqS, ↓x_neS, ↓x_eqB, ↓x_neB, ↓x_eqNI, ↓x_neNI, ↓x_lenS, ↓x_lenL_l, ↓x_lenL_k, ↓x_lenL_t, ↓x_str, ↓x_intI, ↓x_intB, ↓x_divmod, ↓x_max2, ↓x_min2, ↓x_ixS, ↓x_slS, ↓x_slT, ↓x_slL_l, ↓x_slL_k, ↓x_inS, ↓x_newT, ↓x_newF, ↓x_si, ↓x_s1, ↓x_s0, ↓x_rpart, ↓x_part, ↓x_a1, ↓x_a2, ↓x_isiStr, ↓x_isiInt, ↓x_isiIntB, ↓x_isiIntS, ↓x_isiBB, ↓x_isiBI, ↓x_isiStrI, ↓x_isiNonI, ↓x_isiNonS, ↓x_isiT, ↓x_isiL, ↓x_var0, ↓x_varS, ↓x_ex, ↓x_aug0, gat, pick, Option.some.injEq, D.bl.injEq, D.int.injEq, D.str.injEq, D.tup.injEq, D.lst.injEq, List.cons.injEq, and_true, true_and, List.set_cons_zero, List.set_cons_succ, List.length_cons, List.length_nil, List.filterMap_cons, List.filterMap_nil, List.getElem?_cons_zero, List.getElem?_cons_succ, Option.bind_some, ↓reduceIte, if_true, if_false, Bool.false_eq_true, Bool.true_eq_false, decide_eq_true_eq, beq_self_eq_true, Bool.not_true, Bool.not_false, Bool.not_eq_true', decide_eq_false_iff_not, exists_eq_left', exists_eq_left, exists_eq, ↓x_dnT, ↓x_dnF, ↓gAsgL, ↓gMMDef, ↓gDSet, ↓gSItems, ↓x_nilL, ↓x_nilE, List.isEmpty_nil, List.isEmpty_cons, Bool.true_xor, Bool.false_xor, ↓gSortSet, ↓gOrT, ↓gAndT, ↓gTryAs, ↓gTryO, ↓gRaise, ↓gCallX, ↓gMethX, ↓gMakeX, ↓gFldX, ↓x_fmtRS, ↓x_afRS, ↓x_afRI, ↓x_stO]
    have hs2 : Sto.under (o' :: R0).length (o' :: R0) = true := tape_under ht' (by simpa using hs)
    have hq' := hq _ o' ⟨R, rfl, by omega, hRb⟩ (ht'.mono (by omega))
    exact (x_finE (S0 := o' :: R0) hs2).mpr ⟨und_rd, hq'⟩
end
end Lw
namespace Lw
open PySem L2 Dl Mg
section
variable {P : Program} {w : World} {K : PySem.W.Frag} {mg : Str → Option Value} {base : Heap} {a : Ad}
theorem r_Stretch_init (T : Txt K mg a) : ∀ ds S q, sp_Stretch_init a ds S q → g_Stretch_init K a { nx := fun _ S' => q .non S', rt := q } (startD N_Stretch_init ds) S := by
  rintro ds S q ⟨S0, x, y, o, rfl, rfl, ho, hxy, h⟩
  rw [st_Stretch_init]
  rcases ho with rfl | ⟨rfl, rfl⟩
  · simp only [g_Stretch_init, Mt.pk_first, Mt.pk_behind, Mt.px_first, Mt.px_behind, T.f_Stretch_first, T.f_Stretch_behind, ↓x_eqSS, ↓x_neSS, ↓gKGet, ↓x_kget, ↓x_ixE, at_last, ↓x_appE, ↓x_tyE, ↓x_itE, ↓x_lenE, ↓x_nePr, ↓x_eqPr, ↓x_neE, ↓x_lenr, ↓x_lenrI, ↓gRev, ↓x_par3, ↓x_par33, ↓x_fld, ↓x_fset, ↓x_mkF, ↓x_mk, ↓x_meth, ↓x_fldO, ↓x_fsetE, ↓x_fldE, ↓x_methO, ↓x_isiCO, ↓x_isiCN, ↓x_isiCT, ↓x_isiCLi, ↓x_isiCS, ↓x_isiCI, ↓x_own, ↓x_eqT2, ↓x_neT2, ↓x_neL4, ↓x_eqLN, ↓x_neNil, ↓x_gset, ↓x_lc, ↓x_for, ↓x_it, ↓x_rn1, ↓x_rn2, ↓x_enu, ↓x_zip, ↓x_itS, ↓x_itL, ↓x_itK, ↓x_itT, ↓x_rn1I, ↓x_rn2I, ↓x_enuL, ↓x_enuK, ↓x_zipL, ↓x_ixS0, ↓x_ixL, ↓x_ixT, ↓x_ixK, x_at0, x_at1, x_at2, x_at3, x_at4, ↓x_set00, ↓x_set01, ↓x_set02, ↓x_aug1, ↓x_aug2, ↓x_aug3, ↓x_aug4, ↓x_aug5, ↓x_aug6, ↓x_aug7, ↓x_aug8, ↓x_aug9, ↓x_aug10, ↓x_aug11, ↓x_aug12, ↓x_aug13, ↓x_aug14, ↓x_aug15, ↓x_aug16, ↓x_aug17, ↓x_aug18, ↓x_aug19, ↓x_aug20, ↓x_aug21, ↓x_aug22, ↓x_aug23, Int.reduceToNat, Int.reducePow, ↓gSeq, ↓gIfS, ↓gSet, ↓gAsg, ↓x_par, ↓x_par2, ↓gRet, ↓gRetN, ↓gNext, ↓gDrop, ↓gBreak, ↓gCont, ↓gDead, ↓gCB, ↓gB2, ↓gU, ↓gC, ↓Dl.gCons, ↓Dl.gNil, ↓Dl.gTup, ↓Dl.gLst, ↓gTest, ↓gOrB, ↓gAndB, ↓gNotB, ↓gAndV, ↓gOrV, ↓gNotV, ↓gIf, ↓gIx, ↓gSl, ↓gPart, ↓gNoP, ↓gMt, ↓gCall, ↓gArgs, ↓gIsN, ↓gNotN, ↓gChain, ↓x_fmtS, ↓x_afS, ↓x_afI, ↓x_js0, ↓x_jsc, ↓gJoined, ↓gYes, ↓x_bnm, ↓x_btp, ↓x_bn, ↓x_bc, ↓x_nnN, ↓x_nnI, ↓x_nnS, ↓x_nnB, ↓x_nnT, ↓x_nnL, ↓x_nnO, ↓x_nnl, ↓x_tyS, ↓x_tyL, ↓x_i2, ↓aSub, ↓aFdiv, ↓aMod, ↓aPow, ↓aShr, ↓aLt, ↓aLe, ↓aGt, ↓aGe, ↓x_addI, ↓x_addS, ↓x_mulI, ↓x_iaddS, ↓x_iaddI, ↓x_neg, ↓x_eqI, ↓x_neI, ↓x_eqS, ↓x_neS, ↓x_eqB, ↓x_neB, ↓x_eqNI, ↓x_neNI, ↓x_lenS, ↓x_lenL_l, ↓x_lenL_k, ↓x_lenL_t, ↓x_str, ↓x_intI, ↓x_intB, ↓x_divmod, ↓x_max2, ↓x_min2, ↓x_ixS, ↓x_slS, ↓x_slT, ↓x_slL_l, ↓x_slL_k, ↓x_inS, ↓x_newT, ↓x_newF, ↓x_si, ↓x_s1, ↓x_s0, ↓x_rpart, ↓x_part, ↓x_a1, ↓x_a2, ↓x_isiStr, ↓x_isiInt, ↓x_isiIntB, ↓x_isiIntS, ↓x_isiBB, ↓x_isiBI, ↓x_isiStrI, ↓x_isiNonI, ↓x_isiNonS, ↓x_isiT, ↓x_isiL, ↓x_var0, ↓x_varS, ↓x_ex, ↓x_aug0, gat, pick, Option.some.injEq, D.bl.injEq, D.int.injEq, D.str.injEq, D.tup.injEq, D.lst.injEq, List.cons.injEq, and_true, true_and, List.set_cons_zero, List.set_cons_succ, List.length_cons, List.length_nil, List.filterMap_cons, List.filterMap_nil, List.getElem?_cons_zero, List.getElem?_cons_succ, Option.bind_some, ↓reduceIte, if_true, if_false, Bool.false_eq_true, Bool.true_eq_false, decide_eq_true_eq, beq_self_eq_true, Bool.not_true, Bool.not_false, Bool.not_eq_true', decide_eq_false_iff_not, exists_eq_left', exists_eq_left, exists_eq, ↓x_dnT, ↓x_dnF, ↓gAsgL, ↓gMMDef, ↓gDSet, ↓gSItems, ↓x_nilL, ↓x_nilE, List.isEmpty_nil, List.isEmpty_cons, Bool.true_xor, Bool.false_xor, ↓gSortSet, ↓gOrT, ↓gAndT, ↓gTryAs, ↓gTryO, ↓gRaise, ↓gCallX, ↓gMethX, ↓gMakeX, ↓gFldX, ↓x_fmtRS, ↓x_afRS, ↓x_afRI, ↓x_stO]
    rw [if_neg (by omega)]
    exact ⟨by decide, by decide, h⟩
  · simp only [g_Stretch_init, Mt.pk_first, Mt.pk_behind, Mt.px_first, Mt.px_behind, T.f_Stretch_first, T.f_Stretch_behind, ↓x_eqSS, ↓x_neSS, ↓gKGet, ↓x_kget, ↓x_ixE, at_last, ↓x_appE, ↓x_tyE, ↓x_itE, ↓x_lenE, ↓x_nePr, ↓x_eqPr, ↓x_neE, ↓x_lenr, ↓x_lenrI, ↓gRev, ↓x_par3, ↓x_par33, ↓x_fld, ↓x_fset, ↓x_mkF, ↓x_mk, ↓x_meth, ↓x_fldO, ↓x_fsetE, ↓x_fldE, ↓x_methO, ↓x_isiCO, ↓x_isiCN, ↓x_isiCT, ↓x_isiCLi, ↓x_isiCS, ↓x_isiCI, ↓x_own, ↓x_eqT2, ↓x_neT2, ↓x_neL4, ↓x_eqLN, ↓x_neNil, ↓x_gset, ↓x_lc, ↓x_for, ↓x_it, ↓x_rn1, ↓x_rn2, ↓x_enu, ↓x_zip, ↓x_itS, ↓x_itL, ↓x_itK, ↓x_itT, ↓x_rn1I, ↓x_rn2I, ↓x_enuL, ↓x_enuK, ↓x_zipL, ↓x_ixS0, ↓x_ixL, ↓x_ixT, ↓x_ixK, x_at0, x_at1, x_at2, x_at3, x_at4, ↓x_set00, ↓x_set01, ↓x_set02, ↓x_aug1, ↓x_aug2, ↓x_aug3, ↓x_aug4, ↓x_aug5, ↓x_aug6, ↓x_aug7, ↓x_aug8, ↓x_aug9, ↓x_aug10, ↓x_aug11, ↓x_aug12, ↓x_aug13, ↓x_aug14, ↓x_aug15, ↓x_aug16, ↓x_aug17, ↓x_aug18, ↓x_aug19, ↓x_aug20, ↓x_aug21, ↓x_aug22, ↓x_aug23, Int.reduceToNat, Int.reducePow, ↓gSeq, ↓gIfS, ↓gSet, ↓gAsg, ↓x_par, ↓x_par2, ↓gRet, ↓gRetN, ↓gNext, ↓gDrop, ↓gBreak, ↓gCont, ↓gDead, ↓gCB, ↓gB2, ↓gU, ↓gC, ↓Dl.gCons, ↓Dl.gNil, ↓Dl.gTup, ↓Dl.gLst, ↓gTest, ↓gOrB, ↓gAndB, ↓gNotB, ↓gAndV, ↓gOrV, ↓gNotV, ↓gIf, ↓gIx, ↓gSl, ↓gPart, ↓gNoP, ↓gMt, ↓gCall, ↓gArgs, ↓gIsN, ↓gNotN, ↓gChain, ↓x_fmtS, ↓x_afS, ↓x_afI, ↓x_js0, ↓x_jsc, ↓gJoined, ↓gYes, ↓x_bnm, ↓x_btp, ↓x_bn, ↓x_bc, ↓x_nnN, ↓x_nnI, ↓x_nnS, ↓x_nnB, ↓x_nnT, ↓x_nnL, ↓x_nnO, ↓x_nnl, ↓x_tyS, ↓x_tyL, ↓x_i2, ↓aSub, ↓aFdiv, ↓aMod, ↓aPow, ↓aShr, ↓aLt, ↓aLe, ↓aGt, ↓aGe, ↓x_addI, ↓x_addS, ↓x_mulI, ↓x_iaddS, ↓x_iaddI, ↓x_neg, ↓x_eqI, ↓x_neI, ↓x_eqS, ↓x_neS, ↓x_eqB, ↓x_neB, ↓x_eqNI, ↓x_neNI, ↓x_lenS, ↓x_lenL_l, ↓x_lenL_k, ↓x_lenL_t, ↓x_str, ↓x_intI, ↓x_intB, ↓x_divmod, ↓x_max2, ↓x_min2, ↓x_ixS, ↓x_slS, ↓x_slT, ↓x_slL_l, ↓x_slL_k, ↓x_inS, ↓x_newT, ↓x_newF, ↓x_si, ↓x_s1, ↓x_s0, ↓x_rpart, ↓x_part, ↓x_a1, ↓x_a2, ↓x_isiStr, ↓x_isiInt, ↓x_isiIntB, ↓x_isiIntS, ↓x_isiBB, ↓x_isiBI, ↓x_isiStrI, ↓x_isiNonI, ↓x_isiNonS, ↓x_isiT, ↓x_isiL, ↓x_var0, ↓x_varS, ↓x_ex, ↓x_aug0, gat, pick, Option.some.injEq, D.bl.injEq, D.int.injEq, D.str.injEq, D.tup.injEq, D.lst.injEq, List.cons.injEq, and_true, true_and, List.set_cons_zero, List.set_cons_succ, List.length_cons, List.length_nil, List.filterMap_cons, List.filterMap_nil, List.getElem?_cons_zero, List.getElem?_cons_succ, Option.bind_some, ↓reduceIte, if_true, if_false, Bool.false_eq_true, Bool.true_eq_false, decide_eq_true_eq, beq_self_eq_true, Bool.not_true, Bool.not_false, Bool.not_eq_true', decide_eq_false_iff_not, exists_eq_left', exists_eq_left, exists_eq, ↓x_dnT, ↓x_dnF, ↓gAsgL, ↓gMMDef, ↓gDSet, ↓gSItems, ↓x_nilL, ↓x_nilE, List.isEmpty_nil, List.isEmpty_cons, Bool.true_xor, Bool.false_xor, ↓gSortSet, ↓gOrT, ↓gAndT, ↓gTryAs, ↓gTryO, ↓gRaise, ↓gCallX, ↓gMethX, ↓gMakeX, ↓gFldX, ↓x_fmtRS, ↓x_afRS, ↓x_afRI, ↓x_stO]
    rw [if_neg (by omega)]
    exact ⟨by decide, by decide, h⟩
theorem r_Stretch_len (T : Txt K mg a) : ∀ ds S q, sp_Stretch_len a ds S q → g_Stretch_len K a { nx := fun _ S' => q .non S', rt := q } (startD N_Stretch_len ds) S := by
  rintro ds S q ⟨x, y, rfl, h1, h2, h⟩
  rw [st_Stretch_len]
  simp only [g_Stretch_len, T.f_Stretch_first, T.f_Stretch_behind, ↓Mt.stD, Mt.fg_first, Mt.fg_behind, ↓x_eqSS, ↓x_neSS, ↓gKGet, ↓x_kget, ↓x_ixE, at_last, ↓x_appE, ↓x_tyE, ↓x_itE, ↓x_lenE, ↓x_nePr, ↓x_eqPr, ↓x_neE, ↓x_lenr, ↓x_lenrI, ↓gRev, ↓x_par3, ↓x_par33, ↓x_fld, ↓x_fset, ↓x_mkF, ↓x_mk, ↓x_meth, ↓x_fldO, ↓x_fsetE, ↓x_fldE, ↓x_methO, ↓x_isiCO, ↓x_isiCN, ↓x_isiCT, ↓x_isiCLi, ↓x_isiCS, ↓x_isiCI, ↓x_own, ↓x_eqT2, ↓x_neT2, ↓x_neL4, ↓x_eqLN, ↓x_neNil, ↓x_gset, ↓x_lc, ↓x_for, ↓x_it, ↓x_rn1, ↓x_rn2, ↓x_enu, ↓x_zip, ↓x_itS, ↓x_itL, ↓x_itK, ↓x_itT, ↓x_rn1I, ↓x_rn2I, ↓x_enuL, ↓x_enuK, ↓x_zipL, ↓x_ixS0, ↓x_ixL, ↓x_ixT, ↓x_ixK, x_at0, x_at1, x_at2, x_at3, x_at4, ↓x_set00, ↓x_set01, ↓x_set02, ↓x_aug1, ↓x_aug2, ↓x_aug3, ↓x_aug4, ↓x_aug5, ↓x_aug6, ↓x_aug7, ↓x_aug8, ↓x_aug9, ↓x_aug10, ↓x_aug11, ↓x_aug12, ↓x_aug13, ↓x_aug14, ↓x_aug15, ↓x_aug16, ↓x_aug17, ↓x_aug18, ↓x_aug19, ↓x_aug20, ↓x_aug21, ↓x_aug22, ↓x_aug23, Int.reduceToNat, Int.reducePow, ↓gSeq, ↓gIfS, ↓gSet, ↓gAsg, ↓x_par, ↓x_par2, ↓gRet, ↓gRetN, ↓gNext, ↓gDrop, ↓gBreak, ↓gCont, ↓gDead, ↓gCB, ↓gB2, ↓gU, ↓gC, ↓Dl.gCons, ↓Dl.gNil, ↓Dl.gTup, ↓Dl.gLst, ↓gTest, ↓gOrB, ↓gAndB, ↓gNotB, ↓gAndV, ↓gOrV, ↓gNotV, ↓gIf, ↓gIx, ↓gSl, ↓gPart, ↓gNoP, ↓gMt, ↓gCall, ↓gArgs, ↓gIsN, ↓gNotN, ↓gChain, ↓x_fmtS, ↓x_afS, ↓x_afI, ↓x_js0, ↓x_jsc, ↓gJoined, ↓gYes, ↓x_bnm, ↓x_btp, ↓x_bn, ↓x_bc, ↓x_nnN, ↓x_nnI, ↓x_nnS, ↓x_nnB, ↓x_nnT, ↓x_nnL, ↓x_nnO, ↓x_nnl, ↓x_tyS, ↓x_tyL, ↓x_i2, ↓aSub, ↓aFdiv, ↓aMod, ↓aPow, ↓aShr, ↓aLt, ↓aLe, ↓aGt, ↓aGe, ↓x_addI, ↓x_addS, ↓x_mulI, ↓x_iaddS, ↓x_iaddI, ↓x_neg, ↓x_eqI, ↓x_neI, ↓x_eqS, ↓x_neS, ↓x_eqB, ↓x_neB, ↓x_eqNI, ↓x_neNI, ↓x_lenS, ↓x_lenL_l, ↓x_lenL_k, ↓x_lenL_t, ↓x_str, ↓x_intI, ↓x_intB, ↓x_divmod, ↓x_max2, ↓x_min2, ↓x_ixS, ↓x_slS, ↓x_slT, ↓x_slL_l, ↓x_slL_k, ↓x_inS, ↓x_newT, ↓x_newF, ↓x_si, ↓x_s1, ↓x_s0, ↓x_rpart, ↓x_part, ↓x_a1, ↓x_a2, ↓x_isiStr, ↓x_isiInt, ↓x_isiIntB, ↓x_isiIntS, ↓x_isiBB, ↓x_isiBI, ↓x_isiStrI, ↓x_isiNonI, ↓x_isiNonS, ↓x_isiT, ↓x_isiL, ↓x_var0, ↓x_varS, ↓x_ex, ↓x_aug0, gat, pick, Option.some.injEq, D.bl.injEq, D.int.injEq, D.str.injEq, D.tup.injEq, D.lst.injEq, List.cons.injEq, and_true, true_and, List.set_cons_zero, List.set_cons_succ, List.length_cons, List.length_nil, List.filterMap_cons, List.filterMap_nil, List.getElem?_cons_zero, List.getElem?_cons_succ, Option.bind_some, ↓reduceIte, if_true, if_false, Bool.false_eq_true, Bool.true_eq_false, decide_eq_true_eq, beq_self_eq_true, Bool.not_true, Bool.not_false, Bool.not_eq_true', decide_eq_false_iff_not, exists_eq_left', exists_eq_left, exists_eq, ↓x_dnT, ↓x_dnF, ↓gAsgL, ↓gMMDef, ↓gDSet, ↓gSItems, ↓x_nilL, ↓x_nilE, List.isEmpty_nil, List.isEmpty_cons, Bool.true_xor, Bool.false_xor, ↓gSortSet, ↓gOrT, ↓gAndT, ↓gTryAs, ↓gTryO, ↓gRaise, ↓gCallX, ↓gMethX, ↓gMakeX, ↓gFldX, ↓x_fmtRS, ↓x_afRS, ↓x_afRI, ↓x_stO]
  rw [show max 0 (y - x) = y - x by omega]
  exact ⟨by omega, h⟩
theorem r_Stretch_eq (T : Txt K mg a) : ∀ ds S q, sp_Stretch_eq a ds S q → g_Stretch_eq K a { nx := fun _ S' => q .non S', rt := q } (startD N_Stretch_eq ds) S := by
  rintro ds S q ⟨x, y, c, d, rfl, h⟩
  rw [st_Stretch_eq]
  simp only [g_Stretch_eq, T.f_Stretch_first, T.f_Stretch_behind, ↓x_isiCO T.is_Stretch T.kc_Stretch_Stretch, ↓Mt.stD, Mt.fg_first, Mt.fg_behind, ↓x_eqSS, ↓x_neSS, ↓gKGet, ↓x_kget, ↓x_ixE, at_last, ↓x_appE, ↓x_tyE, ↓x_itE, ↓x_lenE, ↓x_nePr, ↓x_eqPr, ↓x_neE, ↓x_lenr, ↓x_lenrI, ↓gRev, ↓x_par3, ↓x_par33, ↓x_fld, ↓x_fset, ↓x_mkF, ↓x_mk, ↓x_meth, ↓x_fldO, ↓x_fsetE, ↓x_fldE, ↓x_methO, ↓x_isiCO, ↓x_isiCN, ↓x_isiCT, ↓x_isiCLi, ↓x_isiCS, ↓x_isiCI, ↓x_own, ↓x_eqT2, ↓x_neT2, ↓x_neL4, ↓x_eqLN, ↓x_neNil, ↓x_gset, ↓x_lc, ↓x_for, ↓x_it, ↓x_rn1, ↓x_rn2, ↓x_enu, ↓x_zip, ↓x_itS, ↓x_itL, ↓x_itK, ↓x_itT, ↓x_rn1I, ↓x_rn2I, ↓x_enuL, ↓x_enuK, ↓x_zipL, ↓x_ixS0, ↓x_ixL, ↓x_ixT, ↓x_ixK, x_at0, x_at1, x_at2, x_at3, x_at4, ↓x_set00, ↓x_set01, ↓x_set02, ↓x_aug1, ↓x_aug2, ↓x_aug3, ↓x_aug4, ↓x_aug5, ↓x_aug6, ↓x_aug7, ↓x_aug8, ↓x_aug9, ↓x_aug10, ↓x_aug11, ↓x_aug12, ↓x_aug13, ↓x_aug14, ↓x_aug15, ↓x_aug16, ↓x_aug17, ↓x_aug18, ↓x_aug19, ↓x_aug20, ↓x_aug21, ↓x_aug22, ↓x_aug23, Int.reduceToNat, Int.reducePow, ↓gSeq, ↓gIfS, ↓gSet, ↓gAsg, ↓x_par, ↓x_par2, ↓gRet, ↓gRetN, ↓gNext, ↓gDrop, ↓gBreak, ↓gCont, ↓gDead, ↓gCB, ↓gB2, ↓gU, ↓gC, ↓Dl.gCons, ↓Dl.gNil, ↓Dl.gTup, ↓Dl.gLst, ↓gTest, ↓gOrB, ↓gAndB, ↓gNotB, ↓gAndV, ↓gOrV, ↓gNotV, ↓gIf, ↓gIx, ↓gSl, ↓gPart, ↓gNoP, ↓gMt, ↓gCall, ↓gArgs, ↓gIsN, ↓gNotN, ↓gChain, ↓x_fmtS, ↓x_afS, ↓x_afI, ↓x_js0, ↓x_jsc, ↓gJoined, ↓gYes, ↓x_bnm, ↓x_btp, ↓x_bn, ↓x_bc, ↓x_nnN, ↓x_nnI, ↓x_nnS, ↓x_nnB, ↓x_nnT, ↓x_nnL, ↓x_nnO, ↓x_nnl, ↓x_tyS, ↓x_tyL, ↓x_i2, ↓aSub, ↓aFdiv, ↓aMod, ↓aPow, ↓aShr, ↓aLt, ↓aLe, ↓aGt, ↓aGe, ↓x_addI, ↓x_addS, ↓x_mulI, ↓x_iaddS, ↓x_iaddI, ↓x_neg, ↓x_eqI, ↓x_neI, ↓x_eqS, ↓x_neS, ↓x_eqB, ↓x_neB, ↓x_eqNI, ↓x_neNI, ↓x_lenS, ↓x_lenL_l, ↓x_lenL_k, ↓x_lenL_t, ↓x_str, ↓x_intI, ↓x_intB, ↓x_divmod, ↓x_max2, ↓x_min2, ↓x_ixS, ↓x_slS, ↓x_slT, ↓x_slL_l, ↓x_slL_k, ↓x_inS, ↓x_newT, ↓x_newF, ↓x_si, ↓x_s1, ↓x_s0, ↓x_rpart, ↓x_part, ↓x_a1, ↓x_a2, ↓x_isiStr, ↓x_isiInt, ↓x_isiIntB, ↓x_isiIntS, ↓x_isiBB, ↓x_isiBI, ↓x_isiStrI, ↓x_isiNonI, ↓x_isiNonS, ↓x_isiT, ↓x_isiL, ↓x_var0, ↓x_varS, ↓x_ex, ↓x_aug0, gat, pick, Option.some.injEq, D.bl.injEq, D.int.injEq, D.str.injEq, D.tup.injEq, D.lst.injEq, List.cons.injEq, and_true, true_and, List.set_cons_zero, List.set_cons_succ, List.length_cons, List.length_nil, List.filterMap_cons, List.filterMap_nil, List.getElem?_cons_zero, List.getElem?_cons_succ, Option.bind_some, ↓reduceIte, if_true, if_false, Bool.false_eq_true, Bool.true_eq_false, decide_eq_true_eq, beq_self_eq_true, Bool.not_true, Bool.not_false, Bool.not_eq_true', decide_eq_false_iff_not, exists_eq_left', exists_eq_left, exists_eq, ↓x_dnT, ↓x_dnF, ↓gAsgL, ↓gMMDef, ↓gDSet, ↓gSItems, ↓x_nilL, ↓x_nilE, List.isEmpty_nil, List.isEmpty_cons, Bool.true_xor, Bool.false_xor, ↓gSortSet, ↓gOrT, ↓gAndT, ↓gTryAs, ↓gTryO, ↓gRaise, ↓gCallX, ↓gMethX, ↓gMakeX, ↓gFldX, ↓x_fmtRS, ↓x_afRS, ↓x_afRI, ↓x_stO]
  exact ⟨by decide, by decide, by simpa using h⟩
theorem r_Stretch_repr (T : Txt K mg a) : ∀ ds S q, sp_Stretch_repr a ds S q → g_Stretch_repr K a { nx := fun _ S' => q .non S', rt := q } (startD N_Stretch_repr ds) S := by
  rintro ds S q ⟨x, y, rfl, ⟨hx0, hx1⟩, ⟨hy0, hy1⟩, h⟩
  rw [st_Stretch_repr]
  simp only [g_Stretch_repr, T.f_Stretch_first, T.f_Stretch_behind, ↓Mt.stD, Mt.fg_first, Mt.fg_behind, ↓x_eqSS, ↓x_neSS, ↓gKGet, ↓x_kget, ↓x_ixE, at_last, ↓x_appE, ↓x_tyE, ↓x_itE, ↓x_lenE, ↓x_nePr, ↓x_eqPr, ↓x_neE, ↓x_lenr, ↓x_lenrI, ↓gRev, ↓x_par3, ↓x_par33, ↓x_fld, ↓x_fset, ↓x_mkF, ↓x_mk, ↓x_meth, ↓x_fldO, ↓x_fsetE, ↓x_fldE, ↓x_methO, ↓x_isiCO, ↓x_isiCN, ↓x_isiCT, ↓x_isiCLi, ↓x_isiCS, ↓x_isiCI, ↓x_own, ↓x_eqT2, ↓x_neT2, ↓x_neL4, ↓x_eqLN, ↓x_neNil, ↓x_gset, ↓x_lc, ↓x_for, ↓x_it, ↓x_rn1, ↓x_rn2, ↓x_enu, ↓x_zip, ↓x_itS, ↓x_itL, ↓x_itK, ↓x_itT, ↓x_rn1I, ↓x_rn2I, ↓x_enuL, ↓x_enuK, ↓x_zipL, ↓x_ixS0, ↓x_ixL, ↓x_ixT, ↓x_ixK, x_at0, x_at1, x_at2, x_at3, x_at4, ↓x_set00, ↓x_set01, ↓x_set02, ↓x_aug1, ↓x_aug2, ↓x_aug3, ↓x_aug4, ↓x_aug5, ↓x_aug6, ↓x_aug7, ↓x_aug8, ↓x_aug9, ↓x_aug10, ↓x_aug11, ↓x_aug12, ↓x_aug13, ↓x_aug14, ↓x_aug15, ↓x_aug16, ↓x_aug17, ↓x_aug18, ↓x_aug19, ↓x_aug20, ↓x_aug21, ↓x_aug22, ↓x_aug23, Int.reduceToNat, Int.reducePow, ↓gSeq, ↓gIfS, ↓gSet, ↓gAsg, ↓x_par, ↓x_par2, ↓gRet, ↓gRetN, ↓gNext, ↓gDrop, ↓gBreak, ↓gCont, ↓gDead, ↓gCB, ↓gB2, ↓gU, ↓gC, ↓Dl.gCons, ↓Dl.gNil, ↓Dl.gTup, ↓Dl.gLst, ↓gTest, ↓gOrB, ↓gAndB, ↓gNotB, ↓gAndV, ↓gOrV, ↓gNotV, ↓gIf, ↓gIx, ↓gSl, ↓gPart, ↓gNoP, ↓gMt, ↓gCall, ↓gArgs, ↓gIsN, ↓gNotN, ↓gChain, ↓x_fmtS, ↓x_afS, ↓x_afI, ↓x_js0, ↓x_jsc, ↓gJoined, ↓gYes, ↓x_bnm, ↓x_btp, ↓x_bn, ↓x_bc, ↓x_nnN, ↓x_nnI, ↓x_nnS, ↓x_nnB, ↓x_nnT, ↓x_nnL, ↓x_nnO, ↓x_nnl, ↓x_tyS, ↓x_tyL, ↓x_i2, ↓aSub, ↓aFdiv, ↓aMod, ↓aPow, ↓aShr, ↓aLt, ↓aLe, ↓aGt, ↓aGe, ↓x_addI, ↓x_addS, ↓x_mulI, ↓x_iaddS, ↓x_iaddI, ↓x_neg, ↓x_eqI, ↓x_neI, ↓x_eqS, ↓x_neS, ↓x_eqB, ↓x_neB, ↓x_eqNI, ↓x_neNI, ↓x_lenS, ↓x_lenL_l, ↓x_lenL_k, ↓x_lenL_t, ↓x_str, ↓x_intI, ↓x_intB, ↓x_divmod, ↓x_max2, ↓x_min2, ↓x_ixS, ↓x_slS, ↓x_slT, ↓x_slL_l, ↓x_slL_k, ↓x_inS, ↓x_newT, ↓x_newF, ↓x_si, ↓x_s1, ↓x_s0, ↓x_rpart, ↓x_part, ↓x_a1, ↓x_a2, ↓x_isiStr, ↓x_isiInt, ↓x_isiIntB, ↓x_isiIntS, ↓x_isiBB, ↓x_isiBI, ↓x_isiStrI, ↓x_isiNonI, ↓x_isiNonS, ↓x_isiT, ↓x_isiL, ↓x_var0, ↓x_varS, ↓x_ex, ↓x_aug0, gat, pick, Option.some.injEq, D.bl.injEq, D.int.injEq, D.str.injEq, D.tup.injEq, D.lst.injEq, List.cons.injEq, and_true, true_and, List.set_cons_zero, List.set_cons_succ, List.length_cons, List.length_nil, List.filterMap_cons, List.filterMap_nil, List.getElem?_cons_zero, List.getElem?_cons_succ, Option.bind_some, ↓reduceIte, if_true, if_false, Bool.false_eq_true, Bool.true_eq_false, decide_eq_true_eq, beq_self_eq_true, Bool.not_true, Bool.not_false, Bool.not_eq_true', decide_eq_false_iff_not, exists_eq_left', exists_eq_left, exists_eq, ↓x_dnT, ↓x_dnF, ↓gAsgL, ↓gMMDef, ↓gDSet, ↓gSItems, ↓x_nilL, ↓x_nilE, List.isEmpty_nil, List.isEmpty_cons, Bool.true_xor, Bool.false_xor, ↓gSortSet, ↓gOrT, ↓gAndT, ↓gTryAs, ↓gTryO, ↓gRaise, ↓gCallX, ↓gMethX, ↓gMakeX, ↓gFldX, ↓x_fmtRS, ↓x_afRS, ↓x_afRI, ↓x_stO]
  have a1 := Mt.show_len10 hx0 hx1
  have a2 := Mt.show_len10 hy0 hy1
  have l2 : ∀ z : Int, 0 ≤ z → z < 10 ^ 10 → z.natAbs.log2 < 1920 := fun z h0 h1 => by
    by_cases e : z.natAbs = 0
    · rw [e]; decide
    · have : z.natAbs < 2 ^ 40 := by omega
      have := (Nat.log2_lt e).mpr this
      omega
  have z1 : (Str.empty ++ Str.ofString "Stretch(").length = 8 := by decide
  have z2 : (Str.ofString ", ").length = 2 := by decide
  have z3 : (Str.ofString ")").length = 1 := by decide
  have hs' : 1000 ≤ sizeLine := by decide
  have e1 : (Str.empty ++ Str.ofString "Stretch(" ++ showI x).length = 8 + (showI x).length := by rw [Mt.len_app, z1]
  have e2 : (Str.empty ++ Str.ofString "Stretch(" ++ showI x ++ Str.ofString ", ").length = 8 + (showI x).length + 2 := by rw [Mt.len_app, e1, z2]
  have e3 : (Str.empty ++ Str.ofString "Stretch(" ++ showI x ++ Str.ofString ", " ++ showI y).length = 8 + (showI x).length + 2 + (showI y).length := by rw [Mt.len_app, e2]
  refine ⟨by omega, l2 x hx0 hx1, by omega, by omega, l2 y hy0 hy1, by omega, by rw [Mt.len_app, e3, z3]; omega, h⟩
theorem stS_ok {l h t n k m : Int} {R : List Rdg} : PyData.strOk (stS l h t n k R m) = true := by
  unfold stS standS
  split
  · decide +kernel
  · split
    · decide +kernel
    · split <;> decide +kernel
theorem und_pc {N : Nat} {C : Addr} : ∀ {ps : List Pc}, D.unders N (ps.map (pcD C)) = true
  | [] => by simp [D.unders]
  | p :: ps => by simp [D.unders, D.under, und_pc (ps := ps)]
theorem rf_Gauge_stands (T : Txt K mg a) : ∀ ds S q, D.unders S.length ds = true → Sto.under S.length S = true → sp_Gauge_stands a ds S q → g_Gauge_stands K a { nx := fun _ S' => fin S.length q .non S', rt := fin S.length q } (startD N_Gauge_stands ds) S := by
  rintro ds S q hu hs ⟨l, h, t, n, k, R, f, b, rfl, hR, hfb, hq⟩
  rw [st_Gauge_stands]
  simp only [g_Gauge_stands, T.f_Gauge_top, fg_top, ↓x_eqSS, ↓x_neSS, ↓gKGet, ↓x_kget, ↓x_ixE, at_last, ↓x_appE, ↓x_tyE, ↓x_itE, ↓x_lenE, ↓x_nePr, ↓x_eqPr, ↓x_neE, ↓x_lenr, ↓x_lenrI, ↓gRev, ↓x_par3, ↓x_par33, ↓x_fld, ↓x_fset, ↓x_mkF, ↓x_mk, ↓x_meth, ↓x_fldO, ↓x_fsetE, ↓x_fldE, ↓x_methO, ↓x_isiCO, ↓x_isiCN, ↓x_isiCT, ↓x_isiCLi, ↓x_isiCS, ↓x_isiCI, ↓x_own, ↓x_eqT2, ↓x_neT2, ↓x_neL4, ↓x_eqLN, ↓x_neNil, ↓x_gset, ↓x_lc, ↓x_for, ↓x_it, ↓x_rn1, ↓x_rn2, ↓x_enu, ↓x_zip, ↓x_itS, ↓x_itL, ↓x_itK, ↓x_itT, ↓x_rn1I, ↓x_rn2I, ↓x_enuL, ↓x_enuK, ↓x_zipL, ↓x_ixS0, ↓x_ixL, ↓x_ixT, ↓x_ixK, x_at0, x_at1, x_at2, x_at3, x_at4, ↓x_set00, ↓x_set01, ↓x_set02, ↓x_aug1, ↓x_aug2, ↓x_aug3, ↓x_aug4, ↓x_aug5, ↓x_aug6, ↓x_aug7, ↓x_aug8, ↓x_aug9, ↓x_aug10, ↓x_aug11, ↓x_aug12, ↓x_aug13, ↓x_aug14, ↓x_aug15, ↓x_aug16, ↓x_aug17, ↓x_aug18, ↓x_aug19, ↓x_aug20, ↓x_aug21, ↓x_aug22, ↓x_aug23, Int.reduceToNat, Int.reducePow, ↓gSeq, ↓gIfS, ↓gSet, ↓gAsg, ↓x_par, ↓x_par2, ↓gRet, ↓gRetN, ↓gNext, ↓gDrop, ↓gBreak, ↓gCont, ↓gDead, ↓gCB, ↓gB2, ↓gU, ↓gC, ↓Dl.gCons, ↓Dl.gNil, ↓Dl.gTup, ↓Dl.gLst, ↓gTest, ↓gOrB, ↓gAndB, ↓gNotB, ↓gAndV, ↓gOrV, ↓gNotV, ↓gIf, ↓gIx, ↓gSl, ↓gPart, ↓gNoP, ↓gMt, ↓gCall, ↓gArgs, ↓gIsN, ↓gNotN, ↓gChain, ↓x_fmtS, ↓x_afS, ↓x_afI, ↓x_js0, ↓x_jsc, ↓gJoined, ↓gYes, ↓x_bnm, ↓x_btp, ↓x_bn, ↓x_bc, ↓x_nnN, ↓x_nnI, ↓x_nnS, ↓x_nnB, ↓x_nnT, ↓x_nnL, ↓x_nnO, ↓x_nnl, ↓x_tyS, ↓x_tyL, ↓x_i2, ↓aSub, ↓aFdiv, ↓aMod, ↓aPow, ↓aShr, ↓aLt, ↓aLe, ↓aGt, ↓aGe, ↓x_addI, ↓x_addS, ↓x_mulI, ↓x_iaddS, ↓x_iaddI, ↓x_neg, ↓x_eqI, ↓x_neI, ↓x_eqS, ↓x_neS, ↓x_eqB, ↓x_neB, ↓x_eqNI, ↓x_neNI, ↓x_lenS, ↓x_lenL_l, ↓x_lenL_k, ↓x_lenL_t, ↓x_str, ↓x_intI, ↓x_intB, ↓x_divmod, ↓x_max2, ↓x_min2, ↓x_ixS, ↓x_slS, ↓x_slT, ↓x_slL_l, ↓x_slL_k, ↓x_inS, ↓x_newT, ↓x_newF, ↓x_si, ↓x_s1, ↓x_s0, ↓x_rpart, ↓x_part, ↓x_a1, ↓x_a2, ↓x_isiStr, ↓x_isiInt, ↓x_isiIntB, ↓x_isiIntS, ↓x_isiBB, ↓x_isiBI, ↓x_isiStrI, ↓x_isiNonI, ↓x_isiNonS, ↓x_isiT, ↓x_isiL, ↓x_var0, ↓x_varS, ↓x_ex, ↓x_aug0, gat, pick, Option.some.injEq, D.bl.injEq, D.int.injEq, D.str.injEq, D.tup.injEq, D.lst.injEq, List.cons.injEq, and_true, true_and, List.set_cons_zero, List.set_cons_succ, List.length_cons, List.length_nil, List.filterMap_cons, List.filterMap_nil, List.getElem?_cons_zero, List.getElem?_cons_succ, Option.bind_some, ↓reduceIte, if_true, if_false, Bool.false_eq_true, Bool.true_eq_false, decide_eq_true_eq, beq_self_eq_true, Bool.not_true, Bool.not_false, Bool.not_eq_true', decide_eq_false_iff_not, exists_eq_left', exists_eq_left, exists_eq, ↓x_dnT, ↓x_dnF, ↓gAsgL, ↓gMMDef, ↓gDSet, ↓gSItems, ↓x_nilL, ↓x_nilE, List.isEmpty_nil, List.isEmpty_cons, Bool.true_xor, Bool.false_xor, ↓gSortSet, ↓gOrT, ↓gAndT, ↓gTryAs, ↓gTryO, ↓gRaise, ↓gCallX, ↓gMethX, ↓gMakeX, ↓gFldX, ↓x_fmtRS, ↓x_afRS, ↓x_afRI, ↓x_stO]
  have hs' : 1000 ≤ sizeLine := by decide
  have aL1 : (arr l true R).length ≤ 400 := Nat.le_trans arr_len hR
  have aL0 : (arr 0 false R).length ≤ 400 := Nat.le_trans arr_len hR
  refine ⟨by decide, lc_un ?_⟩
  refine ⟨trivial, _, x_bnm, ?_⟩
  simp only [wipeD, ↓x_eqSS, ↓x_neSS, ↓gKGet, ↓x_kget, ↓x_ixE, at_last, ↓x_appE, ↓x_tyE, ↓x_itE, ↓x_lenE, ↓x_nePr, ↓x_eqPr, ↓x_neE, ↓x_lenr, ↓x_lenrI, ↓gRev, ↓x_par3, ↓x_par33, ↓x_fld, ↓x_fset, ↓x_mkF, ↓x_mk, ↓x_meth, ↓x_fldO, ↓x_fsetE, ↓x_fldE, ↓x_methO, ↓x_isiCO, ↓x_isiCN, ↓x_isiCT, ↓x_isiCLi, ↓x_isiCS, ↓x_isiCI, ↓x_own, ↓x_eqT2, ↓x_neT2, ↓x_neL4, ↓x_eqLN, ↓x_neNil, ↓x_gset, ↓x_lc, ↓x_for, ↓x_it, ↓x_rn1, ↓x_rn2, ↓x_enu, ↓x_zip, ↓x_itS, ↓x_itL, ↓x_itK, ↓x_itT, ↓x_rn1I, ↓x_rn2I, ↓x_enuL, ↓x_enuK, ↓x_zipL, ↓x_ixS0, ↓x_ixL, ↓x_ixT, ↓x_ixK, x_at0, x_at1, x_at2, x_at3, x_at4, ↓x_set00, ↓x_set01, ↓x_set02, ↓x_aug1, ↓x_aug2, ↓x_aug3, ↓x_aug4, ↓x_aug5, ↓x_aug6, ↓x_aug7, ↓x_aug8, ↓x_aug9, ↓x_aug10, ↓x_aug11, ↓x_aug12, ↓x_aug13, ↓x_aug14, ↓x_aug15, ↓x_aug16, ↓x_aug17, ↓x_aug18, ↓x_aug19, ↓x_aug20, ↓x_aug21, ↓x_aug22, ↓x_aug23, Int.reduceToNat, Int.reducePow, ↓gSeq, ↓gIfS, ↓gSet, ↓gAsg, ↓x_par, ↓x_par2, ↓gRet, ↓gRetN, ↓gNext, ↓gDrop, ↓gBreak, ↓gCont, ↓gDead, ↓gCB, ↓gB2, ↓gU, ↓gC, ↓Dl.gCons, ↓Dl.gNil, ↓Dl.gTup, ↓Dl.gLst, ↓gTest, ↓gOrB, ↓gAndB, ↓gNotB, ↓gAndV, ↓gOrV, ↓gNotV, ↓gIf, ↓gIx, ↓gSl, ↓gPart, ↓gNoP, ↓gMt, ↓gCall, ↓gArgs, ↓gIsN, ↓gNotN, ↓gChain, ↓x_fmtS, ↓x_afS, ↓x_afI, ↓x_js0, ↓x_jsc, ↓gJoined, ↓gYes, ↓x_bnm, ↓x_btp, ↓x_bn, ↓x_bc, ↓x_nnN, ↓x_nnI, ↓x_nnS, ↓x_nnB, ↓x_nnT, ↓x_nnL, ↓x_nnO, ↓x_nnl, ↓x_tyS, ↓x_tyL, ↓x_i2, ↓aSub, ↓aFdiv, ↓aMod, ↓aPow, ↓aShr, ↓aLt, ↓aLe, ↓aGt, ↓aGe, ↓x_addI, ↓x_addS, ↓x_mulI, ↓x_iaddS, ↓x_iaddI, ↓x_neg, ↓x_eqI, ↓x_neI, ↓x_eqS, ↓x_neS, ↓x_eqB, ↓x_neB, ↓x_eqNI, ↓x_neNI, ↓x_lenS, ↓x_lenL_l, ↓x_lenL_k, ↓x_lenL_t, ↓x_str, ↓x_intI, ↓x_intB, ↓x_divmod, ↓x_max2, ↓x_min2, ↓x_ixS, ↓x_slS, ↓x_slT, ↓x_slL_l, ↓x_slL_k, ↓x_inS, ↓x_newT, ↓x_newF, ↓x_si, ↓x_s1, ↓x_s0, ↓x_rpart, ↓x_part, ↓x_a1, ↓x_a2, ↓x_isiStr, ↓x_isiInt, ↓x_isiIntB, ↓x_isiIntS, ↓x_isiBB, ↓x_isiBI, ↓x_isiStrI, ↓x_isiNonI, ↓x_isiNonS, ↓x_isiT, ↓x_isiL, ↓x_var0, ↓x_varS, ↓x_ex, ↓x_aug0, gat, pick, Option.some.injEq, D.bl.injEq, D.int.injEq, D.str.injEq, D.tup.injEq, D.lst.injEq, List.cons.injEq, and_true, true_and, List.set_cons_zero, List.set_cons_succ, List.length_cons, List.length_nil, List.filterMap_cons, List.filterMap_nil, List.getElem?_cons_zero, List.getElem?_cons_succ, Option.bind_some, ↓reduceIte, if_true, if_false, Bool.false_eq_true, Bool.true_eq_false, decide_eq_true_eq, beq_self_eq_true, Bool.not_true, Bool.not_false, Bool.not_eq_true', decide_eq_false_iff_not, exists_eq_left', exists_eq_left, exists_eq, ↓x_dnT, ↓x_dnF, ↓gAsgL, ↓gMMDef, ↓gDSet, ↓gSItems, ↓x_nilL, ↓x_nilE, List.isEmpty_nil, List.isEmpty_cons, Bool.true_xor, Bool.false_xor, ↓gSortSet, ↓gOrT, ↓gAndT, ↓gTryAs, ↓gTryO, ↓gRaise, ↓gCallX, ↓gMethX, ↓gMakeX, ↓gFldX, ↓x_fmtRS, ↓x_afRS, ↓x_afRI, ↓x_stO]
  refine (x_methO (by decide +kernel)).mpr ⟨l, h, t, n, k, R, true, rfl, hR, by decide, trivial, _, x_bnm, ?_⟩
  simp only [wipeD, ↓x_eqSS, ↓x_neSS, ↓gKGet, ↓x_kget, ↓x_ixE, at_last, ↓x_appE, ↓x_tyE, ↓x_itE, ↓x_lenE, ↓x_nePr, ↓x_eqPr, ↓x_neE, ↓x_lenr, ↓x_lenrI, ↓gRev, ↓x_par3, ↓x_par33, ↓x_fld, ↓x_fset, ↓x_mkF, ↓x_mk, ↓x_meth, ↓x_fldO, ↓x_fsetE, ↓x_fldE, ↓x_methO, ↓x_isiCO, ↓x_isiCN, ↓x_isiCT, ↓x_isiCLi, ↓x_isiCS, ↓x_isiCI, ↓x_own, ↓x_eqT2, ↓x_neT2, ↓x_neL4, ↓x_eqLN, ↓x_neNil, ↓x_gset, ↓x_lc, ↓x_for, ↓x_it, ↓x_rn1, ↓x_rn2, ↓x_enu, ↓x_zip, ↓x_itS, ↓x_itL, ↓x_itK, ↓x_itT, ↓x_rn1I, ↓x_rn2I, ↓x_enuL, ↓x_enuK, ↓x_zipL, ↓x_ixS0, ↓x_ixL, ↓x_ixT, ↓x_ixK, x_at0, x_at1, x_at2, x_at3, x_at4, ↓x_set00, ↓x_set01, ↓x_set02, ↓x_aug1, ↓x_aug2, ↓x_aug3, ↓x_aug4, ↓x_aug5, ↓x_aug6, ↓x_aug7, ↓x_aug8, ↓x_aug9, ↓x_aug10, ↓x_aug11, ↓x_aug12, ↓x_aug13, ↓x_aug14, ↓x_aug15, ↓x_aug16, ↓x_aug17, ↓x_aug18, ↓x_aug19, ↓x_aug20, ↓x_aug21, ↓x_aug22, ↓x_aug23, Int.reduceToNat, Int.reducePow, ↓gSeq, ↓gIfS, ↓gSet, ↓gAsg, ↓x_par, ↓x_par2, ↓gRet, ↓gRetN, ↓gNext, ↓gDrop, ↓gBreak, ↓gCont, ↓gDead, ↓gCB, ↓gB2, ↓gU, ↓gC, ↓Dl.gCons, ↓Dl.gNil, ↓Dl.gTup, ↓Dl.gLst, ↓gTest, ↓gOrB, ↓gAndB, ↓gNotB, ↓gAndV, ↓gOrV, ↓gNotV, ↓gIf, ↓gIx, ↓gSl, ↓gPart, ↓gNoP, ↓gMt, ↓gCall, ↓gArgs, ↓gIsN, ↓gNotN, ↓gChain, ↓x_fmtS, ↓x_afS, ↓x_afI, ↓x_js0, ↓x_jsc, ↓gJoined, ↓gYes, ↓x_bnm, ↓x_btp, ↓x_bn, ↓x_bc, ↓x_nnN, ↓x_nnI, ↓x_nnS, ↓x_nnB, ↓x_nnT, ↓x_nnL, ↓x_nnO, ↓x_nnl, ↓x_tyS, ↓x_tyL, ↓x_i2, ↓aSub, ↓aFdiv, ↓aMod, ↓aPow, ↓aShr, ↓aLt, ↓aLe, ↓aGt, ↓aGe, ↓x_addI, ↓x_addS, ↓x_mulI, ↓x_iaddS, ↓x_iaddI, ↓x_neg, ↓x_eqI, ↓x_neI, ↓x_eqS, ↓x_neS, ↓x_eqB, ↓x_neB, ↓x_eqNI, ↓x_neNI, ↓x_lenS, ↓x_lenL_l, ↓x_lenL_k, ↓x_lenL_t, ↓x_str, ↓x_intI, ↓x_intB, ↓x_divmod, ↓x_max2, ↓x_min2, ↓x_ixS, ↓x_slS, ↓x_slT, ↓x_slL_l, ↓x_slL_k, ↓x_inS, ↓x_newT, ↓x_newF, ↓x_si, ↓x_s1, ↓x_s0, ↓x_rpart, ↓x_part, ↓x_a1, ↓x_a2, ↓x_isiStr, ↓x_isiInt, ↓x_isiIntB, ↓x_isiIntS, ↓x_isiBB, ↓x_isiBI, ↓x_isiStrI, ↓x_isiNonI, ↓x_isiNonS, ↓x_isiT, ↓x_isiL, ↓x_var0, ↓x_varS, ↓x_ex, ↓x_aug0, gat, pick, Option.some.injEq, D.bl.injEq, D.int.injEq, D.str.injEq, D.tup.injEq, D.lst.injEq, List.cons.injEq, and_true, true_and, List.set_cons_zero, List.set_cons_succ, List.length_cons, List.length_nil, List.filterMap_cons, List.filterMap_nil, List.getElem?_cons_zero, List.getElem?_cons_succ, Option.bind_some, ↓reduceIte, if_true, if_false, Bool.false_eq_true, Bool.true_eq_false, decide_eq_true_eq, beq_self_eq_true, Bool.not_true, Bool.not_false, Bool.not_eq_true', decide_eq_false_iff_not, exists_eq_left', exists_eq_left, exists_eq, ↓x_dnT, ↓x_dnF, ↓gAsgL, ↓gMMDef, ↓gDSet, ↓gSItems, ↓x_nilL, ↓x_nilE, List.isEmpty_nil, List.isEmpty_cons, Bool.true_xor, Bool.false_xor, ↓gSortSet, ↓gOrT, ↓gAndT, ↓gTryAs, ↓gTryO, ↓gRaise, ↓gCallX, ↓gMethX, ↓gMakeX, ↓gFldX, ↓x_fmtRS, ↓x_afRS, ↓x_afRI, ↓x_stO]
  refine (x_methO (by decide +kernel)).mpr ⟨l, h, t, n, k, R, false, rfl, hR, by simp; omega, trivial, ?_⟩
  rw [List.nil_append, x_newT]
  simp only [List.singleton_append, T.f_Stretch_first, T.f_Stretch_behind, ↓Mt.stD, Mt.fg_first, Mt.fg_behind, ↓x_eqSS, ↓x_neSS, ↓gKGet, ↓x_kget, ↓x_ixE, at_last, ↓x_appE, ↓x_tyE, ↓x_itE, ↓x_lenE, ↓x_nePr, ↓x_eqPr, ↓x_neE, ↓x_lenr, ↓x_lenrI, ↓gRev, ↓x_par3, ↓x_par33, ↓x_fld, ↓x_fset, ↓x_mkF, ↓x_mk, ↓x_meth, ↓x_fldO, ↓x_fsetE, ↓x_fldE, ↓x_methO, ↓x_isiCO, ↓x_isiCN, ↓x_isiCT, ↓x_isiCLi, ↓x_isiCS, ↓x_isiCI, ↓x_own, ↓x_eqT2, ↓x_neT2, ↓x_neL4, ↓x_eqLN, ↓x_neNil, ↓x_gset, ↓x_lc, ↓x_for, ↓x_it, ↓x_rn1, ↓x_rn2, ↓x_enu, ↓x_zip, ↓x_itS, ↓x_itL, ↓x_itK, ↓x_itT, ↓x_rn1I, ↓x_rn2I, ↓x_enuL, ↓x_enuK, ↓x_zipL, ↓x_ixS0, ↓x_ixL, ↓x_ixT, ↓x_ixK, x_at0, x_at1, x_at2, x_at3, x_at4, ↓x_set00, ↓x_set01, ↓x_set02, ↓x_aug1, ↓x_aug2, ↓x_aug3, ↓x_aug4, ↓x_aug5, ↓x_aug6, ↓x_aug7, ↓x_aug8, ↓x_aug9, ↓x_aug10, ↓x_aug11, ↓x_aug12, ↓x_aug13, ↓x_aug14, ↓x_aug15, ↓x_aug16, ↓x_aug17, ↓x_aug18, ↓x_aug19, ↓x_aug20, ↓x_aug21, ↓x_aug22, ↓x_aug23, Int.reduceToNat, Int.reducePow, ↓gSeq, ↓gIfS, ↓gSet, ↓gAsg, ↓x_par, ↓x_par2, ↓gRet, ↓gRetN, ↓gNext, ↓gDrop, ↓gBreak, ↓gCont, ↓gDead, ↓gCB, ↓gB2, ↓gU, ↓gC, ↓Dl.gCons, ↓Dl.gNil, ↓Dl.gTup, ↓Dl.gLst, ↓gTest, ↓gOrB, ↓gAndB, ↓gNotB, ↓gAndV, ↓gOrV, ↓gNotV, ↓gIf, ↓gIx, ↓gSl, ↓gPart, ↓gNoP, ↓gMt, ↓gCall, ↓gArgs, ↓gIsN, ↓gNotN, ↓gChain, ↓x_fmtS, ↓x_afS, ↓x_afI, ↓x_js0, ↓x_jsc, ↓gJoined, ↓gYes, ↓x_bnm, ↓x_btp, ↓x_bn, ↓x_bc, ↓x_nnN, ↓x_nnI, ↓x_nnS, ↓x_nnB, ↓x_nnT, ↓x_nnL, ↓x_nnO, ↓x_nnl, ↓x_tyS, ↓x_tyL, ↓x_i2, ↓aSub, ↓aFdiv, ↓aMod, ↓aPow, ↓aShr, ↓aLt, ↓aLe, ↓aGt, ↓aGe, ↓x_addI, ↓x_addS, ↓x_mulI, ↓x_iaddS, ↓x_iaddI, ↓x_neg, ↓x_eqI, ↓x_neI, ↓x_eqS, ↓x_neS, ↓x_eqB, ↓x_neB, ↓x_eqNI, ↓x_neNI, ↓x_lenS, ↓x_lenL_l, ↓x_lenL_k, ↓x_lenL_t, ↓x_str, ↓x_intI, ↓x_intB, ↓x_divmod, ↓x_max2, ↓x_min2, ↓x_ixS, ↓x_slS, ↓x_slT, ↓x_slL_l, ↓x_slL_k, ↓x_inS, ↓x_newT, ↓x_newF, ↓x_si, ↓x_s1, ↓x_s0, ↓x_rpart, ↓x_part, ↓x_a1, ↓x_a2, ↓x_isiStr, ↓x_isiInt, ↓x_isiIntB, ↓x_isiIntS, ↓x_isiBB, ↓x_isiBI, ↓x_isiStrI, ↓x_isiNonI, ↓x_isiNonS, ↓x_isiT, ↓x_isiL, ↓x_var0, ↓x_varS, ↓x_ex, ↓x_aug0, gat, pick, Option.some.injEq, D.bl.injEq, D.int.injEq, D.str.injEq, D.tup.injEq, D.lst.injEq, List.cons.injEq, and_true, true_and, List.set_cons_zero, List.set_cons_succ, List.length_cons, List.length_nil, List.filterMap_cons, List.filterMap_nil, List.getElem?_cons_zero, List.getElem?_cons_succ, Option.bind_some, ↓reduceIte, if_true, if_false, Bool.false_eq_true, Bool.true_eq_false, decide_eq_true_eq, beq_self_eq_true, Bool.not_true, Bool.not_false, Bool.not_eq_true', decide_eq_false_iff_not, exists_eq_left', exists_eq_left, exists_eq, ↓x_dnT, ↓x_dnF, ↓gAsgL, ↓gMMDef, ↓gDSet, ↓gSItems, ↓x_nilL, ↓x_nilE, List.isEmpty_nil, List.isEmpty_cons, Bool.true_xor, Bool.false_xor, ↓gSortSet, ↓gOrT, ↓gAndT, ↓gTryAs, ↓gTryO, ↓gRaise, ↓gCallX, ↓gMethX, ↓gMakeX, ↓gFldX, ↓x_fmtRS, ↓x_afRS, ↓x_afRI, ↓x_stO]
  refine x_addLL.mpr ⟨by simp; omega, ?_⟩
  rw [x_newT, ← List.map_append]
  simp only [T.f_Stretch_first, T.f_Stretch_behind, ↓Mt.stD, Mt.fg_first, Mt.fg_behind, ↓x_eqSS, ↓x_neSS, ↓gKGet, ↓x_kget, ↓x_ixE, at_last, ↓x_appE, ↓x_tyE, ↓x_itE, ↓x_lenE, ↓x_nePr, ↓x_eqPr, ↓x_neE, ↓x_lenr, ↓x_lenrI, ↓gRev, ↓x_par3, ↓x_par33, ↓x_fld, ↓x_fset, ↓x_mkF, ↓x_mk, ↓x_meth, ↓x_fldO, ↓x_fsetE, ↓x_fldE, ↓x_methO, ↓x_isiCO, ↓x_isiCN, ↓x_isiCT, ↓x_isiCLi, ↓x_isiCS, ↓x_isiCI, ↓x_own, ↓x_eqT2, ↓x_neT2, ↓x_neL4, ↓x_eqLN, ↓x_neNil, ↓x_gset, ↓x_lc, ↓x_for, ↓x_it, ↓x_rn1, ↓x_rn2, ↓x_enu, ↓x_zip, ↓x_itS, ↓x_itL, ↓x_itK, ↓x_itT, ↓x_rn1I, ↓x_rn2I, ↓x_enuL, ↓x_enuK, ↓x_zipL, ↓x_ixS0, ↓x_ixL, ↓x_ixT, ↓x_ixK, x_at0, x_at1, x_at2, x_at3, x_at4, ↓x_set00, ↓x_set01, ↓x_set02, ↓x_aug1, ↓x_aug2, ↓x_aug3, ↓x_aug4, ↓x_aug5, ↓x_aug6, ↓x_aug7, ↓x_aug8, ↓x_aug9, ↓x_aug10, ↓x_aug11, ↓x_aug12, ↓x_aug13, ↓x_aug14, ↓x_aug15, ↓x_aug16, ↓x_aug17, ↓x_aug18, ↓x_aug19, ↓x_aug20, ↓x_aug21, ↓x_aug22, ↓x_aug23, Int.reduceToNat, Int.reducePow, ↓gSeq, ↓gIfS, ↓gSet, ↓gAsg, ↓x_par, ↓x_par2, ↓gRet, ↓gRetN, ↓gNext, ↓gDrop, ↓gBreak, ↓gCont, ↓gDead, ↓gCB, ↓gB2, ↓gU, ↓gC, ↓Dl.gCons, ↓Dl.gNil, ↓Dl.gTup, ↓Dl.gLst, ↓gTest, ↓gOrB, ↓gAndB, ↓gNotB, ↓gAndV, ↓gOrV, ↓gNotV, ↓gIf, ↓gIx, ↓gSl, ↓gPart, ↓gNoP, ↓gMt, ↓gCall, ↓gArgs, ↓gIsN, ↓gNotN, ↓gChain, ↓x_fmtS, ↓x_afS, ↓x_afI, ↓x_js0, ↓x_jsc, ↓gJoined, ↓gYes, ↓x_bnm, ↓x_btp, ↓x_bn, ↓x_bc, ↓x_nnN, ↓x_nnI, ↓x_nnS, ↓x_nnB, ↓x_nnT, ↓x_nnL, ↓x_nnO, ↓x_nnl, ↓x_tyS, ↓x_tyL, ↓x_i2, ↓aSub, ↓aFdiv, ↓aMod, ↓aPow, ↓aShr, ↓aLt, ↓aLe, ↓aGt, ↓aGe, ↓x_addI, ↓x_addS, ↓x_mulI, ↓x_iaddS, ↓x_iaddI, ↓x_neg, ↓x_eqI, ↓x_neI, ↓x_eqS, ↓x_neS, ↓x_eqB, ↓x_neB, ↓x_eqNI, ↓x_neNI, ↓x_lenS, ↓x_lenL_l, ↓x_lenL_k, ↓x_lenL_t, ↓x_str, ↓x_intI, ↓x_intB, ↓x_divmod, ↓x_max2, ↓x_min2, ↓x_ixS, ↓x_slS, ↓x_slT, ↓x_slL_l, ↓x_slL_k, ↓x_inS, ↓x_newT, ↓x_newF, ↓x_si, ↓x_s1, ↓x_s0, ↓x_rpart, ↓x_part, ↓x_a1, ↓x_a2, ↓x_isiStr, ↓x_isiInt, ↓x_isiIntB, ↓x_isiIntS, ↓x_isiBB, ↓x_isiBI, ↓x_isiStrI, ↓x_isiNonI, ↓x_isiNonS, ↓x_isiT, ↓x_isiL, ↓x_var0, ↓x_varS, ↓x_ex, ↓x_aug0, gat, pick, Option.some.injEq, D.bl.injEq, D.int.injEq, D.str.injEq, D.tup.injEq, D.lst.injEq, List.cons.injEq, and_true, true_and, List.set_cons_zero, List.set_cons_succ, List.length_cons, List.length_nil, List.filterMap_cons, List.filterMap_nil, List.getElem?_cons_zero, List.getElem?_cons_succ, Option.bind_some, ↓reduceIte, if_true, if_false, Bool.false_eq_true, Bool.true_eq_false, decide_eq_true_eq, beq_self_eq_true, Bool.not_true, Bool.not_false, Bool.not_eq_true', decide_eq_false_iff_not, exists_eq_left', exists_eq_left, exists_eq, ↓x_dnT, ↓x_dnF, ↓gAsgL, ↓gMMDef, ↓gDSet, ↓gSItems, ↓x_nilL, ↓x_nilE, List.isEmpty_nil, List.isEmpty_cons, Bool.true_xor, Bool.false_xor, ↓gSortSet, ↓gOrT, ↓gAndT, ↓gTryAs, ↓gTryO, ↓gRaise, ↓gCallX, ↓gMethX, ↓gMakeX, ↓gFldX, ↓x_fmtRS, ↓x_afRS, ↓x_afRI, ↓x_stO]
  refine lc_on (fun p : Pr => if f < p.1 ∧ p.1 < b then some (D.int p.1) else none) trivial (by rw [List.length_append]; omega) (fun x hx acc R' hac hR' => ⟨_, x_bnm, ?_⟩) ?_
  · simp only [wipeD, T.f_Stretch_first, T.f_Stretch_behind, ↓Mt.stD, Mt.fg_first, Mt.fg_behind, ↓x_eqSS, ↓x_neSS, ↓gKGet, ↓x_kget, ↓x_ixE, at_last, ↓x_appE, ↓x_tyE, ↓x_itE, ↓x_lenE, ↓x_nePr, ↓x_eqPr, ↓x_neE, ↓x_lenr, ↓x_lenrI, ↓gRev, ↓x_par3, ↓x_par33, ↓x_fld, ↓x_fset, ↓x_mkF, ↓x_mk, ↓x_meth, ↓x_fldO, ↓x_fsetE, ↓x_fldE, ↓x_methO, ↓x_isiCO, ↓x_isiCN, ↓x_isiCT, ↓x_isiCLi, ↓x_isiCS, ↓x_isiCI, ↓x_own, ↓x_eqT2, ↓x_neT2, ↓x_neL4, ↓x_eqLN, ↓x_neNil, ↓x_gset, ↓x_lc, ↓x_for, ↓x_it, ↓x_rn1, ↓x_rn2, ↓x_enu, ↓x_zip, ↓x_itS, ↓x_itL, ↓x_itK, ↓x_itT, ↓x_rn1I, ↓x_rn2I, ↓x_enuL, ↓x_enuK, ↓x_zipL, ↓x_ixS0, ↓x_ixL, ↓x_ixT, ↓x_ixK, x_at0, x_at1, x_at2, x_at3, x_at4, ↓x_set00, ↓x_set01, ↓x_set02, ↓x_aug1, ↓x_aug2, ↓x_aug3, ↓x_aug4, ↓x_aug5, ↓x_aug6, ↓x_aug7, ↓x_aug8, ↓x_aug9, ↓x_aug10, ↓x_aug11, ↓x_aug12, ↓x_aug13, ↓x_aug14, ↓x_aug15, ↓x_aug16, ↓x_aug17, ↓x_aug18, ↓x_aug19, ↓x_aug20, ↓x_aug21, ↓x_aug22, ↓x_aug23, Int.reduceToNat, Int.reducePow, ↓gSeq, ↓gIfS, ↓gSet, ↓gAsg, ↓x_par, ↓x_par2, ↓gRet, ↓gRetN, ↓gNext, ↓gDrop, ↓gBreak, ↓gCont, ↓gDead, ↓gCB, ↓gB2, ↓gU, ↓gC, ↓Dl.gCons, ↓Dl.gNil, ↓Dl.gTup, ↓Dl.gLst, ↓gTest, ↓gOrB, ↓gAndB, ↓gNotB, ↓gAndV, ↓gOrV, ↓gNotV, ↓gIf, ↓gIx, ↓gSl, ↓gPart, ↓gNoP, ↓gMt, ↓gCall, ↓gArgs, ↓gIsN, ↓gNotN, ↓gChain, ↓x_fmtS, ↓x_afS, ↓x_afI, ↓x_js0, ↓x_jsc, ↓gJoined, ↓gYes, ↓x_bnm, ↓x_btp, ↓x_bn, ↓x_bc, ↓x_nnN, ↓x_nnI, ↓x_nnS, ↓x_nnB, ↓x_nnT, ↓x_nnL, ↓x_nnO, ↓x_nnl, ↓x_tyS, ↓x_tyL, ↓x_i2, ↓aSub, ↓aFdiv, ↓aMod, ↓aPow, ↓aShr, ↓aLt, ↓aLe, ↓aGt, ↓aGe, ↓x_addI, ↓x_addS, ↓x_mulI, ↓x_iaddS, ↓x_iaddI, ↓x_neg, ↓x_eqI, ↓x_neI, ↓x_eqS, ↓x_neS, ↓x_eqB, ↓x_neB, ↓x_eqNI, ↓x_neNI, ↓x_lenS, ↓x_lenL_l, ↓x_lenL_k, ↓x_lenL_t, ↓x_str, ↓x_intI, ↓x_intB, ↓x_divmod, ↓x_max2, ↓x_min2, ↓x_ixS, ↓x_slS, ↓x_slT, ↓x_slL_l, ↓x_slL_k, ↓x_inS, ↓x_newT, ↓x_newF, ↓x_si, ↓x_s1, ↓x_s0, ↓x_rpart, ↓x_part, ↓x_a1, ↓x_a2, ↓x_isiStr, ↓x_isiInt, ↓x_isiIntB, ↓x_isiIntS, ↓x_isiBB, ↓x_isiBI, ↓x_isiStrI, ↓x_isiNonI, ↓x_isiNonS, ↓x_isiT, ↓x_isiL, ↓x_var0, ↓x_varS, ↓x_ex, ↓x_aug0, gat, pick, Option.some.injEq, D.bl.injEq, D.int.injEq, D.str.injEq, D.tup.injEq, D.lst.injEq, List.cons.injEq, and_true, true_and, List.set_cons_zero, List.set_cons_succ, List.length_cons, List.length_nil, List.filterMap_cons, List.filterMap_nil, List.getElem?_cons_zero, List.getElem?_cons_succ, Option.bind_some, ↓reduceIte, if_true, if_false, Bool.false_eq_true, Bool.true_eq_false, decide_eq_true_eq, beq_self_eq_true, Bool.not_true, Bool.not_false, Bool.not_eq_true', decide_eq_false_iff_not, exists_eq_left', exists_eq_left, exists_eq, ↓x_dnT, ↓x_dnF, ↓gAsgL, ↓gMMDef, ↓gDSet, ↓gSItems, ↓x_nilL, ↓x_nilE, List.isEmpty_nil, List.isEmpty_cons, Bool.true_xor, Bool.false_xor, ↓gSortSet, ↓gOrT, ↓gAndT, ↓gTryAs, ↓gTryO, ↓gRaise, ↓gCallX, ↓gMethX, ↓gMakeX, ↓gFldX, ↓x_fmtRS, ↓x_afRS, ↓x_afRI, ↓x_stO]
    by_cases c1 : f < x.1
    · by_cases c2 : x.1 < b
      · rw [if_pos ⟨c1, c2⟩] at hR'
        simp only [if_pos c1, if_pos c2, decide_eq_true c1, decide_eq_true c2, ↓x_eqSS, ↓x_neSS, ↓gKGet, ↓x_kget, ↓x_ixE, at_last, ↓x_appE, ↓x_tyE, ↓x_itE, ↓x_lenE, ↓x_nePr, ↓x_eqPr, ↓x_neE, ↓x_lenr, ↓x_lenrI, ↓gRev, ↓x_par3, ↓x_par33, ↓x_fld, ↓x_fset, ↓x_mkF, ↓x_mk, ↓x_meth, ↓x_fldO, ↓x_fsetE, ↓x_fldE, ↓x_methO, ↓x_isiCO, ↓x_isiCN, ↓x_isiCT, ↓x_isiCLi, ↓x_isiCS, ↓x_isiCI, ↓x_own, ↓x_eqT2, ↓x_neT2, ↓x_neL4, ↓x_eqLN, ↓x_neNil, ↓x_gset, ↓x_lc, ↓x_for, ↓x_it, ↓x_rn1, ↓x_rn2, ↓x_enu, ↓x_zip, ↓x_itS, ↓x_itL, ↓x_itK, ↓x_itT, ↓x_rn1I, ↓x_rn2I, ↓x_enuL, ↓x_enuK, ↓x_zipL, ↓x_ixS0, ↓x_ixL, ↓x_ixT, ↓x_ixK, x_at0, x_at1, x_at2, x_at3, x_at4, ↓x_set00, ↓x_set01, ↓x_set02, ↓x_aug1, ↓x_aug2, ↓x_aug3, ↓x_aug4, ↓x_aug5, ↓x_aug6, ↓x_aug7, ↓x_aug8, ↓x_aug9, ↓x_aug10, ↓x_aug11, ↓x_aug12, ↓x_aug13, ↓x_aug14, ↓x_aug15, ↓x_aug16, ↓x_aug17, ↓x_aug18, ↓x_aug19, ↓x_aug20, ↓x_aug21, ↓x_aug22, ↓x_aug23, Int.reduceToNat, Int.reducePow, ↓gSeq, ↓gIfS, ↓gSet, ↓gAsg, ↓x_par, ↓x_par2, ↓gRet, ↓gRetN, ↓gNext, ↓gDrop, ↓gBreak, ↓gCont, ↓gDead, ↓gCB, ↓gB2, ↓gU, ↓gC, ↓Dl.gCons, ↓Dl.gNil, ↓Dl.gTup, ↓Dl.gLst, ↓gTest, ↓gOrB, ↓gAndB, ↓gNotB, ↓gAndV, ↓gOrV, ↓gNotV, ↓gIf, ↓gIx, ↓gSl, ↓gPart, ↓gNoP, ↓gMt, ↓gCall, ↓gArgs, ↓gIsN, ↓gNotN, ↓gChain, ↓x_fmtS, ↓x_afS, ↓x_afI, ↓x_js0, ↓x_jsc, ↓gJoined, ↓gYes, ↓x_bnm, ↓x_btp, ↓x_bn, ↓x_bc, ↓x_nnN, ↓x_nnI, ↓x_nnS, ↓x_nnB, ↓x_nnT, ↓x_nnL, ↓x_nnO, ↓x_nnl, ↓x_tyS, ↓x_tyL, ↓x_i2, ↓aSub, ↓aFdiv, ↓aMod, ↓aPow, ↓aShr, ↓aLt, ↓aLe, ↓aGt, ↓aGe, ↓x_addI, ↓x_addS, ↓x_mulI, ↓x_iaddS, ↓x_iaddI, ↓x_neg, ↓x_eqI, ↓x_neI, ↓x_eqS, ↓x_neS, ↓x_eqB, ↓x_neB, ↓x_eqNI, ↓x_neNI, ↓x_lenS, ↓x_lenL_l, ↓x_lenL_k, ↓x_lenL_t, ↓x_str, ↓x_intI, ↓x_intB, ↓x_divmod, ↓x_max2, ↓x_min2, ↓x_ixS, ↓x_slS, ↓x_slT, ↓x_slL_l, ↓x_slL_k, ↓x_inS, ↓x_newT, ↓x_newF, ↓x_si, ↓x_s1, ↓x_s0, ↓x_rpart, ↓x_part, ↓x_a1, ↓x_a2, ↓x_isiStr, ↓x_isiInt, ↓x_isiIntB, ↓x_isiIntS, ↓x_isiBB, ↓x_isiBI, ↓x_isiStrI, ↓x_isiNonI, ↓x_isiNonS, ↓x_isiT, ↓x_isiL, ↓x_var0, ↓x_varS, ↓x_ex, ↓x_aug0, gat, pick, Option.some.injEq, D.bl.injEq, D.int.injEq, D.str.injEq, D.tup.injEq, D.lst.injEq, List.cons.injEq, and_true, true_and, List.set_cons_zero, List.set_cons_succ, List.length_cons, List.length_nil, List.filterMap_cons, List.filterMap_nil, List.getElem?_cons_zero, List.getElem?_cons_succ, Option.bind_some, ↓reduceIte, if_true, if_false, Bool.false_eq_true, Bool.true_eq_false, decide_eq_true_eq, beq_self_eq_true, Bool.not_true, Bool.not_false, Bool.not_eq_true', decide_eq_false_iff_not, exists_eq_left', exists_eq_left, exists_eq, ↓x_dnT, ↓x_dnF, ↓gAsgL, ↓gMMDef, ↓gDSet, ↓gSItems, ↓x_nilL, ↓x_nilE, List.isEmpty_nil, List.isEmpty_cons, Bool.true_xor, Bool.false_xor, ↓gSortSet, ↓gOrT, ↓gAndT, ↓gTryAs, ↓gTryO, ↓gRaise, ↓gCallX, ↓gMethX, ↓gMakeX, ↓gFldX, ↓x_fmtRS, ↓x_afRS, ↓x_afRI, ↓x_stO]
        exact ⟨hac, hR'⟩
      · rw [if_neg (fun z => c2 z.2)] at hR'
        simp only [if_pos c1, if_neg c2, decide_eq_true c1, decide_eq_false c2, ↓x_eqSS, ↓x_neSS, ↓gKGet, ↓x_kget, ↓x_ixE, at_last, ↓x_appE, ↓x_tyE, ↓x_itE, ↓x_lenE, ↓x_nePr, ↓x_eqPr, ↓x_neE, ↓x_lenr, ↓x_lenrI, ↓gRev, ↓x_par3, ↓x_par33, ↓x_fld, ↓x_fset, ↓x_mkF, ↓x_mk, ↓x_meth, ↓x_fldO, ↓x_fsetE, ↓x_fldE, ↓x_methO, ↓x_isiCO, ↓x_isiCN, ↓x_isiCT, ↓x_isiCLi, ↓x_isiCS, ↓x_isiCI, ↓x_own, ↓x_eqT2, ↓x_neT2, ↓x_neL4, ↓x_eqLN, ↓x_neNil, ↓x_gset, ↓x_lc, ↓x_for, ↓x_it, ↓x_rn1, ↓x_rn2, ↓x_enu, ↓x_zip, ↓x_itS, ↓x_itL, ↓x_itK, ↓x_itT, ↓x_rn1I, ↓x_rn2I, ↓x_enuL, ↓x_enuK, ↓x_zipL, ↓x_ixS0, ↓x_ixL, ↓x_ixT, ↓x_ixK, x_at0, x_at1, x_at2, x_at3, x_at4, ↓x_set00, ↓x_set01, ↓x_set02, ↓x_aug1, ↓x_aug2, ↓x_aug3, ↓x_aug4, ↓x_aug5, ↓x_aug6, ↓x_aug7, ↓x_aug8, ↓x_aug9, ↓x_aug10, ↓x_aug11, ↓x_aug12, ↓x_aug13, ↓x_aug14, ↓x_aug15, ↓x_aug16, ↓x_aug17, ↓x_aug18, ↓x_aug19, ↓x_aug20, ↓x_aug21, ↓x_aug22, ↓x_aug23, Int.reduceToNat, Int.reducePow, ↓gSeq, ↓gIfS, ↓gSet, ↓gAsg, ↓x_par, ↓x_par2, ↓gRet, ↓gRetN, ↓gNext, ↓gDrop, ↓gBreak, ↓gCont, ↓gDead, ↓gCB, ↓gB2, ↓gU, ↓gC, ↓Dl.gCons, ↓Dl.gNil, ↓Dl.gTup, ↓Dl.gLst, ↓gTest, ↓gOrB, ↓gAndB, ↓gNotB, ↓gAndV, ↓gOrV, ↓gNotV, ↓gIf, ↓gIx, ↓gSl, ↓gPart, ↓gNoP, ↓gMt, ↓gCall, ↓gArgs, ↓gIsN, ↓gNotN, ↓gChain, ↓x_fmtS, ↓x_afS, ↓x_afI, ↓x_js0, ↓x_jsc, ↓gJoined, ↓gYes, ↓x_bnm, ↓x_btp, ↓x_bn, ↓x_bc, ↓x_nnN, ↓x_nnI, ↓x_nnS, ↓x_nnB, ↓x_nnT, ↓x_nnL, ↓x_nnO, ↓x_nnl, ↓x_tyS, ↓x_tyL, ↓x_i2, ↓aSub, ↓aFdiv, ↓aMod, ↓aPow, ↓aShr, ↓aLt, ↓aLe, ↓aGt, ↓aGe, ↓x_addI, ↓x_addS, ↓x_mulI, ↓x_iaddS, ↓x_iaddI, ↓x_neg, ↓x_eqI, ↓x_neI, ↓x_eqS, ↓x_neS, ↓x_eqB, ↓x_neB, ↓x_eqNI, ↓x_neNI, ↓x_lenS, ↓x_lenL_l, ↓x_lenL_k, ↓x_lenL_t, ↓x_str, ↓x_intI, ↓x_intB, ↓x_divmod, ↓x_max2, ↓x_min2, ↓x_ixS, ↓x_slS, ↓x_slT, ↓x_slL_l, ↓x_slL_k, ↓x_inS, ↓x_newT, ↓x_newF, ↓x_si, ↓x_s1, ↓x_s0, ↓x_rpart, ↓x_part, ↓x_a1, ↓x_a2, ↓x_isiStr, ↓x_isiInt, ↓x_isiIntB, ↓x_isiIntS, ↓x_isiBB, ↓x_isiBI, ↓x_isiStrI, ↓x_isiNonI, ↓x_isiNonS, ↓x_isiT, ↓x_isiL, ↓x_var0, ↓x_varS, ↓x_ex, ↓x_aug0, gat, pick, Option.some.injEq, D.bl.injEq, D.int.injEq, D.str.injEq, D.tup.injEq, D.lst.injEq, List.cons.injEq, and_true, true_and, List.set_cons_zero, List.set_cons_succ, List.length_cons, List.length_nil, List.filterMap_cons, List.filterMap_nil, List.getElem?_cons_zero, List.getElem?_cons_succ, Option.bind_some, ↓reduceIte, if_true, if_false, Bool.false_eq_true, Bool.true_eq_false, decide_eq_true_eq, beq_self_eq_true, Bool.not_true, Bool.not_false, Bool.not_eq_true', decide_eq_false_iff_not, exists_eq_left', exists_eq_left, exists_eq, ↓x_dnT, ↓x_dnF, ↓gAsgL, ↓gMMDef, ↓gDSet, ↓gSItems, ↓x_nilL, ↓x_nilE, List.isEmpty_nil, List.isEmpty_cons, Bool.true_xor, Bool.false_xor, ↓gSortSet, ↓gOrT, ↓gAndT, ↓gTryAs, ↓gTryO, ↓gRaise, ↓gCallX, ↓gMethX, ↓gMakeX, ↓gFldX, ↓x_fmtRS, ↓x_afRS, ↓x_afRI, ↓x_stO]
        simpa using hR'
    · rw [if_neg (fun z => c1 z.1)] at hR'
      simp only [if_neg c1, decide_eq_false c1, ↓x_eqSS, ↓x_neSS, ↓gKGet, ↓x_kget, ↓x_ixE, at_last, ↓x_appE, ↓x_tyE, ↓x_itE, ↓x_lenE, ↓x_nePr, ↓x_eqPr, ↓x_neE, ↓x_lenr, ↓x_lenrI, ↓gRev, ↓x_par3, ↓x_par33, ↓x_fld, ↓x_fset, ↓x_mkF, ↓x_mk, ↓x_meth, ↓x_fldO, ↓x_fsetE, ↓x_fldE, ↓x_methO, ↓x_isiCO, ↓x_isiCN, ↓x_isiCT, ↓x_isiCLi, ↓x_isiCS, ↓x_isiCI, ↓x_own, ↓x_eqT2, ↓x_neT2, ↓x_neL4, ↓x_eqLN, ↓x_neNil, ↓x_gset, ↓x_lc, ↓x_for, ↓x_it, ↓x_rn1, ↓x_rn2, ↓x_enu, ↓x_zip, ↓x_itS, ↓x_itL, ↓x_itK, ↓x_itT, ↓x_rn1I, ↓x_rn2I, ↓x_enuL, ↓x_enuK, ↓x_zipL, ↓x_ixS0, ↓x_ixL, ↓x_ixT, ↓x_ixK, x_at0, x_at1, x_at2, x_at3, x_at4, ↓x_set00, ↓x_set01, ↓x_set02, ↓x_aug1, ↓x_aug2, ↓x_aug3, ↓x_aug4, ↓x_aug5, ↓x_aug6, ↓x_aug7, ↓x_aug8, ↓x_aug9, ↓x_aug10, ↓x_aug11, ↓x_aug12, ↓x_aug13, ↓x_aug14, ↓x_aug15, ↓x_aug16, ↓x_aug17, ↓x_aug18, ↓x_aug19, ↓x_aug20, ↓x_aug21, ↓x_aug22, ↓x_aug23, Int.reduceToNat, Int.reducePow, ↓gSeq, ↓gIfS, ↓gSet, ↓gAsg, ↓x_par, ↓x_par2, ↓gRet, ↓gRetN, ↓gNext, ↓gDrop, ↓gBreak, ↓gCont, ↓gDead, ↓gCB, ↓gB2, ↓gU, ↓gC, ↓Dl.gCons, ↓Dl.gNil, ↓Dl.gTup, ↓Dl.gLst, ↓gTest, ↓gOrB, ↓gAndB, ↓gNotB, ↓gAndV, ↓gOrV, ↓gNotV, ↓gIf, ↓gIx, ↓gSl, ↓gPart, ↓gNoP, ↓gMt, ↓gCall, ↓gArgs, ↓gIsN, ↓gNotN, ↓gChain, ↓x_fmtS, ↓x_afS, ↓x_afI, ↓x_js0, ↓x_jsc, ↓gJoined, ↓gYes, ↓x_bnm, ↓x_btp, ↓x_bn, ↓x_bc, ↓x_nnN, ↓x_nnI, ↓x_nnS, ↓x_nnB, ↓x_nnT, ↓x_nnL, ↓x_nnO, ↓x_nnl, ↓x_tyS, ↓x_tyL, ↓x_i2, ↓aSub, ↓aFdiv, ↓aMod, ↓aPow, ↓aShr, ↓aLt, ↓aLe, ↓aGt, ↓aGe, ↓x_addI, ↓x_addS, ↓x_mulI, ↓x_iaddS, ↓x_iaddI, ↓x_neg, ↓x_eqI, ↓x_neI, ↓x_eqS, ↓x_neS, ↓x_eqB, ↓x_neB, ↓x_eqNI, ↓x_neNI, ↓x_lenS, ↓x_lenL_l, ↓x_lenL_k, ↓x_lenL_t, ↓x_str, ↓x_intI, ↓x_intB, ↓x_divmod, ↓x_max2, ↓x_min2, ↓x_ixS, ↓x_slS, ↓x_slT, ↓x_slL_l, ↓x_slL_k, ↓x_inS, ↓x_newT, ↓x_newF, ↓x_si, ↓x_s1, ↓x_s0, ↓x_rpart, ↓x_part, ↓x_a1, ↓x_a2, ↓x_isiStr, ↓x_isiInt, ↓x_isiIntB, ↓x_isiIntS, ↓x_isiBB, ↓x_isiBI, ↓x_isiStrI, ↓x_isiNonI, ↓x_isiNonS, ↓x_isiT, ↓x_isiL, ↓x_var0, ↓x_varS, ↓x_ex, ↓x_aug0, gat, pick, Option.some.injEq, D.bl.injEq, D.int.injEq, D.str.injEq, D.tup.injEq, D.lst.injEq, List.cons.injEq, and_true, true_and, List.set_cons_zero, List.set_cons_succ, List.length_cons, List.length_nil, List.filterMap_cons, List.filterMap_nil, List.getElem?_cons_zero, List.getElem?_cons_succ, Option.bind_some, ↓reduceIte, if_true, if_false, Bool.false_eq_true, Bool.true_eq_false, decide_eq_true_eq, beq_self_eq_true, Bool.not_true, Bool.not_false, Bool.not_eq_true', decide_eq_false_iff_not, exists_eq_left', exists_eq_left, exists_eq, ↓x_dnT, ↓x_dnF, ↓gAsgL, ↓gMMDef, ↓gDSet, ↓gSItems, ↓x_nilL, ↓x_nilE, List.isEmpty_nil, List.isEmpty_cons, Bool.true_xor, Bool.false_xor, ↓gSortSet, ↓gOrT, ↓gAndT, ↓gTryAs, ↓gTryO, ↓gRaise, ↓gCallX, ↓gMethX, ↓gMakeX, ↓gFldX, ↓x_fmtRS, ↓x_afRS, ↓x_afRI, ↓x_stO]
      simpa using hR'
  rw [fm_if, x_newT]
  generalize hX : (List.filter (fun a : Pr => decide (f < a.1 ∧ a.1 < b)) (arr l true R ++ arr 0 false R)) = X
  have hXl : X.length ≤ 800 := by rw [← hX]; have := List.length_filter_le (fun a : Pr => decide (f < a.1 ∧ a.1 < b)) (arr l true R ++ arr 0 false R); rw [List.length_append] at this; omega
  refine ⟨by decide, x_addLL.mpr ⟨by simp; omega, ?_⟩⟩
  rw [x_newT]
  refine ⟨X.map (·.1) ++ [f, b], by simp [seqOf, Function.comp_def], rfl, by simp; omega, fun E pw hm => ?_⟩
  rw [x_newT]
  have hq := hq E pw fun x => by
    rw [hm x, List.mem_append, List.mem_map, ← hX]
    constructor
    · rintro (⟨p, hp, rfl⟩ | h2)
      · obtain ⟨h1, h2⟩ := List.mem_filter.mp hp
        simp only [decide_eq_true_eq] at h2
        refine .inr (.inr ⟨h2.1, h2.2, ?_⟩)
        rcases List.mem_append.mp h1 with h3 | h3
        · obtain ⟨r, hr, hb, e⟩ := (mem_rows (l := l) (b := true) (R := R)).mp ⟨p, h3, rfl⟩
          exact ⟨r, hr, by rw [hb]; exact e⟩
        · obtain ⟨r, hr, hb, e⟩ := (mem_rows (l := l) (b := false) (R := R)).mp ⟨p, h3, rfl⟩
          exact ⟨r, hr, by rw [hb]; exact e⟩
      · simp only [List.mem_cons, List.not_mem_nil, or_false] at h2
        exact h2.elim .inl fun z => .inr (.inl z)
    · rintro (e | e | ⟨h1, h2, r, hr, e⟩)
      · exact .inr (by simp [e])
      · exact .inr (by simp [e])
      · refine .inl ?_
        cases hb : r.2.1 with
        | true =>
          obtain ⟨p, hp, e2⟩ := (mem_rows (l := l) (b := true) (R := R) (x := x)).mpr ⟨r, hr, hb, by rw [hb] at e; exact e⟩
          exact ⟨p, List.mem_filter.mpr ⟨List.mem_append_left _ hp, by simp only [decide_eq_true_eq]; omega⟩, e2⟩
        | false =>
          obtain ⟨p, hp, e2⟩ := (mem_rows (l := l) (b := false) (R := R) (x := x)).mpr ⟨r, hr, hb, by rw [hb] at e; exact e⟩
          exact ⟨p, List.mem_filter.mpr ⟨List.mem_append_right _ hp, by simp only [decide_eq_true_eq]; omega⟩, e2⟩
  refine ⟨by decide, ?_⟩
  rw [x_slL_l, x_newT, cutD_from 1 1 rfl, x_zipL]
  have hz : zipD (E.map D.int) ((E.map D.int).drop 1) = (E.zip E.tail).map pD := by
    unfold zipD
    rw [List.drop_one, ← List.map_tail, List.zipWith_map, List.zip_eq_zipWith, List.map_zipWith]
  rw [hz]
  let told := stS l h t n k R
  let ps : Nat → List Pc := fun i => ((E.zip E.tail).take i).foldl (fun ps p => addP ps p.1 p.2 (told p.1)) []
  have hE : E.length ≤ 802 := by
    have := nodup_len (l := E) (m := X.map (·.1) ++ [f, b]) (pw.imp fun z => by omega) fun y hy => (hm y).mp hy
    simp at this; omega
  have hps : ∀ i, i ≤ E.length → (ps i).length ≤ i := by
    intro i
    induction i with
    | zero => intro _; exact Nat.le_refl _
    | succ i ih =>
      intro hi
      have := ih (by omega)
      cases hz : (E.zip E.tail)[i]? with
      | none =>
        have e : ps (i + 1) = ps i := by
          show ((E.zip E.tail).take (i + 1)).foldl _ _ = ((E.zip E.tail).take i).foldl _ _
          have hl := List.getElem?_eq_none_iff.mp hz
          rw [List.take_of_length_le (by omega), List.take_of_length_le (by omega)]
        rw [e]; omega
      | some z =>
        have e : ps (i + 1) = addP (ps i) z.1 z.2 (told z.1) := by
          show ((E.zip E.tail).take (i + 1)).foldl _ _ = _
          rw [take_next hz, List.foldl_append]; rfl
        rw [e, addP_len]
        split <;> omega
  refine for_on (fun i ρ S' => ∃ v6 v7 v8 : Option D, S' = S ++ [some (.lst ((ps i).map (pcD a.C_Stretch)))] ∧ ρ = [some (gaD a.C_Gauge l h t n k), some (D.lst (List.map Mg.rD R)), some (D.obj a.C_Stretch [Str.ofString "first", Str.ofString "behind"] [D.int f, D.int b]),
    some (D.lst [D.lst (List.map pD (arr l true R)), D.lst (List.map pD (arr 0 false R))]), some (.lst (E.map D.int)), some (D.loc S.length), v6, v7, v8, none, none]) ⟨_, _, _, rfl, rfl⟩ ?_ ?_
  · rintro i z ρ S' hzi ⟨v6, v7, v8, rfl, rfl⟩
    have hrise := zip_rise pw hzi
    have hnext : ps (i + 1) = addP (ps i) z.1 z.2 (told z.1) := by
      show ((E.zip E.tail).take (i + 1)).foldl _ _ = _
      rw [take_next hzi, List.foldl_append]
      rfl
    refine ⟨trivial, _, x_b2, ?_⟩
    simp only [↓x_eqSS, ↓x_neSS, ↓gKGet, ↓x_kget, ↓x_ixE, at_last, ↓x_appE, ↓x_tyE, ↓x_itE, ↓x_lenE, ↓x_nePr, ↓x_eqPr, ↓x_neE, ↓x_lenr, ↓x_lenrI, ↓gRev, ↓x_par3, ↓x_par33, ↓x_fld, ↓x_fset, ↓x_mkF, ↓x_mk, ↓x_meth, ↓x_fldO, ↓x_fsetE, ↓x_fldE, ↓x_methO, ↓x_isiCO, ↓x_isiCN, ↓x_isiCT, ↓x_isiCLi, ↓x_isiCS, ↓x_isiCI, ↓x_own, ↓x_eqT2, ↓x_neT2, ↓x_neL4, ↓x_eqLN, ↓x_neNil, ↓x_gset, ↓x_lc, ↓x_for, ↓x_it, ↓x_rn1, ↓x_rn2, ↓x_enu, ↓x_zip, ↓x_itS, ↓x_itL, ↓x_itK, ↓x_itT, ↓x_rn1I, ↓x_rn2I, ↓x_enuL, ↓x_enuK, ↓x_zipL, ↓x_ixS0, ↓x_ixL, ↓x_ixT, ↓x_ixK, x_at0, x_at1, x_at2, x_at3, x_at4, ↓x_set00, ↓x_set01, ↓x_set02, ↓x_aug1, ↓x_aug2, ↓x_aug3, ↓x_aug4, ↓x_aug5, ↓x_aug6, ↓x_aug7, ↓x_aug8, ↓x_aug9, ↓x_aug10, ↓x_aug11, ↓x_aug12, ↓x_aug13, ↓x_aug14, ↓x_aug15, ↓x_aug16, ↓x_aug17, ↓x_aug18, ↓x_aug19, ↓x_aug20, ↓x_aug21, ↓x_aug22, ↓x_aug23, Int.reduceToNat, Int.reducePow, ↓gSeq, ↓gIfS, ↓gSet, ↓gAsg, ↓x_par, ↓x_par2, ↓gRet, ↓gRetN, ↓gNext, ↓gDrop, ↓gBreak, ↓gCont, ↓gDead, ↓gCB, ↓gB2, ↓gU, ↓gC, ↓Dl.gCons, ↓Dl.gNil, ↓Dl.gTup, ↓Dl.gLst, ↓gTest, ↓gOrB, ↓gAndB, ↓gNotB, ↓gAndV, ↓gOrV, ↓gNotV, ↓gIf, ↓gIx, ↓gSl, ↓gPart, ↓gNoP, ↓gMt, ↓gCall, ↓gArgs, ↓gIsN, ↓gNotN, ↓gChain, ↓x_fmtS, ↓x_afS, ↓x_afI, ↓x_js0, ↓x_jsc, ↓gJoined, ↓gYes, ↓x_bnm, ↓x_btp, ↓x_bn, ↓x_bc, ↓x_nnN, ↓x_nnI, ↓x_nnS, ↓x_nnB, ↓x_nnT, ↓x_nnL, ↓x_nnO, ↓x_nnl, ↓x_tyS, ↓x_tyL, ↓x_i2, ↓aSub, ↓aFdiv, ↓aMod, ↓aPow, ↓aShr, ↓aLt, ↓aLe, ↓aGt, ↓aGe, ↓x_addI, ↓x_addS, ↓x_mulI, ↓x_iaddS, ↓x_iaddI, ↓x_neg, ↓x_eqI, ↓x_neI, ↓x_eqS, ↓x_neS, ↓x_eqB, ↓x_neB, ↓x_eqNI, ↓x_neNI, ↓x_lenS, ↓x_lenL_l, ↓x_lenL_k, ↓x_lenL_t, ↓x_str, ↓x_intI, ↓x_intB, ↓x_divmod, ↓x_max2, ↓x_min2, ↓x_ixS, ↓x_slS, ↓x_slT, ↓x_slL_l, ↓x_slL_k, ↓x_inS, ↓x_newT, ↓x_newF, ↓x_si, ↓x_s1, ↓x_s0, ↓x_rpart, ↓x_part, ↓x_a1, ↓x_a2, ↓x_isiStr, ↓x_isiInt, ↓x_isiIntB, ↓x_isiIntS, ↓x_isiBB, ↓x_isiBI, ↓x_isiStrI, ↓x_isiNonI, ↓x_isiNonS, ↓x_isiT, ↓x_isiL, ↓x_var0, ↓x_varS, ↓x_ex, ↓x_aug0, gat, pick, Option.some.injEq, D.bl.injEq, D.int.injEq, D.str.injEq, D.tup.injEq, D.lst.injEq, List.cons.injEq, and_true, true_and, List.set_cons_zero, List.set_cons_succ, List.length_cons, List.length_nil, List.filterMap_cons, List.filterMap_nil, List.getElem?_cons_zero, List.getElem?_cons_succ, Option.bind_some, ↓reduceIte, if_true, if_false, Bool.false_eq_true, Bool.true_eq_false, decide_eq_true_eq, beq_self_eq_true, Bool.not_true, Bool.not_false, Bool.not_eq_true', decide_eq_false_iff_not, exists_eq_left', exists_eq_left, exists_eq, ↓x_dnT, ↓x_dnF, ↓gAsgL, ↓gMMDef, ↓gDSet, ↓gSItems, ↓x_nilL, ↓x_nilE, List.isEmpty_nil, List.isEmpty_cons, Bool.true_xor, Bool.false_xor, ↓gSortSet, ↓gOrT, ↓gAndT, ↓gTryAs, ↓gTryO, ↓gRaise, ↓gCallX, ↓gMethX, ↓gMakeX, ↓gFldX, ↓x_fmtRS, ↓x_afRS, ↓x_afRI, ↓x_stO]
    refine (x_methO (by decide +kernel)).mpr ⟨_, z.1, rfl, aL1, fun n1 hn1 => ⟨_, z.1, rfl, aL0, fun n0 hn0 => ⟨l, h, t, n, k, n1, n0, rfl, by decide, ?_⟩⟩⟩
    have hw : standS h t n k n1 n0 = told z.1 := by rw [numAt_eq hn1, numAt_eq hn0]; rfl
    rw [hw, x_nilE]
    have hlen : (ps i).length < sizeLine := by
      have hi : i ≤ E.length := by have := (List.getElem?_eq_some_iff.mp hzi).1; rw [List.length_zip] at this; omega
      have := hps i hi
      omega
    cases hl : (ps i).getLast? with
    | none =>
      have h0 : ps i = [] := List.getLast?_eq_none_iff.mp hl
      have h1 : ps (i + 1) = [(z.1, z.2, told z.1)] := by rw [hnext, h0]; rfl
      rw [h0, h1]
      simp only [List.map_nil, List.map_cons, ↓x_eqSS, ↓x_neSS, ↓gKGet, ↓x_kget, ↓x_ixE, at_last, ↓x_appE, ↓x_tyE, ↓x_itE, ↓x_lenE, ↓x_nePr, ↓x_eqPr, ↓x_neE, ↓x_lenr, ↓x_lenrI, ↓gRev, ↓x_par3, ↓x_par33, ↓x_fld, ↓x_fset, ↓x_mkF, ↓x_mk, ↓x_meth, ↓x_fldO, ↓x_fsetE, ↓x_fldE, ↓x_methO, ↓x_isiCO, ↓x_isiCN, ↓x_isiCT, ↓x_isiCLi, ↓x_isiCS, ↓x_isiCI, ↓x_own, ↓x_eqT2, ↓x_neT2, ↓x_neL4, ↓x_eqLN, ↓x_neNil, ↓x_gset, ↓x_lc, ↓x_for, ↓x_it, ↓x_rn1, ↓x_rn2, ↓x_enu, ↓x_zip, ↓x_itS, ↓x_itL, ↓x_itK, ↓x_itT, ↓x_rn1I, ↓x_rn2I, ↓x_enuL, ↓x_enuK, ↓x_zipL, ↓x_ixS0, ↓x_ixL, ↓x_ixT, ↓x_ixK, x_at0, x_at1, x_at2, x_at3, x_at4, ↓x_set00, ↓x_set01, ↓x_set02, ↓x_aug1, ↓x_aug2, ↓x_aug3, ↓x_aug4, ↓x_aug5, ↓x_aug6, ↓x_aug7, ↓x_aug8, ↓x_aug9, ↓x_aug10, ↓x_aug11, ↓x_aug12, ↓x_aug13, ↓x_aug14, ↓x_aug15, ↓x_aug16, ↓x_aug17, ↓x_aug18, ↓x_aug19, ↓x_aug20, ↓x_aug21, ↓x_aug22, ↓x_aug23, Int.reduceToNat, Int.reducePow, ↓gSeq, ↓gIfS, ↓gSet, ↓gAsg, ↓x_par, ↓x_par2, ↓gRet, ↓gRetN, ↓gNext, ↓gDrop, ↓gBreak, ↓gCont, ↓gDead, ↓gCB, ↓gB2, ↓gU, ↓gC, ↓Dl.gCons, ↓Dl.gNil, ↓Dl.gTup, ↓Dl.gLst, ↓gTest, ↓gOrB, ↓gAndB, ↓gNotB, ↓gAndV, ↓gOrV, ↓gNotV, ↓gIf, ↓gIx, ↓gSl, ↓gPart, ↓gNoP, ↓gMt, ↓gCall, ↓gArgs, ↓gIsN, ↓gNotN, ↓gChain, ↓x_fmtS, ↓x_afS, ↓x_afI, ↓x_js0, ↓x_jsc, ↓gJoined, ↓gYes, ↓x_bnm, ↓x_btp, ↓x_bn, ↓x_bc, ↓x_nnN, ↓x_nnI, ↓x_nnS, ↓x_nnB, ↓x_nnT, ↓x_nnL, ↓x_nnO, ↓x_nnl, ↓x_tyS, ↓x_tyL, ↓x_i2, ↓aSub, ↓aFdiv, ↓aMod, ↓aPow, ↓aShr, ↓aLt, ↓aLe, ↓aGt, ↓aGe, ↓x_addI, ↓x_addS, ↓x_mulI, ↓x_iaddS, ↓x_iaddI, ↓x_neg, ↓x_eqI, ↓x_neI, ↓x_eqS, ↓x_neS, ↓x_eqB, ↓x_neB, ↓x_eqNI, ↓x_neNI, ↓x_lenS, ↓x_lenL_l, ↓x_lenL_k, ↓x_lenL_t, ↓x_str, ↓x_intI, ↓x_intB, ↓x_divmod, ↓x_max2, ↓x_min2, ↓x_ixS, ↓x_slS, ↓x_slT, ↓x_slL_l, ↓x_slL_k, ↓x_inS, ↓x_newT, ↓x_newF, ↓x_si, ↓x_s1, ↓x_s0, ↓x_rpart, ↓x_part, ↓x_a1, ↓x_a2, ↓x_isiStr, ↓x_isiInt, ↓x_isiIntB, ↓x_isiIntS, ↓x_isiBB, ↓x_isiBI, ↓x_isiStrI, ↓x_isiNonI, ↓x_isiNonS, ↓x_isiT, ↓x_isiL, ↓x_var0, ↓x_varS, ↓x_ex, ↓x_aug0, gat, pick, Option.some.injEq, D.bl.injEq, D.int.injEq, D.str.injEq, D.tup.injEq, D.lst.injEq, List.cons.injEq, and_true, true_and, List.set_cons_zero, List.set_cons_succ, List.length_cons, List.length_nil, List.filterMap_cons, List.filterMap_nil, List.getElem?_cons_zero, List.getElem?_cons_succ, Option.bind_some, ↓reduceIte, if_true, if_false, Bool.false_eq_true, Bool.true_eq_false, decide_eq_true_eq, beq_self_eq_true, Bool.not_true, Bool.not_false, Bool.not_eq_true', decide_eq_false_iff_not, exists_eq_left', exists_eq_left, exists_eq, ↓x_dnT, ↓x_dnF, ↓gAsgL, ↓gMMDef, ↓gDSet, ↓gSItems, ↓x_nilL, ↓x_nilE, List.isEmpty_nil, List.isEmpty_cons, Bool.true_xor, Bool.false_xor, ↓gSortSet, ↓gOrT, ↓gAndT, ↓gTryAs, ↓gTryO, ↓gRaise, ↓gCallX, ↓gMethX, ↓gMakeX, ↓gFldX, ↓x_fmtRS, ↓x_afRS, ↓x_afRI, ↓x_stO]
      exact Mt.st_make (by omega) ⟨by decide, x_appE.mpr ⟨by decide, _, _, _, rfl, rfl, rfl, rfl⟩⟩
    | some p =>
      have hne : ps i ≠ [] := fun e => by rw [e] at hl; cases hl
      have he : ((ps i).map (pcD a.C_Stretch)).isEmpty = false := by
        cases hh : ps i with
        | nil => exact absurd hh hne
        | cons _ _ => rfl
      have hlm : ((ps i).map (pcD a.C_Stretch)).getLast? = some (pcD a.C_Stretch p) := by rw [List.getLast?_map, hl]; rfl
      rw [he]
      simp only [↓x_eqSS, ↓x_neSS, ↓gKGet, ↓x_kget, ↓x_ixE, at_last, ↓x_appE, ↓x_tyE, ↓x_itE, ↓x_lenE, ↓x_nePr, ↓x_eqPr, ↓x_neE, ↓x_lenr, ↓x_lenrI, ↓gRev, ↓x_par3, ↓x_par33, ↓x_fld, ↓x_fset, ↓x_mkF, ↓x_mk, ↓x_meth, ↓x_fldO, ↓x_fsetE, ↓x_fldE, ↓x_methO, ↓x_isiCO, ↓x_isiCN, ↓x_isiCT, ↓x_isiCLi, ↓x_isiCS, ↓x_isiCI, ↓x_own, ↓x_eqT2, ↓x_neT2, ↓x_neL4, ↓x_eqLN, ↓x_neNil, ↓x_gset, ↓x_lc, ↓x_for, ↓x_it, ↓x_rn1, ↓x_rn2, ↓x_enu, ↓x_zip, ↓x_itS, ↓x_itL, ↓x_itK, ↓x_itT, ↓x_rn1I, ↓x_rn2I, ↓x_enuL, ↓x_enuK, ↓x_zipL, ↓x_ixS0, ↓x_ixL, ↓x_ixT, ↓x_ixK, x_at0, x_at1, x_at2, x_at3, x_at4, ↓x_set00, ↓x_set01, ↓x_set02, ↓x_aug1, ↓x_aug2, ↓x_aug3, ↓x_aug4, ↓x_aug5, ↓x_aug6, ↓x_aug7, ↓x_aug8, ↓x_aug9, ↓x_aug10, ↓x_aug11, ↓x_aug12, ↓x_aug13, ↓x_aug14, ↓x_aug15, ↓x_aug16, ↓x_aug17, ↓x_aug18, ↓x_aug19, ↓x_aug20, ↓x_aug21, ↓x_aug22, ↓x_aug23, Int.reduceToNat, Int.reducePow, ↓gSeq, ↓gIfS, ↓gSet, ↓gAsg, ↓x_par, ↓x_par2, ↓gRet, ↓gRetN, ↓gNext, ↓gDrop, ↓gBreak, ↓gCont, ↓gDead, ↓gCB, ↓gB2, ↓gU, ↓gC, ↓Dl.gCons, ↓Dl.gNil, ↓Dl.gTup, ↓Dl.gLst, ↓gTest, ↓gOrB, ↓gAndB, ↓gNotB, ↓gAndV, ↓gOrV, ↓gNotV, ↓gIf, ↓gIx, ↓gSl, ↓gPart, ↓gNoP, ↓gMt, ↓gCall, ↓gArgs, ↓gIsN, ↓gNotN, ↓gChain, ↓x_fmtS, ↓x_afS, ↓x_afI, ↓x_js0, ↓x_jsc, ↓gJoined, ↓gYes, ↓x_bnm, ↓x_btp, ↓x_bn, ↓x_bc, ↓x_nnN, ↓x_nnI, ↓x_nnS, ↓x_nnB, ↓x_nnT, ↓x_nnL, ↓x_nnO, ↓x_nnl, ↓x_tyS, ↓x_tyL, ↓x_i2, ↓aSub, ↓aFdiv, ↓aMod, ↓aPow, ↓aShr, ↓aLt, ↓aLe, ↓aGt, ↓aGe, ↓x_addI, ↓x_addS, ↓x_mulI, ↓x_iaddS, ↓x_iaddI, ↓x_neg, ↓x_eqI, ↓x_neI, ↓x_eqS, ↓x_neS, ↓x_eqB, ↓x_neB, ↓x_eqNI, ↓x_neNI, ↓x_lenS, ↓x_lenL_l, ↓x_lenL_k, ↓x_lenL_t, ↓x_str, ↓x_intI, ↓x_intB, ↓x_divmod, ↓x_max2, ↓x_min2, ↓x_ixS, ↓x_slS, ↓x_slT, ↓x_slL_l, ↓x_slL_k, ↓x_inS, ↓x_newT, ↓x_newF, ↓x_si, ↓x_s1, ↓x_s0, ↓x_rpart, ↓x_part, ↓x_a1, ↓x_a2, ↓x_isiStr, ↓x_isiInt, ↓x_isiIntB, ↓x_isiIntS, ↓x_isiBB, ↓x_isiBI, ↓x_isiStrI, ↓x_isiNonI, ↓x_isiNonS, ↓x_isiT, ↓x_isiL, ↓x_var0, ↓x_varS, ↓x_ex, ↓x_aug0, gat, pick, Option.some.injEq, D.bl.injEq, D.int.injEq, D.str.injEq, D.tup.injEq, D.lst.injEq, List.cons.injEq, and_true, true_and, List.set_cons_zero, List.set_cons_succ, List.length_cons, List.length_nil, List.filterMap_cons, List.filterMap_nil, List.getElem?_cons_zero, List.getElem?_cons_succ, Option.bind_some, ↓reduceIte, if_true, if_false, Bool.false_eq_true, Bool.true_eq_false, decide_eq_true_eq, beq_self_eq_true, Bool.not_true, Bool.not_false, Bool.not_eq_true', decide_eq_false_iff_not, exists_eq_left', exists_eq_left, exists_eq, ↓x_dnT, ↓x_dnF, ↓gAsgL, ↓gMMDef, ↓gDSet, ↓gSItems, ↓x_nilL, ↓x_nilE, List.isEmpty_nil, List.isEmpty_cons, Bool.true_xor, Bool.false_xor, ↓gSortSet, ↓gOrT, ↓gAndT, ↓gTryAs, ↓gTryO, ↓gRaise, ↓gCallX, ↓gMethX, ↓gMakeX, ↓gFldX, ↓x_fmtRS, ↓x_afRS, ↓x_afRI, ↓x_stO]
      refine ⟨_, hlm, ?_⟩
      simp only [↓x_eqSS, ↓x_neSS, ↓gKGet, ↓x_kget, ↓x_ixE, at_last, ↓x_appE, ↓x_tyE, ↓x_itE, ↓x_lenE, ↓x_nePr, ↓x_eqPr, ↓x_neE, ↓x_lenr, ↓x_lenrI, ↓gRev, ↓x_par3, ↓x_par33, ↓x_fld, ↓x_fset, ↓x_mkF, ↓x_mk, ↓x_meth, ↓x_fldO, ↓x_fsetE, ↓x_fldE, ↓x_methO, ↓x_isiCO, ↓x_isiCN, ↓x_isiCT, ↓x_isiCLi, ↓x_isiCS, ↓x_isiCI, ↓x_own, ↓x_eqT2, ↓x_neT2, ↓x_neL4, ↓x_eqLN, ↓x_neNil, ↓x_gset, ↓x_lc, ↓x_for, ↓x_it, ↓x_rn1, ↓x_rn2, ↓x_enu, ↓x_zip, ↓x_itS, ↓x_itL, ↓x_itK, ↓x_itT, ↓x_rn1I, ↓x_rn2I, ↓x_enuL, ↓x_enuK, ↓x_zipL, ↓x_ixS0, ↓x_ixL, ↓x_ixT, ↓x_ixK, x_at0, x_at1, x_at2, x_at3, x_at4, ↓x_set00, ↓x_set01, ↓x_set02, ↓x_aug1, ↓x_aug2, ↓x_aug3, ↓x_aug4, ↓x_aug5, ↓x_aug6, ↓x_aug7, ↓x_aug8, ↓x_aug9, ↓x_aug10, ↓x_aug11, ↓x_aug12, ↓x_aug13, ↓x_aug14, ↓x_aug15, ↓x_aug16, ↓x_aug17, ↓x_aug18, ↓x_aug19, ↓x_aug20, ↓x_aug21, ↓x_aug22, ↓x_aug23, Int.reduceToNat, Int.reducePow, ↓gSeq, ↓gIfS, ↓gSet, ↓gAsg, ↓x_par, ↓x_par2, ↓gRet, ↓gRetN, ↓gNext, ↓gDrop, ↓gBreak, ↓gCont, ↓gDead, ↓gCB, ↓gB2, ↓gU, ↓gC, ↓Dl.gCons, ↓Dl.gNil, ↓Dl.gTup, ↓Dl.gLst, ↓gTest, ↓gOrB, ↓gAndB, ↓gNotB, ↓gAndV, ↓gOrV, ↓gNotV, ↓gIf, ↓gIx, ↓gSl, ↓gPart, ↓gNoP, ↓gMt, ↓gCall, ↓gArgs, ↓gIsN, ↓gNotN, ↓gChain, ↓x_fmtS, ↓x_afS, ↓x_afI, ↓x_js0, ↓x_jsc, ↓gJoined, ↓gYes, ↓x_bnm, ↓x_btp, ↓x_bn, ↓x_bc, ↓x_nnN, ↓x_nnI, ↓x_nnS, ↓x_nnB, ↓x_nnT, ↓x_nnL, ↓x_nnO, ↓x_nnl, ↓x_tyS, ↓x_tyL, ↓x_i2, ↓aSub, ↓aFdiv, ↓aMod, ↓aPow, ↓aShr, ↓aLt, ↓aLe, ↓aGt, ↓aGe, ↓x_addI, ↓x_addS, ↓x_mulI, ↓x_iaddS, ↓x_iaddI, ↓x_neg, ↓x_eqI, ↓x_neI, ↓x_eqS, ↓x_neS, ↓x_eqB, ↓x_neB, ↓x_eqNI, ↓x_neNI, ↓x_lenS, ↓x_lenL_l, ↓x_lenL_k, ↓x_lenL_t, ↓x_str, ↓x_intI, ↓x_intB, ↓x_divmod, ↓x_max2, ↓x_min2, ↓x_ixS, ↓x_slS, ↓x_slT, ↓x_slL_l, ↓x_slL_k, ↓x_inS, ↓x_newT, ↓x_newF, ↓x_si, ↓x_s1, ↓x_s0, ↓x_rpart, ↓x_part, ↓x_a1, ↓x_a2, ↓x_isiStr, ↓x_isiInt, ↓x_isiIntB, ↓x_isiIntS, ↓x_isiBB, ↓x_isiBI, ↓x_isiStrI, ↓x_isiNonI, ↓x_isiNonS, ↓x_isiT, ↓x_isiL, ↓x_var0, ↓x_varS, ↓x_ex, ↓x_aug0, gat, pick, Option.some.injEq, D.bl.injEq, D.int.injEq, D.str.injEq, D.tup.injEq, D.lst.injEq, List.cons.injEq, and_true, true_and, List.set_cons_zero, List.set_cons_succ, List.length_cons, List.length_nil, List.filterMap_cons, List.filterMap_nil, List.getElem?_cons_zero, List.getElem?_cons_succ, Option.bind_some, ↓reduceIte, if_true, if_false, Bool.false_eq_true, Bool.true_eq_false, decide_eq_true_eq, beq_self_eq_true, Bool.not_true, Bool.not_false, Bool.not_eq_true', decide_eq_false_iff_not, exists_eq_left', exists_eq_left, exists_eq, ↓x_dnT, ↓x_dnF, ↓gAsgL, ↓gMMDef, ↓gDSet, ↓gSItems, ↓x_nilL, ↓x_nilE, List.isEmpty_nil, List.isEmpty_cons, Bool.true_xor, Bool.false_xor, ↓gSortSet, ↓gOrT, ↓gAndT, ↓gTryAs, ↓gTryO, ↓gRaise, ↓gCallX, ↓gMethX, ↓gMakeX, ↓gFldX, ↓x_fmtRS, ↓x_afRS, ↓x_afRI, ↓x_stO]
      by_cases c : p.2.2 = told z.1
      · have h1 : ps (i + 1) = (ps i).dropLast ++ [(p.1, z.2, told z.1)] := by rw [hnext]; unfold addP; rw [hl]; exact if_pos c
        rw [if_pos c, h1]
        refine (x_popE hlm).mpr ?_
        simp only [T.f_Stretch_first, ↓Mt.stD, Mt.fg_first, ↓x_eqSS, ↓x_neSS, ↓gKGet, ↓x_kget, ↓x_ixE, at_last, ↓x_appE, ↓x_tyE, ↓x_itE, ↓x_lenE, ↓x_nePr, ↓x_eqPr, ↓x_neE, ↓x_lenr, ↓x_lenrI, ↓gRev, ↓x_par3, ↓x_par33, ↓x_fld, ↓x_fset, ↓x_mkF, ↓x_mk, ↓x_meth, ↓x_fldO, ↓x_fsetE, ↓x_fldE, ↓x_methO, ↓x_isiCO, ↓x_isiCN, ↓x_isiCT, ↓x_isiCLi, ↓x_isiCS, ↓x_isiCI, ↓x_own, ↓x_eqT2, ↓x_neT2, ↓x_neL4, ↓x_eqLN, ↓x_neNil, ↓x_gset, ↓x_lc, ↓x_for, ↓x_it, ↓x_rn1, ↓x_rn2, ↓x_enu, ↓x_zip, ↓x_itS, ↓x_itL, ↓x_itK, ↓x_itT, ↓x_rn1I, ↓x_rn2I, ↓x_enuL, ↓x_enuK, ↓x_zipL, ↓x_ixS0, ↓x_ixL, ↓x_ixT, ↓x_ixK, x_at0, x_at1, x_at2, x_at3, x_at4, ↓x_set00, ↓x_set01, ↓x_set02, ↓x_aug1, ↓x_aug2, ↓x_aug3, ↓x_aug4, ↓x_aug5, ↓x_aug6, ↓x_aug7, ↓x_aug8, ↓x_aug9, ↓x_aug10, ↓x_aug11, ↓x_aug12, ↓x_aug13, ↓x_aug14, ↓x_aug15, ↓x_aug16, ↓x_aug17, ↓x_aug18, ↓x_aug19, ↓x_aug20, ↓x_aug21, ↓x_aug22, ↓x_aug23, Int.reduceToNat, Int.reducePow, ↓gSeq, ↓gIfS, ↓gSet, ↓gAsg, ↓x_par, ↓x_par2, ↓gRet, ↓gRetN, ↓gNext, ↓gDrop, ↓gBreak, ↓gCont, ↓gDead, ↓gCB, ↓gB2, ↓gU, ↓gC, ↓Dl.gCons, ↓Dl.gNil, ↓Dl.gTup, ↓Dl.gLst, ↓gTest, ↓gOrB, ↓gAndB, ↓gNotB, ↓gAndV, ↓gOrV, ↓gNotV, ↓gIf, ↓gIx, ↓gSl, ↓gPart, ↓gNoP, ↓gMt, ↓gCall, ↓gArgs, ↓gIsN, ↓gNotN, ↓gChain, ↓x_fmtS, ↓x_afS, ↓x_afI, ↓x_js0, ↓x_jsc, ↓gJoined, ↓gYes, ↓x_bnm, ↓x_btp, ↓x_bn, ↓x_bc, ↓x_nnN, ↓x_nnI, ↓x_nnS, ↓x_nnB, ↓x_nnT, ↓x_nnL, ↓x_nnO, ↓x_nnl, ↓x_tyS, ↓x_tyL, ↓x_i2, ↓aSub, ↓aFdiv, ↓aMod, ↓aPow, ↓aShr, ↓aLt, ↓aLe, ↓aGt, ↓aGe, ↓x_addI, ↓x_addS, ↓x_mulI, ↓x_iaddS, ↓x_iaddI, ↓x_neg, ↓x_eqI, ↓x_neI, ↓x_eqS, ↓x_neS, ↓x_eqB, ↓x_neB, ↓x_eqNI, ↓x_neNI, ↓x_lenS, ↓x_lenL_l, ↓x_lenL_k, ↓x_lenL_t, ↓x_str, ↓x_intI, ↓x_intB, ↓x_divmod, ↓x_max2, ↓x_min2, ↓x_ixS, ↓x_slS, ↓x_slT, ↓x_slL_l, ↓x_slL_k, ↓x_inS, ↓x_newT, ↓x_newF, ↓x_si, ↓x_s1, ↓x_s0, ↓x_rpart, ↓x_part, ↓x_a1, ↓x_a2, ↓x_isiStr, ↓x_isiInt, ↓x_isiIntB, ↓x_isiIntS, ↓x_isiBB, ↓x_isiBI, ↓x_isiStrI, ↓x_isiNonI, ↓x_isiNonS, ↓x_isiT, ↓x_isiL, ↓x_var0, ↓x_varS, ↓x_ex, ↓x_aug0, gat, pick, Option.some.injEq, D.bl.injEq, D.int.injEq, D.str.injEq, D.tup.injEq, D.lst.injEq, List.cons.injEq, and_true, true_and, List.set_cons_zero, List.set_cons_succ, List.length_cons, List.length_nil, List.filterMap_cons, List.filterMap_nil, List.getElem?_cons_zero, List.getElem?_cons_succ, Option.bind_some, ↓reduceIte, if_true, if_false, Bool.false_eq_true, Bool.true_eq_false, decide_eq_true_eq, beq_self_eq_true, Bool.not_true, Bool.not_false, Bool.not_eq_true', decide_eq_false_iff_not, exists_eq_left', exists_eq_left, exists_eq, ↓x_dnT, ↓x_dnF, ↓gAsgL, ↓gMMDef, ↓gDSet, ↓gSItems, ↓x_nilL, ↓x_nilE, List.isEmpty_nil, List.isEmpty_cons, Bool.true_xor, Bool.false_xor, ↓gSortSet, ↓gOrT, ↓gAndT, ↓gTryAs, ↓gTryO, ↓gRaise, ↓gCallX, ↓gMethX, ↓gMakeX, ↓gFldX, ↓x_fmtRS, ↓x_afRS, ↓x_afRI, ↓x_stO]
        refine Mt.st_make (by have := last_le pw i z p hzi hl; omega) ⟨by decide, x_appE.mpr ⟨by rw [List.length_dropLast, List.length_map]; omega, _, _, _, ?_, rfl, rfl, rfl⟩⟩
        rw [List.map_append, List.map_dropLast]
        rfl
      · have h1 : ps (i + 1) = ps i ++ [(z.1, z.2, told z.1)] := by rw [hnext]; unfold addP; rw [hl]; exact if_neg c
        rw [if_neg c, h1]
        refine Mt.st_make (by omega) ⟨by decide, x_appE.mpr ⟨by rw [List.length_map]; omega, _, _, _, ?_, rfl, rfl, rfl⟩⟩
        rw [List.map_append]
        rfl
  · rintro ρ S' ⟨v6, v7, v8, rfl, rfl⟩
    refine ⟨trivial, ?_⟩
    simp only [↓x_eqSS, ↓x_neSS, ↓gKGet, ↓x_kget, ↓x_ixE, at_last, ↓x_appE, ↓x_tyE, ↓x_itE, ↓x_lenE, ↓x_nePr, ↓x_eqPr, ↓x_neE, ↓x_lenr, ↓x_lenrI, ↓gRev, ↓x_par3, ↓x_par33, ↓x_fld, ↓x_fset, ↓x_mkF, ↓x_mk, ↓x_meth, ↓x_fldO, ↓x_fsetE, ↓x_fldE, ↓x_methO, ↓x_isiCO, ↓x_isiCN, ↓x_isiCT, ↓x_isiCLi, ↓x_isiCS, ↓x_isiCI, ↓x_own, ↓x_eqT2, ↓x_neT2, ↓x_neL4, ↓x_eqLN, ↓x_neNil, ↓x_gset, ↓x_lc, ↓x_for, ↓x_it, ↓x_rn1, ↓x_rn2, ↓x_enu, ↓x_zip, ↓x_itS, ↓x_itL, ↓x_itK, ↓x_itT, ↓x_rn1I, ↓x_rn2I, ↓x_enuL, ↓x_enuK, ↓x_zipL, ↓x_ixS0, ↓x_ixL, ↓x_ixT, ↓x_ixK, x_at0, x_at1, x_at2, x_at3, x_at4, ↓x_set00, ↓x_set01, ↓x_set02, ↓x_aug1, ↓x_aug2, ↓x_aug3, ↓x_aug4, ↓x_aug5, ↓x_aug6, ↓x_aug7, ↓x_aug8, ↓x_aug9, ↓x_aug10, ↓x_aug11, ↓x_aug12, ↓x_aug13, ↓x_aug14, ↓x_aug15, ↓x_aug16, ↓x_aug17, ↓x_aug18, ↓x_aug19, ↓x_aug20, ↓x_aug21, ↓x_aug22, ↓x_aug23, Int.reduceToNat, Int.reducePow, ↓gSeq, ↓gIfS, ↓gSet, ↓gAsg, ↓x_par, ↓x_par2, ↓gRet, ↓gRetN, ↓gNext, ↓gDrop, ↓gBreak, ↓gCont, ↓gDead, ↓gCB, ↓gB2, ↓gU, ↓gC, ↓Dl.gCons, ↓Dl.gNil, ↓Dl.gTup, ↓Dl.gLst, ↓gTest, ↓gOrB, ↓gAndB, ↓gNotB, ↓gAndV, ↓gOrV, ↓gNotV, ↓gIf, ↓gIx, ↓gSl, ↓gPart, ↓gNoP, ↓gMt, ↓gCall, ↓gArgs, ↓gIsN, ↓gNotN, ↓gChain, ↓x_fmtS, ↓x_afS, ↓x_afI, ↓x_js0, ↓x_jsc, ↓gJoined, ↓gYes, ↓x_bnm, ↓x_btp, ↓x_bn, ↓x_bc, ↓x_nnN, ↓x_nnI, ↓x_nnS, ↓x_nnB, ↓x_nnT, ↓x_nnL, ↓x_nnO, ↓x_nnl, ↓x_tyS, ↓x_tyL, ↓x_i2, ↓aSub, ↓aFdiv, ↓aMod, ↓aPow, ↓aShr, ↓aLt, ↓aLe, ↓aGt, ↓aGe, ↓x_addI, ↓x_addS, ↓x_mulI, ↓x_iaddS, ↓x_iaddI, ↓x_neg, ↓x_eqI, ↓x_neI, ↓x_eqS, ↓x_neS, ↓x_eqB, ↓x_neB, ↓x_eqNI, ↓x_neNI, ↓x_lenS, ↓x_lenL_l, ↓x_lenL_k, ↓x_lenL_t, ↓x_str, ↓x_intI, ↓x_intB, ↓x_divmod, ↓x_max2, ↓x_min2, ↓x_ixS, ↓x_slS, ↓x_slT, ↓x_slL_l, ↓x_slL_k, ↓x_inS, ↓x_newT, ↓x_newF, ↓x_si, ↓x_s1, ↓x_s0, ↓x_rpart, ↓x_part, ↓x_a1, ↓x_a2, ↓x_isiStr, ↓x_isiInt, ↓x_isiIntB, ↓x_isiIntS, ↓x_isiBB, ↓x_isiBI, ↓x_isiStrI, ↓x_isiNonI, ↓x_isiNonS, ↓x_isiT, ↓x_isiL, ↓x_var0, ↓x_varS, ↓x_ex, ↓x_aug0, gat, pick, Option.some.injEq, D.bl.injEq, D.int.injEq, D.str.injEq, D.tup.injEq, D.lst.injEq, List.cons.injEq, and_true, true_and, List.set_cons_zero, List.set_cons_succ, List.length_cons, List.length_nil, List.filterMap_cons, List.filterMap_nil, List.getElem?_cons_zero, List.getElem?_cons_succ, Option.bind_some, ↓reduceIte, if_true, if_false, Bool.false_eq_true, Bool.true_eq_false, decide_eq_true_eq, beq_self_eq_true, Bool.not_true, Bool.not_false, Bool.not_eq_true', decide_eq_false_iff_not, exists_eq_left', exists_eq_left, exists_eq, ↓x_dnT, ↓x_dnF, ↓gAsgL, ↓gMMDef, ↓gDSet, ↓gSItems, ↓x_nilL, ↓x_nilE, List.isEmpty_nil, List.isEmpty_cons, Bool.true_xor, Bool.false_xor, ↓gSortSet, ↓gOrT, ↓gAndT, ↓gTryAs, ↓gTryO, ↓gRaise, ↓gCallX, ↓gMethX, ↓gMakeX, ↓gFldX, ↓x_fmtRS, ↓x_afRS, ↓x_afRI, ↓x_stO]
    refine (x_finE hs).mpr ⟨und_pc, ?_⟩
    have e : ps (E.zip E.tail).length = pieces told E := by show ((E.zip E.tail).take _).foldl _ _ = _; rw [List.take_length]; rfl
    rw [e]
    exact hq
theorem r_Gauge_stands_live (T : Txt K mg a) : ∀ ds S q, sp_Gauge_stands_live a ds S q → g_Gauge_stands K a { nx := fun _ S' => q .non S', rt := q } (startD N_Gauge_stands ds) S := by
  rintro ds S q ⟨l, h, t, n, k, R, f, b, rfl, hR, hfb, hq⟩
  rw [st_Gauge_stands]
  simp only [g_Gauge_stands, T.f_Gauge_top, fg_top, ↓x_eqSS, ↓x_neSS, ↓gKGet, ↓x_kget, ↓x_ixE, at_last, ↓x_appE, ↓x_tyE, ↓x_itE, ↓x_lenE, ↓x_nePr, ↓x_eqPr, ↓x_neE, ↓x_lenr, ↓x_lenrI, ↓gRev, ↓x_par3, ↓x_par33, ↓x_fld, ↓x_fset, ↓x_mkF, ↓x_mk, ↓x_meth, ↓x_fldO, ↓x_fsetE, ↓x_fldE, ↓x_methO, ↓x_isiCO, ↓x_isiCN, ↓x_isiCT, ↓x_isiCLi, ↓x_isiCS, ↓x_isiCI, ↓x_own, ↓x_eqT2, ↓x_neT2, ↓x_neL4, ↓x_eqLN, ↓x_neNil, ↓x_gset, ↓x_lc, ↓x_for, ↓x_it, ↓x_rn1, ↓x_rn2, ↓x_enu, ↓x_zip, ↓x_itS, ↓x_itL, ↓x_itK, ↓x_itT, ↓x_rn1I, ↓x_rn2I, ↓x_enuL, ↓x_enuK, ↓x_zipL, ↓x_ixS0, ↓x_ixL, ↓x_ixT, ↓x_ixK, x_at0, x_at1, x_at2, x_at3, x_at4, ↓x_set00, ↓x_set01, ↓x_set02, ↓x_aug1, ↓x_aug2, ↓x_aug3, ↓x_aug4, ↓x_aug5, ↓x_aug6, ↓x_aug7, ↓x_aug8, ↓x_aug9, ↓x_aug10, ↓x_aug11, ↓x_aug12, ↓x_aug13, ↓x_aug14, ↓x_aug15, ↓x_aug16, ↓x_aug17, ↓x_aug18, ↓x_aug19, ↓x_aug20, ↓x_aug21, ↓x_aug22, ↓x_aug23, Int.reduceToNat, Int.reducePow, ↓gSeq, ↓gIfS, ↓gSet, ↓gAsg, ↓x_par, ↓x_par2, ↓gRet, ↓gRetN, ↓gNext, ↓gDrop, ↓gBreak, ↓gCont, ↓gDead, ↓gCB, ↓gB2, ↓gU, ↓gC, ↓Dl.gCons, ↓Dl.gNil, ↓Dl.gTup, ↓Dl.gLst, ↓gTest, ↓gOrB, ↓gAndB, ↓gNotB, ↓gAndV, ↓gOrV, ↓gNotV, ↓gIf, ↓gIx, ↓gSl, ↓gPart, ↓gNoP, ↓gMt, ↓gCall, ↓gArgs, ↓gIsN, ↓gNotN, ↓gChain, ↓x_fmtS, ↓x_afS, ↓x_afI, ↓x_js0, ↓x_jsc, ↓gJoined, ↓gYes, ↓x_bnm, ↓x_btp, ↓x_bn, ↓x_bc, ↓x_nnN, ↓x_nnI, ↓x_nnS, ↓x_nnB, ↓x_nnT, ↓x_nnL, ↓x_nnO, ↓x_nnl, ↓x_tyS, ↓x_tyL, ↓x_i2, ↓aSub, ↓aFdiv, ↓aMod, ↓aPow, ↓aShr, ↓aLt, ↓aLe, ↓aGt, ↓aGe, ↓x_addI, ↓x_addS, ↓x_mulI, ↓x_iaddS, ↓x_iaddI, ↓x_neg, ↓x_eqI, ↓x_neI, ↓x_eqS, ↓x_neS, ↓x_eqB, ↓x_neB, ↓x_eqNI, ↓x_neNI, ↓x_lenS, ↓x_lenL_l, ↓x_lenL_k, ↓x_lenL_t, ↓x_str, ↓x_intI, ↓x_intB, ↓x_divmod, ↓x_max2, ↓x_min2, ↓x_ixS, ↓x_slS, ↓x_slT, ↓x_slL_l, ↓x_slL_k, ↓x_inS, ↓x_newT, ↓x_newF, ↓x_si, ↓x_s1, ↓x_s0, ↓x_rpart, ↓x_part, ↓x_a1, ↓x_a2, ↓x_isiStr, ↓x_isiInt, ↓x_isiIntB, ↓x_isiIntS, ↓x_isiBB, ↓x_isiBI, ↓x_isiStrI, ↓x_isiNonI, ↓x_isiNonS, ↓x_isiT, ↓x_isiL, ↓x_var0, ↓x_varS, ↓x_ex, ↓x_aug0, gat, pick, Option.some.injEq, D.bl.injEq, D.int.injEq, D.str.injEq, D.tup.injEq, D.lst.injEq, List.cons.injEq, and_true, true_and, List.set_cons_zero, List.set_cons_succ, List.length_cons, List.length_nil, List.filterMap_cons, List.filterMap_nil, List.getElem?_cons_zero, List.getElem?_cons_succ, Option.bind_some, ↓reduceIte, if_true, if_false, Bool.false_eq_true, Bool.true_eq_false, decide_eq_true_eq, beq_self_eq_true, Bool.not_true, Bool.not_false, Bool.not_eq_true', decide_eq_false_iff_not, exists_eq_left', exists_eq_left, exists_eq, ↓x_dnT, ↓x_dnF, ↓gAsgL, ↓gMMDef, ↓gDSet, ↓gSItems, ↓x_nilL, ↓x_nilE, List.isEmpty_nil, List.isEmpty_cons, Bool.true_xor, Bool.false_xor, ↓gSortSet, ↓gOrT, ↓gAndT, ↓gTryAs, ↓gTryO, ↓gRaise, ↓gCallX, ↓gMethX, ↓gMakeX, ↓gFldX, ↓x_fmtRS, ↓x_afRS, ↓x_afRI, ↓x_stO]
  have hs' : 1000 ≤ sizeLine := by decide
  have aL1 : (arr l true R).length ≤ 400 := Nat.le_trans arr_len hR
  have aL0 : (arr 0 false R).length ≤ 400 := Nat.le_trans arr_len hR
  refine ⟨by decide, lc_un ?_⟩
  refine ⟨trivial, _, x_bnm, ?_⟩
  simp only [wipeD, ↓x_eqSS, ↓x_neSS, ↓gKGet, ↓x_kget, ↓x_ixE, at_last, ↓x_appE, ↓x_tyE, ↓x_itE, ↓x_lenE, ↓x_nePr, ↓x_eqPr, ↓x_neE, ↓x_lenr, ↓x_lenrI, ↓gRev, ↓x_par3, ↓x_par33, ↓x_fld, ↓x_fset, ↓x_mkF, ↓x_mk, ↓x_meth, ↓x_fldO, ↓x_fsetE, ↓x_fldE, ↓x_methO, ↓x_isiCO, ↓x_isiCN, ↓x_isiCT, ↓x_isiCLi, ↓x_isiCS, ↓x_isiCI, ↓x_own, ↓x_eqT2, ↓x_neT2, ↓x_neL4, ↓x_eqLN, ↓x_neNil, ↓x_gset, ↓x_lc, ↓x_for, ↓x_it, ↓x_rn1, ↓x_rn2, ↓x_enu, ↓x_zip, ↓x_itS, ↓x_itL, ↓x_itK, ↓x_itT, ↓x_rn1I, ↓x_rn2I, ↓x_enuL, ↓x_enuK, ↓x_zipL, ↓x_ixS0, ↓x_ixL, ↓x_ixT, ↓x_ixK, x_at0, x_at1, x_at2, x_at3, x_at4, ↓x_set00, ↓x_set01, ↓x_set02, ↓x_aug1, ↓x_aug2, ↓x_aug3, ↓x_aug4, ↓x_aug5, ↓x_aug6, ↓x_aug7, ↓x_aug8, ↓x_aug9, ↓x_aug10, ↓x_aug11, ↓x_aug12, ↓x_aug13, ↓x_aug14, ↓x_aug15, ↓x_aug16, ↓x_aug17, ↓x_aug18, ↓x_aug19, ↓x_aug20, ↓x_aug21, ↓x_aug22, ↓x_aug23, Int.reduceToNat, Int.reducePow, ↓gSeq, ↓gIfS, ↓gSet, ↓gAsg, ↓x_par, ↓x_par2, ↓gRet, ↓gRetN, ↓gNext, ↓gDrop, ↓gBreak, ↓gCont, ↓gDead, ↓gCB, ↓gB2, ↓gU, ↓gC, ↓Dl.gCons, ↓Dl.gNil, ↓Dl.gTup, ↓Dl.gLst, ↓gTest, ↓gOrB, ↓gAndB, ↓gNotB, ↓gAndV, ↓gOrV, ↓gNotV, ↓gIf, ↓gIx, ↓gSl, ↓gPart, ↓gNoP, ↓gMt, ↓gCall, ↓gArgs, ↓gIsN, ↓gNotN, ↓gChain, ↓x_fmtS, ↓x_afS, ↓x_afI, ↓x_js0, ↓x_jsc, ↓gJoined, ↓gYes, ↓x_bnm, ↓x_btp, ↓x_bn, ↓x_bc, ↓x_nnN, ↓x_nnI, ↓x_nnS, ↓x_nnB, ↓x_nnT, ↓x_nnL, ↓x_nnO, ↓x_nnl, ↓x_tyS, ↓x_tyL, ↓x_i2, ↓aSub, ↓aFdiv, ↓aMod, ↓aPow, ↓aShr, ↓aLt, ↓aLe, ↓aGt, ↓aGe, ↓x_addI, ↓x_addS, ↓x_mulI, ↓x_iaddS, ↓x_iaddI, ↓x_neg, ↓x_eqI, ↓x_neI, ↓x_eqS, ↓x_neS, ↓x_eqB, ↓x_neB, ↓x_eqNI, ↓x_neNI, ↓x_lenS, ↓x_lenL_l, ↓x_lenL_k, ↓x_lenL_t, ↓x_str, ↓x_intI, ↓x_intB, ↓x_divmod, ↓x_max2, ↓x_min2, ↓x_ixS, ↓x_slS, ↓x_slT, ↓x_slL_l, ↓x_slL_k, ↓x_inS, ↓x_newT, ↓x_newF, ↓x_si, ↓x_s1, ↓x_s0, ↓x_rpart, ↓x_part, ↓x_a1, ↓x_a2, ↓x_isiStr, ↓x_isiInt, ↓x_isiIntB, ↓x_isiIntS, ↓x_isiBB, ↓x_isiBI, ↓x_isiStrI, ↓x_isiNonI, ↓x_isiNonS, ↓x_isiT, ↓x_isiL, ↓x_var0, ↓x_varS, ↓x_ex, ↓x_aug0, gat, pick, Option.some.injEq, D.bl.injEq, D.int.injEq, D.str.injEq, D.tup.injEq, D.lst.injEq, List.cons.injEq, and_true, true_and, List.set_cons_zero, List.set_cons_succ, List.length_cons, List.length_nil, List.filterMap_cons, List.filterMap_nil, List.getElem?_cons_zero, List.getElem?_cons_succ, Option.bind_some, ↓reduceIte, if_true, if_false, Bool.false_eq_true, Bool.true_eq_false, decide_eq_true_eq, beq_self_eq_true, Bool.not_true, Bool.not_false, Bool.not_eq_true', decide_eq_false_iff_not, exists_eq_left', exists_eq_left, exists_eq, ↓x_dnT, ↓x_dnF, ↓gAsgL, ↓gMMDef, ↓gDSet, ↓gSItems, ↓x_nilL, ↓x_nilE, List.isEmpty_nil, List.isEmpty_cons, Bool.true_xor, Bool.false_xor, ↓gSortSet, ↓gOrT, ↓gAndT, ↓gTryAs, ↓gTryO, ↓gRaise, ↓gCallX, ↓gMethX, ↓gMakeX, ↓gFldX, ↓x_fmtRS, ↓x_afRS, ↓x_afRI, ↓x_stO]
  refine (x_methO (by decide +kernel)).mpr ⟨l, h, t, n, k, R, true, rfl, hR, by decide, trivial, _, x_bnm, ?_⟩
  simp only [wipeD, ↓x_eqSS, ↓x_neSS, ↓gKGet, ↓x_kget, ↓x_ixE, at_last, ↓x_appE, ↓x_tyE, ↓x_itE, ↓x_lenE, ↓x_nePr, ↓x_eqPr, ↓x_neE, ↓x_lenr, ↓x_lenrI, ↓gRev, ↓x_par3, ↓x_par33, ↓x_fld, ↓x_fset, ↓x_mkF, ↓x_mk, ↓x_meth, ↓x_fldO, ↓x_fsetE, ↓x_fldE, ↓x_methO, ↓x_isiCO, ↓x_isiCN, ↓x_isiCT, ↓x_isiCLi, ↓x_isiCS, ↓x_isiCI, ↓x_own, ↓x_eqT2, ↓x_neT2, ↓x_neL4, ↓x_eqLN, ↓x_neNil, ↓x_gset, ↓x_lc, ↓x_for, ↓x_it, ↓x_rn1, ↓x_rn2, ↓x_enu, ↓x_zip, ↓x_itS, ↓x_itL, ↓x_itK, ↓x_itT, ↓x_rn1I, ↓x_rn2I, ↓x_enuL, ↓x_enuK, ↓x_zipL, ↓x_ixS0, ↓x_ixL, ↓x_ixT, ↓x_ixK, x_at0, x_at1, x_at2, x_at3, x_at4, ↓x_set00, ↓x_set01, ↓x_set02, ↓x_aug1, ↓x_aug2, ↓x_aug3, ↓x_aug4, ↓x_aug5, ↓x_aug6, ↓x_aug7, ↓x_aug8, ↓x_aug9, ↓x_aug10, ↓x_aug11, ↓x_aug12, ↓x_aug13, ↓x_aug14, ↓x_aug15, ↓x_aug16, ↓x_aug17, ↓x_aug18, ↓x_aug19, ↓x_aug20, ↓x_aug21, ↓x_aug22, ↓x_aug23, Int.reduceToNat, Int.reducePow, ↓gSeq, ↓gIfS, ↓gSet, ↓gAsg, ↓x_par, ↓x_par2, ↓gRet, ↓gRetN, ↓gNext, ↓gDrop, ↓gBreak, ↓gCont, ↓gDead, ↓gCB, ↓gB2, ↓gU, ↓gC, ↓Dl.gCons, ↓Dl.gNil, ↓Dl.gTup, ↓Dl.gLst, ↓gTest, ↓gOrB, ↓gAndB, ↓gNotB, ↓gAndV, ↓gOrV, ↓gNotV, ↓gIf, ↓gIx, ↓gSl, ↓gPart, ↓gNoP, ↓gMt, ↓gCall, ↓gArgs, ↓gIsN, ↓gNotN, ↓gChain, ↓x_fmtS, ↓x_afS, ↓x_afI, ↓x_js0, ↓x_jsc, ↓gJoined, ↓gYes, ↓x_bnm, ↓x_btp, ↓x_bn, ↓x_bc, ↓x_nnN, ↓x_nnI, ↓x_nnS, ↓x_nnB, ↓x_nnT, ↓x_nnL, ↓x_nnO, ↓x_nnl, ↓x_tyS, ↓x_tyL, ↓x_i2, ↓aSub, ↓aFdiv, ↓aMod, ↓aPow, ↓aShr, ↓aLt, ↓aLe, ↓aGt, ↓aGe, ↓x_addI, ↓x_addS, ↓x_mulI, ↓x_iaddS, ↓x_iaddI, ↓x_neg, ↓x_eqI, ↓x_neI, ↓x_eqS, ↓x_neS, ↓x_eqB, ↓x_neB, ↓x_eqNI, ↓x_neNI, ↓x_lenS, ↓x_lenL_l, ↓x_lenL_k, ↓x_lenL_t, ↓x_str, ↓x_intI, ↓x_intB, ↓x_divmod, ↓x_max2, ↓x_min2, ↓x_ixS, ↓x_slS, ↓x_slT, ↓x_slL_l, ↓x_slL_k, ↓x_inS, ↓x_newT, ↓x_newF, ↓x_si, ↓x_s1, ↓x_s0, ↓x_rpart, ↓x_part, ↓x_a1, ↓x_a2, ↓x_isiStr, ↓x_isiInt, ↓x_isiIntB, ↓x_isiIntS, ↓x_isiBB, ↓x_isiBI, ↓x_isiStrI, ↓x_isiNonI, ↓x_isiNonS, ↓x_isiT, ↓x_isiL, ↓x_var0, ↓x_varS, ↓x_ex, ↓x_aug0, gat, pick, Option.some.injEq, D.bl.injEq, D.int.injEq, D.str.injEq, D.tup.injEq, D.lst.injEq, List.cons.injEq, and_true, true_and, List.set_cons_zero, List.set_cons_succ, List.length_cons, List.length_nil, List.filterMap_cons, List.filterMap_nil, List.getElem?_cons_zero, List.getElem?_cons_succ, Option.bind_some, ↓reduceIte, if_true, if_false, Bool.false_eq_true, Bool.true_eq_false, decide_eq_true_eq, beq_self_eq_true, Bool.not_true, Bool.not_false, Bool.not_eq_true', decide_eq_false_iff_not, exists_eq_left', exists_eq_left, exists_eq, ↓x_dnT, ↓x_dnF, ↓gAsgL, ↓gMMDef, ↓gDSet, ↓gSItems, ↓x_nilL, ↓x_nilE, List.isEmpty_nil, List.isEmpty_cons, Bool.true_xor, Bool.false_xor, ↓gSortSet, ↓gOrT, ↓gAndT, ↓gTryAs, ↓gTryO, ↓gRaise, ↓gCallX, ↓gMethX, ↓gMakeX, ↓gFldX, ↓x_fmtRS, ↓x_afRS, ↓x_afRI, ↓x_stO]
  refine (x_methO (by decide +kernel)).mpr ⟨l, h, t, n, k, R, false, rfl, hR, by simp; omega, trivial, ?_⟩
  rw [List.nil_append, x_newT]
  simp only [List.singleton_append, T.f_Stretch_first, T.f_Stretch_behind, ↓Mt.stD, Mt.fg_first, Mt.fg_behind, ↓x_eqSS, ↓x_neSS, ↓gKGet, ↓x_kget, ↓x_ixE, at_last, ↓x_appE, ↓x_tyE, ↓x_itE, ↓x_lenE, ↓x_nePr, ↓x_eqPr, ↓x_neE, ↓x_lenr, ↓x_lenrI, ↓gRev, ↓x_par3, ↓x_par33, ↓x_fld, ↓x_fset, ↓x_mkF, ↓x_mk, ↓x_meth, ↓x_fldO, ↓x_fsetE, ↓x_fldE, ↓x_methO, ↓x_isiCO, ↓x_isiCN, ↓x_isiCT, ↓x_isiCLi, ↓x_isiCS, ↓x_isiCI, ↓x_own, ↓x_eqT2, ↓x_neT2, ↓x_neL4, ↓x_eqLN, ↓x_neNil, ↓x_gset, ↓x_lc, ↓x_for, ↓x_it, ↓x_rn1, ↓x_rn2, ↓x_enu, ↓x_zip, ↓x_itS, ↓x_itL, ↓x_itK, ↓x_itT, ↓x_rn1I, ↓x_rn2I, ↓x_enuL, ↓x_enuK, ↓x_zipL, ↓x_ixS0, ↓x_ixL, ↓x_ixT, ↓x_ixK, x_at0, x_at1, x_at2, x_at3, x_at4, ↓x_set00, ↓x_set01, ↓x_set02, ↓x_aug1, ↓x_aug2, ↓x_aug3, ↓x_aug4, ↓x_aug5, ↓x_aug6, ↓x_aug7, ↓x_aug8, ↓x_aug9, ↓x_aug10, ↓x_aug11, ↓x_aug12, ↓x_aug13, ↓x_aug14, ↓x_aug15, ↓x_aug16, ↓x_aug17, ↓x_aug18, ↓x_aug19, ↓x_aug20, ↓x_aug21, ↓x_aug22, ↓x_aug23, Int.reduceToNat, Int.reducePow, ↓gSeq, ↓gIfS, ↓gSet, ↓gAsg, ↓x_par, ↓x_par2, ↓gRet, ↓gRetN, ↓gNext, ↓gDrop, ↓gBreak, ↓gCont, ↓gDead, ↓gCB, ↓gB2, ↓gU, ↓gC, ↓Dl.gCons, ↓Dl.gNil, ↓Dl.gTup, ↓Dl.gLst, ↓gTest, ↓gOrB, ↓gAndB, ↓gNotB, ↓gAndV, ↓gOrV, ↓gNotV, ↓gIf, ↓gIx, ↓gSl, ↓gPart, ↓gNoP, ↓gMt, ↓gCall, ↓gArgs, ↓gIsN, ↓gNotN, ↓gChain, ↓x_fmtS, ↓x_afS, ↓x_afI, ↓x_js0, ↓x_jsc, ↓gJoined, ↓gYes, ↓x_bnm, ↓x_btp, ↓x_bn, ↓x_bc, ↓x_nnN, ↓x_nnI, ↓x_nnS, ↓x_nnB, ↓x_nnT, ↓x_nnL, ↓x_nnO, ↓x_nnl, ↓x_tyS, ↓x_tyL, ↓x_i2, ↓aSub, ↓aFdiv, ↓aMod, ↓aPow, ↓aShr, ↓aLt, ↓aLe, ↓aGt, ↓aGe, ↓x_addI, ↓x_addS, ↓x_mulI, ↓x_iaddS, ↓x_iaddI, ↓x_neg, ↓x_eqI, ↓x_neI, ↓x_eqS, ↓x_neS, ↓x_eqB, ↓x_neB, ↓x_eqNI, ↓x_neNI, ↓x_lenS, ↓x_lenL_l, ↓x_lenL_k, ↓x_lenL_t, ↓x_str, ↓x_intI, ↓x_intB, ↓x_divmod, ↓x_max2, ↓x_min2, ↓x_ixS, ↓x_slS, ↓x_slT, ↓x_slL_l, ↓x_slL_k, ↓x_inS, ↓x_newT, ↓x_newF, ↓x_si, ↓x_s1, ↓x_s0, ↓x_rpart, ↓x_part, ↓x_a1, ↓x_a2, ↓x_isiStr, ↓x_isiInt, ↓x_isiIntB, ↓x_isiIntS, ↓x_isiBB, ↓x_isiBI, ↓x_isiStrI, ↓x_isiNonI, ↓x_isiNonS, ↓x_isiT, ↓x_isiL, ↓x_var0, ↓x_varS, ↓x_ex, ↓x_aug0, gat, pick, Option.some.injEq, D.bl.injEq, D.int.injEq, D.str.injEq, D.tup.injEq, D.lst.injEq, List.cons.injEq, and_true, true_and, List.set_cons_zero, List.set_cons_succ, List.length_cons, List.length_nil, List.filterMap_cons, List.filterMap_nil, List.getElem?_cons_zero, List.getElem?_cons_succ, Option.bind_some, ↓reduceIte, if_true, if_false, Bool.false_eq_true, Bool.true_eq_false, decide_eq_true_eq, beq_self_eq_true, Bool.not_true, Bool.not_false, Bool.not_eq_true', decide_eq_false_iff_not, exists_eq_left', exists_eq_left, exists_eq, ↓x_dnT, ↓x_dnF, ↓gAsgL, ↓gMMDef, ↓gDSet, ↓gSItems, ↓x_nilL, ↓x_nilE, List.isEmpty_nil, List.isEmpty_cons, Bool.true_xor, Bool.false_xor, ↓gSortSet, ↓gOrT, ↓gAndT, ↓gTryAs, ↓gTryO, ↓gRaise, ↓gCallX, ↓gMethX, ↓gMakeX, ↓gFldX, ↓x_fmtRS, ↓x_afRS, ↓x_afRI, ↓x_stO]
  refine x_addLL.mpr ⟨by simp; omega, ?_⟩
  rw [x_newT, ← List.map_append]
  simp only [T.f_Stretch_first, T.f_Stretch_behind, ↓Mt.stD, Mt.fg_first, Mt.fg_behind, ↓x_eqSS, ↓x_neSS, ↓gKGet, ↓x_kget, ↓x_ixE, at_last, ↓x_appE, ↓x_tyE, ↓x_itE, ↓x_lenE, ↓x_nePr, ↓x_eqPr, ↓x_neE, ↓x_lenr, ↓x_lenrI, ↓gRev, ↓x_par3, ↓x_par33, ↓x_fld, ↓x_fset, ↓x_mkF, ↓x_mk, ↓x_meth, ↓x_fldO, ↓x_fsetE, ↓x_fldE, ↓x_methO, ↓x_isiCO, ↓x_isiCN, ↓x_isiCT, ↓x_isiCLi, ↓x_isiCS, ↓x_isiCI, ↓x_own, ↓x_eqT2, ↓x_neT2, ↓x_neL4, ↓x_eqLN, ↓x_neNil, ↓x_gset, ↓x_lc, ↓x_for, ↓x_it, ↓x_rn1, ↓x_rn2, ↓x_enu, ↓x_zip, ↓x_itS, ↓x_itL, ↓x_itK, ↓x_itT, ↓x_rn1I, ↓x_rn2I, ↓x_enuL, ↓x_enuK, ↓x_zipL, ↓x_ixS0, ↓x_ixL, ↓x_ixT, ↓x_ixK, x_at0, x_at1, x_at2, x_at3, x_at4, ↓x_set00, ↓x_set01, ↓x_set02, ↓x_aug1, ↓x_aug2, ↓x_aug3, ↓x_aug4, ↓x_aug5, ↓x_aug6, ↓x_aug7, ↓x_aug8, ↓x_aug9, ↓x_aug10, ↓x_aug11, ↓x_aug12, ↓x_aug13, ↓x_aug14, ↓x_aug15, ↓x_aug16, ↓x_aug17, ↓x_aug18, ↓x_aug19, ↓x_aug20, ↓x_aug21, ↓x_aug22, ↓x_aug23, Int.reduceToNat, Int.reducePow, ↓gSeq, ↓gIfS, ↓gSet, ↓gAsg, ↓x_par, ↓x_par2, ↓gRet, ↓gRetN, ↓gNext, ↓gDrop, ↓gBreak, ↓gCont, ↓gDead, ↓gCB, ↓gB2, ↓gU, ↓gC, ↓Dl.gCons, ↓Dl.gNil, ↓Dl.gTup, ↓Dl.gLst, ↓gTest, ↓gOrB, ↓gAndB, ↓gNotB, ↓gAndV, ↓gOrV, ↓gNotV, ↓gIf, ↓gIx, ↓gSl, ↓gPart, ↓gNoP, ↓gMt, ↓gCall, ↓gArgs, ↓gIsN, ↓gNotN, ↓gChain, ↓x_fmtS, ↓x_afS, ↓x_afI, ↓x_js0, ↓x_jsc, ↓gJoined, ↓gYes, ↓x_bnm, ↓x_btp, ↓x_bn, ↓x_bc, ↓x_nnN, ↓x_nnI, ↓x_nnS, ↓x_nnB, ↓x_nnT, ↓x_nnL, ↓x_nnO, ↓x_nnl, ↓x_tyS, ↓x_tyL, ↓x_i2, ↓aSub, ↓aFdiv, ↓aMod, ↓aPow, ↓aShr, ↓aLt, ↓aLe, ↓aGt, ↓aGe, ↓x_addI, ↓x_addS, ↓x_mulI, ↓x_iaddS, ↓x_iaddI, ↓x_neg, ↓x_eqI, ↓x_neI, ↓x_eqS, ↓x_neS, ↓x_eqB, ↓x_neB, ↓x_eqNI, ↓x_neNI, ↓x_lenS, ↓x_lenL_l, ↓x_lenL_k, ↓x_lenL_t, ↓x_str, ↓x_intI, ↓x_intB, ↓x_divmod, ↓x_max2, ↓x_min2, ↓x_ixS, ↓x_slS, ↓x_slT, ↓x_slL_l, ↓x_slL_k, ↓x_inS, ↓x_newT, ↓x_newF, ↓x_si, ↓x_s1, ↓x_s0, ↓x_rpart, ↓x_part, ↓x_a1, ↓x_a2, ↓x_isiStr, ↓x_isiInt, ↓x_isiIntB, ↓x_isiIntS, ↓x_isiBB, ↓x_isiBI, ↓x_isiStrI, ↓x_isiNonI, ↓x_isiNonS, ↓x_isiT, ↓x_isiL, ↓x_var0, ↓x_varS, ↓x_ex, ↓x_aug0, gat, pick, Option.some.injEq, D.bl.injEq, D.int.injEq, D.str.injEq, D.tup.injEq, D.lst.injEq, List.cons.injEq, and_true, true_and, List.set_cons_zero, List.set_cons_succ, List.length_cons, List.length_nil, List.filterMap_cons, List.filterMap_nil, List.getElem?_cons_zero, List.getElem?_cons_succ, Option.bind_some, ↓reduceIte, if_true, if_false, Bool.false_eq_true, Bool.true_eq_false, decide_eq_true_eq, beq_self_eq_true, Bool.not_true, Bool.not_false, Bool.not_eq_true', decide_eq_false_iff_not, exists_eq_left', exists_eq_left, exists_eq, ↓x_dnT, ↓x_dnF, ↓gAsgL, ↓gMMDef, ↓gDSet, ↓gSItems, ↓x_nilL, ↓x_nilE, List.isEmpty_nil, List.isEmpty_cons, Bool.true_xor, Bool.false_xor, ↓gSortSet, ↓gOrT, ↓gAndT, ↓gTryAs, ↓gTryO, ↓gRaise, ↓gCallX, ↓gMethX, ↓gMakeX, ↓gFldX, ↓x_fmtRS, ↓x_afRS, ↓x_afRI, ↓x_stO]
  refine lc_on (fun p : Pr => if f < p.1 ∧ p.1 < b then some (D.int p.1) else none) trivial (by rw [List.length_append]; omega) (fun x hx acc R' hac hR' => ⟨_, x_bnm, ?_⟩) ?_
  · simp only [wipeD, T.f_Stretch_first, T.f_Stretch_behind, ↓Mt.stD, Mt.fg_first, Mt.fg_behind, ↓x_eqSS, ↓x_neSS, ↓gKGet, ↓x_kget, ↓x_ixE, at_last, ↓x_appE, ↓x_tyE, ↓x_itE, ↓x_lenE, ↓x_nePr, ↓x_eqPr, ↓x_neE, ↓x_lenr, ↓x_lenrI, ↓gRev, ↓x_par3, ↓x_par33, ↓x_fld, ↓x_fset, ↓x_mkF, ↓x_mk, ↓x_meth, ↓x_fldO, ↓x_fsetE, ↓x_fldE, ↓x_methO, ↓x_isiCO, ↓x_isiCN, ↓x_isiCT, ↓x_isiCLi, ↓x_isiCS, ↓x_isiCI, ↓x_own, ↓x_eqT2, ↓x_neT2, ↓x_neL4, ↓x_eqLN, ↓x_neNil, ↓x_gset, ↓x_lc, ↓x_for, ↓x_it, ↓x_rn1, ↓x_rn2, ↓x_enu, ↓x_zip, ↓x_itS, ↓x_itL, ↓x_itK, ↓x_itT, ↓x_rn1I, ↓x_rn2I, ↓x_enuL, ↓x_enuK, ↓x_zipL, ↓x_ixS0, ↓x_ixL, ↓x_ixT, ↓x_ixK, x_at0, x_at1, x_at2, x_at3, x_at4, ↓x_set00, ↓x_set01, ↓x_set02, ↓x_aug1, ↓x_aug2, ↓x_aug3, ↓x_aug4, ↓x_aug5, ↓x_aug6, ↓x_aug7, ↓x_aug8, ↓x_aug9, ↓x_aug10, ↓x_aug11, ↓x_aug12, ↓x_aug13, ↓x_aug14, ↓x_aug15, ↓x_aug16, ↓x_aug17, ↓x_aug18, ↓x_aug19, ↓x_aug20, ↓x_aug21, ↓x_aug22, ↓x_aug23, Int.reduceToNat, Int.reducePow, ↓gSeq, ↓gIfS, ↓gSet, ↓gAsg, ↓x_par, ↓x_par2, ↓gRet, ↓gRetN, ↓gNext, ↓gDrop, ↓gBreak, ↓gCont, ↓gDead, ↓gCB, ↓gB2, ↓gU, ↓gC, ↓Dl.gCons, ↓Dl.gNil, ↓Dl.gTup, ↓Dl.gLst, ↓gTest, ↓gOrB, ↓gAndB, ↓gNotB, ↓gAndV, ↓gOrV, ↓gNotV, ↓gIf, ↓gIx, ↓gSl, ↓gPart, ↓gNoP, ↓gMt, ↓gCall, ↓gArgs, ↓gIsN, ↓gNotN, ↓gChain, ↓x_fmtS, ↓x_afS, ↓x_afI, ↓x_js0, ↓x_jsc, ↓gJoined, ↓gYes, ↓x_bnm, ↓x_btp, ↓x_bn, ↓x_bc, ↓x_nnN, ↓x_nnI, ↓x_nnS, ↓x_nnB, ↓x_nnT, ↓x_nnL, ↓x_nnO, ↓x_nnl, ↓x_tyS, ↓x_tyL, ↓x_i2, ↓aSub, ↓aFdiv, ↓aMod, ↓aPow, ↓aShr, ↓aLt, ↓aLe, ↓aGt, ↓aGe, ↓x_addI, ↓x_addS, ↓x_mulI, ↓x_iaddS, ↓x_iaddI, ↓x_neg, ↓x_eqI, ↓x_neI, ↓x_eqS, ↓x_neS, ↓x_eqB, ↓x_neB, ↓x_eqNI, ↓x_neNI, ↓x_lenS, ↓x_lenL_l, ↓x_lenL_k, ↓x_lenL_t, ↓x_str, ↓x_intI, ↓x_intB, ↓x_divmod, ↓x_max2, ↓x_min2, ↓x_ixS, ↓x_slS, ↓x_slT, ↓x_slL_l, ↓x_slL_k, ↓x_inS, ↓x_newT, ↓x_newF, ↓x_si, ↓x_s1, ↓x_s0, ↓x_rpart, ↓x_part, ↓x_a1, ↓x_a2, ↓x_isiStr, ↓x_isiInt, ↓x_isiIntB, ↓x_isiIntS, ↓x_isiBB, ↓x_isiBI, ↓x_isiStrI, ↓x_isiNonI, ↓x_isiNonS, ↓x_isiT, ↓x_isiL, ↓x_var0, ↓x_varS, ↓x_ex, ↓x_aug0, gat, pick, Option.some.injEq, D.bl.injEq, D.int.injEq, D.str.injEq, D.tup.injEq, D.lst.injEq, List.cons.injEq, and_true, true_and, List.set_cons_zero, List.set_cons_succ, List.length_cons, List.length_nil, List.filterMap_cons, List.filterMap_nil, List.getElem?_cons_zero, List.getElem?_cons_succ, Option.bind_some, ↓reduceIte, if_true, if_false, Bool.false_eq_true, Bool.true_eq_false, decide_eq_true_eq, beq_self_eq_true, Bool.not_true, Bool.not_false, Bool.not_eq_true', decide_eq_false_iff_not, exists_eq_left', exists_eq_left, exists_eq, ↓x_dnT, ↓x_dnF, ↓gAsgL, ↓gMMDef, ↓gDSet, ↓gSItems, ↓x_nilL, ↓x_nilE, List.isEmpty_nil, List.isEmpty_cons, Bool.true_xor, Bool.false_xor, ↓gSortSet, ↓gOrT, ↓gAndT, ↓gTryAs, ↓gTryO, ↓gRaise, ↓gCallX, ↓gMethX, ↓gMakeX, ↓gFldX, ↓x_fmtRS, ↓x_afRS, ↓x_afRI, ↓x_stO]
    by_cases c1 : f < x.1
    · by_cases c2 : x.1 < b
      · rw [if_pos ⟨c1, c2⟩] at hR'
        simp only [if_pos c1, if_pos c2, decide_eq_true c1, decide_eq_true c2, ↓x_eqSS, ↓x_neSS, ↓gKGet, ↓x_kget, ↓x_ixE, at_last, ↓x_appE, ↓x_tyE, ↓x_itE, ↓x_lenE, ↓x_nePr, ↓x_eqPr, ↓x_neE, ↓x_lenr, ↓x_lenrI, ↓gRev, ↓x_par3, ↓x_par33, ↓x_fld, ↓x_fset, ↓x_mkF, ↓x_mk, ↓x_meth, ↓x_fldO, ↓x_fsetE, ↓x_fldE, ↓x_methO, ↓x_isiCO, ↓x_isiCN, ↓x_isiCT, ↓x_isiCLi, ↓x_isiCS, ↓x_isiCI, ↓x_own, ↓x_eqT2, ↓x_neT2, ↓x_neL4, ↓x_eqLN, ↓x_neNil, ↓x_gset, ↓x_lc, ↓x_for, ↓x_it, ↓x_rn1, ↓x_rn2, ↓x_enu, ↓x_zip, ↓x_itS, ↓x_itL, ↓x_itK, ↓x_itT, ↓x_rn1I, ↓x_rn2I, ↓x_enuL, ↓x_enuK, ↓x_zipL, ↓x_ixS0, ↓x_ixL, ↓x_ixT, ↓x_ixK, x_at0, x_at1, x_at2, x_at3, x_at4, ↓x_set00, ↓x_set01, ↓x_set02, ↓x_aug1, ↓x_aug2, ↓x_aug3, ↓x_aug4, ↓x_aug5, ↓x_aug6, ↓x_aug7, ↓x_aug8, ↓x_aug9, ↓x_aug10, ↓x_aug11, ↓x_aug12, ↓x_aug13, ↓x_aug14, ↓x_aug15, ↓x_aug16, ↓x_aug17, ↓x_aug18, ↓x_aug19, ↓x_aug20, ↓x_aug21, ↓x_aug22, ↓x_aug23, Int.reduceToNat, Int.reducePow, ↓gSeq, ↓gIfS, ↓gSet, ↓gAsg, ↓x_par, ↓x_par2, ↓gRet, ↓gRetN, ↓gNext, ↓gDrop, ↓gBreak, ↓gCont, ↓gDead, ↓gCB, ↓gB2, ↓gU, ↓gC, ↓Dl.gCons, ↓Dl.gNil, ↓Dl.gTup, ↓Dl.gLst, ↓gTest, ↓gOrB, ↓gAndB, ↓gNotB, ↓gAndV, ↓gOrV, ↓gNotV, ↓gIf, ↓gIx, ↓gSl, ↓gPart, ↓gNoP, ↓gMt, ↓gCall, ↓gArgs, ↓gIsN, ↓gNotN, ↓gChain, ↓x_fmtS, ↓x_afS, ↓x_afI, ↓x_js0, ↓x_jsc, ↓gJoined, ↓gYes, ↓x_bnm, ↓x_btp, ↓x_bn, ↓x_bc, ↓x_nnN, ↓x_nnI, ↓x_nnS, ↓x_nnB, ↓x_nnT, ↓x_nnL, ↓x_nnO, ↓x_nnl, ↓x_tyS, ↓x_tyL, ↓x_i2, ↓aSub, ↓aFdiv, ↓aMod, ↓aPow, ↓aShr, ↓aLt, ↓aLe, ↓aGt, ↓aGe, ↓x_addI, ↓x_addS, ↓x_mulI, ↓x_iaddS, ↓x_iaddI, ↓x_neg, ↓x_eqI, ↓x_neI, ↓x_eqS, ↓x_neS, ↓x_eqB, ↓x_neB, ↓x_eqNI, ↓x_neNI, ↓x_lenS, ↓x_lenL_l, ↓x_lenL_k, ↓x_lenL_t, ↓x_str, ↓x_intI, ↓x_intB, ↓x_divmod, ↓x_max2, ↓x_min2, ↓x_ixS, ↓x_slS, ↓x_slT, ↓x_slL_l, ↓x_slL_k, ↓x_inS, ↓x_newT, ↓x_newF, ↓x_si, ↓x_s1, ↓x_s0, ↓x_rpart, ↓x_part, ↓x_a1, ↓x_a2, ↓x_isiStr, ↓x_isiInt, ↓x_isiIntB, ↓x_isiIntS, ↓x_isiBB, ↓x_isiBI, ↓x_isiStrI, ↓x_isiNonI, ↓x_isiNonS, ↓x_isiT, ↓x_isiL, ↓x_var0, ↓x_varS, ↓x_ex, ↓x_aug0, gat, pick, Option.some.injEq, D.bl.injEq, D.int.injEq, D.str.injEq, D.tup.injEq, D.lst.injEq, List.cons.injEq, and_true, true_and, List.set_cons_zero, List.set_cons_succ, List.length_cons, List.length_nil, List.filterMap_cons, List.filterMap_nil, List.getElem?_cons_zero, List.getElem?_cons_succ, Option.bind_some, ↓reduceIte, if_true, if_false, Bool.false_eq_true, Bool.true_eq_false, decide_eq_true_eq, beq_self_eq_true, Bool.not_true, Bool.not_false, Bool.not_eq_true', decide_eq_false_iff_not, exists_eq_left', exists_eq_left, exists_eq, ↓x_dnT, ↓x_dnF, ↓gAsgL, ↓gMMDef, ↓gDSet, ↓gSItems, ↓x_nilL, ↓x_nilE, List.isEmpty_nil, List.isEmpty_cons, Bool.true_xor, Bool.false_xor, ↓gSortSet, ↓gOrT, ↓gAndT, ↓gTryAs, ↓gTryO, ↓gRaise, ↓gCallX, ↓gMethX, ↓gMakeX, ↓gFldX, ↓x_fmtRS, ↓x_afRS, ↓x_afRI, ↓x_stO]
        exact ⟨hac, hR'⟩
      · rw [if_neg (fun z => c2 z.2)] at hR'
        simp only [if_pos c1, if_neg c2, decide_eq_true c1, decide_eq_false c2, ↓x_eqSS, ↓x_neSS, ↓gKGet, ↓x_kget, ↓x_ixE, at_last, ↓x_appE, ↓x_tyE, ↓x_itE, ↓x_lenE, ↓x_nePr, ↓x_eqPr, ↓x_neE, ↓x_lenr, ↓x_lenrI, ↓gRev, ↓x_par3, ↓x_par33, ↓x_fld, ↓x_fset, ↓x_mkF, ↓x_mk, ↓x_meth, ↓x_fldO, ↓x_fsetE, ↓x_fldE, ↓x_methO, ↓x_isiCO, ↓x_isiCN, ↓x_isiCT, ↓x_isiCLi, ↓x_isiCS, ↓x_isiCI, ↓x_own, ↓x_eqT2, ↓x_neT2, ↓x_neL4, ↓x_eqLN, ↓x_neNil, ↓x_gset, ↓x_lc, ↓x_for, ↓x_it, ↓x_rn1, ↓x_rn2, ↓x_enu, ↓x_zip, ↓x_itS, ↓x_itL, ↓x_itK, ↓x_itT, ↓x_rn1I, ↓x_rn2I, ↓x_enuL, ↓x_enuK, ↓x_zipL, ↓x_ixS0, ↓x_ixL, ↓x_ixT, ↓x_ixK, x_at0, x_at1, x_at2, x_at3, x_at4, ↓x_set00, ↓x_set01, ↓x_set02, ↓x_aug1, ↓x_aug2, ↓x_aug3, ↓x_aug4, ↓x_aug5, ↓x_aug6, ↓x_aug7, ↓x_aug8, ↓x_aug9, ↓x_aug10, ↓x_aug11, ↓x_aug12, ↓x_aug13, ↓x_aug14, ↓x_aug15, ↓x_aug16, ↓x_aug17, ↓x_aug18, ↓x_aug19, ↓x_aug20, ↓x_aug21, ↓x_aug22, ↓x_aug23, Int.reduceToNat, Int.reducePow, ↓gSeq, ↓gIfS, ↓gSet, ↓gAsg, ↓x_par, ↓x_par2, ↓gRet, ↓gRetN, ↓gNext, ↓gDrop, ↓gBreak, ↓gCont, ↓gDead, ↓gCB, ↓gB2, ↓gU, ↓gC, ↓Dl.gCons, ↓Dl.gNil, ↓Dl.gTup, ↓Dl.gLst, ↓gTest, ↓gOrB, ↓gAndB, ↓gNotB, ↓gAndV, ↓gOrV, ↓gNotV, ↓gIf, ↓gIx, ↓gSl, ↓gPart, ↓gNoP, ↓gMt, ↓gCall, ↓gArgs, ↓gIsN, ↓gNotN, ↓gChain, ↓x_fmtS, ↓x_afS, ↓x_afI, ↓x_js0, ↓x_jsc, ↓gJoined, ↓gYes, ↓x_bnm, ↓x_btp, ↓x_bn, ↓x_bc, ↓x_nnN, ↓x_nnI, ↓x_nnS, ↓x_nnB, ↓x_nnT, ↓x_nnL, ↓x_nnO, ↓x_nnl, ↓x_tyS, ↓x_tyL, ↓x_i2, ↓aSub, ↓aFdiv, ↓aMod, ↓aPow, ↓aShr, ↓aLt, ↓aLe, ↓aGt, ↓aGe, ↓x_addI, ↓x_addS, ↓x_mulI, ↓x_iaddS, ↓x_iaddI, ↓x_neg, ↓x_eqI, ↓x_neI, ↓x_eqS, ↓x_neS, ↓x_eqB, ↓x_neB, ↓x_eqNI, ↓x_neNI, ↓x_lenS, ↓x_lenL_l, ↓x_lenL_k, ↓x_lenL_t, ↓x_str, ↓x_intI, ↓x_intB, ↓x_divmod, ↓x_max2, ↓x_min2, ↓x_ixS, ↓x_slS, ↓x_slT, ↓x_slL_l, ↓x_slL_k, ↓x_inS, ↓x_newT, ↓x_newF, ↓x_si, ↓x_s1, ↓x_s0, ↓x_rpart, ↓x_part, ↓x_a1, ↓x_a2, ↓x_isiStr, ↓x_isiInt, ↓x_isiIntB, ↓x_isiIntS, ↓x_isiBB, ↓x_isiBI, ↓x_isiStrI, ↓x_isiNonI, ↓x_isiNonS, ↓x_isiT, ↓x_isiL, ↓x_var0, ↓x_varS, ↓x_ex, ↓x_aug0, gat, pick, Option.some.injEq, D.bl.injEq, D.int.injEq, D.str.injEq, D.tup.injEq, D.lst.injEq, List.cons.injEq, and_true, true_and, List.set_cons_zero, List.set_cons_succ, List.length_cons, List.length_nil, List.filterMap_cons, List.filterMap_nil, List.getElem?_cons_zero, List.getElem?_cons_succ, Option.bind_some, ↓reduceIte, if_true, if_false, Bool.false_eq_true, Bool.true_eq_false, decide_eq_true_eq, beq_self_eq_true, Bool.not_true, Bool.not_false, Bool.not_eq_true', decide_eq_false_iff_not, exists_eq_left', exists_eq_left, exists_eq, ↓x_dnT, ↓x_dnF, ↓gAsgL, ↓gMMDef, ↓gDSet, ↓gSItems, ↓x_nilL, ↓x_nilE, List.isEmpty_nil, List.isEmpty_cons, Bool.true_xor, Bool.false_xor, ↓gSortSet, ↓gOrT, ↓gAndT, ↓gTryAs, ↓gTryO, ↓gRaise, ↓gCallX, ↓gMethX, ↓gMakeX, ↓gFldX, ↓x_fmtRS, ↓x_afRS, ↓x_afRI, ↓x_stO]
        simpa using hR'
    · rw [if_neg (fun z => c1 z.1)] at hR'
      simp only [if_neg c1, decide_eq_false c1, ↓x_eqSS, ↓x_neSS, ↓gKGet, ↓x_kget, ↓x_ixE, at_last, ↓x_appE, ↓x_tyE, ↓x_itE, ↓x_lenE, ↓x_nePr, ↓x_eqPr, ↓x_neE, ↓x_lenr, ↓x_lenrI, ↓gRev, ↓x_par3, ↓x_par33, ↓x_fld, ↓x_fset, ↓x_mkF, ↓x_mk, ↓x_meth, ↓x_fldO, ↓x_fsetE, ↓x_fldE, ↓x_methO, ↓x_isiCO, ↓x_isiCN, ↓x_isiCT, ↓x_isiCLi, ↓x_isiCS, ↓x_isiCI, ↓x_own, ↓x_eqT2, ↓x_neT2, ↓x_neL4, ↓x_eqLN, ↓x_neNil, ↓x_gset, ↓x_lc, ↓x_for, ↓x_it, ↓x_rn1, ↓x_rn2, ↓x_enu, ↓x_zip, ↓x_itS, ↓x_itL, ↓x_itK, ↓x_itT, ↓x_rn1I, ↓x_rn2I, ↓x_enuL, ↓x_enuK, ↓x_zipL, ↓x_ixS0, ↓x_ixL, ↓x_ixT, ↓x_ixK, x_at0, x_at1, x_at2, x_at3, x_at4, ↓x_set00, ↓x_set01, ↓x_set02, ↓x_aug1, ↓x_aug2, ↓x_aug3, ↓x_aug4, ↓x_aug5, ↓x_aug6, ↓x_aug7, ↓x_aug8, ↓x_aug9, ↓x_aug10, ↓x_aug11, ↓x_aug12, ↓x_aug13, ↓x_aug14, ↓x_aug15, ↓x_aug16, ↓x_aug17, ↓x_aug18, ↓x_aug19, ↓x_aug20, ↓x_aug21, ↓x_aug22, ↓x_aug23, Int.reduceToNat, Int.reducePow, ↓gSeq, ↓gIfS, ↓gSet, ↓gAsg, ↓x_par, ↓x_par2, ↓gRet, ↓gRetN, ↓gNext, ↓gDrop, ↓gBreak, ↓gCont, ↓gDead, ↓gCB, ↓gB2, ↓gU, ↓gC, ↓Dl.gCons, ↓Dl.gNil, ↓Dl.gTup, ↓Dl.gLst, ↓gTest, ↓gOrB, ↓gAndB, ↓gNotB, ↓gAndV, ↓gOrV, ↓gNotV, ↓gIf, ↓gIx, ↓gSl, ↓gPart, ↓gNoP, ↓gMt, ↓gCall, ↓gArgs, ↓gIsN, ↓gNotN, ↓gChain, ↓x_fmtS, ↓x_afS, ↓x_afI, ↓x_js0, ↓x_jsc, ↓gJoined, ↓gYes, ↓x_bnm, ↓x_btp, ↓x_bn, ↓x_bc, ↓x_nnN, ↓x_nnI, ↓x_nnS, ↓x_nnB, ↓x_nnT, ↓x_nnL, ↓x_nnO, ↓x_nnl, ↓x_tyS, ↓x_tyL, ↓x_i2, ↓aSub, ↓aFdiv, ↓aMod, ↓aPow, ↓aShr, ↓aLt, ↓aLe, ↓aGt, ↓aGe, ↓x_addI, ↓x_addS, ↓x_mulI, ↓x_iaddS, ↓x_iaddI, ↓x_neg, ↓x_eqI, ↓x_neI, ↓x_eqS, ↓x_neS, ↓x_eqB, ↓x_neB, ↓x_eqNI, ↓x_neNI, ↓x_lenS, ↓x_lenL_l, ↓x_lenL_k, ↓x_lenL_t, ↓x_str, ↓x_intI, ↓x_intB, ↓x_divmod, ↓x_max2, ↓x_min2, ↓x_ixS, ↓x_slS, ↓x_slT, ↓x_slL_l, ↓x_slL_k, ↓x_inS, ↓x_newT, ↓x_newF, ↓x_si, ↓x_s1, ↓x_s0, ↓x_rpart, ↓x_part, ↓x_a1, ↓x_a2, ↓x_isiStr, ↓x_isiInt, ↓x_isiIntB, ↓x_isiIntS, ↓x_isiBB, ↓x_isiBI, ↓x_isiStrI, ↓x_isiNonI, ↓x_isiNonS, ↓x_isiT, ↓x_isiL, ↓x_var0, ↓x_varS, ↓x_ex, ↓x_aug0, gat, pick, Option.some.injEq, D.bl.injEq, D.int.injEq, D.str.injEq, D.tup.injEq, D.lst.injEq, List.cons.injEq, and_true, true_and, List.set_cons_zero, List.set_cons_succ, List.length_cons, List.length_nil, List.filterMap_cons, List.filterMap_nil, List.getElem?_cons_zero, List.getElem?_cons_succ, Option.bind_some, ↓reduceIte, if_true, if_false, Bool.false_eq_true, Bool.true_eq_false, decide_eq_true_eq, beq_self_eq_true, Bool.not_true, Bool.not_false, Bool.not_eq_true', decide_eq_false_iff_not, exists_eq_left', exists_eq_left, exists_eq, ↓x_dnT, ↓x_dnF, ↓gAsgL, ↓gMMDef, ↓gDSet, ↓gSItems, ↓x_nilL, ↓x_nilE, List.isEmpty_nil, List.isEmpty_cons, Bool.true_xor, Bool.false_xor, ↓gSortSet, ↓gOrT, ↓gAndT, ↓gTryAs, ↓gTryO, ↓gRaise, ↓gCallX, ↓gMethX, ↓gMakeX, ↓gFldX, ↓x_fmtRS, ↓x_afRS, ↓x_afRI, ↓x_stO]
      simpa using hR'
  rw [fm_if, x_newT]
  generalize hX : (List.filter (fun a : Pr => decide (f < a.1 ∧ a.1 < b)) (arr l true R ++ arr 0 false R)) = X
  have hXl : X.length ≤ 800 := by rw [← hX]; have := List.length_filter_le (fun a : Pr => decide (f < a.1 ∧ a.1 < b)) (arr l true R ++ arr 0 false R); rw [List.length_append] at this; omega
  refine ⟨by decide, x_addLL.mpr ⟨by simp; omega, ?_⟩⟩
  rw [x_newT]
  refine ⟨X.map (·.1) ++ [f, b], by simp [seqOf, Function.comp_def], rfl, by simp; omega, fun E pw hm => ?_⟩
  rw [x_newT]
  have hq := hq E pw fun x => by
    rw [hm x, List.mem_append, List.mem_map, ← hX]
    constructor
    · rintro (⟨p, hp, rfl⟩ | h2)
      · obtain ⟨h1, h2⟩ := List.mem_filter.mp hp
        simp only [decide_eq_true_eq] at h2
        refine .inr (.inr ⟨h2.1, h2.2, ?_⟩)
        rcases List.mem_append.mp h1 with h3 | h3
        · obtain ⟨r, hr, hb, e⟩ := (mem_rows (l := l) (b := true) (R := R)).mp ⟨p, h3, rfl⟩
          exact ⟨r, hr, by rw [hb]; exact e⟩
        · obtain ⟨r, hr, hb, e⟩ := (mem_rows (l := l) (b := false) (R := R)).mp ⟨p, h3, rfl⟩
          exact ⟨r, hr, by rw [hb]; exact e⟩
      · simp only [List.mem_cons, List.not_mem_nil, or_false] at h2
        exact h2.elim .inl fun z => .inr (.inl z)
    · rintro (e | e | ⟨h1, h2, r, hr, e⟩)
      · exact .inr (by simp [e])
      · exact .inr (by simp [e])
      · refine .inl ?_
        cases hb : r.2.1 with
        | true =>
          obtain ⟨p, hp, e2⟩ := (mem_rows (l := l) (b := true) (R := R) (x := x)).mpr ⟨r, hr, hb, by rw [hb] at e; exact e⟩
          exact ⟨p, List.mem_filter.mpr ⟨List.mem_append_left _ hp, by simp only [decide_eq_true_eq]; omega⟩, e2⟩
        | false =>
          obtain ⟨p, hp, e2⟩ := (mem_rows (l := l) (b := false) (R := R) (x := x)).mpr ⟨r, hr, hb, by rw [hb] at e; exact e⟩
          exact ⟨p, List.mem_filter.mpr ⟨List.mem_append_right _ hp, by simp only [decide_eq_true_eq]; omega⟩, e2⟩
  refine ⟨by decide, ?_⟩
  rw [x_slL_l, x_newT, cutD_from 1 1 rfl, x_zipL]
  have hz : zipD (E.map D.int) ((E.map D.int).drop 1) = (E.zip E.tail).map pD := by
    unfold zipD
    rw [List.drop_one, ← List.map_tail, List.zipWith_map, List.zip_eq_zipWith, List.map_zipWith]
  rw [hz]
  let told := stS l h t n k R
  let ps : Nat → List Pc := fun i => ((E.zip E.tail).take i).foldl (fun ps p => addP ps p.1 p.2 (told p.1)) []
  have hE : E.length ≤ 802 := by
    have := nodup_len (l := E) (m := X.map (·.1) ++ [f, b]) (pw.imp fun z => by omega) fun y hy => (hm y).mp hy
    simp at this; omega
  have hps : ∀ i, i ≤ E.length → (ps i).length ≤ i := by
    intro i
    induction i with
    | zero => intro _; exact Nat.le_refl _
    | succ i ih =>
      intro hi
      have := ih (by omega)
      cases hz : (E.zip E.tail)[i]? with
      | none =>
        have e : ps (i + 1) = ps i := by
          show ((E.zip E.tail).take (i + 1)).foldl _ _ = ((E.zip E.tail).take i).foldl _ _
          have hl := List.getElem?_eq_none_iff.mp hz
          rw [List.take_of_length_le (by omega), List.take_of_length_le (by omega)]
        rw [e]; omega
      | some z =>
        have e : ps (i + 1) = addP (ps i) z.1 z.2 (told z.1) := by
          show ((E.zip E.tail).take (i + 1)).foldl _ _ = _
          rw [take_next hz, List.foldl_append]; rfl
        rw [e, addP_len]
        split <;> omega
  refine for_on (fun i ρ S' => ∃ v6 v7 v8 : Option D, S' = S ++ [some (.lst ((ps i).map (pcD a.C_Stretch)))] ∧ ρ = [some (gaD a.C_Gauge l h t n k), some (D.lst (List.map Mg.rD R)), some (D.obj a.C_Stretch [Str.ofString "first", Str.ofString "behind"] [D.int f, D.int b]),
    some (D.lst [D.lst (List.map pD (arr l true R)), D.lst (List.map pD (arr 0 false R))]), some (.lst (E.map D.int)), some (D.loc S.length), v6, v7, v8, none, none]) ⟨_, _, _, rfl, rfl⟩ ?_ ?_
  · rintro i z ρ S' hzi ⟨v6, v7, v8, rfl, rfl⟩
    have hrise := zip_rise pw hzi
    have hnext : ps (i + 1) = addP (ps i) z.1 z.2 (told z.1) := by
      show ((E.zip E.tail).take (i + 1)).foldl _ _ = _
      rw [take_next hzi, List.foldl_append]
      rfl
    refine ⟨trivial, _, x_b2, ?_⟩
    simp only [↓x_eqSS, ↓x_neSS, ↓gKGet, ↓x_kget, ↓x_ixE, at_last, ↓x_appE, ↓x_tyE, ↓x_itE, ↓x_lenE, ↓x_nePr, ↓x_eqPr, ↓x_neE, ↓x_lenr, ↓x_lenrI, ↓gRev, ↓x_par3, ↓x_par33, ↓x_fld, ↓x_fset, ↓x_mkF, ↓x_mk, ↓x_meth, ↓x_fldO, ↓x_fsetE, ↓x_fldE, ↓x_methO, ↓x_isiCO, ↓x_isiCN, ↓x_isiCT, ↓x_isiCLi, ↓x_isiCS, ↓x_isiCI, ↓x_own, ↓x_eqT2, ↓x_neT2, ↓x_neL4, ↓x_eqLN, ↓x_neNil, ↓x_gset, ↓x_lc, ↓x_for, ↓x_it, ↓x_rn1, ↓x_rn2, ↓x_enu, ↓x_zip, ↓x_itS, ↓x_itL, ↓x_itK, ↓x_itT, ↓x_rn1I, ↓x_rn2I, ↓x_enuL, ↓x_enuK, ↓x_zipL, ↓x_ixS0, ↓x_ixL, ↓x_ixT, ↓x_ixK, x_at0, x_at1, x_at2, x_at3, x_at4, ↓x_set00, ↓x_set01, ↓x_set02, ↓x_aug1, ↓x_aug2, ↓x_aug3, ↓x_aug4, ↓x_aug5, ↓x_aug6, ↓x_aug7, ↓x_aug8, ↓x_aug9, ↓x_aug10, ↓x_aug11, ↓x_aug12, ↓x_aug13, ↓x_aug14, ↓x_aug15, ↓x_aug16, ↓x_aug17, ↓x_aug18, ↓x_aug19, ↓x_aug20, ↓x_aug21, ↓x_aug22, ↓x_aug23, Int.reduceToNat, Int.reducePow, ↓gSeq, ↓gIfS, ↓gSet, ↓gAsg, ↓x_par, ↓x_par2, ↓gRet, ↓gRetN, ↓gNext, ↓gDrop, ↓gBreak, ↓gCont, ↓gDead, ↓gCB, ↓gB2, ↓gU, ↓gC, ↓Dl.gCons, ↓Dl.gNil, ↓Dl.gTup, ↓Dl.gLst, ↓gTest, ↓gOrB, ↓gAndB, ↓gNotB, ↓gAndV, ↓gOrV, ↓gNotV, ↓gIf, ↓gIx, ↓gSl, ↓gPart, ↓gNoP, ↓gMt, ↓gCall, ↓gArgs, ↓gIsN, ↓gNotN, ↓gChain, ↓x_fmtS, ↓x_afS, ↓x_afI, ↓x_js0, ↓x_jsc, ↓gJoined, ↓gYes, ↓x_bnm, ↓x_btp, ↓x_bn, ↓x_bc, ↓x_nnN, ↓x_nnI, ↓x_nnS, ↓x_nnB, ↓x_nnT, ↓x_nnL, ↓x_nnO, ↓x_nnl, ↓x_tyS, ↓x_tyL, ↓x_i2, ↓aSub, ↓aFdiv, ↓aMod, ↓aPow, ↓aShr, ↓aLt, ↓aLe, ↓aGt, ↓aGe, ↓x_addI, ↓x_addS, ↓x_mulI, ↓x_iaddS, ↓x_iaddI, ↓x_neg, ↓x_eqI, ↓x_neI, ↓x_eqS, ↓x_neS, ↓x_eqB, ↓x_neB, ↓x_eqNI, ↓x_neNI, ↓x_lenS, ↓x_lenL_l, ↓x_lenL_k, ↓x_lenL_t, ↓x_str, ↓x_intI, ↓x_intB, ↓x_divmod, ↓x_max2, ↓x_min2, ↓x_ixS, ↓x_slS, ↓x_slT, ↓x_slL_l, ↓x_slL_k, ↓x_inS, ↓x_newT, ↓x_newF, ↓x_si, ↓x_s1, ↓x_s0, ↓x_rpart, ↓x_part, ↓x_a1, ↓x_a2, ↓x_isiStr, ↓x_isiInt, ↓x_isiIntB, ↓x_isiIntS, ↓x_isiBB, ↓x_isiBI, ↓x_isiStrI, ↓x_isiNonI, ↓x_isiNonS, ↓x_isiT, ↓x_isiL, ↓x_var0, ↓x_varS, ↓x_ex, ↓x_aug0, gat, pick, Option.some.injEq, D.bl.injEq, D.int.injEq, D.str.injEq, D.tup.injEq, D.lst.injEq, List.cons.injEq, and_true, true_and, List.set_cons_zero, List.set_cons_succ, List.length_cons, List.length_nil, List.filterMap_cons, List.filterMap_nil, List.getElem?_cons_zero, List.getElem?_cons_succ, Option.bind_some, ↓reduceIte, if_true, if_false, Bool.false_eq_true, Bool.true_eq_false, decide_eq_true_eq, beq_self_eq_true, Bool.not_true, Bool.not_false, Bool.not_eq_true', decide_eq_false_iff_not, exists_eq_left', exists_eq_left, exists_eq, ↓x_dnT, ↓x_dnF, ↓gAsgL, ↓gMMDef, ↓gDSet, ↓gSItems, ↓x_nilL, ↓x_nilE, List.isEmpty_nil, List.isEmpty_cons, Bool.true_xor, Bool.false_xor, ↓gSortSet, ↓gOrT, ↓gAndT, ↓gTryAs, ↓gTryO, ↓gRaise, ↓gCallX, ↓gMethX, ↓gMakeX, ↓gFldX, ↓x_fmtRS, ↓x_afRS, ↓x_afRI, ↓x_stO]
    refine (x_methO (by decide +kernel)).mpr ⟨_, z.1, rfl, aL1, fun n1 hn1 => ⟨_, z.1, rfl, aL0, fun n0 hn0 => ⟨l, h, t, n, k, n1, n0, rfl, by decide, ?_⟩⟩⟩
    have hw : standS h t n k n1 n0 = told z.1 := by rw [numAt_eq hn1, numAt_eq hn0]; rfl
    rw [hw, x_nilE]
    have hlen : (ps i).length < sizeLine := by
      have hi : i ≤ E.length := by have := (List.getElem?_eq_some_iff.mp hzi).1; rw [List.length_zip] at this; omega
      have := hps i hi
      omega
    cases hl : (ps i).getLast? with
    | none =>
      have h0 : ps i = [] := List.getLast?_eq_none_iff.mp hl
      have h1 : ps (i + 1) = [(z.1, z.2, told z.1)] := by rw [hnext, h0]; rfl
      rw [h0, h1]
      simp only [List.map_nil, List.map_cons, ↓x_eqSS, ↓x_neSS, ↓gKGet, ↓x_kget, ↓x_ixE, at_last, ↓x_appE, ↓x_tyE, ↓x_itE, ↓x_lenE, ↓x_nePr, ↓x_eqPr, ↓x_neE, ↓x_lenr, ↓x_lenrI, ↓gRev, ↓x_par3, ↓x_par33, ↓x_fld, ↓x_fset, ↓x_mkF, ↓x_mk, ↓x_meth, ↓x_fldO, ↓x_fsetE, ↓x_fldE, ↓x_methO, ↓x_isiCO, ↓x_isiCN, ↓x_isiCT, ↓x_isiCLi, ↓x_isiCS, ↓x_isiCI, ↓x_own, ↓x_eqT2, ↓x_neT2, ↓x_neL4, ↓x_eqLN, ↓x_neNil, ↓x_gset, ↓x_lc, ↓x_for, ↓x_it, ↓x_rn1, ↓x_rn2, ↓x_enu, ↓x_zip, ↓x_itS, ↓x_itL, ↓x_itK, ↓x_itT, ↓x_rn1I, ↓x_rn2I, ↓x_enuL, ↓x_enuK, ↓x_zipL, ↓x_ixS0, ↓x_ixL, ↓x_ixT, ↓x_ixK, x_at0, x_at1, x_at2, x_at3, x_at4, ↓x_set00, ↓x_set01, ↓x_set02, ↓x_aug1, ↓x_aug2, ↓x_aug3, ↓x_aug4, ↓x_aug5, ↓x_aug6, ↓x_aug7, ↓x_aug8, ↓x_aug9, ↓x_aug10, ↓x_aug11, ↓x_aug12, ↓x_aug13, ↓x_aug14, ↓x_aug15, ↓x_aug16, ↓x_aug17, ↓x_aug18, ↓x_aug19, ↓x_aug20, ↓x_aug21, ↓x_aug22, ↓x_aug23, Int.reduceToNat, Int.reducePow, ↓gSeq, ↓gIfS, ↓gSet, ↓gAsg, ↓x_par, ↓x_par2, ↓gRet, ↓gRetN, ↓gNext, ↓gDrop, ↓gBreak, ↓gCont, ↓gDead, ↓gCB, ↓gB2, ↓gU, ↓gC, ↓Dl.gCons, ↓Dl.gNil, ↓Dl.gTup, ↓Dl.gLst, ↓gTest, ↓gOrB, ↓gAndB, ↓gNotB, ↓gAndV, ↓gOrV, ↓gNotV, ↓gIf, ↓gIx, ↓gSl, ↓gPart, ↓gNoP, ↓gMt, ↓gCall, ↓gArgs, ↓gIsN, ↓gNotN, ↓gChain, ↓x_fmtS, ↓x_afS, ↓x_afI, ↓x_js0, ↓x_jsc, ↓gJoined, ↓gYes, ↓x_bnm, ↓x_btp, ↓x_bn, ↓x_bc, ↓x_nnN, ↓x_nnI, ↓x_nnS, ↓x_nnB, ↓x_nnT, ↓x_nnL, ↓x_nnO, ↓x_nnl, ↓x_tyS, ↓x_tyL, ↓x_i2, ↓aSub, ↓aFdiv, ↓aMod, ↓aPow, ↓aShr, ↓aLt, ↓aLe, ↓aGt, ↓aGe, ↓x_addI, ↓x_addS, ↓x_mulI, ↓x_iaddS, ↓x_iaddI, ↓x_neg, ↓x_eqI, ↓x_neI, ↓x_eqS, ↓x_neS, ↓x_eqB, ↓x_neB, ↓x_eqNI, ↓x_neNI, ↓x_lenS, ↓x_lenL_l, ↓x_lenL_k, ↓x_lenL_t, ↓x_str, ↓x_intI, ↓x_intB, ↓x_divmod, ↓x_max2, ↓x_min2, ↓x_ixS, ↓x_slS, ↓x_slT, ↓x_slL_l, ↓x_slL_k, ↓x_inS, ↓x_newT, ↓x_newF, ↓x_si, ↓x_s1, ↓x_s0, ↓x_rpart, ↓x_part, ↓x_a1, ↓x_a2, ↓x_isiStr, ↓x_isiInt, ↓x_isiIntB, ↓x_isiIntS, ↓x_isiBB, ↓x_isiBI, ↓x_isiStrI, ↓x_isiNonI, ↓x_isiNonS, ↓x_isiT, ↓x_isiL, ↓x_var0, ↓x_varS, ↓x_ex, ↓x_aug0, gat, pick, Option.some.injEq, D.bl.injEq, D.int.injEq, D.str.injEq, D.tup.injEq, D.lst.injEq, List.cons.injEq, and_true, true_and, List.set_cons_zero, List.set_cons_succ, List.length_cons, List.length_nil, List.filterMap_cons, List.filterMap_nil, List.getElem?_cons_zero, List.getElem?_cons_succ, Option.bind_some, ↓reduceIte, if_true, if_false, Bool.false_eq_true, Bool.true_eq_false, decide_eq_true_eq, beq_self_eq_true, Bool.not_true, Bool.not_false, Bool.not_eq_true', decide_eq_false_iff_not, exists_eq_left', exists_eq_left, exists_eq, ↓x_dnT, ↓x_dnF, ↓gAsgL, ↓gMMDef, ↓gDSet, ↓gSItems, ↓x_nilL, ↓x_nilE, List.isEmpty_nil, List.isEmpty_cons, Bool.true_xor, Bool.false_xor, ↓gSortSet, ↓gOrT, ↓gAndT, ↓gTryAs, ↓gTryO, ↓gRaise, ↓gCallX, ↓gMethX, ↓gMakeX, ↓gFldX, ↓x_fmtRS, ↓x_afRS, ↓x_afRI, ↓x_stO]
      exact Mt.st_make (by omega) ⟨by decide, x_appE.mpr ⟨by decide, _, _, _, rfl, rfl, rfl, rfl⟩⟩
    | some p =>
      have hne : ps i ≠ [] := fun e => by rw [e] at hl; cases hl
      have he : ((ps i).map (pcD a.C_Stretch)).isEmpty = false := by
        cases hh : ps i with
        | nil => exact absurd hh hne
        | cons _ _ => rfl
      have hlm : ((ps i).map (pcD a.C_Stretch)).getLast? = some (pcD a.C_Stretch p) := by rw [List.getLast?_map, hl]; rfl
      rw [he]
      simp only [↓x_eqSS, ↓x_neSS, ↓gKGet, ↓x_kget, ↓x_ixE, at_last, ↓x_appE, ↓x_tyE, ↓x_itE, ↓x_lenE, ↓x_nePr, ↓x_eqPr, ↓x_neE, ↓x_lenr, ↓x_lenrI, ↓gRev, ↓x_par3, ↓x_par33, ↓x_fld, ↓x_fset, ↓x_mkF, ↓x_mk, ↓x_meth, ↓x_fldO, ↓x_fsetE, ↓x_fldE, ↓x_methO, ↓x_isiCO, ↓x_isiCN, ↓x_isiCT, ↓x_isiCLi, ↓x_isiCS, ↓x_isiCI, ↓x_own, ↓x_eqT2, ↓x_neT2, ↓x_neL4, ↓x_eqLN, ↓x_neNil, ↓x_gset, ↓x_lc, ↓x_for, ↓x_it, ↓x_rn1, ↓x_rn2, ↓x_enu, ↓x_zip, ↓x_itS, ↓x_itL, ↓x_itK, ↓x_itT, ↓x_rn1I, ↓x_rn2I, ↓x_enuL, ↓x_enuK, ↓x_zipL, ↓x_ixS0, ↓x_ixL, ↓x_ixT, ↓x_ixK, x_at0, x_at1, x_at2, x_at3, x_at4, ↓x_set00, ↓x_set01, ↓x_set02, ↓x_aug1, ↓x_aug2, ↓x_aug3, ↓x_aug4, ↓x_aug5, ↓x_aug6, ↓x_aug7, ↓x_aug8, ↓x_aug9, ↓x_aug10, ↓x_aug11, ↓x_aug12, ↓x_aug13, ↓x_aug14, ↓x_aug15, ↓x_aug16, ↓x_aug17, ↓x_aug18, ↓x_aug19, ↓x_aug20, ↓x_aug21, ↓x_aug22, ↓x_aug23, Int.reduceToNat, Int.reducePow, ↓gSeq, ↓gIfS, ↓gSet, ↓gAsg, ↓x_par, ↓x_par2, ↓gRet, ↓gRetN, ↓gNext, ↓gDrop, ↓gBreak, ↓gCont, ↓gDead, ↓gCB, ↓gB2, ↓gU, ↓gC, ↓Dl.gCons, ↓Dl.gNil, ↓Dl.gTup, ↓Dl.gLst, ↓gTest, ↓gOrB, ↓gAndB, ↓gNotB, ↓gAndV, ↓gOrV, ↓gNotV, ↓gIf, ↓gIx, ↓gSl, ↓gPart, ↓gNoP, ↓gMt, ↓gCall, ↓gArgs, ↓gIsN, ↓gNotN, ↓gChain, ↓x_fmtS, ↓x_afS, ↓x_afI, ↓x_js0, ↓x_jsc, ↓gJoined, ↓gYes, ↓x_bnm, ↓x_btp, ↓x_bn, ↓x_bc, ↓x_nnN, ↓x_nnI, ↓x_nnS, ↓x_nnB, ↓x_nnT, ↓x_nnL, ↓x_nnO, ↓x_nnl, ↓x_tyS, ↓x_tyL, ↓x_i2, ↓aSub, ↓aFdiv, ↓aMod, ↓aPow, ↓aShr, ↓aLt, ↓aLe, ↓aGt, ↓aGe, ↓x_addI, ↓x_addS, ↓x_mulI, ↓x_iaddS, ↓x_iaddI, ↓x_neg, ↓x_eqI, ↓x_neI, ↓x_eqS, ↓x_neS, ↓x_eqB, ↓x_neB, ↓x_eqNI, ↓x_neNI, ↓x_lenS, ↓x_lenL_l, ↓x_lenL_k, ↓x_lenL_t, ↓x_str, ↓x_intI, ↓x_intB, ↓x_divmod, ↓x_max2, ↓x_min2, ↓x_ixS, ↓x_slS, ↓x_slT, ↓x_slL_l, ↓x_slL_k, ↓x_inS, ↓x_newT, ↓x_newF, ↓x_si, ↓x_s1, ↓x_s0, ↓x_rpart, ↓x_part, ↓x_a1, ↓x_a2, ↓x_isiStr, ↓x_isiInt, ↓x_isiIntB, ↓x_isiIntS, ↓x_isiBB, ↓x_isiBI, ↓x_isiStrI, ↓x_isiNonI, ↓x_isiNonS, ↓x_isiT, ↓x_isiL, ↓x_var0, ↓x_varS, ↓x_ex, ↓x_aug0, gat, pick, Option.some.injEq, D.bl.injEq, D.int.injEq, D.str.injEq, D.tup.injEq, D.lst.injEq, List.cons.injEq, and_true, true_and, List.set_cons_zero, List.set_cons_succ, List.length_cons, List.length_nil, List.filterMap_cons, List.filterMap_nil, List.getElem?_cons_zero, List.getElem?_cons_succ, Option.bind_some, ↓reduceIte, if_true, if_false, Bool.false_eq_true, Bool.true_eq_false, decide_eq_true_eq, beq_self_eq_true, Bool.not_true, Bool.not_false, Bool.not_eq_true', decide_eq_false_iff_not, exists_eq_left', exists_eq_left, exists_eq, ↓x_dnT, ↓x_dnF, ↓gAsgL, ↓gMMDef, ↓gDSet, ↓gSItems, ↓x_nilL, ↓x_nilE, List.isEmpty_nil, List.isEmpty_cons, Bool.true_xor, Bool.false_xor, ↓gSortSet, ↓gOrT, ↓gAndT, ↓gTryAs, ↓gTryO, ↓gRaise, ↓gCallX, ↓gMethX, ↓gMakeX, ↓gFldX, ↓x_fmtRS, ↓x_afRS, ↓x_afRI, ↓x_stO]
      refine ⟨_, hlm, ?_⟩
      simp only [↓x_eqSS, ↓x_neSS, ↓gKGet, ↓x_kget, ↓x_ixE, at_last, ↓x_appE, ↓x_tyE, ↓x_itE, ↓x_lenE, ↓x_nePr, ↓x_eqPr, ↓x_neE, ↓x_lenr, ↓x_lenrI, ↓gRev, ↓x_par3, ↓x_par33, ↓x_fld, ↓x_fset, ↓x_mkF, ↓x_mk, ↓x_meth, ↓x_fldO, ↓x_fsetE, ↓x_fldE, ↓x_methO, ↓x_isiCO, ↓x_isiCN, ↓x_isiCT, ↓x_isiCLi, ↓x_isiCS, ↓x_isiCI, ↓x_own, ↓x_eqT2, ↓x_neT2, ↓x_neL4, ↓x_eqLN, ↓x_neNil, ↓x_gset, ↓x_lc, ↓x_for, ↓x_it, ↓x_rn1, ↓x_rn2, ↓x_enu, ↓x_zip, ↓x_itS, ↓x_itL, ↓x_itK, ↓x_itT, ↓x_rn1I, ↓x_rn2I, ↓x_enuL, ↓x_enuK, ↓x_zipL, ↓x_ixS0, ↓x_ixL, ↓x_ixT, ↓x_ixK, x_at0, x_at1, x_at2, x_at3, x_at4, ↓x_set00, ↓x_set01, ↓x_set02, ↓x_aug1, ↓x_aug2, ↓x_aug3, ↓x_aug4, ↓x_aug5, ↓x_aug6, ↓x_aug7, ↓x_aug8, ↓x_aug9, ↓x_aug10, ↓x_aug11, ↓x_aug12, ↓x_aug13, ↓x_aug14, ↓x_aug15, ↓x_aug16, ↓x_aug17, ↓x_aug18, ↓x_aug19, ↓x_aug20, ↓x_aug21, ↓x_aug22, ↓x_aug23, Int.reduceToNat, Int.reducePow, ↓gSeq, ↓gIfS, ↓gSet, ↓gAsg, ↓x_par, ↓x_par2, ↓gRet, ↓gRetN, ↓gNext, ↓gDrop, ↓gBreak, ↓gCont, ↓gDead, ↓gCB, ↓gB2, ↓gU, ↓gC, ↓Dl.gCons, ↓Dl.gNil, ↓Dl.gTup, ↓Dl.gLst, ↓gTest, ↓gOrB, ↓gAndB, ↓gNotB, ↓gAndV, ↓gOrV, ↓gNotV, ↓gIf, ↓gIx, ↓gSl, ↓gPart, ↓gNoP, ↓gMt, ↓gCall, ↓gArgs, ↓gIsN, ↓gNotN, ↓gChain, ↓x_fmtS, ↓x_afS, ↓x_afI, ↓x_js0, ↓x_jsc, ↓gJoined, ↓gYes, ↓x_bnm, ↓x_btp, ↓x_bn, ↓x_bc, ↓x_nnN, ↓x_nnI, ↓x_nnS, ↓x_nnB, ↓x_nnT, ↓x_nnL, ↓x_nnO, ↓x_nnl, ↓x_tyS, ↓x_tyL, ↓x_i2, ↓aSub, ↓aFdiv, ↓aMod, ↓aPow, ↓aShr, ↓aLt, ↓aLe, ↓aGt, ↓aGe, ↓x_addI, ↓x_addS, ↓x_mulI, ↓x_iaddS, ↓x_iaddI, ↓x_neg, ↓x_eqI, ↓x_neI, ↓x_eqS, ↓x_neS, ↓x_eqB, ↓x_neB, ↓x_eqNI, ↓x_neNI, ↓x_lenS, ↓x_lenL_l, ↓x_lenL_k, ↓x_lenL_t, ↓x_str, ↓x_intI, ↓x_intB, ↓x_divmod, ↓x_max2, ↓x_min2, ↓x_ixS, ↓x_slS, ↓x_slT, ↓x_slL_l, ↓x_slL_k, ↓x_inS, ↓x_newT, ↓x_newF, ↓x_si, ↓x_s1, ↓x_s0, ↓x_rpart, ↓x_part, ↓x_a1, ↓x_a2, ↓x_isiStr, ↓x_isiInt, ↓x_isiIntB, ↓x_isiIntS, ↓x_isiBB, ↓x_isiBI, ↓x_isiStrI, ↓x_isiNonI, ↓x_isiNonS, ↓x_isiT, ↓x_isiL, ↓x_var0, ↓x_varS, ↓x_ex, ↓x_aug0, gat, pick, Option.some.injEq, D.bl.injEq, D.int.injEq, D.str.injEq, D.tup.injEq, D.lst.injEq, List.cons.injEq, and_true, true_and, List.set_cons_zero, List.set_cons_succ, List.length_cons, List.length_nil, List.filterMap_cons, List.filterMap_nil, List.getElem?_cons_zero, List.getElem?_cons_succ, Option.bind_some, ↓reduceIte, if_true, if_false, Bool.false_eq_true, Bool.true_eq_false, decide_eq_true_eq, beq_self_eq_true, Bool.not_true, Bool.not_false, Bool.not_eq_true', decide_eq_false_iff_not, exists_eq_left', exists_eq_left, exists_eq, ↓x_dnT, ↓x_dnF, ↓gAsgL, ↓gMMDef, ↓gDSet, ↓gSItems, ↓x_nilL, ↓x_nilE, List.isEmpty_nil, List.isEmpty_cons, Bool.true_xor, Bool.false_xor, ↓gSortSet, ↓gOrT, ↓gAndT, ↓gTryAs, ↓gTryO, ↓gRaise, ↓gCallX, ↓gMethX, ↓gMakeX, ↓gFldX, ↓x_fmtRS, ↓x_afRS, ↓x_afRI, ↓x_stO]
      by_cases c : p.2.2 = told z.1
      · have h1 : ps (i + 1) = (ps i).dropLast ++ [(p.1, z.2, told z.1)] := by rw [hnext]; unfold addP; rw [hl]; exact if_pos c
        rw [if_pos c, h1]
        refine (x_popE hlm).mpr ?_
        simp only [T.f_Stretch_first, ↓Mt.stD, Mt.fg_first, ↓x_eqSS, ↓x_neSS, ↓gKGet, ↓x_kget, ↓x_ixE, at_last, ↓x_appE, ↓x_tyE, ↓x_itE, ↓x_lenE, ↓x_nePr, ↓x_eqPr, ↓x_neE, ↓x_lenr, ↓x_lenrI, ↓gRev, ↓x_par3, ↓x_par33, ↓x_fld, ↓x_fset, ↓x_mkF, ↓x_mk, ↓x_meth, ↓x_fldO, ↓x_fsetE, ↓x_fldE, ↓x_methO, ↓x_isiCO, ↓x_isiCN, ↓x_isiCT, ↓x_isiCLi, ↓x_isiCS, ↓x_isiCI, ↓x_own, ↓x_eqT2, ↓x_neT2, ↓x_neL4, ↓x_eqLN, ↓x_neNil, ↓x_gset, ↓x_lc, ↓x_for, ↓x_it, ↓x_rn1, ↓x_rn2, ↓x_enu, ↓x_zip, ↓x_itS, ↓x_itL, ↓x_itK, ↓x_itT, ↓x_rn1I, ↓x_rn2I, ↓x_enuL, ↓x_enuK, ↓x_zipL, ↓x_ixS0, ↓x_ixL, ↓x_ixT, ↓x_ixK, x_at0, x_at1, x_at2, x_at3, x_at4, ↓x_set00, ↓x_set01, ↓x_set02, ↓x_aug1, ↓x_aug2, ↓x_aug3, ↓x_aug4, ↓x_aug5, ↓x_aug6, ↓x_aug7, ↓x_aug8, ↓x_aug9, ↓x_aug10, ↓x_aug11, ↓x_aug12, ↓x_aug13, ↓x_aug14, ↓x_aug15, ↓x_aug16, ↓x_aug17, ↓x_aug18, ↓x_aug19, ↓x_aug20, ↓x_aug21, ↓x_aug22, ↓x_aug23, Int.reduceToNat, Int.reducePow, ↓gSeq, ↓gIfS, ↓gSet, ↓gAsg, ↓x_par, ↓x_par2, ↓gRet, ↓gRetN, ↓gNext, ↓gDrop, ↓gBreak, ↓gCont, ↓gDead, ↓gCB, ↓gB2, ↓gU, ↓gC, ↓Dl.gCons, ↓Dl.gNil, ↓Dl.gTup, ↓Dl.gLst, ↓gTest, ↓gOrB, ↓gAndB, ↓gNotB, ↓gAndV, ↓gOrV, ↓gNotV, ↓gIf, ↓gIx, ↓gSl, ↓gPart, ↓gNoP, ↓gMt, ↓gCall, ↓gArgs, ↓gIsN, ↓gNotN, ↓gChain, ↓x_fmtS, ↓x_afS, ↓x_afI, ↓x_js0, ↓x_jsc, ↓gJoined, ↓gYes, ↓x_bnm, ↓x_btp, ↓x_bn, ↓x_bc, ↓x_nnN, ↓x_nnI, ↓x_nnS, ↓x_nnB, ↓x_nnT, ↓x_nnL, ↓x_nnO, ↓x_nnl, ↓x_tyS, ↓x_tyL, ↓x_i2, ↓aSub, ↓aFdiv, ↓aMod, ↓aPow, ↓aShr, ↓aLt, ↓aLe, ↓aGt, ↓aGe, ↓x_addI, ↓x_addS, ↓x_mulI, ↓x_iaddS, ↓x_iaddI, ↓x_neg, ↓x_eqI, ↓x_neI, ↓x_eqS, ↓x_neS, ↓x_eqB, ↓x_neB, ↓x_eqNI, ↓x_neNI, ↓x_lenS, ↓x_lenL_l, ↓x_lenL_k, ↓x_lenL_t, ↓x_str, ↓x_intI, ↓x_intB, ↓x_divmod, ↓x_max2, ↓x_min2, ↓x_ixS, ↓x_slS, ↓x_slT, ↓x_slL_l, ↓x_slL_k, ↓x_inS, ↓x_newT, ↓x_newF, ↓x_si, ↓x_s1, ↓x_s0, ↓x_rpart, ↓x_part, ↓x_a1, ↓x_a2, ↓x_isiStr, ↓x_isiInt, ↓x_isiIntB, ↓x_isiIntS, ↓x_isiBB, ↓x_isiBI, ↓x_isiStrI, ↓x_isiNonI, ↓x_isiNonS, ↓x_isiT, ↓x_isiL, ↓x_var0, ↓x_varS, ↓x_ex, ↓x_aug0, gat, pick, Option.some.injEq, D.bl.injEq, D.int.injEq, D.str.injEq, D.tup.injEq, D.lst.injEq, List.cons.injEq, and_true, true_and, List.set_cons_zero, List.set_cons_succ, List.length_cons, List.length_nil, List.filterMap_cons, List.filterMap_nil, List.getElem?_cons_zero, List.getElem?_cons_succ, Option.bind_some, ↓reduceIte, if_true, if_false, Bool.false_eq_true, Bool.true_eq_false, decide_eq_true_eq, beq_self_eq_true, Bool.not_true, Bool.not_false, Bool.not_eq_true', decide_eq_false_iff_not, exists_eq_left', exists_eq_left, exists_eq, ↓x_dnT, ↓x_dnF, ↓gAsgL, ↓gMMDef, ↓gDSet, ↓gSItems, ↓x_nilL, ↓x_nilE, List.isEmpty_nil, List.isEmpty_cons, Bool.true_xor, Bool.false_xor, ↓gSortSet, ↓gOrT, ↓gAndT, ↓gTryAs, ↓gTryO, ↓gRaise, ↓gCallX, ↓gMethX, ↓gMakeX, ↓gFldX, ↓x_fmtRS, ↓x_afRS, ↓x_afRI, ↓x_stO]
        refine Mt.st_make (by have := last_le pw i z p hzi hl; omega) ⟨by decide, x_appE.mpr ⟨by rw [List.length_dropLast, List.length_map]; omega, _, _, _, ?_, rfl, rfl, rfl⟩⟩
        rw [List.map_append, List.map_dropLast]
        rfl
      · have h1 : ps (i + 1) = ps i ++ [(z.1, z.2, told z.1)] := by rw [hnext]; unfold addP; rw [hl]; exact if_neg c
        rw [if_neg c, h1]
        refine Mt.st_make (by omega) ⟨by decide, x_appE.mpr ⟨by rw [List.length_map]; omega, _, _, _, ?_, rfl, rfl, rfl⟩⟩
        rw [List.map_append]
        rfl
  · rintro ρ S' ⟨v6, v7, v8, rfl, rfl⟩
    refine ⟨trivial, ?_⟩
    simp only [↓x_eqSS, ↓x_neSS, ↓gKGet, ↓x_kget, ↓x_ixE, at_last, ↓x_appE, ↓x_tyE, ↓x_itE, ↓x_lenE, ↓x_nePr, ↓x_eqPr, ↓x_neE, ↓x_lenr, ↓x_lenrI, ↓gRev, ↓x_par3, ↓x_par33, ↓x_fld, ↓x_fset, ↓x_mkF, ↓x_mk, ↓x_meth, ↓x_fldO, ↓x_fsetE, ↓x_fldE, ↓x_methO, ↓x_isiCO, ↓x_isiCN, ↓x_isiCT, ↓x_isiCLi, ↓x_isiCS, ↓x_isiCI, ↓x_own, ↓x_eqT2, ↓x_neT2, ↓x_neL4, ↓x_eqLN, ↓x_neNil, ↓x_gset, ↓x_lc, ↓x_for, ↓x_it, ↓x_rn1, ↓x_rn2, ↓x_enu, ↓x_zip, ↓x_itS, ↓x_itL, ↓x_itK, ↓x_itT, ↓x_rn1I, ↓x_rn2I, ↓x_enuL, ↓x_enuK, ↓x_zipL, ↓x_ixS0, ↓x_ixL, ↓x_ixT, ↓x_ixK, x_at0, x_at1, x_at2, x_at3, x_at4, ↓x_set00, ↓x_set01, ↓x_set02, ↓x_aug1, ↓x_aug2, ↓x_aug3, ↓x_aug4, ↓x_aug5, ↓x_aug6, ↓x_aug7, ↓x_aug8, ↓x_aug9, ↓x_aug10, ↓x_aug11, ↓x_aug12, ↓x_aug13, ↓x_aug14, ↓x_aug15, ↓x_aug16, ↓x_aug17, ↓x_aug18, ↓x_aug19, ↓x_aug20, ↓x_aug21, ↓x_aug22, ↓x_aug23, Int.reduceToNat, Int.reducePow, ↓gSeq, ↓gIfS, ↓gSet, ↓gAsg, ↓x_par, ↓x_par2, ↓gRet, ↓gRetN, ↓gNext, ↓gDrop, ↓gBreak, ↓gCont, ↓gDead, ↓gCB, ↓gB2, ↓gU, ↓gC, ↓Dl.gCons, ↓Dl.gNil, ↓Dl.gTup, ↓Dl.gLst, ↓gTest, ↓gOrB, ↓gAndB, ↓gNotB, ↓gAndV, ↓gOrV, ↓gNotV, ↓gIf, ↓gIx, ↓gSl, ↓gPart, ↓gNoP, ↓gMt, ↓gCall, ↓gArgs, ↓gIsN, ↓gNotN, ↓gChain, ↓x_fmtS, ↓x_afS, ↓x_afI, ↓x_js0, ↓x_jsc, ↓gJoined, ↓gYes, ↓x_bnm, ↓x_btp, ↓x_bn, ↓x_bc, ↓x_nnN, ↓x_nnI, ↓x_nnS, ↓x_nnB, ↓x_nnT, ↓x_nnL, ↓x_nnO, ↓x_nnl, ↓x_tyS, ↓x_tyL, ↓x_i2, ↓aSub, ↓aFdiv, ↓aMod, ↓aPow, ↓aShr, ↓aLt, ↓aLe, ↓aGt, ↓aGe, ↓x_addI, ↓x_addS, ↓x_mulI, ↓x_iaddS, ↓x_iaddI, ↓x_neg, ↓x_eqI, ↓x_neI, ↓x_eqS, ↓x_neS, ↓x_eqB, ↓x_neB, ↓x_eqNI, ↓x_neNI, ↓x_lenS, ↓x_lenL_l, ↓x_lenL_k, ↓x_lenL_t, ↓x_str, ↓x_intI, ↓x_intB, ↓x_divmod, ↓x_max2, ↓x_min2, ↓x_ixS, ↓x_slS, ↓x_slT, ↓x_slL_l, ↓x_slL_k, ↓x_inS, ↓x_newT, ↓x_newF, ↓x_si, ↓x_s1, ↓x_s0, ↓x_rpart, ↓x_part, ↓x_a1, ↓x_a2, ↓x_isiStr, ↓x_isiInt, ↓x_isiIntB, ↓x_isiIntS, ↓x_isiBB, ↓x_isiBI, ↓x_isiStrI, ↓x_isiNonI, ↓x_isiNonS, ↓x_isiT, ↓x_isiL, ↓x_var0, ↓x_varS, ↓x_ex, ↓x_aug0, gat, pick, Option.some.injEq, D.bl.injEq, D.int.injEq, D.str.injEq, D.tup.injEq, D.lst.injEq, List.cons.injEq, and_true, true_and, List.set_cons_zero, List.set_cons_succ, List.length_cons, List.length_nil, List.filterMap_cons, List.filterMap_nil, List.getElem?_cons_zero, List.getElem?_cons_succ, Option.bind_some, ↓reduceIte, if_true, if_false, Bool.false_eq_true, Bool.true_eq_false, decide_eq_true_eq, beq_self_eq_true, Bool.not_true, Bool.not_false, Bool.not_eq_true', decide_eq_false_iff_not, exists_eq_left', exists_eq_left, exists_eq, ↓x_dnT, ↓x_dnF, ↓gAsgL, ↓gMMDef, ↓gDSet, ↓gSItems, ↓x_nilL, ↓x_nilE, List.isEmpty_nil, List.isEmpty_cons, Bool.true_xor, Bool.false_xor, ↓gSortSet, ↓gOrT, ↓gAndT, ↓gTryAs, ↓gTryO, ↓gRaise, ↓gCallX, ↓gMethX, ↓gMakeX, ↓gFldX, ↓x_fmtRS, ↓x_afRS, ↓x_afRI, ↓x_stO]
    have e : ps (E.zip E.tail).length = pieces told E := by show ((E.zip E.tail).take _).foldl _ _ = _; rw [List.take_length]; rfl
    rw [e]
    exact hq
end
end Lw
namespace Lw
open PySem L2 Dl Mg
section
variable {P : Program} {w : World} {K : PySem.W.Frag} {mg : Str → Option Value} {base : Heap} {a : Ad}
theorem r__law_edges : ∀ ds S q, sp__law_edges a ds S q → g__law_edges K a { nx := fun _ S' => q .non S', rt := q } (startD N__law_edges ds) S := by
  rintro ds S q ⟨o, l, h, t, n, k, R, ho, rfl, hR, hq⟩
  rw [st__law_edges]
  have hs' : 1000 ≤ sizeLine := by decide
  obtain ⟨i0, -, -, -, -⟩ := ix5 (S := S) ho
  simp only [g__law_edges, ↓x_eqSS, ↓x_neSS, ↓gKGet, ↓x_kget, ↓x_ixE, at_last, ↓x_appE, ↓x_tyE, ↓x_itE, ↓x_lenE, ↓x_nePr, ↓x_eqPr, ↓x_neE, ↓x_lenr, ↓x_lenrI, ↓gRev, ↓x_par3, ↓x_par33, ↓x_fld, ↓x_fset, ↓x_mkF, ↓x_mk, ↓x_meth, ↓x_fldO, ↓x_fsetE, ↓x_fldE, ↓x_methO, ↓x_isiCO, ↓x_isiCN, ↓x_isiCT, ↓x_isiCLi, ↓x_isiCS, ↓x_isiCI, ↓x_own, ↓x_eqT2, ↓x_neT2, ↓x_neL4, ↓x_eqLN, ↓x_neNil, ↓x_gset, ↓x_lc, ↓x_for, ↓x_it, ↓x_rn1, ↓x_rn2, ↓x_enu, ↓x_zip, ↓x_itS, ↓x_itL, ↓x_itK, ↓x_itT, ↓x_rn1I, ↓x_rn2I, ↓x_enuL, ↓x_enuK, ↓x_zipL, ↓x_ixS0, ↓x_ixL, ↓x_ixT, ↓x_ixK, x_at0, x_at1, x_at2, x_at3, x_at4, ↓x_set00, ↓x_set01, ↓x_set02, ↓x_aug1, ↓x_aug2, ↓x_aug3, ↓x_aug4, ↓x_aug5, ↓x_aug6, ↓x_aug7, ↓x_aug8, ↓x_aug9, ↓x_aug10, ↓x_aug11, ↓x_aug12, ↓x_aug13, ↓x_aug14, ↓x_aug15, ↓x_aug16, ↓x_aug17, ↓x_aug18, ↓x_aug19, ↓x_aug20, ↓x_aug21, ↓x_aug22, ↓x_aug23, Int.reduceToNat, Int.reducePow, ↓gSeq, ↓gIfS, ↓gSet, ↓gAsg, ↓x_par, ↓x_par2, ↓gRet, ↓gRetN, ↓gNext, ↓gDrop, ↓gBreak, ↓gCont, ↓gDead, ↓gCB, ↓gB2, ↓gU, ↓gC, ↓Dl.gCons, ↓Dl.gNil, ↓Dl.gTup, ↓Dl.gLst, ↓gTest, ↓gOrB, ↓gAndB, ↓gNotB, ↓gAndV, ↓gOrV, ↓gNotV, ↓gIf, ↓gIx, ↓gSl, ↓gPart, ↓gNoP, ↓gMt, ↓gCall, ↓gArgs, ↓gIsN, ↓gNotN, ↓gChain, ↓x_fmtS, ↓x_afS, ↓x_afI, ↓x_js0, ↓x_jsc, ↓gJoined, ↓gYes, ↓x_bnm, ↓x_btp, ↓x_bn, ↓x_bc, ↓x_nnN, ↓x_nnI, ↓x_nnS, ↓x_nnB, ↓x_nnT, ↓x_nnL, ↓x_nnO, ↓x_nnl, ↓x_tyS, ↓x_tyL, ↓x_i2, ↓aSub, ↓aFdiv, ↓aMod, ↓aPow, ↓aShr, ↓aLt, ↓aLe, ↓aGt, ↓aGe, ↓x_addI, ↓x_addS, ↓x_mulI, ↓x_iaddS, ↓x_iaddI, ↓x_neg, ↓x_eqI, ↓x_neI, ↓x_eqS, ↓x_neS, ↓x_eqB, ↓x_neB, ↓x_eqNI, ↓x_neNI, ↓x_lenS, ↓x_lenL_l, ↓x_lenL_k, ↓x_lenL_t, ↓x_str, ↓x_intI, ↓x_intB, ↓x_divmod, ↓x_max2, ↓x_min2, ↓x_ixS, ↓x_slS, ↓x_slT, ↓x_slL_l, ↓x_slL_k, ↓x_inS, ↓x_newT, ↓x_newF, ↓x_si, ↓x_s1, ↓x_s0, ↓x_rpart, ↓x_part, ↓x_a1, ↓x_a2, ↓x_isiStr, ↓x_isiInt, ↓x_isiIntB, ↓x_isiIntS, ↓x_isiBB, ↓x_isiBI, ↓x_isiStrI, ↓x_isiNonI, ↓x_isiNonS, ↓x_isiT, ↓x_isiL, ↓x_var0, ↓x_varS, ↓x_ex, ↓x_aug0, gat, pick, Option.some.injEq, D.bl.injEq, D.int.injEq, D.str.injEq, D.tup.injEq, D.lst.injEq, List.cons.injEq, and_true, true_and, List.set_cons_zero, List.set_cons_succ, List.length_cons, List.length_nil, List.filterMap_cons, List.filterMap_nil, List.getElem?_cons_zero, List.getElem?_cons_succ, Option.bind_some, ↓reduceIte, if_true, if_false, Bool.false_eq_true, Bool.true_eq_false, decide_eq_true_eq, beq_self_eq_true, Bool.not_true, Bool.not_false, Bool.not_eq_true', decide_eq_false_iff_not, exists_eq_left', exists_eq_left, exists_eq, ↓x_dnT, ↓x_dnF, ↓gAsgL, ↓gMMDef, ↓gDSet, ↓gSItems, ↓x_nilL, ↓x_nilE, List.isEmpty_nil, List.isEmpty_cons, Bool.true_xor, Bool.false_xor, ↓gSortSet, ↓gOrT, ↓gAndT, ↓gTryAs, ↓gTryO, ↓gRaise, ↓gCallX, ↓gMethX, ↓gMakeX, ↓gFldX, ↓x_fmtRS, ↓x_afRS, ↓x_afRI, ↓x_stO]
  refine lc_on (F := rD) (fun r : Rdg => some (D.int (r.1 + if r.2.1 = true then l else 0))) trivial (by omega) (fun r hr acc R' hac hR' => ⟨_, x_bnm, ?_⟩) ?_
  · simp only [wipeD, ↓x_eqSS, ↓x_neSS, ↓gKGet, ↓x_kget, ↓x_ixE, at_last, ↓x_appE, ↓x_tyE, ↓x_itE, ↓x_lenE, ↓x_nePr, ↓x_eqPr, ↓x_neE, ↓x_lenr, ↓x_lenrI, ↓gRev, ↓x_par3, ↓x_par33, ↓x_fld, ↓x_fset, ↓x_mkF, ↓x_mk, ↓x_meth, ↓x_fldO, ↓x_fsetE, ↓x_fldE, ↓x_methO, ↓x_isiCO, ↓x_isiCN, ↓x_isiCT, ↓x_isiCLi, ↓x_isiCS, ↓x_isiCI, ↓x_own, ↓x_eqT2, ↓x_neT2, ↓x_neL4, ↓x_eqLN, ↓x_neNil, ↓x_gset, ↓x_lc, ↓x_for, ↓x_it, ↓x_rn1, ↓x_rn2, ↓x_enu, ↓x_zip, ↓x_itS, ↓x_itL, ↓x_itK, ↓x_itT, ↓x_rn1I, ↓x_rn2I, ↓x_enuL, ↓x_enuK, ↓x_zipL, ↓x_ixS0, ↓x_ixL, ↓x_ixT, ↓x_ixK, x_at0, x_at1, x_at2, x_at3, x_at4, ↓x_set00, ↓x_set01, ↓x_set02, ↓x_aug1, ↓x_aug2, ↓x_aug3, ↓x_aug4, ↓x_aug5, ↓x_aug6, ↓x_aug7, ↓x_aug8, ↓x_aug9, ↓x_aug10, ↓x_aug11, ↓x_aug12, ↓x_aug13, ↓x_aug14, ↓x_aug15, ↓x_aug16, ↓x_aug17, ↓x_aug18, ↓x_aug19, ↓x_aug20, ↓x_aug21, ↓x_aug22, ↓x_aug23, Int.reduceToNat, Int.reducePow, ↓gSeq, ↓gIfS, ↓gSet, ↓gAsg, ↓x_par, ↓x_par2, ↓gRet, ↓gRetN, ↓gNext, ↓gDrop, ↓gBreak, ↓gCont, ↓gDead, ↓gCB, ↓gB2, ↓gU, ↓gC, ↓Dl.gCons, ↓Dl.gNil, ↓Dl.gTup, ↓Dl.gLst, ↓gTest, ↓gOrB, ↓gAndB, ↓gNotB, ↓gAndV, ↓gOrV, ↓gNotV, ↓gIf, ↓gIx, ↓gSl, ↓gPart, ↓gNoP, ↓gMt, ↓gCall, ↓gArgs, ↓gIsN, ↓gNotN, ↓gChain, ↓x_fmtS, ↓x_afS, ↓x_afI, ↓x_js0, ↓x_jsc, ↓gJoined, ↓gYes, ↓x_bnm, ↓x_btp, ↓x_bn, ↓x_bc, ↓x_nnN, ↓x_nnI, ↓x_nnS, ↓x_nnB, ↓x_nnT, ↓x_nnL, ↓x_nnO, ↓x_nnl, ↓x_tyS, ↓x_tyL, ↓x_i2, ↓aSub, ↓aFdiv, ↓aMod, ↓aPow, ↓aShr, ↓aLt, ↓aLe, ↓aGt, ↓aGe, ↓x_addI, ↓x_addS, ↓x_mulI, ↓x_iaddS, ↓x_iaddI, ↓x_neg, ↓x_eqI, ↓x_neI, ↓x_eqS, ↓x_neS, ↓x_eqB, ↓x_neB, ↓x_eqNI, ↓x_neNI, ↓x_lenS, ↓x_lenL_l, ↓x_lenL_k, ↓x_lenL_t, ↓x_str, ↓x_intI, ↓x_intB, ↓x_divmod, ↓x_max2, ↓x_min2, ↓x_ixS, ↓x_slS, ↓x_slT, ↓x_slL_l, ↓x_slL_k, ↓x_inS, ↓x_newT, ↓x_newF, ↓x_si, ↓x_s1, ↓x_s0, ↓x_rpart, ↓x_part, ↓x_a1, ↓x_a2, ↓x_isiStr, ↓x_isiInt, ↓x_isiIntB, ↓x_isiIntS, ↓x_isiBB, ↓x_isiBI, ↓x_isiStrI, ↓x_isiNonI, ↓x_isiNonS, ↓x_isiT, ↓x_isiL, ↓x_var0, ↓x_varS, ↓x_ex, ↓x_aug0, gat, pick, Option.some.injEq, D.bl.injEq, D.int.injEq, D.str.injEq, D.tup.injEq, D.lst.injEq, List.cons.injEq, and_true, true_and, List.set_cons_zero, List.set_cons_succ, List.length_cons, List.length_nil, List.filterMap_cons, List.filterMap_nil, List.getElem?_cons_zero, List.getElem?_cons_succ, Option.bind_some, ↓reduceIte, if_true, if_false, Bool.false_eq_true, Bool.true_eq_false, decide_eq_true_eq, beq_self_eq_true, Bool.not_true, Bool.not_false, Bool.not_eq_true', decide_eq_false_iff_not, exists_eq_left', exists_eq_left, exists_eq, ↓x_dnT, ↓x_dnF, ↓gAsgL, ↓gMMDef, ↓gDSet, ↓gSItems, ↓x_nilL, ↓x_nilE, List.isEmpty_nil, List.isEmpty_cons, Bool.true_xor, Bool.false_xor, ↓gSortSet, ↓gOrT, ↓gAndT, ↓gTryAs, ↓gTryO, ↓gRaise, ↓gCallX, ↓gMethX, ↓gMakeX, ↓gFldX, ↓x_fmtRS, ↓x_afRS, ↓x_afRI, ↓x_stO]
    refine (i0 _).mpr ?_
    by_cases c : r.2.1 = true
    · rw [if_pos (kW_t.mpr c)]
      rw [if_pos c] at hR'
      exact ⟨by decide, _, rfl, x_addI.mpr ⟨hac, hR'⟩⟩
    · rw [if_neg (fun z => c (kW_t.mp z))]
      rw [if_neg c] at hR'
      exact ⟨by decide, _, rfl, x_addI.mpr ⟨hac, hR'⟩⟩
  rw [x_newT, fm_some]
  have e : (R.map fun r : Rdg => D.int (r.1 + if r.2.1 = true then l else 0)) = (edg l R).map D.int := by unfold edg; rw [List.map_map]; rfl
  rw [e]
  exact hq
def ahD : Option Str → D
  | none => .non
  | some w => .str w
theorem r__law_right (T : Txt K mg a) : ∀ ds S q, sp__law_right a ds S q → g__law_right K a { nx := fun _ S' => q .non S', rt := q } (startD N__law_right ds) S := by
  rintro ds S q ⟨o, l, h, t, n, k, R, d, ps, s, u, ho, rfl, hR, hd, hg, hsz, hq⟩
  rw [st__law_right]
  have hs' : 1000 ≤ sizeLine := by decide
  simp only [g__law_right, ↓x_eqSS, ↓x_neSS, ↓gKGet, ↓x_kget, ↓x_ixE, at_last, ↓x_appE, ↓x_tyE, ↓x_itE, ↓x_lenE, ↓x_nePr, ↓x_eqPr, ↓x_neE, ↓x_lenr, ↓x_lenrI, ↓gRev, ↓x_par3, ↓x_par33, ↓x_fld, ↓x_fset, ↓x_mkF, ↓x_mk, ↓x_meth, ↓x_fldO, ↓x_fsetE, ↓x_fldE, ↓x_methO, ↓x_isiCO, ↓x_isiCN, ↓x_isiCT, ↓x_isiCLi, ↓x_isiCS, ↓x_isiCI, ↓x_own, ↓x_eqT2, ↓x_neT2, ↓x_neL4, ↓x_eqLN, ↓x_neNil, ↓x_gset, ↓x_lc, ↓x_for, ↓x_it, ↓x_rn1, ↓x_rn2, ↓x_enu, ↓x_zip, ↓x_itS, ↓x_itL, ↓x_itK, ↓x_itT, ↓x_rn1I, ↓x_rn2I, ↓x_enuL, ↓x_enuK, ↓x_zipL, ↓x_ixS0, ↓x_ixL, ↓x_ixT, ↓x_ixK, x_at0, x_at1, x_at2, x_at3, x_at4, ↓x_set00, ↓x_set01, ↓x_set02, ↓x_aug1, ↓x_aug2, ↓x_aug3, ↓x_aug4, ↓x_aug5, ↓x_aug6, ↓x_aug7, ↓x_aug8, ↓x_aug9, ↓x_aug10, ↓x_aug11, ↓x_aug12, ↓x_aug13, ↓x_aug14, ↓x_aug15, ↓x_aug16, ↓x_aug17, ↓x_aug18, ↓x_aug19, ↓x_aug20, ↓x_aug21, ↓x_aug22, ↓x_aug23, Int.reduceToNat, Int.reducePow, ↓gSeq, ↓gIfS, ↓gSet, ↓gAsg, ↓x_par, ↓x_par2, ↓gRet, ↓gRetN, ↓gNext, ↓gDrop, ↓gBreak, ↓gCont, ↓gDead, ↓gCB, ↓gB2, ↓gU, ↓gC, ↓Dl.gCons, ↓Dl.gNil, ↓Dl.gTup, ↓Dl.gLst, ↓gTest, ↓gOrB, ↓gAndB, ↓gNotB, ↓gAndV, ↓gOrV, ↓gNotV, ↓gIf, ↓gIx, ↓gSl, ↓gPart, ↓gNoP, ↓gMt, ↓gCall, ↓gArgs, ↓gIsN, ↓gNotN, ↓gChain, ↓x_fmtS, ↓x_afS, ↓x_afI, ↓x_js0, ↓x_jsc, ↓gJoined, ↓gYes, ↓x_bnm, ↓x_btp, ↓x_bn, ↓x_bc, ↓x_nnN, ↓x_nnI, ↓x_nnS, ↓x_nnB, ↓x_nnT, ↓x_nnL, ↓x_nnO, ↓x_nnl, ↓x_tyS, ↓x_tyL, ↓x_i2, ↓aSub, ↓aFdiv, ↓aMod, ↓aPow, ↓aShr, ↓aLt, ↓aLe, ↓aGt, ↓aGe, ↓x_addI, ↓x_addS, ↓x_mulI, ↓x_iaddS, ↓x_iaddI, ↓x_neg, ↓x_eqI, ↓x_neI, ↓x_eqS, ↓x_neS, ↓x_eqB, ↓x_neB, ↓x_eqNI, ↓x_neNI, ↓x_lenS, ↓x_lenL_l, ↓x_lenL_k, ↓x_lenL_t, ↓x_str, ↓x_intI, ↓x_intB, ↓x_divmod, ↓x_max2, ↓x_min2, ↓x_ixS, ↓x_slS, ↓x_slT, ↓x_slL_l, ↓x_slL_k, ↓x_inS, ↓x_newT, ↓x_newF, ↓x_si, ↓x_s1, ↓x_s0, ↓x_rpart, ↓x_part, ↓x_a1, ↓x_a2, ↓x_isiStr, ↓x_isiInt, ↓x_isiIntB, ↓x_isiIntS, ↓x_isiBB, ↓x_isiBI, ↓x_isiStrI, ↓x_isiNonI, ↓x_isiNonS, ↓x_isiT, ↓x_isiL, ↓x_var0, ↓x_varS, ↓x_ex, ↓x_aug0, gat, pick, Option.some.injEq, D.bl.injEq, D.int.injEq, D.str.injEq, D.tup.injEq, D.lst.injEq, List.cons.injEq, and_true, true_and, List.set_cons_zero, List.set_cons_succ, List.length_cons, List.length_nil, List.filterMap_cons, List.filterMap_nil, List.getElem?_cons_zero, List.getElem?_cons_succ, Option.bind_some, ↓reduceIte, if_true, if_false, Bool.false_eq_true, Bool.true_eq_false, decide_eq_true_eq, beq_self_eq_true, Bool.not_true, Bool.not_false, Bool.not_eq_true', decide_eq_false_iff_not, exists_eq_left', exists_eq_left, exists_eq, ↓x_dnT, ↓x_dnF, ↓gAsgL, ↓gMMDef, ↓gDSet, ↓gSItems, ↓x_nilL, ↓x_nilE, List.isEmpty_nil, List.isEmpty_cons, Bool.true_xor, Bool.false_xor, ↓gSortSet, ↓gOrT, ↓gAndT, ↓gTryAs, ↓gTryO, ↓gRaise, ↓gCallX, ↓gMethX, ↓gMakeX, ↓gFldX, ↓x_fmtRS, ↓x_afRS, ↓x_afRI, ↓x_stO]
  refine itS_of hd ?_
  refine for_on (fun i ρ S' => S' = S ∧ ∃ (ah : Option Str) (s' : Int) (v7 v8 v9 v10 v11 : Option D), Goes (stS l h t n k R) ah s' (ps.drop i) u ∧ u - s' < 2 ^ 60 ∧ ρ = [some o, some (.lst (R.map rD)), some d, some (.int s), some (.int u), some (.int s'), some (ahD ah), v7, v8, v9, v10, v11]) ⟨rfl, none, s, _, _, _, _, _, hg, hsz, rfl⟩ ?_ ?_
  · rintro i p ρ S' hp ⟨rfl, ah, s', v7, v8, v9, v10, v11, hgo, hz, rfl⟩
    rw [drop_get hp] at hgo
    obtain ⟨h1, h2, h3, h4, h5⟩ := hgo
    have hle := Goes.le h5
    refine ⟨hd, _, x_b2, ?_⟩
    simp only [T.f_Stretch_first, T.f_Stretch_behind, ↓Mt.stD, Mt.fg_first, Mt.fg_behind, ↓x_isiCO T.is_Stretch T.kc_Stretch_Stretch, ↓x_eqSS, ↓x_neSS, ↓gKGet, ↓x_kget, ↓x_ixE, at_last, ↓x_appE, ↓x_tyE, ↓x_itE, ↓x_lenE, ↓x_nePr, ↓x_eqPr, ↓x_neE, ↓x_lenr, ↓x_lenrI, ↓gRev, ↓x_par3, ↓x_par33, ↓x_fld, ↓x_fset, ↓x_mkF, ↓x_mk, ↓x_meth, ↓x_fldO, ↓x_fsetE, ↓x_fldE, ↓x_methO, ↓x_isiCO, ↓x_isiCN, ↓x_isiCT, ↓x_isiCLi, ↓x_isiCS, ↓x_isiCI, ↓x_own, ↓x_eqT2, ↓x_neT2, ↓x_neL4, ↓x_eqLN, ↓x_neNil, ↓x_gset, ↓x_lc, ↓x_for, ↓x_it, ↓x_rn1, ↓x_rn2, ↓x_enu, ↓x_zip, ↓x_itS, ↓x_itL, ↓x_itK, ↓x_itT, ↓x_rn1I, ↓x_rn2I, ↓x_enuL, ↓x_enuK, ↓x_zipL, ↓x_ixS0, ↓x_ixL, ↓x_ixT, ↓x_ixK, x_at0, x_at1, x_at2, x_at3, x_at4, ↓x_set00, ↓x_set01, ↓x_set02, ↓x_aug1, ↓x_aug2, ↓x_aug3, ↓x_aug4, ↓x_aug5, ↓x_aug6, ↓x_aug7, ↓x_aug8, ↓x_aug9, ↓x_aug10, ↓x_aug11, ↓x_aug12, ↓x_aug13, ↓x_aug14, ↓x_aug15, ↓x_aug16, ↓x_aug17, ↓x_aug18, ↓x_aug19, ↓x_aug20, ↓x_aug21, ↓x_aug22, ↓x_aug23, Int.reduceToNat, Int.reducePow, ↓gSeq, ↓gIfS, ↓gSet, ↓gAsg, ↓x_par, ↓x_par2, ↓gRet, ↓gRetN, ↓gNext, ↓gDrop, ↓gBreak, ↓gCont, ↓gDead, ↓gCB, ↓gB2, ↓gU, ↓gC, ↓Dl.gCons, ↓Dl.gNil, ↓Dl.gTup, ↓Dl.gLst, ↓gTest, ↓gOrB, ↓gAndB, ↓gNotB, ↓gAndV, ↓gOrV, ↓gNotV, ↓gIf, ↓gIx, ↓gSl, ↓gPart, ↓gNoP, ↓gMt, ↓gCall, ↓gArgs, ↓gIsN, ↓gNotN, ↓gChain, ↓x_fmtS, ↓x_afS, ↓x_afI, ↓x_js0, ↓x_jsc, ↓gJoined, ↓gYes, ↓x_bnm, ↓x_btp, ↓x_bn, ↓x_bc, ↓x_nnN, ↓x_nnI, ↓x_nnS, ↓x_nnB, ↓x_nnT, ↓x_nnL, ↓x_nnO, ↓x_nnl, ↓x_tyS, ↓x_tyL, ↓x_i2, ↓aSub, ↓aFdiv, ↓aMod, ↓aPow, ↓aShr, ↓aLt, ↓aLe, ↓aGt, ↓aGe, ↓x_addI, ↓x_addS, ↓x_mulI, ↓x_iaddS, ↓x_iaddI, ↓x_neg, ↓x_eqI, ↓x_neI, ↓x_eqS, ↓x_neS, ↓x_eqB, ↓x_neB, ↓x_eqNI, ↓x_neNI, ↓x_lenS, ↓x_lenL_l, ↓x_lenL_k, ↓x_lenL_t, ↓x_str, ↓x_intI, ↓x_intB, ↓x_divmod, ↓x_max2, ↓x_min2, ↓x_ixS, ↓x_slS, ↓x_slT, ↓x_slL_l, ↓x_slL_k, ↓x_inS, ↓x_newT, ↓x_newF, ↓x_si, ↓x_s1, ↓x_s0, ↓x_rpart, ↓x_part, ↓x_a1, ↓x_a2, ↓x_isiStr, ↓x_isiInt, ↓x_isiIntB, ↓x_isiIntS, ↓x_isiBB, ↓x_isiBI, ↓x_isiStrI, ↓x_isiNonI, ↓x_isiNonS, ↓x_isiT, ↓x_isiL, ↓x_var0, ↓x_varS, ↓x_ex, ↓x_aug0, gat, pick, Option.some.injEq, D.bl.injEq, D.int.injEq, D.str.injEq, D.tup.injEq, D.lst.injEq, List.cons.injEq, and_true, true_and, List.set_cons_zero, List.set_cons_succ, List.length_cons, List.length_nil, List.filterMap_cons, List.filterMap_nil, List.getElem?_cons_zero, List.getElem?_cons_succ, Option.bind_some, ↓reduceIte, if_true, if_false, Bool.false_eq_true, Bool.true_eq_false, decide_eq_true_eq, beq_self_eq_true, Bool.not_true, Bool.not_false, Bool.not_eq_true', decide_eq_false_iff_not, exists_eq_left', exists_eq_left, exists_eq, ↓x_dnT, ↓x_dnF, ↓gAsgL, ↓gMMDef, ↓gDSet, ↓gSItems, ↓x_nilL, ↓x_nilE, List.isEmpty_nil, List.isEmpty_cons, Bool.true_xor, Bool.false_xor, ↓gSortSet, ↓gOrT, ↓gAndT, ↓gTryAs, ↓gTryO, ↓gRaise, ↓gCallX, ↓gMethX, ↓gMakeX, ↓gFldX, ↓x_fmtRS, ↓x_afRS, ↓x_afRI, ↓x_stO]
    rw [if_neg (by omega)]
    refine ⟨⟨_, _, rfl⟩, p.1, p.2.1, rfl, by omega, by omega, _, rfl, by omega, by omega, ?_⟩
    refine x_eqI.mpr ⟨_, rfl, ?_⟩
    rw [decide_eq_false (show ¬ p.2.1 - p.1 = 0 by omega), if_neg Bool.false_ne_true]
    have hst : PyData.strOk p.2.2 = true := by rw [← h3 _ (Int.le_refl _) h2]; exact stS_ok
    have heq : ∀ {c : D → Sto → Prop}, c (.bl false) S' → aEqO (D.str p.2.2) (ahD ah) S' c := fun hc => by
      cases ah with
      | none => exact x_eqON hst hc
      | some w => exact x_eqOS (by rw [decide_eq_false (fun z => h4 (by rw [z]))]; exact hc)
    refine heq ⟨_, rfl, ?_⟩
    rw [if_neg Bool.false_ne_true]
    refine ⟨o, l, h, t, n, k, R, ho, rfl, hR, ?_⟩
    simp only [↓x_eqSS, ↓x_neSS, ↓gKGet, ↓x_kget, ↓x_ixE, at_last, ↓x_appE, ↓x_tyE, ↓x_itE, ↓x_lenE, ↓x_nePr, ↓x_eqPr, ↓x_neE, ↓x_lenr, ↓x_lenrI, ↓gRev, ↓x_par3, ↓x_par33, ↓x_fld, ↓x_fset, ↓x_mkF, ↓x_mk, ↓x_meth, ↓x_fldO, ↓x_fsetE, ↓x_fldE, ↓x_methO, ↓x_isiCO, ↓x_isiCN, ↓x_isiCT, ↓x_isiCLi, ↓x_isiCS, ↓x_isiCI, ↓x_own, ↓x_eqT2, ↓x_neT2, ↓x_neL4, ↓x_eqLN, ↓x_neNil, ↓x_gset, ↓x_lc, ↓x_for, ↓x_it, ↓x_rn1, ↓x_rn2, ↓x_enu, ↓x_zip, ↓x_itS, ↓x_itL, ↓x_itK, ↓x_itT, ↓x_rn1I, ↓x_rn2I, ↓x_enuL, ↓x_enuK, ↓x_zipL, ↓x_ixS0, ↓x_ixL, ↓x_ixT, ↓x_ixK, x_at0, x_at1, x_at2, x_at3, x_at4, ↓x_set00, ↓x_set01, ↓x_set02, ↓x_aug1, ↓x_aug2, ↓x_aug3, ↓x_aug4, ↓x_aug5, ↓x_aug6, ↓x_aug7, ↓x_aug8, ↓x_aug9, ↓x_aug10, ↓x_aug11, ↓x_aug12, ↓x_aug13, ↓x_aug14, ↓x_aug15, ↓x_aug16, ↓x_aug17, ↓x_aug18, ↓x_aug19, ↓x_aug20, ↓x_aug21, ↓x_aug22, ↓x_aug23, Int.reduceToNat, Int.reducePow, ↓gSeq, ↓gIfS, ↓gSet, ↓gAsg, ↓x_par, ↓x_par2, ↓gRet, ↓gRetN, ↓gNext, ↓gDrop, ↓gBreak, ↓gCont, ↓gDead, ↓gCB, ↓gB2, ↓gU, ↓gC, ↓Dl.gCons, ↓Dl.gNil, ↓Dl.gTup, ↓Dl.gLst, ↓gTest, ↓gOrB, ↓gAndB, ↓gNotB, ↓gAndV, ↓gOrV, ↓gNotV, ↓gIf, ↓gIx, ↓gSl, ↓gPart, ↓gNoP, ↓gMt, ↓gCall, ↓gArgs, ↓gIsN, ↓gNotN, ↓gChain, ↓x_fmtS, ↓x_afS, ↓x_afI, ↓x_js0, ↓x_jsc, ↓gJoined, ↓gYes, ↓x_bnm, ↓x_btp, ↓x_bn, ↓x_bc, ↓x_nnN, ↓x_nnI, ↓x_nnS, ↓x_nnB, ↓x_nnT, ↓x_nnL, ↓x_nnO, ↓x_nnl, ↓x_tyS, ↓x_tyL, ↓x_i2, ↓aSub, ↓aFdiv, ↓aMod, ↓aPow, ↓aShr, ↓aLt, ↓aLe, ↓aGt, ↓aGe, ↓x_addI, ↓x_addS, ↓x_mulI, ↓x_iaddS, ↓x_iaddI, ↓x_neg, ↓x_eqI, ↓x_neI, ↓x_eqS, ↓x_neS, ↓x_eqB, ↓x_neB, ↓x_eqNI, ↓x_neNI, ↓x_lenS, ↓x_lenL_l, ↓x_lenL_k, ↓x_lenL_t, ↓x_str, ↓x_intI, ↓x_intB, ↓x_divmod, ↓x_max2, ↓x_min2, ↓x_ixS, ↓x_slS, ↓x_slT, ↓x_slL_l, ↓x_slL_k, ↓x_inS, ↓x_newT, ↓x_newF, ↓x_si, ↓x_s1, ↓x_s0, ↓x_rpart, ↓x_part, ↓x_a1, ↓x_a2, ↓x_isiStr, ↓x_isiInt, ↓x_isiIntB, ↓x_isiIntS, ↓x_isiBB, ↓x_isiBI, ↓x_isiStrI, ↓x_isiNonI, ↓x_isiNonS, ↓x_isiT, ↓x_isiL, ↓x_var0, ↓x_varS, ↓x_ex, ↓x_aug0, gat, pick, Option.some.injEq, D.bl.injEq, D.int.injEq, D.str.injEq, D.tup.injEq, D.lst.injEq, List.cons.injEq, and_true, true_and, List.set_cons_zero, List.set_cons_succ, List.length_cons, List.length_nil, List.filterMap_cons, List.filterMap_nil, List.getElem?_cons_zero, List.getElem?_cons_succ, Option.bind_some, ↓reduceIte, if_true, if_false, Bool.false_eq_true, Bool.true_eq_false, decide_eq_true_eq, beq_self_eq_true, Bool.not_true, Bool.not_false, Bool.not_eq_true', decide_eq_false_iff_not, exists_eq_left', exists_eq_left, exists_eq, ↓x_dnT, ↓x_dnF, ↓gAsgL, ↓gMMDef, ↓gDSet, ↓gSItems, ↓x_nilL, ↓x_nilE, List.isEmpty_nil, List.isEmpty_cons, Bool.true_xor, Bool.false_xor, ↓gSortSet, ↓gOrT, ↓gAndT, ↓gTryAs, ↓gTryO, ↓gRaise, ↓gCallX, ↓gMethX, ↓gMakeX, ↓gFldX, ↓x_fmtRS, ↓x_afRS, ↓x_afRI, ↓x_stO]
    have hel : (edg l R).length = R.length := by unfold edg; rw [List.length_map]
    refine lc_on (F := D.int) (fun e : Int => if p.1 ≤ e ∧ e < p.2.1 then some (D.int e) else none) trivial (by omega) (fun e he acc R' hac hR' => ⟨_, x_bnm, ?_⟩) ?_
    · simp only [wipeD, T.f_Stretch_first, T.f_Stretch_behind, ↓Mt.stD, Mt.fg_first, Mt.fg_behind, ↓x_eqSS, ↓x_neSS, ↓gKGet, ↓x_kget, ↓x_ixE, at_last, ↓x_appE, ↓x_tyE, ↓x_itE, ↓x_lenE, ↓x_nePr, ↓x_eqPr, ↓x_neE, ↓x_lenr, ↓x_lenrI, ↓gRev, ↓x_par3, ↓x_par33, ↓x_fld, ↓x_fset, ↓x_mkF, ↓x_mk, ↓x_meth, ↓x_fldO, ↓x_fsetE, ↓x_fldE, ↓x_methO, ↓x_isiCO, ↓x_isiCN, ↓x_isiCT, ↓x_isiCLi, ↓x_isiCS, ↓x_isiCI, ↓x_own, ↓x_eqT2, ↓x_neT2, ↓x_neL4, ↓x_eqLN, ↓x_neNil, ↓x_gset, ↓x_lc, ↓x_for, ↓x_it, ↓x_rn1, ↓x_rn2, ↓x_enu, ↓x_zip, ↓x_itS, ↓x_itL, ↓x_itK, ↓x_itT, ↓x_rn1I, ↓x_rn2I, ↓x_enuL, ↓x_enuK, ↓x_zipL, ↓x_ixS0, ↓x_ixL, ↓x_ixT, ↓x_ixK, x_at0, x_at1, x_at2, x_at3, x_at4, ↓x_set00, ↓x_set01, ↓x_set02, ↓x_aug1, ↓x_aug2, ↓x_aug3, ↓x_aug4, ↓x_aug5, ↓x_aug6, ↓x_aug7, ↓x_aug8, ↓x_aug9, ↓x_aug10, ↓x_aug11, ↓x_aug12, ↓x_aug13, ↓x_aug14, ↓x_aug15, ↓x_aug16, ↓x_aug17, ↓x_aug18, ↓x_aug19, ↓x_aug20, ↓x_aug21, ↓x_aug22, ↓x_aug23, Int.reduceToNat, Int.reducePow, ↓gSeq, ↓gIfS, ↓gSet, ↓gAsg, ↓x_par, ↓x_par2, ↓gRet, ↓gRetN, ↓gNext, ↓gDrop, ↓gBreak, ↓gCont, ↓gDead, ↓gCB, ↓gB2, ↓gU, ↓gC, ↓Dl.gCons, ↓Dl.gNil, ↓Dl.gTup, ↓Dl.gLst, ↓gTest, ↓gOrB, ↓gAndB, ↓gNotB, ↓gAndV, ↓gOrV, ↓gNotV, ↓gIf, ↓gIx, ↓gSl, ↓gPart, ↓gNoP, ↓gMt, ↓gCall, ↓gArgs, ↓gIsN, ↓gNotN, ↓gChain, ↓x_fmtS, ↓x_afS, ↓x_afI, ↓x_js0, ↓x_jsc, ↓gJoined, ↓gYes, ↓x_bnm, ↓x_btp, ↓x_bn, ↓x_bc, ↓x_nnN, ↓x_nnI, ↓x_nnS, ↓x_nnB, ↓x_nnT, ↓x_nnL, ↓x_nnO, ↓x_nnl, ↓x_tyS, ↓x_tyL, ↓x_i2, ↓aSub, ↓aFdiv, ↓aMod, ↓aPow, ↓aShr, ↓aLt, ↓aLe, ↓aGt, ↓aGe, ↓x_addI, ↓x_addS, ↓x_mulI, ↓x_iaddS, ↓x_iaddI, ↓x_neg, ↓x_eqI, ↓x_neI, ↓x_eqS, ↓x_neS, ↓x_eqB, ↓x_neB, ↓x_eqNI, ↓x_neNI, ↓x_lenS, ↓x_lenL_l, ↓x_lenL_k, ↓x_lenL_t, ↓x_str, ↓x_intI, ↓x_intB, ↓x_divmod, ↓x_max2, ↓x_min2, ↓x_ixS, ↓x_slS, ↓x_slT, ↓x_slL_l, ↓x_slL_k, ↓x_inS, ↓x_newT, ↓x_newF, ↓x_si, ↓x_s1, ↓x_s0, ↓x_rpart, ↓x_part, ↓x_a1, ↓x_a2, ↓x_isiStr, ↓x_isiInt, ↓x_isiIntB, ↓x_isiIntS, ↓x_isiBB, ↓x_isiBI, ↓x_isiStrI, ↓x_isiNonI, ↓x_isiNonS, ↓x_isiT, ↓x_isiL, ↓x_var0, ↓x_varS, ↓x_ex, ↓x_aug0, gat, pick, Option.some.injEq, D.bl.injEq, D.int.injEq, D.str.injEq, D.tup.injEq, D.lst.injEq, List.cons.injEq, and_true, true_and, List.set_cons_zero, List.set_cons_succ, List.length_cons, List.length_nil, List.filterMap_cons, List.filterMap_nil, List.getElem?_cons_zero, List.getElem?_cons_succ, Option.bind_some, ↓reduceIte, if_true, if_false, Bool.false_eq_true, Bool.true_eq_false, decide_eq_true_eq, beq_self_eq_true, Bool.not_true, Bool.not_false, Bool.not_eq_true', decide_eq_false_iff_not, exists_eq_left', exists_eq_left, exists_eq, ↓x_dnT, ↓x_dnF, ↓gAsgL, ↓gMMDef, ↓gDSet, ↓gSItems, ↓x_nilL, ↓x_nilE, List.isEmpty_nil, List.isEmpty_cons, Bool.true_xor, Bool.false_xor, ↓gSortSet, ↓gOrT, ↓gAndT, ↓gTryAs, ↓gTryO, ↓gRaise, ↓gCallX, ↓gMethX, ↓gMakeX, ↓gFldX, ↓x_fmtRS, ↓x_afRS, ↓x_afRI, ↓x_stO]
      by_cases c1 : p.1 ≤ e
      · by_cases c2 : e < p.2.1
        · rw [if_pos ⟨c1, c2⟩] at hR'
          simp only [if_pos c1, if_pos c2, decide_eq_true c1, decide_eq_true c2, ↓x_eqSS, ↓x_neSS, ↓gKGet, ↓x_kget, ↓x_ixE, at_last, ↓x_appE, ↓x_tyE, ↓x_itE, ↓x_lenE, ↓x_nePr, ↓x_eqPr, ↓x_neE, ↓x_lenr, ↓x_lenrI, ↓gRev, ↓x_par3, ↓x_par33, ↓x_fld, ↓x_fset, ↓x_mkF, ↓x_mk, ↓x_meth, ↓x_fldO, ↓x_fsetE, ↓x_fldE, ↓x_methO, ↓x_isiCO, ↓x_isiCN, ↓x_isiCT, ↓x_isiCLi, ↓x_isiCS, ↓x_isiCI, ↓x_own, ↓x_eqT2, ↓x_neT2, ↓x_neL4, ↓x_eqLN, ↓x_neNil, ↓x_gset, ↓x_lc, ↓x_for, ↓x_it, ↓x_rn1, ↓x_rn2, ↓x_enu, ↓x_zip, ↓x_itS, ↓x_itL, ↓x_itK, ↓x_itT, ↓x_rn1I, ↓x_rn2I, ↓x_enuL, ↓x_enuK, ↓x_zipL, ↓x_ixS0, ↓x_ixL, ↓x_ixT, ↓x_ixK, x_at0, x_at1, x_at2, x_at3, x_at4, ↓x_set00, ↓x_set01, ↓x_set02, ↓x_aug1, ↓x_aug2, ↓x_aug3, ↓x_aug4, ↓x_aug5, ↓x_aug6, ↓x_aug7, ↓x_aug8, ↓x_aug9, ↓x_aug10, ↓x_aug11, ↓x_aug12, ↓x_aug13, ↓x_aug14, ↓x_aug15, ↓x_aug16, ↓x_aug17, ↓x_aug18, ↓x_aug19, ↓x_aug20, ↓x_aug21, ↓x_aug22, ↓x_aug23, Int.reduceToNat, Int.reducePow, ↓gSeq, ↓gIfS, ↓gSet, ↓gAsg, ↓x_par, ↓x_par2, ↓gRet, ↓gRetN, ↓gNext, ↓gDrop, ↓gBreak, ↓gCont, ↓gDead, ↓gCB, ↓gB2, ↓gU, ↓gC, ↓Dl.gCons, ↓Dl.gNil, ↓Dl.gTup, ↓Dl.gLst, ↓gTest, ↓gOrB, ↓gAndB, ↓gNotB, ↓gAndV, ↓gOrV, ↓gNotV, ↓gIf, ↓gIx, ↓gSl, ↓gPart, ↓gNoP, ↓gMt, ↓gCall, ↓gArgs, ↓gIsN, ↓gNotN, ↓gChain, ↓x_fmtS, ↓x_afS, ↓x_afI, ↓x_js0, ↓x_jsc, ↓gJoined, ↓gYes, ↓x_bnm, ↓x_btp, ↓x_bn, ↓x_bc, ↓x_nnN, ↓x_nnI, ↓x_nnS, ↓x_nnB, ↓x_nnT, ↓x_nnL, ↓x_nnO, ↓x_nnl, ↓x_tyS, ↓x_tyL, ↓x_i2, ↓aSub, ↓aFdiv, ↓aMod, ↓aPow, ↓aShr, ↓aLt, ↓aLe, ↓aGt, ↓aGe, ↓x_addI, ↓x_addS, ↓x_mulI, ↓x_iaddS, ↓x_iaddI, ↓x_neg, ↓x_eqI, ↓x_neI, ↓x_eqS, ↓x_neS, ↓x_eqB, ↓x_neB, ↓x_eqNI, ↓x_neNI, ↓x_lenS, ↓x_lenL_l, ↓x_lenL_k, ↓x_lenL_t, ↓x_str, ↓x_intI, ↓x_intB, ↓x_divmod, ↓x_max2, ↓x_min2, ↓x_ixS, ↓x_slS, ↓x_slT, ↓x_slL_l, ↓x_slL_k, ↓x_inS, ↓x_newT, ↓x_newF, ↓x_si, ↓x_s1, ↓x_s0, ↓x_rpart, ↓x_part, ↓x_a1, ↓x_a2, ↓x_isiStr, ↓x_isiInt, ↓x_isiIntB, ↓x_isiIntS, ↓x_isiBB, ↓x_isiBI, ↓x_isiStrI, ↓x_isiNonI, ↓x_isiNonS, ↓x_isiT, ↓x_isiL, ↓x_var0, ↓x_varS, ↓x_ex, ↓x_aug0, gat, pick, Option.some.injEq, D.bl.injEq, D.int.injEq, D.str.injEq, D.tup.injEq, D.lst.injEq, List.cons.injEq, and_true, true_and, List.set_cons_zero, List.set_cons_succ, List.length_cons, List.length_nil, List.filterMap_cons, List.filterMap_nil, List.getElem?_cons_zero, List.getElem?_cons_succ, Option.bind_some, ↓reduceIte, if_true, if_false, Bool.false_eq_true, Bool.true_eq_false, decide_eq_true_eq, beq_self_eq_true, Bool.not_true, Bool.not_false, Bool.not_eq_true', decide_eq_false_iff_not, exists_eq_left', exists_eq_left, exists_eq, ↓x_dnT, ↓x_dnF, ↓gAsgL, ↓gMMDef, ↓gDSet, ↓gSItems, ↓x_nilL, ↓x_nilE, List.isEmpty_nil, List.isEmpty_cons, Bool.true_xor, Bool.false_xor, ↓gSortSet, ↓gOrT, ↓gAndT, ↓gTryAs, ↓gTryO, ↓gRaise, ↓gCallX, ↓gMethX, ↓gMakeX, ↓gFldX, ↓x_fmtRS, ↓x_afRS, ↓x_afRI, ↓x_stO]
          exact ⟨hac, hR'⟩
        · rw [if_neg (fun z => c2 z.2)] at hR'
          simp only [if_pos c1, if_neg c2, decide_eq_true c1, decide_eq_false c2, ↓x_eqSS, ↓x_neSS, ↓gKGet, ↓x_kget, ↓x_ixE, at_last, ↓x_appE, ↓x_tyE, ↓x_itE, ↓x_lenE, ↓x_nePr, ↓x_eqPr, ↓x_neE, ↓x_lenr, ↓x_lenrI, ↓gRev, ↓x_par3, ↓x_par33, ↓x_fld, ↓x_fset, ↓x_mkF, ↓x_mk, ↓x_meth, ↓x_fldO, ↓x_fsetE, ↓x_fldE, ↓x_methO, ↓x_isiCO, ↓x_isiCN, ↓x_isiCT, ↓x_isiCLi, ↓x_isiCS, ↓x_isiCI, ↓x_own, ↓x_eqT2, ↓x_neT2, ↓x_neL4, ↓x_eqLN, ↓x_neNil, ↓x_gset, ↓x_lc, ↓x_for, ↓x_it, ↓x_rn1, ↓x_rn2, ↓x_enu, ↓x_zip, ↓x_itS, ↓x_itL, ↓x_itK, ↓x_itT, ↓x_rn1I, ↓x_rn2I, ↓x_enuL, ↓x_enuK, ↓x_zipL, ↓x_ixS0, ↓x_ixL, ↓x_ixT, ↓x_ixK, x_at0, x_at1, x_at2, x_at3, x_at4, ↓x_set00, ↓x_set01, ↓x_set02, ↓x_aug1, ↓x_aug2, ↓x_aug3, ↓x_aug4, ↓x_aug5, ↓x_aug6, ↓x_aug7, ↓x_aug8, ↓x_aug9, ↓x_aug10, ↓x_aug11, ↓x_aug12, ↓x_aug13, ↓x_aug14, ↓x_aug15, ↓x_aug16, ↓x_aug17, ↓x_aug18, ↓x_aug19, ↓x_aug20, ↓x_aug21, ↓x_aug22, ↓x_aug23, Int.reduceToNat, Int.reducePow, ↓gSeq, ↓gIfS, ↓gSet, ↓gAsg, ↓x_par, ↓x_par2, ↓gRet, ↓gRetN, ↓gNext, ↓gDrop, ↓gBreak, ↓gCont, ↓gDead, ↓gCB, ↓gB2, ↓gU, ↓gC, ↓Dl.gCons, ↓Dl.gNil, ↓Dl.gTup, ↓Dl.gLst, ↓gTest, ↓gOrB, ↓gAndB, ↓gNotB, ↓gAndV, ↓gOrV, ↓gNotV, ↓gIf, ↓gIx, ↓gSl, ↓gPart, ↓gNoP, ↓gMt, ↓gCall, ↓gArgs, ↓gIsN, ↓gNotN, ↓gChain, ↓x_fmtS, ↓x_afS, ↓x_afI, ↓x_js0, ↓x_jsc, ↓gJoined, ↓gYes, ↓x_bnm, ↓x_btp, ↓x_bn, ↓x_bc, ↓x_nnN, ↓x_nnI, ↓x_nnS, ↓x_nnB, ↓x_nnT, ↓x_nnL, ↓x_nnO, ↓x_nnl, ↓x_tyS, ↓x_tyL, ↓x_i2, ↓aSub, ↓aFdiv, ↓aMod, ↓aPow, ↓aShr, ↓aLt, ↓aLe, ↓aGt, ↓aGe, ↓x_addI, ↓x_addS, ↓x_mulI, ↓x_iaddS, ↓x_iaddI, ↓x_neg, ↓x_eqI, ↓x_neI, ↓x_eqS, ↓x_neS, ↓x_eqB, ↓x_neB, ↓x_eqNI, ↓x_neNI, ↓x_lenS, ↓x_lenL_l, ↓x_lenL_k, ↓x_lenL_t, ↓x_str, ↓x_intI, ↓x_intB, ↓x_divmod, ↓x_max2, ↓x_min2, ↓x_ixS, ↓x_slS, ↓x_slT, ↓x_slL_l, ↓x_slL_k, ↓x_inS, ↓x_newT, ↓x_newF, ↓x_si, ↓x_s1, ↓x_s0, ↓x_rpart, ↓x_part, ↓x_a1, ↓x_a2, ↓x_isiStr, ↓x_isiInt, ↓x_isiIntB, ↓x_isiIntS, ↓x_isiBB, ↓x_isiBI, ↓x_isiStrI, ↓x_isiNonI, ↓x_isiNonS, ↓x_isiT, ↓x_isiL, ↓x_var0, ↓x_varS, ↓x_ex, ↓x_aug0, gat, pick, Option.some.injEq, D.bl.injEq, D.int.injEq, D.str.injEq, D.tup.injEq, D.lst.injEq, List.cons.injEq, and_true, true_and, List.set_cons_zero, List.set_cons_succ, List.length_cons, List.length_nil, List.filterMap_cons, List.filterMap_nil, List.getElem?_cons_zero, List.getElem?_cons_succ, Option.bind_some, ↓reduceIte, if_true, if_false, Bool.false_eq_true, Bool.true_eq_false, decide_eq_true_eq, beq_self_eq_true, Bool.not_true, Bool.not_false, Bool.not_eq_true', decide_eq_false_iff_not, exists_eq_left', exists_eq_left, exists_eq, ↓x_dnT, ↓x_dnF, ↓gAsgL, ↓gMMDef, ↓gDSet, ↓gSItems, ↓x_nilL, ↓x_nilE, List.isEmpty_nil, List.isEmpty_cons, Bool.true_xor, Bool.false_xor, ↓gSortSet, ↓gOrT, ↓gAndT, ↓gTryAs, ↓gTryO, ↓gRaise, ↓gCallX, ↓gMethX, ↓gMakeX, ↓gFldX, ↓x_fmtRS, ↓x_afRS, ↓x_afRI, ↓x_stO]
          simpa using hR'
      · rw [if_neg (fun z => c1 z.1)] at hR'
        simp only [if_neg c1, decide_eq_false c1, ↓x_eqSS, ↓x_neSS, ↓gKGet, ↓x_kget, ↓x_ixE, at_last, ↓x_appE, ↓x_tyE, ↓x_itE, ↓x_lenE, ↓x_nePr, ↓x_eqPr, ↓x_neE, ↓x_lenr, ↓x_lenrI, ↓gRev, ↓x_par3, ↓x_par33, ↓x_fld, ↓x_fset, ↓x_mkF, ↓x_mk, ↓x_meth, ↓x_fldO, ↓x_fsetE, ↓x_fldE, ↓x_methO, ↓x_isiCO, ↓x_isiCN, ↓x_isiCT, ↓x_isiCLi, ↓x_isiCS, ↓x_isiCI, ↓x_own, ↓x_eqT2, ↓x_neT2, ↓x_neL4, ↓x_eqLN, ↓x_neNil, ↓x_gset, ↓x_lc, ↓x_for, ↓x_it, ↓x_rn1, ↓x_rn2, ↓x_enu, ↓x_zip, ↓x_itS, ↓x_itL, ↓x_itK, ↓x_itT, ↓x_rn1I, ↓x_rn2I, ↓x_enuL, ↓x_enuK, ↓x_zipL, ↓x_ixS0, ↓x_ixL, ↓x_ixT, ↓x_ixK, x_at0, x_at1, x_at2, x_at3, x_at4, ↓x_set00, ↓x_set01, ↓x_set02, ↓x_aug1, ↓x_aug2, ↓x_aug3, ↓x_aug4, ↓x_aug5, ↓x_aug6, ↓x_aug7, ↓x_aug8, ↓x_aug9, ↓x_aug10, ↓x_aug11, ↓x_aug12, ↓x_aug13, ↓x_aug14, ↓x_aug15, ↓x_aug16, ↓x_aug17, ↓x_aug18, ↓x_aug19, ↓x_aug20, ↓x_aug21, ↓x_aug22, ↓x_aug23, Int.reduceToNat, Int.reducePow, ↓gSeq, ↓gIfS, ↓gSet, ↓gAsg, ↓x_par, ↓x_par2, ↓gRet, ↓gRetN, ↓gNext, ↓gDrop, ↓gBreak, ↓gCont, ↓gDead, ↓gCB, ↓gB2, ↓gU, ↓gC, ↓Dl.gCons, ↓Dl.gNil, ↓Dl.gTup, ↓Dl.gLst, ↓gTest, ↓gOrB, ↓gAndB, ↓gNotB, ↓gAndV, ↓gOrV, ↓gNotV, ↓gIf, ↓gIx, ↓gSl, ↓gPart, ↓gNoP, ↓gMt, ↓gCall, ↓gArgs, ↓gIsN, ↓gNotN, ↓gChain, ↓x_fmtS, ↓x_afS, ↓x_afI, ↓x_js0, ↓x_jsc, ↓gJoined, ↓gYes, ↓x_bnm, ↓x_btp, ↓x_bn, ↓x_bc, ↓x_nnN, ↓x_nnI, ↓x_nnS, ↓x_nnB, ↓x_nnT, ↓x_nnL, ↓x_nnO, ↓x_nnl, ↓x_tyS, ↓x_tyL, ↓x_i2, ↓aSub, ↓aFdiv, ↓aMod, ↓aPow, ↓aShr, ↓aLt, ↓aLe, ↓aGt, ↓aGe, ↓x_addI, ↓x_addS, ↓x_mulI, ↓x_iaddS, ↓x_iaddI, ↓x_neg, ↓x_eqI, ↓x_neI, ↓x_eqS, ↓x_neS, ↓x_eqB, ↓x_neB, ↓x_eqNI, ↓x_neNI, ↓x_lenS, ↓x_lenL_l, ↓x_lenL_k, ↓x_lenL_t, ↓x_str, ↓x_intI, ↓x_intB, ↓x_divmod, ↓x_max2, ↓x_min2, ↓x_ixS, ↓x_slS, ↓x_slT, ↓x_slL_l, ↓x_slL_k, ↓x_inS, ↓x_newT, ↓x_newF, ↓x_si, ↓x_s1, ↓x_s0, ↓x_rpart, ↓x_part, ↓x_a1, ↓x_a2, ↓x_isiStr, ↓x_isiInt, ↓x_isiIntB, ↓x_isiIntS, ↓x_isiBB, ↓x_isiBI, ↓x_isiStrI, ↓x_isiNonI, ↓x_isiNonS, ↓x_isiT, ↓x_isiL, ↓x_var0, ↓x_varS, ↓x_ex, ↓x_aug0, gat, pick, Option.some.injEq, D.bl.injEq, D.int.injEq, D.str.injEq, D.tup.injEq, D.lst.injEq, List.cons.injEq, and_true, true_and, List.set_cons_zero, List.set_cons_succ, List.length_cons, List.length_nil, List.filterMap_cons, List.filterMap_nil, List.getElem?_cons_zero, List.getElem?_cons_succ, Option.bind_some, ↓reduceIte, if_true, if_false, Bool.false_eq_true, Bool.true_eq_false, decide_eq_true_eq, beq_self_eq_true, Bool.not_true, Bool.not_false, Bool.not_eq_true', decide_eq_false_iff_not, exists_eq_left', exists_eq_left, exists_eq, ↓x_dnT, ↓x_dnF, ↓gAsgL, ↓gMMDef, ↓gDSet, ↓gSItems, ↓x_nilL, ↓x_nilE, List.isEmpty_nil, List.isEmpty_cons, Bool.true_xor, Bool.false_xor, ↓gSortSet, ↓gOrT, ↓gAndT, ↓gTryAs, ↓gTryO, ↓gRaise, ↓gCallX, ↓gMethX, ↓gMakeX, ↓gFldX, ↓x_fmtRS, ↓x_afRS, ↓x_afRI, ↓x_stO]
        simpa using hR'
    rw [fm_if, x_newT]
    generalize hX : (List.filter (fun e : Int => decide (p.1 ≤ e ∧ e < p.2.1)) (edg l R)) = X
    have hXl : X.length ≤ 400 := by rw [← hX]; exact Nat.le_trans (List.length_filter_le _ _) (by omega)
    refine ⟨by decide, x_addLL.mpr ⟨by simp; omega, ?_⟩⟩
    rw [x_newT, x_itL]
    rw [show X.map D.int ++ [D.int p.1, D.int (p.2.1 - 1)] = (X ++ [p.1, p.2.1 - 1]).map D.int by rw [List.map_append]; rfl]
    have hin : ∀ m ∈ X ++ [p.1, p.2.1 - 1], p.1 ≤ m ∧ m < p.2.1 := fun m hm => by
      rcases List.mem_append.mp hm with z | z
      · rw [← hX] at z
        simpa using (List.mem_filter.mp z).2
      · simp only [List.mem_cons, List.not_mem_nil, or_false] at z
        rcases z with z | z <;> omega
    refine for_on (fun j ρ S'' => S'' = S' ∧ ∃ v10 : Option D, ρ = [some o, some (.lst (R.map rD)), some d, some (.int s), some (.int u), some (.int s'), some (ahD ah), some (Mt.stD a.C_Stretch p.1 p.2.1), some (.str p.2.2), some (.lst (X.map .int)), v10, v11]) ⟨rfl, _, rfl⟩ ?_ ?_
    · rintro j m ρ S'' hm ⟨rfl, v10', rfl⟩
      refine ⟨trivial, _, x_bnm, ?_⟩
      simp only [↓x_eqSS, ↓x_neSS, ↓gKGet, ↓x_kget, ↓x_ixE, at_last, ↓x_appE, ↓x_tyE, ↓x_itE, ↓x_lenE, ↓x_nePr, ↓x_eqPr, ↓x_neE, ↓x_lenr, ↓x_lenrI, ↓gRev, ↓x_par3, ↓x_par33, ↓x_fld, ↓x_fset, ↓x_mkF, ↓x_mk, ↓x_meth, ↓x_fldO, ↓x_fsetE, ↓x_fldE, ↓x_methO, ↓x_isiCO, ↓x_isiCN, ↓x_isiCT, ↓x_isiCLi, ↓x_isiCS, ↓x_isiCI, ↓x_own, ↓x_eqT2, ↓x_neT2, ↓x_neL4, ↓x_eqLN, ↓x_neNil, ↓x_gset, ↓x_lc, ↓x_for, ↓x_it, ↓x_rn1, ↓x_rn2, ↓x_enu, ↓x_zip, ↓x_itS, ↓x_itL, ↓x_itK, ↓x_itT, ↓x_rn1I, ↓x_rn2I, ↓x_enuL, ↓x_enuK, ↓x_zipL, ↓x_ixS0, ↓x_ixL, ↓x_ixT, ↓x_ixK, x_at0, x_at1, x_at2, x_at3, x_at4, ↓x_set00, ↓x_set01, ↓x_set02, ↓x_aug1, ↓x_aug2, ↓x_aug3, ↓x_aug4, ↓x_aug5, ↓x_aug6, ↓x_aug7, ↓x_aug8, ↓x_aug9, ↓x_aug10, ↓x_aug11, ↓x_aug12, ↓x_aug13, ↓x_aug14, ↓x_aug15, ↓x_aug16, ↓x_aug17, ↓x_aug18, ↓x_aug19, ↓x_aug20, ↓x_aug21, ↓x_aug22, ↓x_aug23, Int.reduceToNat, Int.reducePow, ↓gSeq, ↓gIfS, ↓gSet, ↓gAsg, ↓x_par, ↓x_par2, ↓gRet, ↓gRetN, ↓gNext, ↓gDrop, ↓gBreak, ↓gCont, ↓gDead, ↓gCB, ↓gB2, ↓gU, ↓gC, ↓Dl.gCons, ↓Dl.gNil, ↓Dl.gTup, ↓Dl.gLst, ↓gTest, ↓gOrB, ↓gAndB, ↓gNotB, ↓gAndV, ↓gOrV, ↓gNotV, ↓gIf, ↓gIx, ↓gSl, ↓gPart, ↓gNoP, ↓gMt, ↓gCall, ↓gArgs, ↓gIsN, ↓gNotN, ↓gChain, ↓x_fmtS, ↓x_afS, ↓x_afI, ↓x_js0, ↓x_jsc, ↓gJoined, ↓gYes, ↓x_bnm, ↓x_btp, ↓x_bn, ↓x_bc, ↓x_nnN, ↓x_nnI, ↓x_nnS, ↓x_nnB, ↓x_nnT, ↓x_nnL, ↓x_nnO, ↓x_nnl, ↓x_tyS, ↓x_tyL, ↓x_i2, ↓aSub, ↓aFdiv, ↓aMod, ↓aPow, ↓aShr, ↓aLt, ↓aLe, ↓aGt, ↓aGe, ↓x_addI, ↓x_addS, ↓x_mulI, ↓x_iaddS, ↓x_iaddI, ↓x_neg, ↓x_eqI, ↓x_neI, ↓x_eqS, ↓x_neS, ↓x_eqB, ↓x_neB, ↓x_eqNI, ↓x_neNI, ↓x_lenS, ↓x_lenL_l, ↓x_lenL_k, ↓x_lenL_t, ↓x_str, ↓x_intI, ↓x_intB, ↓x_divmod, ↓x_max2, ↓x_min2, ↓x_ixS, ↓x_slS, ↓x_slT, ↓x_slL_l, ↓x_slL_k, ↓x_inS, ↓x_newT, ↓x_newF, ↓x_si, ↓x_s1, ↓x_s0, ↓x_rpart, ↓x_part, ↓x_a1, ↓x_a2, ↓x_isiStr, ↓x_isiInt, ↓x_isiIntB, ↓x_isiIntS, ↓x_isiBB, ↓x_isiBI, ↓x_isiStrI, ↓x_isiNonI, ↓x_isiNonS, ↓x_isiT, ↓x_isiL, ↓x_var0, ↓x_varS, ↓x_ex, ↓x_aug0, gat, pick, Option.some.injEq, D.bl.injEq, D.int.injEq, D.str.injEq, D.tup.injEq, D.lst.injEq, List.cons.injEq, and_true, true_and, List.set_cons_zero, List.set_cons_succ, List.length_cons, List.length_nil, List.filterMap_cons, List.filterMap_nil, List.getElem?_cons_zero, List.getElem?_cons_succ, Option.bind_some, ↓reduceIte, if_true, if_false, Bool.false_eq_true, Bool.true_eq_false, decide_eq_true_eq, beq_self_eq_true, Bool.not_true, Bool.not_false, Bool.not_eq_true', decide_eq_false_iff_not, exists_eq_left', exists_eq_left, exists_eq, ↓x_dnT, ↓x_dnF, ↓gAsgL, ↓gMMDef, ↓gDSet, ↓gSItems, ↓x_nilL, ↓x_nilE, List.isEmpty_nil, List.isEmpty_cons, Bool.true_xor, Bool.false_xor, ↓gSortSet, ↓gOrT, ↓gAndT, ↓gTryAs, ↓gTryO, ↓gRaise, ↓gCallX, ↓gMethX, ↓gMakeX, ↓gFldX, ↓x_fmtRS, ↓x_afRS, ↓x_afRI, ↓x_stO]
      obtain ⟨m1, m2⟩ := hin m (List.mem_of_getElem? hm)
      refine ⟨o, l, h, t, n, k, R, m, ho, rfl, hR, ?_⟩
      rw [h3 m m1 m2]
      simp only [↓x_eqSS, ↓x_neSS, ↓gKGet, ↓x_kget, ↓x_ixE, at_last, ↓x_appE, ↓x_tyE, ↓x_itE, ↓x_lenE, ↓x_nePr, ↓x_eqPr, ↓x_neE, ↓x_lenr, ↓x_lenrI, ↓gRev, ↓x_par3, ↓x_par33, ↓x_fld, ↓x_fset, ↓x_mkF, ↓x_mk, ↓x_meth, ↓x_fldO, ↓x_fsetE, ↓x_fldE, ↓x_methO, ↓x_isiCO, ↓x_isiCN, ↓x_isiCT, ↓x_isiCLi, ↓x_isiCS, ↓x_isiCI, ↓x_own, ↓x_eqT2, ↓x_neT2, ↓x_neL4, ↓x_eqLN, ↓x_neNil, ↓x_gset, ↓x_lc, ↓x_for, ↓x_it, ↓x_rn1, ↓x_rn2, ↓x_enu, ↓x_zip, ↓x_itS, ↓x_itL, ↓x_itK, ↓x_itT, ↓x_rn1I, ↓x_rn2I, ↓x_enuL, ↓x_enuK, ↓x_zipL, ↓x_ixS0, ↓x_ixL, ↓x_ixT, ↓x_ixK, x_at0, x_at1, x_at2, x_at3, x_at4, ↓x_set00, ↓x_set01, ↓x_set02, ↓x_aug1, ↓x_aug2, ↓x_aug3, ↓x_aug4, ↓x_aug5, ↓x_aug6, ↓x_aug7, ↓x_aug8, ↓x_aug9, ↓x_aug10, ↓x_aug11, ↓x_aug12, ↓x_aug13, ↓x_aug14, ↓x_aug15, ↓x_aug16, ↓x_aug17, ↓x_aug18, ↓x_aug19, ↓x_aug20, ↓x_aug21, ↓x_aug22, ↓x_aug23, Int.reduceToNat, Int.reducePow, ↓gSeq, ↓gIfS, ↓gSet, ↓gAsg, ↓x_par, ↓x_par2, ↓gRet, ↓gRetN, ↓gNext, ↓gDrop, ↓gBreak, ↓gCont, ↓gDead, ↓gCB, ↓gB2, ↓gU, ↓gC, ↓Dl.gCons, ↓Dl.gNil, ↓Dl.gTup, ↓Dl.gLst, ↓gTest, ↓gOrB, ↓gAndB, ↓gNotB, ↓gAndV, ↓gOrV, ↓gNotV, ↓gIf, ↓gIx, ↓gSl, ↓gPart, ↓gNoP, ↓gMt, ↓gCall, ↓gArgs, ↓gIsN, ↓gNotN, ↓gChain, ↓x_fmtS, ↓x_afS, ↓x_afI, ↓x_js0, ↓x_jsc, ↓gJoined, ↓gYes, ↓x_bnm, ↓x_btp, ↓x_bn, ↓x_bc, ↓x_nnN, ↓x_nnI, ↓x_nnS, ↓x_nnB, ↓x_nnT, ↓x_nnL, ↓x_nnO, ↓x_nnl, ↓x_tyS, ↓x_tyL, ↓x_i2, ↓aSub, ↓aFdiv, ↓aMod, ↓aPow, ↓aShr, ↓aLt, ↓aLe, ↓aGt, ↓aGe, ↓x_addI, ↓x_addS, ↓x_mulI, ↓x_iaddS, ↓x_iaddI, ↓x_neg, ↓x_eqI, ↓x_neI, ↓x_eqS, ↓x_neS, ↓x_eqB, ↓x_neB, ↓x_eqNI, ↓x_neNI, ↓x_lenS, ↓x_lenL_l, ↓x_lenL_k, ↓x_lenL_t, ↓x_str, ↓x_intI, ↓x_intB, ↓x_divmod, ↓x_max2, ↓x_min2, ↓x_ixS, ↓x_slS, ↓x_slT, ↓x_slL_l, ↓x_slL_k, ↓x_inS, ↓x_newT, ↓x_newF, ↓x_si, ↓x_s1, ↓x_s0, ↓x_rpart, ↓x_part, ↓x_a1, ↓x_a2, ↓x_isiStr, ↓x_isiInt, ↓x_isiIntB, ↓x_isiIntS, ↓x_isiBB, ↓x_isiBI, ↓x_isiStrI, ↓x_isiNonI, ↓x_isiNonS, ↓x_isiT, ↓x_isiL, ↓x_var0, ↓x_varS, ↓x_ex, ↓x_aug0, gat, pick, Option.some.injEq, D.bl.injEq, D.int.injEq, D.str.injEq, D.tup.injEq, D.lst.injEq, List.cons.injEq, and_true, true_and, List.set_cons_zero, List.set_cons_succ, List.length_cons, List.length_nil, List.filterMap_cons, List.filterMap_nil, List.getElem?_cons_zero, List.getElem?_cons_succ, Option.bind_some, ↓reduceIte, if_true, if_false, Bool.false_eq_true, Bool.true_eq_false, decide_eq_true_eq, beq_self_eq_true, Bool.not_true, Bool.not_false, Bool.not_eq_true', decide_eq_false_iff_not, exists_eq_left', exists_eq_left, exists_eq, ↓x_dnT, ↓x_dnF, ↓gAsgL, ↓gMMDef, ↓gDSet, ↓gSItems, ↓x_nilL, ↓x_nilE, List.isEmpty_nil, List.isEmpty_cons, Bool.true_xor, Bool.false_xor, ↓gSortSet, ↓gOrT, ↓gAndT, ↓gTryAs, ↓gTryO, ↓gRaise, ↓gCallX, ↓gMethX, ↓gMakeX, ↓gFldX, ↓x_fmtRS, ↓x_afRS, ↓x_afRI, ↓x_stO]
      simp
    · rintro ρ S'' ⟨rfl, v10', rfl⟩
      refine ⟨trivial, ?_⟩
      simp only [T.f_Stretch_first, T.f_Stretch_behind, ↓Mt.stD, Mt.fg_first, Mt.fg_behind, ↓x_eqSS, ↓x_neSS, ↓gKGet, ↓x_kget, ↓x_ixE, at_last, ↓x_appE, ↓x_tyE, ↓x_itE, ↓x_lenE, ↓x_nePr, ↓x_eqPr, ↓x_neE, ↓x_lenr, ↓x_lenrI, ↓gRev, ↓x_par3, ↓x_par33, ↓x_fld, ↓x_fset, ↓x_mkF, ↓x_mk, ↓x_meth, ↓x_fldO, ↓x_fsetE, ↓x_fldE, ↓x_methO, ↓x_isiCO, ↓x_isiCN, ↓x_isiCT, ↓x_isiCLi, ↓x_isiCS, ↓x_isiCI, ↓x_own, ↓x_eqT2, ↓x_neT2, ↓x_neL4, ↓x_eqLN, ↓x_neNil, ↓x_gset, ↓x_lc, ↓x_for, ↓x_it, ↓x_rn1, ↓x_rn2, ↓x_enu, ↓x_zip, ↓x_itS, ↓x_itL, ↓x_itK, ↓x_itT, ↓x_rn1I, ↓x_rn2I, ↓x_enuL, ↓x_enuK, ↓x_zipL, ↓x_ixS0, ↓x_ixL, ↓x_ixT, ↓x_ixK, x_at0, x_at1, x_at2, x_at3, x_at4, ↓x_set00, ↓x_set01, ↓x_set02, ↓x_aug1, ↓x_aug2, ↓x_aug3, ↓x_aug4, ↓x_aug5, ↓x_aug6, ↓x_aug7, ↓x_aug8, ↓x_aug9, ↓x_aug10, ↓x_aug11, ↓x_aug12, ↓x_aug13, ↓x_aug14, ↓x_aug15, ↓x_aug16, ↓x_aug17, ↓x_aug18, ↓x_aug19, ↓x_aug20, ↓x_aug21, ↓x_aug22, ↓x_aug23, Int.reduceToNat, Int.reducePow, ↓gSeq, ↓gIfS, ↓gSet, ↓gAsg, ↓x_par, ↓x_par2, ↓gRet, ↓gRetN, ↓gNext, ↓gDrop, ↓gBreak, ↓gCont, ↓gDead, ↓gCB, ↓gB2, ↓gU, ↓gC, ↓Dl.gCons, ↓Dl.gNil, ↓Dl.gTup, ↓Dl.gLst, ↓gTest, ↓gOrB, ↓gAndB, ↓gNotB, ↓gAndV, ↓gOrV, ↓gNotV, ↓gIf, ↓gIx, ↓gSl, ↓gPart, ↓gNoP, ↓gMt, ↓gCall, ↓gArgs, ↓gIsN, ↓gNotN, ↓gChain, ↓x_fmtS, ↓x_afS, ↓x_afI, ↓x_js0, ↓x_jsc, ↓gJoined, ↓gYes, ↓x_bnm, ↓x_btp, ↓x_bn, ↓x_bc, ↓x_nnN, ↓x_nnI, ↓x_nnS, ↓x_nnB, ↓x_nnT, ↓x_nnL, ↓x_nnO, ↓x_nnl, ↓x_tyS, ↓x_tyL, ↓x_i2, ↓aSub, ↓aFdiv, ↓aMod, ↓aPow, ↓aShr, ↓aLt, ↓aLe, ↓aGt, ↓aGe, ↓x_addI, ↓x_addS, ↓x_mulI, ↓x_iaddS, ↓x_iaddI, ↓x_neg, ↓x_eqI, ↓x_neI, ↓x_eqS, ↓x_neS, ↓x_eqB, ↓x_neB, ↓x_eqNI, ↓x_neNI, ↓x_lenS, ↓x_lenL_l, ↓x_lenL_k, ↓x_lenL_t, ↓x_str, ↓x_intI, ↓x_intB, ↓x_divmod, ↓x_max2, ↓x_min2, ↓x_ixS, ↓x_slS, ↓x_slT, ↓x_slL_l, ↓x_slL_k, ↓x_inS, ↓x_newT, ↓x_newF, ↓x_si, ↓x_s1, ↓x_s0, ↓x_rpart, ↓x_part, ↓x_a1, ↓x_a2, ↓x_isiStr, ↓x_isiInt, ↓x_isiIntB, ↓x_isiIntS, ↓x_isiBB, ↓x_isiBI, ↓x_isiStrI, ↓x_isiNonI, ↓x_isiNonS, ↓x_isiT, ↓x_isiL, ↓x_var0, ↓x_varS, ↓x_ex, ↓x_aug0, gat, pick, Option.some.injEq, D.bl.injEq, D.int.injEq, D.str.injEq, D.tup.injEq, D.lst.injEq, List.cons.injEq, and_true, true_and, List.set_cons_zero, List.set_cons_succ, List.length_cons, List.length_nil, List.filterMap_cons, List.filterMap_nil, List.getElem?_cons_zero, List.getElem?_cons_succ, Option.bind_some, ↓reduceIte, if_true, if_false, Bool.false_eq_true, Bool.true_eq_false, decide_eq_true_eq, beq_self_eq_true, Bool.not_true, Bool.not_false, Bool.not_eq_true', decide_eq_false_iff_not, exists_eq_left', exists_eq_left, exists_eq, ↓x_dnT, ↓x_dnF, ↓gAsgL, ↓gMMDef, ↓gDSet, ↓gSItems, ↓x_nilL, ↓x_nilE, List.isEmpty_nil, List.isEmpty_cons, Bool.true_xor, Bool.false_xor, ↓gSortSet, ↓gOrT, ↓gAndT, ↓gTryAs, ↓gTryO, ↓gRaise, ↓gCallX, ↓gMethX, ↓gMakeX, ↓gFldX, ↓x_fmtRS, ↓x_afRS, ↓x_afRI, ↓x_stO]
      exact ⟨some p.2.2, p.2.1, _, _, _, _, _, h5, by omega, rfl, rfl, rfl, rfl, rfl, rfl, rfl⟩
  · rintro ρ S' ⟨rfl, ah, s', v7, v8, v9, v10, v11, hgo, hz, rfl⟩
    refine ⟨hd, ?_⟩
    rw [List.drop_length] at hgo
    have e : s' = u := hgo
    subst e
    simp only [↓x_eqSS, ↓x_neSS, ↓gKGet, ↓x_kget, ↓x_ixE, at_last, ↓x_appE, ↓x_tyE, ↓x_itE, ↓x_lenE, ↓x_nePr, ↓x_eqPr, ↓x_neE, ↓x_lenr, ↓x_lenrI, ↓gRev, ↓x_par3, ↓x_par33, ↓x_fld, ↓x_fset, ↓x_mkF, ↓x_mk, ↓x_meth, ↓x_fldO, ↓x_fsetE, ↓x_fldE, ↓x_methO, ↓x_isiCO, ↓x_isiCN, ↓x_isiCT, ↓x_isiCLi, ↓x_isiCS, ↓x_isiCI, ↓x_own, ↓x_eqT2, ↓x_neT2, ↓x_neL4, ↓x_eqLN, ↓x_neNil, ↓x_gset, ↓x_lc, ↓x_for, ↓x_it, ↓x_rn1, ↓x_rn2, ↓x_enu, ↓x_zip, ↓x_itS, ↓x_itL, ↓x_itK, ↓x_itT, ↓x_rn1I, ↓x_rn2I, ↓x_enuL, ↓x_enuK, ↓x_zipL, ↓x_ixS0, ↓x_ixL, ↓x_ixT, ↓x_ixK, x_at0, x_at1, x_at2, x_at3, x_at4, ↓x_set00, ↓x_set01, ↓x_set02, ↓x_aug1, ↓x_aug2, ↓x_aug3, ↓x_aug4, ↓x_aug5, ↓x_aug6, ↓x_aug7, ↓x_aug8, ↓x_aug9, ↓x_aug10, ↓x_aug11, ↓x_aug12, ↓x_aug13, ↓x_aug14, ↓x_aug15, ↓x_aug16, ↓x_aug17, ↓x_aug18, ↓x_aug19, ↓x_aug20, ↓x_aug21, ↓x_aug22, ↓x_aug23, Int.reduceToNat, Int.reducePow, ↓gSeq, ↓gIfS, ↓gSet, ↓gAsg, ↓x_par, ↓x_par2, ↓gRet, ↓gRetN, ↓gNext, ↓gDrop, ↓gBreak, ↓gCont, ↓gDead, ↓gCB, ↓gB2, ↓gU, ↓gC, ↓Dl.gCons, ↓Dl.gNil, ↓Dl.gTup, ↓Dl.gLst, ↓gTest, ↓gOrB, ↓gAndB, ↓gNotB, ↓gAndV, ↓gOrV, ↓gNotV, ↓gIf, ↓gIx, ↓gSl, ↓gPart, ↓gNoP, ↓gMt, ↓gCall, ↓gArgs, ↓gIsN, ↓gNotN, ↓gChain, ↓x_fmtS, ↓x_afS, ↓x_afI, ↓x_js0, ↓x_jsc, ↓gJoined, ↓gYes, ↓x_bnm, ↓x_btp, ↓x_bn, ↓x_bc, ↓x_nnN, ↓x_nnI, ↓x_nnS, ↓x_nnB, ↓x_nnT, ↓x_nnL, ↓x_nnO, ↓x_nnl, ↓x_tyS, ↓x_tyL, ↓x_i2, ↓aSub, ↓aFdiv, ↓aMod, ↓aPow, ↓aShr, ↓aLt, ↓aLe, ↓aGt, ↓aGe, ↓x_addI, ↓x_addS, ↓x_mulI, ↓x_iaddS, ↓x_iaddI, ↓x_neg, ↓x_eqI, ↓x_neI, ↓x_eqS, ↓x_neS, ↓x_eqB, ↓x_neB, ↓x_eqNI, ↓x_neNI, ↓x_lenS, ↓x_lenL_l, ↓x_lenL_k, ↓x_lenL_t, ↓x_str, ↓x_intI, ↓x_intB, ↓x_divmod, ↓x_max2, ↓x_min2, ↓x_ixS, ↓x_slS, ↓x_slT, ↓x_slL_l, ↓x_slL_k, ↓x_inS, ↓x_newT, ↓x_newF, ↓x_si, ↓x_s1, ↓x_s0, ↓x_rpart, ↓x_part, ↓x_a1, ↓x_a2, ↓x_isiStr, ↓x_isiInt, ↓x_isiIntB, ↓x_isiIntS, ↓x_isiBB, ↓x_isiBI, ↓x_isiStrI, ↓x_isiNonI, ↓x_isiNonS, ↓x_isiT, ↓x_isiL, ↓x_var0, ↓x_varS, ↓x_ex, ↓x_aug0, gat, pick, Option.some.injEq, D.bl.injEq, D.int.injEq, D.str.injEq, D.tup.injEq, D.lst.injEq, List.cons.injEq, and_true, true_and, List.set_cons_zero, List.set_cons_succ, List.length_cons, List.length_nil, List.filterMap_cons, List.filterMap_nil, List.getElem?_cons_zero, List.getElem?_cons_succ, Option.bind_some, ↓reduceIte, if_true, if_false, Bool.false_eq_true, Bool.true_eq_false, decide_eq_true_eq, beq_self_eq_true, Bool.not_true, Bool.not_false, Bool.not_eq_true', decide_eq_false_iff_not, exists_eq_left', exists_eq_left, exists_eq, ↓x_dnT, ↓x_dnF, ↓gAsgL, ↓gMMDef, ↓gDSet, ↓gSItems, ↓x_nilL, ↓x_nilE, List.isEmpty_nil, List.isEmpty_cons, Bool.true_xor, Bool.false_xor, ↓gSortSet, ↓gOrT, ↓gAndT, ↓gTryAs, ↓gTryO, ↓gRaise, ↓gCallX, ↓gMethX, ↓gMakeX, ↓gFldX, ↓x_fmtRS, ↓x_afRS, ↓x_afRI, ↓x_stO]
    simpa using hq
end
end Lw
namespace Lw
open PySem L2 Dl Mg
section
variable {P : Program} {w : World} {K : PySem.W.Frag} {mg : Str → Option Value} {base : Heap} {a : Ad}
theorem stT_len {x y : Int} (hx : 0 ≤ x ∧ x < 10 ^ 10) (hy : 0 ≤ y ∧ y < 10 ^ 10) : (stT x y).length ≤ 31 := by
  have a1 := Mt.show_len10 hx.1 hx.2
  have a2 := Mt.show_len10 hy.1 hy.2
  have z1 : (Str.empty ++ Str.ofString "Stretch(").length = 8 := by decide
  have z2 : (Str.ofString ", ").length = 2 := by decide
  have z3 : (Str.ofString ")").length = 1 := by decide
  unfold stT
  rw [Mt.len_app, Mt.len_app, Mt.len_app, Mt.len_app, z1, z2, z3]
  omega
theorem pcT_len {p : Pc} (hx : 0 ≤ p.1 ∧ p.1 < 10 ^ 10) (hy : 0 ≤ p.2.1 ∧ p.2.1 < 10 ^ 10) (hs : PyData.strOk p.2.2 = true) (hl : p.2.2.length ≤ 4) : (pcT p).length ≤ 80 := by
  have h1 := stT_len hx hy
  have h2 := shown_str hs hl
  rw [PyData.shown] at h2
  have h3 := tupleText_le [stT p.1 p.2.1, reprText p.2.2]
  rw [piled_cons, piled_cons, piled_nil] at h3
  unfold pcT
  omega
theorem psT_len {ps : List Pc} (h : OkP ps) : (psT ps).length ≤ 20000 := by
  have h1 := piled_le (M := 80) (ts := ps.map pcT) fun t ht => by
    obtain ⟨p, hp, rfl⟩ := List.mem_map.mp ht
    obtain ⟨b1, b2, b3, b4⟩ := h.2 p hp
    exact pcT_len b1 b2 b3 b4
  have h2 := listText_le (ps.map pcT)
  have h3 := h.1
  rw [List.length_map] at h1
  unfold psT
  omega
theorem repr_ps {ps : List Pc} (h : OkP ps) {S : Sto} {q : D → Sto → Prop} (hq : q (.str (psT ps)) S) : aReprO [⟨a.C_Stretch, 1, sp_Stretch_repr a⟩] 1 3 (.lst (ps.map (pcD a.C_Stretch))) S q := by
  refine ⟨ps.map (pcD a.C_Stretch), ps.map pcT, psT ps, by simp, fun i h1 h2 => ?_, .inl ⟨rfl, rfl, rfl⟩, Nat.le_trans (psT_len h) (by decide), hq⟩
  rw [List.getElem_map, List.getElem_map]
  have hi : i < ps.length := by simpa using h1
  obtain ⟨b1, b2, b3, b4⟩ := h.2 ps[i] (List.getElem_mem _)
  refine Sho.tup (n := 2) rfl fun j k1 k2 => ?_
  match j, k1, k2 with
  | 0, _, _ => exact Sho.own (c := ⟨a.C_Stretch, 1, sp_Stretch_repr a⟩) (List.mem_singleton.mpr rfl) (Nat.le_refl 1) fun S' => ⟨_, _, rfl, b1, b2, rfl, rfl⟩
  | 1, _, _ => exact Sho.str _ (by rw [PyData.showable])
theorem ga_make {l h t n k : Int} {dds : List D} {S : Sto} {q : D → Sto → Prop} (hq : q (gaD a.C_Gauge l h t n k) S) : aMakeF a.C_Gauge 5 0 [Src.p 0, Src.p 1, Src.p 2, Src.p 3, Src.p 4, Src.p 5] dds (sp_Gauge_init a) [D.int l, D.int h, D.int t, D.int n, D.int k] [] S q :=
  ⟨rfl, rfl, fun _ _ => ⟨S, l, h, t, n, k, rfl, rfl, rfl, _, _, rfl, rfl, hq⟩⟩
theorem ga_make0 {l h t n k : Int} {S : Sto} {q : D → Sto → Prop} (hq : q (gaD a.C_Gauge l h t n k) S) : aMakeF a.C_Gauge 0 0 [Src.p 0, Src.d 0, Src.d 1, Src.d 2, Src.d 3, Src.d 4] [D.int l, D.int h, D.int t, D.int n, D.int k] (sp_Gauge_init a) [] [] S q :=
  ⟨rfl, rfl, fun _ _ => ⟨S, l, h, t, n, k, rfl, rfl, rfl, _, _, rfl, rfl, hq⟩⟩
theorem stS_len {l h t n k m : Int} {R : List Rdg} : (stS l h t n k R m).length ≤ 4 := by
  unfold stS standS
  split
  · decide
  · split
    · decide
    · split <;> decide
theorem ok_ps {l h t n k f b : Int} {R : List Rdg} {ps : List Pc} (hg : Goes (stS l h t n k R) none f ps b) (hf : 0 ≤ f) (hb : b < 10 ^ 10) (hl : ps.length ≤ 200) : OkP ps := ⟨hl, fun p hp => by
  obtain ⟨h1, h2, h3, h4⟩ := Goes.mem hg p hp
  exact ⟨by omega, by omega, by rw [← h4]; exact stS_ok, by rw [← h4]; exact stS_len⟩⟩
theorem edg_bd {l : Int} {R : List Rdg} (hl : 0 ≤ l ∧ l ≤ 1440) (hR : OkR R) : ∀ x ∈ edg l R, 0 ≤ x ∧ x ≤ 1011440 := fun x hx => by
  unfold edg at hx
  obtain ⟨r, hr, rfl⟩ := List.mem_map.mp hx
  have := hR.2 r hr
  split <;> omega
theorem rd_same {R : List Rdg} {S : Sto} {q : D → Sto → Prop} (hq : q (.bl false) S) : aNe (.lst (R.map rD)) (.lst (R.map rD)) S q := by
  refine (x_ne (p := .list (R.map rY)) (p' := .list (R.map rY)) (by simp [toPyS, toPy, toPys_rd]) (by simp [toPyS, toPy, toPys_rd])).mpr ⟨sh_rd _, sh_rd _, ?_⟩
  simpa only [PyData.eqv, eqv_rd, Bool.not_true] using hq
end
end Lw
namespace Lw
open PySem L2 Dl Mg
section
variable {P : Program} {w : World} {K : PySem.W.Frag} {mg : Str → Option Value} {base : Heap} {a : Ad}
abbrev heD (C : Addr) (ps : List Pc) : D := .tup [.lst (ps.map (pcD C)), .str (psT ps)]
theorem eqtl_same {ps : List Pc} {S : Sto} {q : D → Sto → Prop} (hq : q (.bl true) S) : aEqTL a.C_Stretch (sp_Stretch_eq a) (.lst (ps.map (pcD a.C_Stretch))) (.lst (ps.map (pcD a.C_Stretch))) S q := by
  refine ⟨_, _, rfl, rfl, rfl, fun i d e hd he => ?_, hq⟩
  rw [hd] at he
  cases he
  rw [List.getElem?_map] at hd
  obtain ⟨p, hp, rfl⟩ := Option.map_eq_some_iff.mp hd
  refine ⟨_, _, rfl, rfl, rfl, fun j x y hx hy => ?_⟩
  rw [hx] at hy
  cases hy
  match j, hx with
  | 0, hx => cases hx; exact .inr ⟨⟨_, _, rfl, rfl⟩, ⟨_, _, rfl, rfl⟩, fun _ => rfl, fun S' => ⟨p.1, p.2.1, p.1, p.2.1, rfl, by rw [decide_eq_true rfl]; exact ⟨rfl, rfl⟩⟩⟩
  | 1, hx => cases hx; exact .inl ⟨rfl, .inl ⟨_, rfl⟩⟩
theorem seq_gen {A B : GS} {E : DE} {ρ : Env_} {S : Sto} (Q : Env_ → Sto → Prop) (hA : ∀ nx : Env_ → Sto → Prop, (∀ ρ' S', Q ρ' S' → nx ρ' S') → A { E with nx := nx } ρ S) (hB : ∀ ρ' S', Q ρ' S' → B E ρ' S') : gSeq A B E ρ S := hA _ hB
theorem goes_nil {told : Int → Str} {ps : List Pc} {s : Int} (h : Goes told none s ps s) : ps = [] := by
  cases ps with
  | nil => rfl
  | cons p r =>
    have := Goes.mem h p List.mem_cons_self
    omega
theorem set_held {o x y : Option MO} {R1 : Sto} {m : Nat} (h : m < R1.length) : ((o :: R1) ++ [x]).set (m + 1) y = (o :: R1.set m y) ++ [x] := by
  rw [List.cons_append, List.set_cons_succ, List.set_append_left _ _ h, List.cons_append]
theorem rng_if {c : Prop} [Decidable c] {A : List D → Prop} {p1 p2 p3 p4 : Prop} (h1 : p1) (h2 : p2) (h3 : p3) (h4 : p4) (h : ∀ N : Nat, N ≤ 4 → A (rngD 0 N)) : if c then (p1 ∧ p2 ∧ A (rngD 0 1)) else (p3 ∧ p4 ∧ A (rngD 0 4)) := by
  split
  · exact ⟨h1, h2, h 1 (by decide)⟩
  · exact ⟨h3, h4, h 4 (by decide)⟩
theorem r_law (T : Txt K mg a) : ∀ ds S q, sp_law ds S q → g_law K a { nx := fun _ S' => q .non S', rt := q } (startD N_law ds) S := by
  rintro ds S q ⟨ns, rfl, rfl, h⟩
  rw [st_law]
  simp only [g_law, ↓x_eqSS, ↓x_neSS, ↓gKGet, ↓x_kget, ↓x_ixE, at_last, ↓x_appE, ↓x_tyE, ↓x_itE, ↓x_lenE, ↓x_nePr, ↓x_eqPr, ↓x_neE, ↓x_lenr, ↓x_lenrI, ↓gRev, ↓x_par3, ↓x_par33, ↓x_fld, ↓x_fset, ↓x_mkF, ↓x_mk, ↓x_meth, ↓x_fldO, ↓x_fsetE, ↓x_fldE, ↓x_methO, ↓x_isiCO, ↓x_isiCN, ↓x_isiCT, ↓x_isiCLi, ↓x_isiCS, ↓x_isiCI, ↓x_own, ↓x_eqT2, ↓x_neT2, ↓x_neL4, ↓x_eqLN, ↓x_neNil, ↓x_gset, ↓x_lc, ↓x_for, ↓x_it, ↓x_rn1, ↓x_rn2, ↓x_enu, ↓x_zip, ↓x_itS, ↓x_itL, ↓x_itK, ↓x_itT, ↓x_rn1I, ↓x_rn2I, ↓x_enuL, ↓x_enuK, ↓x_zipL, ↓x_ixS0, ↓x_ixL, ↓x_ixT, ↓x_ixK, x_at0, x_at1, x_at2, x_at3, x_at4, ↓x_set00, ↓x_set01, ↓x_set02, ↓x_aug1, ↓x_aug2, ↓x_aug3, ↓x_aug4, ↓x_aug5, ↓x_aug6, ↓x_aug7, ↓x_aug8, ↓x_aug9, ↓x_aug10, ↓x_aug11, ↓x_aug12, ↓x_aug13, ↓x_aug14, ↓x_aug15, ↓x_aug16, ↓x_aug17, ↓x_aug18, ↓x_aug19, ↓x_aug20, ↓x_aug21, ↓x_aug22, ↓x_aug23, Int.reduceToNat, Int.reducePow, ↓gSeq, ↓gIfS, ↓gSet, ↓gAsg, ↓x_par, ↓x_par2, ↓gRet, ↓gRetN, ↓gNext, ↓gDrop, ↓gBreak, ↓gCont, ↓gDead, ↓gCB, ↓gB2, ↓gU, ↓gC, ↓Dl.gCons, ↓Dl.gNil, ↓Dl.gTup, ↓Dl.gLst, ↓gTest, ↓gOrB, ↓gAndB, ↓gNotB, ↓gAndV, ↓gOrV, ↓gNotV, ↓gIf, ↓gIx, ↓gSl, ↓gPart, ↓gNoP, ↓gMt, ↓gCall, ↓gArgs, ↓gIsN, ↓gNotN, ↓gChain, ↓x_fmtS, ↓x_afS, ↓x_afI, ↓x_js0, ↓x_jsc, ↓gJoined, ↓gYes, ↓x_bnm, ↓x_btp, ↓x_bn, ↓x_bc, ↓x_nnN, ↓x_nnI, ↓x_nnS, ↓x_nnB, ↓x_nnT, ↓x_nnL, ↓x_nnO, ↓x_nnl, ↓x_tyS, ↓x_tyL, ↓x_i2, ↓aSub, ↓aFdiv, ↓aMod, ↓aPow, ↓aShr, ↓aLt, ↓aLe, ↓aGt, ↓aGe, ↓x_addI, ↓x_addS, ↓x_mulI, ↓x_iaddS, ↓x_iaddI, ↓x_neg, ↓x_eqI, ↓x_neI, ↓x_eqS, ↓x_neS, ↓x_eqB, ↓x_neB, ↓x_eqNI, ↓x_neNI, ↓x_lenS, ↓x_lenL_l, ↓x_lenL_k, ↓x_lenL_t, ↓x_str, ↓x_intI, ↓x_intB, ↓x_divmod, ↓x_max2, ↓x_min2, ↓x_ixS, ↓x_slS, ↓x_slT, ↓x_slL_l, ↓x_slL_k, ↓x_inS, ↓x_newT, ↓x_newF, ↓x_si, ↓x_s1, ↓x_s0, ↓x_rpart, ↓x_part, ↓x_a1, ↓x_a2, ↓x_isiStr, ↓x_isiInt, ↓x_isiIntB, ↓x_isiIntS, ↓x_isiBB, ↓x_isiBI, ↓x_isiStrI, ↓x_isiNonI, ↓x_isiNonS, ↓x_isiT, ↓x_isiL, ↓x_var0, ↓x_varS, ↓x_ex, ↓x_aug0, gat, pick, Option.some.injEq, D.bl.injEq, D.int.injEq, D.str.injEq, D.tup.injEq, D.lst.injEq, List.cons.injEq, and_true, true_and, List.set_cons_zero, List.set_cons_succ, List.length_cons, List.length_nil, List.filterMap_cons, List.filterMap_nil, List.getElem?_cons_zero, List.getElem?_cons_succ, Option.bind_some, ↓reduceIte, if_true, if_false, Bool.false_eq_true, Bool.true_eq_false, decide_eq_true_eq, beq_self_eq_true, Bool.not_true, Bool.not_false, Bool.not_eq_true', decide_eq_false_iff_not, exists_eq_left', exists_eq_left, exists_eq, ↓x_dnT, ↓x_dnF, ↓gAsgL, ↓gMMDef, ↓gDSet, ↓gSItems, ↓x_nilL, ↓x_nilE, List.isEmpty_nil, List.isEmpty_cons, Bool.true_xor, Bool.false_xor, ↓gSortSet, ↓gOrT, ↓gAndT, ↓gTryAs, ↓gTryO, ↓gRaise, ↓gCallX, ↓gMethX, ↓gMakeX, ↓gFldX, ↓x_fmtRS, ↓x_afRS, ↓x_afRI, ↓x_stO]
  refine ⟨ns, rfl, rfl, ?_⟩
  have t15 := Mt.ten15
  have hs' : 10000 ≤ sizeLine := by decide
  have ht0 : Mt.Tp 0 (some (.lst [.lst ((ns.take 63).map .int), .int 0, .int 0])) := ⟨_, 0, 0, rfl, by decide, by decide, by decide⟩
  refine ⟨by decide, by decide, ?_⟩
  refine ⟨fun i ρ S' => ∃ (o : Option MO) (R0 : Sto) (v0 v2 v3 v4 v5 v6 v7 v8 v9 v10 v11 v12 v13 v14 v15 v16 : Option D), S' = o :: R0 ∧ Mt.Tp (2100 * i) o ∧ ρ = [v0, some (.loc 0), v2, v3, v4, v5, v6, v7, v8, v9, v10, v11, v12, v13, v14, v15, v16], ⟨_, [], _, _, _, _, _, _, _, _, _, _, _, _, _, _, _, _, rfl, ht0.mono (by decide), rfl⟩, ?_, ?_⟩
  · rintro i d ρ S' hd ⟨o, R0, v0, v2, v3, v4, v5, v6, v7, v8, v9, v10, v11, v12, v13, v14, v15, v16, rfl, ht, rfl⟩
    have hi : i < 3 := by
      have := (List.getElem?_eq_some_iff.mp hd).1
      rw [x_rngL] at this
      exact this
    refine ⟨trivial, _, x_bnm, ?_⟩
    simp only [↓x_eqSS, ↓x_neSS, ↓gKGet, ↓x_kget, ↓x_ixE, at_last, ↓x_appE, ↓x_tyE, ↓x_itE, ↓x_lenE, ↓x_nePr, ↓x_eqPr, ↓x_neE, ↓x_lenr, ↓x_lenrI, ↓gRev, ↓x_par3, ↓x_par33, ↓x_fld, ↓x_fset, ↓x_mkF, ↓x_mk, ↓x_meth, ↓x_fldO, ↓x_fsetE, ↓x_fldE, ↓x_methO, ↓x_isiCO, ↓x_isiCN, ↓x_isiCT, ↓x_isiCLi, ↓x_isiCS, ↓x_isiCI, ↓x_own, ↓x_eqT2, ↓x_neT2, ↓x_neL4, ↓x_eqLN, ↓x_neNil, ↓x_gset, ↓x_lc, ↓x_for, ↓x_it, ↓x_rn1, ↓x_rn2, ↓x_enu, ↓x_zip, ↓x_itS, ↓x_itL, ↓x_itK, ↓x_itT, ↓x_rn1I, ↓x_rn2I, ↓x_enuL, ↓x_enuK, ↓x_zipL, ↓x_ixS0, ↓x_ixL, ↓x_ixT, ↓x_ixK, x_at0, x_at1, x_at2, x_at3, x_at4, ↓x_set00, ↓x_set01, ↓x_set02, ↓x_aug1, ↓x_aug2, ↓x_aug3, ↓x_aug4, ↓x_aug5, ↓x_aug6, ↓x_aug7, ↓x_aug8, ↓x_aug9, ↓x_aug10, ↓x_aug11, ↓x_aug12, ↓x_aug13, ↓x_aug14, ↓x_aug15, ↓x_aug16, ↓x_aug17, ↓x_aug18, ↓x_aug19, ↓x_aug20, ↓x_aug21, ↓x_aug22, ↓x_aug23, Int.reduceToNat, Int.reducePow, ↓gSeq, ↓gIfS, ↓gSet, ↓gAsg, ↓x_par, ↓x_par2, ↓gRet, ↓gRetN, ↓gNext, ↓gDrop, ↓gBreak, ↓gCont, ↓gDead, ↓gCB, ↓gB2, ↓gU, ↓gC, ↓Dl.gCons, ↓Dl.gNil, ↓Dl.gTup, ↓Dl.gLst, ↓gTest, ↓gOrB, ↓gAndB, ↓gNotB, ↓gAndV, ↓gOrV, ↓gNotV, ↓gIf, ↓gIx, ↓gSl, ↓gPart, ↓gNoP, ↓gMt, ↓gCall, ↓gArgs, ↓gIsN, ↓gNotN, ↓gChain, ↓x_fmtS, ↓x_afS, ↓x_afI, ↓x_js0, ↓x_jsc, ↓gJoined, ↓gYes, ↓x_bnm, ↓x_btp, ↓x_bn, ↓x_bc, ↓x_nnN, ↓x_nnI, ↓x_nnS, ↓x_nnB, ↓x_nnT, ↓x_nnL, ↓x_nnO, ↓x_nnl, ↓x_tyS, ↓x_tyL, ↓x_i2, ↓aSub, ↓aFdiv, ↓aMod, ↓aPow, ↓aShr, ↓aLt, ↓aLe, ↓aGt, ↓aGe, ↓x_addI, ↓x_addS, ↓x_mulI, ↓x_iaddS, ↓x_iaddI, ↓x_neg, ↓x_eqI, ↓x_neI, ↓x_eqS, ↓x_neS, ↓x_eqB, ↓x_neB, ↓x_eqNI, ↓x_neNI, ↓x_lenS, ↓x_lenL_l, ↓x_lenL_k, ↓x_lenL_t, ↓x_str, ↓x_intI, ↓x_intB, ↓x_divmod, ↓x_max2, ↓x_min2, ↓x_ixS, ↓x_slS, ↓x_slT, ↓x_slL_l, ↓x_slL_k, ↓x_inS, ↓x_newT, ↓x_newF, ↓x_si, ↓x_s1, ↓x_s0, ↓x_rpart, ↓x_part, ↓x_a1, ↓x_a2, ↓x_isiStr, ↓x_isiInt, ↓x_isiIntB, ↓x_isiIntS, ↓x_isiBB, ↓x_isiBI, ↓x_isiStrI, ↓x_isiNonI, ↓x_isiNonS, ↓x_isiT, ↓x_isiL, ↓x_var0, ↓x_varS, ↓x_ex, ↓x_aug0, gat, pick, Option.some.injEq, D.bl.injEq, D.int.injEq, D.str.injEq, D.tup.injEq, D.lst.injEq, List.cons.injEq, and_true, true_and, List.set_cons_zero, List.set_cons_succ, List.length_cons, List.length_nil, List.filterMap_cons, List.filterMap_nil, List.getElem?_cons_zero, List.getElem?_cons_succ, Option.bind_some, ↓reduceIte, if_true, if_false, Bool.false_eq_true, Bool.true_eq_false, decide_eq_true_eq, beq_self_eq_true, Bool.not_true, Bool.not_false, Bool.not_eq_true', decide_eq_false_iff_not, exists_eq_left', exists_eq_left, exists_eq, ↓x_dnT, ↓x_dnF, ↓gAsgL, ↓gMMDef, ↓gDSet, ↓gSItems, ↓x_nilL, ↓x_nilE, List.isEmpty_nil, List.isEmpty_cons, Bool.true_xor, Bool.false_xor, ↓gSortSet, ↓gOrT, ↓gAndT, ↓gTryAs, ↓gTryO, ↓gRaise, ↓gCallX, ↓gMethX, ↓gMakeX, ↓gFldX, ↓x_fmtRS, ↓x_afRS, ↓x_afRI, ↓x_stO]
    refine Mt.tk_in ht (by omega) fun e o1 ⟨l, hh, t, n, k, hl, he⟩ ht1 => ?_
    subst he
    simp only [↓x_eqSS, ↓x_neSS, ↓gKGet, ↓x_kget, ↓x_ixE, at_last, ↓x_appE, ↓x_tyE, ↓x_itE, ↓x_lenE, ↓x_nePr, ↓x_eqPr, ↓x_neE, ↓x_lenr, ↓x_lenrI, ↓gRev, ↓x_par3, ↓x_par33, ↓x_fld, ↓x_fset, ↓x_mkF, ↓x_mk, ↓x_meth, ↓x_fldO, ↓x_fsetE, ↓x_fldE, ↓x_methO, ↓x_isiCO, ↓x_isiCN, ↓x_isiCT, ↓x_isiCLi, ↓x_isiCS, ↓x_isiCI, ↓x_own, ↓x_eqT2, ↓x_neT2, ↓x_neL4, ↓x_eqLN, ↓x_neNil, ↓x_gset, ↓x_lc, ↓x_for, ↓x_it, ↓x_rn1, ↓x_rn2, ↓x_enu, ↓x_zip, ↓x_itS, ↓x_itL, ↓x_itK, ↓x_itT, ↓x_rn1I, ↓x_rn2I, ↓x_enuL, ↓x_enuK, ↓x_zipL, ↓x_ixS0, ↓x_ixL, ↓x_ixT, ↓x_ixK, x_at0, x_at1, x_at2, x_at3, x_at4, ↓x_set00, ↓x_set01, ↓x_set02, ↓x_aug1, ↓x_aug2, ↓x_aug3, ↓x_aug4, ↓x_aug5, ↓x_aug6, ↓x_aug7, ↓x_aug8, ↓x_aug9, ↓x_aug10, ↓x_aug11, ↓x_aug12, ↓x_aug13, ↓x_aug14, ↓x_aug15, ↓x_aug16, ↓x_aug17, ↓x_aug18, ↓x_aug19, ↓x_aug20, ↓x_aug21, ↓x_aug22, ↓x_aug23, Int.reduceToNat, Int.reducePow, ↓gSeq, ↓gIfS, ↓gSet, ↓gAsg, ↓x_par, ↓x_par2, ↓gRet, ↓gRetN, ↓gNext, ↓gDrop, ↓gBreak, ↓gCont, ↓gDead, ↓gCB, ↓gB2, ↓gU, ↓gC, ↓Dl.gCons, ↓Dl.gNil, ↓Dl.gTup, ↓Dl.gLst, ↓gTest, ↓gOrB, ↓gAndB, ↓gNotB, ↓gAndV, ↓gOrV, ↓gNotV, ↓gIf, ↓gIx, ↓gSl, ↓gPart, ↓gNoP, ↓gMt, ↓gCall, ↓gArgs, ↓gIsN, ↓gNotN, ↓gChain, ↓x_fmtS, ↓x_afS, ↓x_afI, ↓x_js0, ↓x_jsc, ↓gJoined, ↓gYes, ↓x_bnm, ↓x_btp, ↓x_bn, ↓x_bc, ↓x_nnN, ↓x_nnI, ↓x_nnS, ↓x_nnB, ↓x_nnT, ↓x_nnL, ↓x_nnO, ↓x_nnl, ↓x_tyS, ↓x_tyL, ↓x_i2, ↓aSub, ↓aFdiv, ↓aMod, ↓aPow, ↓aShr, ↓aLt, ↓aLe, ↓aGt, ↓aGe, ↓x_addI, ↓x_addS, ↓x_mulI, ↓x_iaddS, ↓x_iaddI, ↓x_neg, ↓x_eqI, ↓x_neI, ↓x_eqS, ↓x_neS, ↓x_eqB, ↓x_neB, ↓x_eqNI, ↓x_neNI, ↓x_lenS, ↓x_lenL_l, ↓x_lenL_k, ↓x_lenL_t, ↓x_str, ↓x_intI, ↓x_intB, ↓x_divmod, ↓x_max2, ↓x_min2, ↓x_ixS, ↓x_slS, ↓x_slT, ↓x_slL_l, ↓x_slL_k, ↓x_inS, ↓x_newT, ↓x_newF, ↓x_si, ↓x_s1, ↓x_s0, ↓x_rpart, ↓x_part, ↓x_a1, ↓x_a2, ↓x_isiStr, ↓x_isiInt, ↓x_isiIntB, ↓x_isiIntS, ↓x_isiBB, ↓x_isiBI, ↓x_isiStrI, ↓x_isiNonI, ↓x_isiNonS, ↓x_isiT, ↓x_isiL, ↓x_var0, ↓x_varS, ↓x_ex, ↓x_aug0, gat, pick, Option.some.injEq, D.bl.injEq, D.int.injEq, D.str.injEq, D.tup.injEq, D.lst.injEq, List.cons.injEq, and_true, true_and, List.set_cons_zero, List.set_cons_succ, List.length_cons, List.length_nil, List.filterMap_cons, List.filterMap_nil, List.getElem?_cons_zero, List.getElem?_cons_succ, Option.bind_some, ↓reduceIte, if_true, if_false, Bool.false_eq_true, Bool.true_eq_false, decide_eq_true_eq, beq_self_eq_true, Bool.not_true, Bool.not_false, Bool.not_eq_true', decide_eq_false_iff_not, exists_eq_left', exists_eq_left, exists_eq, ↓x_dnT, ↓x_dnF, ↓gAsgL, ↓gMMDef, ↓gDSet, ↓gSItems, ↓x_nilL, ↓x_nilE, List.isEmpty_nil, List.isEmpty_cons, Bool.true_xor, Bool.false_xor, ↓gSortSet, ↓gOrT, ↓gAndT, ↓gTryAs, ↓gTryO, ↓gRaise, ↓gCallX, ↓gMethX, ↓gMakeX, ↓gFldX, ↓x_fmtRS, ↓x_afRS, ↓x_afRI, ↓x_stO]
    refine ga_make ?_
    refine ⟨by decide, Mt.pickL_in (by decide) (by decide) ht1 (by omega) fun e o2 he ht2 => ?_⟩
    obtain ⟨m, rfl, hm0, hm1⟩ : ∃ m : Int, e = .int m ∧ 0 < m ∧ m ≤ 151 := by
      simp only [List.mem_cons, List.not_mem_nil, or_false] at he
      rcases he with rfl | rfl | rfl | rfl <;> exact ⟨_, rfl, by decide, by decide⟩
    refine ⟨m, hm0, hm1, Mt.tk_in ht2 (by omega) fun e o3 ⟨R, he, hR⟩ ht3 => ?_⟩
    subst he
    have hR1 := hR.1
    simp only [↓x_eqSS, ↓x_neSS, ↓gKGet, ↓x_kget, ↓x_ixE, at_last, ↓x_appE, ↓x_tyE, ↓x_itE, ↓x_lenE, ↓x_nePr, ↓x_eqPr, ↓x_neE, ↓x_lenr, ↓x_lenrI, ↓gRev, ↓x_par3, ↓x_par33, ↓x_fld, ↓x_fset, ↓x_mkF, ↓x_mk, ↓x_meth, ↓x_fldO, ↓x_fsetE, ↓x_fldE, ↓x_methO, ↓x_isiCO, ↓x_isiCN, ↓x_isiCT, ↓x_isiCLi, ↓x_isiCS, ↓x_isiCI, ↓x_own, ↓x_eqT2, ↓x_neT2, ↓x_neL4, ↓x_eqLN, ↓x_neNil, ↓x_gset, ↓x_lc, ↓x_for, ↓x_it, ↓x_rn1, ↓x_rn2, ↓x_enu, ↓x_zip, ↓x_itS, ↓x_itL, ↓x_itK, ↓x_itT, ↓x_rn1I, ↓x_rn2I, ↓x_enuL, ↓x_enuK, ↓x_zipL, ↓x_ixS0, ↓x_ixL, ↓x_ixT, ↓x_ixK, x_at0, x_at1, x_at2, x_at3, x_at4, ↓x_set00, ↓x_set01, ↓x_set02, ↓x_aug1, ↓x_aug2, ↓x_aug3, ↓x_aug4, ↓x_aug5, ↓x_aug6, ↓x_aug7, ↓x_aug8, ↓x_aug9, ↓x_aug10, ↓x_aug11, ↓x_aug12, ↓x_aug13, ↓x_aug14, ↓x_aug15, ↓x_aug16, ↓x_aug17, ↓x_aug18, ↓x_aug19, ↓x_aug20, ↓x_aug21, ↓x_aug22, ↓x_aug23, Int.reduceToNat, Int.reducePow, ↓gSeq, ↓gIfS, ↓gSet, ↓gAsg, ↓x_par, ↓x_par2, ↓gRet, ↓gRetN, ↓gNext, ↓gDrop, ↓gBreak, ↓gCont, ↓gDead, ↓gCB, ↓gB2, ↓gU, ↓gC, ↓Dl.gCons, ↓Dl.gNil, ↓Dl.gTup, ↓Dl.gLst, ↓gTest, ↓gOrB, ↓gAndB, ↓gNotB, ↓gAndV, ↓gOrV, ↓gNotV, ↓gIf, ↓gIx, ↓gSl, ↓gPart, ↓gNoP, ↓gMt, ↓gCall, ↓gArgs, ↓gIsN, ↓gNotN, ↓gChain, ↓x_fmtS, ↓x_afS, ↓x_afI, ↓x_js0, ↓x_jsc, ↓gJoined, ↓gYes, ↓x_bnm, ↓x_btp, ↓x_bn, ↓x_bc, ↓x_nnN, ↓x_nnI, ↓x_nnS, ↓x_nnB, ↓x_nnT, ↓x_nnL, ↓x_nnO, ↓x_nnl, ↓x_tyS, ↓x_tyL, ↓x_i2, ↓aSub, ↓aFdiv, ↓aMod, ↓aPow, ↓aShr, ↓aLt, ↓aLe, ↓aGt, ↓aGe, ↓x_addI, ↓x_addS, ↓x_mulI, ↓x_iaddS, ↓x_iaddI, ↓x_neg, ↓x_eqI, ↓x_neI, ↓x_eqS, ↓x_neS, ↓x_eqB, ↓x_neB, ↓x_eqNI, ↓x_neNI, ↓x_lenS, ↓x_lenL_l, ↓x_lenL_k, ↓x_lenL_t, ↓x_str, ↓x_intI, ↓x_intB, ↓x_divmod, ↓x_max2, ↓x_min2, ↓x_ixS, ↓x_slS, ↓x_slT, ↓x_slL_l, ↓x_slL_k, ↓x_inS, ↓x_newT, ↓x_newF, ↓x_si, ↓x_s1, ↓x_s0, ↓x_rpart, ↓x_part, ↓x_a1, ↓x_a2, ↓x_isiStr, ↓x_isiInt, ↓x_isiIntB, ↓x_isiIntS, ↓x_isiBB, ↓x_isiBI, ↓x_isiStrI, ↓x_isiNonI, ↓x_isiNonS, ↓x_isiT, ↓x_isiL, ↓x_var0, ↓x_varS, ↓x_ex, ↓x_aug0, gat, pick, Option.some.injEq, D.bl.injEq, D.int.injEq, D.str.injEq, D.tup.injEq, D.lst.injEq, List.cons.injEq, and_true, true_and, List.set_cons_zero, List.set_cons_succ, List.length_cons, List.length_nil, List.filterMap_cons, List.filterMap_nil, List.getElem?_cons_zero, List.getElem?_cons_succ, Option.bind_some, ↓reduceIte, if_true, if_false, Bool.false_eq_true, Bool.true_eq_false, decide_eq_true_eq, beq_self_eq_true, Bool.not_true, Bool.not_false, Bool.not_eq_true', decide_eq_false_iff_not, exists_eq_left', exists_eq_left, exists_eq, ↓x_dnT, ↓x_dnF, ↓gAsgL, ↓gMMDef, ↓gDSet, ↓gSItems, ↓x_nilL, ↓x_nilE, List.isEmpty_nil, List.isEmpty_cons, Bool.true_xor, Bool.false_xor, ↓gSortSet, ↓gOrT, ↓gAndT, ↓gTryAs, ↓gTryO, ↓gRaise, ↓gCallX, ↓gMethX, ↓gMakeX, ↓gFldX, ↓x_fmtRS, ↓x_afRS, ↓x_afRI, ↓x_stO]
    refine ⟨_, l, hh, t, n, k, R, rfl, rfl, by omega, ?_⟩
    simp only [↓x_eqSS, ↓x_neSS, ↓gKGet, ↓x_kget, ↓x_ixE, at_last, ↓x_appE, ↓x_tyE, ↓x_itE, ↓x_lenE, ↓x_nePr, ↓x_eqPr, ↓x_neE, ↓x_lenr, ↓x_lenrI, ↓gRev, ↓x_par3, ↓x_par33, ↓x_fld, ↓x_fset, ↓x_mkF, ↓x_mk, ↓x_meth, ↓x_fldO, ↓x_fsetE, ↓x_fldE, ↓x_methO, ↓x_isiCO, ↓x_isiCN, ↓x_isiCT, ↓x_isiCLi, ↓x_isiCS, ↓x_isiCI, ↓x_own, ↓x_eqT2, ↓x_neT2, ↓x_neL4, ↓x_eqLN, ↓x_neNil, ↓x_gset, ↓x_lc, ↓x_for, ↓x_it, ↓x_rn1, ↓x_rn2, ↓x_enu, ↓x_zip, ↓x_itS, ↓x_itL, ↓x_itK, ↓x_itT, ↓x_rn1I, ↓x_rn2I, ↓x_enuL, ↓x_enuK, ↓x_zipL, ↓x_ixS0, ↓x_ixL, ↓x_ixT, ↓x_ixK, x_at0, x_at1, x_at2, x_at3, x_at4, ↓x_set00, ↓x_set01, ↓x_set02, ↓x_aug1, ↓x_aug2, ↓x_aug3, ↓x_aug4, ↓x_aug5, ↓x_aug6, ↓x_aug7, ↓x_aug8, ↓x_aug9, ↓x_aug10, ↓x_aug11, ↓x_aug12, ↓x_aug13, ↓x_aug14, ↓x_aug15, ↓x_aug16, ↓x_aug17, ↓x_aug18, ↓x_aug19, ↓x_aug20, ↓x_aug21, ↓x_aug22, ↓x_aug23, Int.reduceToNat, Int.reducePow, ↓gSeq, ↓gIfS, ↓gSet, ↓gAsg, ↓x_par, ↓x_par2, ↓gRet, ↓gRetN, ↓gNext, ↓gDrop, ↓gBreak, ↓gCont, ↓gDead, ↓gCB, ↓gB2, ↓gU, ↓gC, ↓Dl.gCons, ↓Dl.gNil, ↓Dl.gTup, ↓Dl.gLst, ↓gTest, ↓gOrB, ↓gAndB, ↓gNotB, ↓gAndV, ↓gOrV, ↓gNotV, ↓gIf, ↓gIx, ↓gSl, ↓gPart, ↓gNoP, ↓gMt, ↓gCall, ↓gArgs, ↓gIsN, ↓gNotN, ↓gChain, ↓x_fmtS, ↓x_afS, ↓x_afI, ↓x_js0, ↓x_jsc, ↓gJoined, ↓gYes, ↓x_bnm, ↓x_btp, ↓x_bn, ↓x_bc, ↓x_nnN, ↓x_nnI, ↓x_nnS, ↓x_nnB, ↓x_nnT, ↓x_nnL, ↓x_nnO, ↓x_nnl, ↓x_tyS, ↓x_tyL, ↓x_i2, ↓aSub, ↓aFdiv, ↓aMod, ↓aPow, ↓aShr, ↓aLt, ↓aLe, ↓aGt, ↓aGe, ↓x_addI, ↓x_addS, ↓x_mulI, ↓x_iaddS, ↓x_iaddI, ↓x_neg, ↓x_eqI, ↓x_neI, ↓x_eqS, ↓x_neS, ↓x_eqB, ↓x_neB, ↓x_eqNI, ↓x_neNI, ↓x_lenS, ↓x_lenL_l, ↓x_lenL_k, ↓x_lenL_t, ↓x_str, ↓x_intI, ↓x_intB, ↓x_divmod, ↓x_max2, ↓x_min2, ↓x_ixS, ↓x_slS, ↓x_slT, ↓x_slL_l, ↓x_slL_k, ↓x_inS, ↓x_newT, ↓x_newF, ↓x_si, ↓x_s1, ↓x_s0, ↓x_rpart, ↓x_part, ↓x_a1, ↓x_a2, ↓x_isiStr, ↓x_isiInt, ↓x_isiIntB, ↓x_isiIntS, ↓x_isiBB, ↓x_isiBI, ↓x_isiStrI, ↓x_isiNonI, ↓x_isiNonS, ↓x_isiT, ↓x_isiL, ↓x_var0, ↓x_varS, ↓x_ex, ↓x_aug0, gat, pick, Option.some.injEq, D.bl.injEq, D.int.injEq, D.str.injEq, D.tup.injEq, D.lst.injEq, List.cons.injEq, and_true, true_and, List.set_cons_zero, List.set_cons_succ, List.length_cons, List.length_nil, List.filterMap_cons, List.filterMap_nil, List.getElem?_cons_zero, List.getElem?_cons_succ, Option.bind_some, ↓reduceIte, if_true, if_false, Bool.false_eq_true, Bool.true_eq_false, decide_eq_true_eq, beq_self_eq_true, Bool.not_true, Bool.not_false, Bool.not_eq_true', decide_eq_false_iff_not, exists_eq_left', exists_eq_left, exists_eq, ↓x_dnT, ↓x_dnF, ↓gAsgL, ↓gMMDef, ↓gDSet, ↓gSItems, ↓x_nilL, ↓x_nilE, List.isEmpty_nil, List.isEmpty_cons, Bool.true_xor, Bool.false_xor, ↓gSortSet, ↓gOrT, ↓gAndT, ↓gTryAs, ↓gTryO, ↓gRaise, ↓gCallX, ↓gMethX, ↓gMakeX, ↓gFldX, ↓x_fmtRS, ↓x_afRS, ↓x_afRI, ↓x_stO]
    refine ⟨by decide, x_addLL.mpr ⟨by simp [edg]; omega, ?_⟩⟩
    rw [x_newT, show (edg l R).map D.int ++ [D.int 0, D.int 1] = (edg l R ++ [0, 1]).map D.int by rw [List.map_append]; rfl]
    have hed : ∀ x ∈ edg l R ++ [0, 1], 0 ≤ x ∧ x ≤ 1011440 := fun x hx => by
      rcases List.mem_append.mp hx with z | z
      · exact edg_bd hl hR x z
      · simp only [List.mem_cons, List.not_mem_nil, or_false] at z
        rcases z with z | z <;> omega
    have hedl : 2 ≤ (edg l R ++ [0, 1]).length ∧ (edg l R ++ [0, 1]).length ≤ 160 := by
      rw [List.length_append]; simp [edg]; omega
    generalize edg l R ++ [0, 1] = ED at hed hedl ⊢
    refine ⟨by decide, rng_if (A := fun ds => aFor _ _ _ _ ds _ _) (by decide) (by decide) (by decide) (by decide) fun N hN => ?_⟩
    refine ⟨fun j ρ S' => ∃ (o : Option MO) (R1 : Sto) (HL : List (List Pc)) (v8 v9 v10 v11 v12 v13 v14 v15 v16 : Option D), S' = o :: R1 ∧ Mt.Tp (2100 * i + 2021 + 10 * j) o ∧ R1[R0.length]? = some (some (.lst (HL.map (heD a.C_Stretch)))) ∧ (∀ ps ∈ HL, OkP ps) ∧ HL.length ≤ j ∧
      ρ = [v0, some (.loc 0), some d, some (.lst [.int l, .int hh, .int t, .int n, .int k]), some (gaD a.C_Gauge l hh t n k), some (.lst (R.map rD)), some (.lst (ED.map .int)), some (.loc (R0.length + 1)), v8, v9, v10, v11, v12, v13, v14, v15, v16], ⟨o3, R0 ++ [some (.lst [])], [], _, _, _, _, _, _, _, _, _, rfl, ht3.mono (by omega), by simp, fun _ z => (nomatch z), Nat.le_refl _, rfl⟩, ?_, ?_⟩
    · rintro j d2 ρ S' hd2 ⟨o4, R1, HL, v8, v9, v10, v11, v12, v13, v14, v15, v16, rfl, ht4, hHL, hok, hHLn, rfl⟩
      have hj : j < 4 := by
        have := (List.getElem?_eq_some_iff.mp hd2).1
        rw [x_rngL] at this
        omega
      have hR0 : R0.length < R1.length := (List.getElem?_eq_some_iff.mp hHL).1
      refine ⟨trivial, _, x_bnm, ?_⟩
      refine seq_gen (fun ρ' S'' => ∃ (o : Option MO) (st : Int), S'' = o :: R1 ∧ Mt.Tp (2100 * i + 2021 + 10 * j + 2) o ∧ 0 ≤ st ∧ st ≤ 1011443 ∧ ρ' = [v0, some (.loc 0), some d, some (.lst [.int l, .int hh, .int t, .int n, .int k]), some (gaD a.C_Gauge l hh t n k), some (.lst (R.map rD)), some (.lst (ED.map .int)), some (.loc (R0.length + 1)), some d2, some (.int st), v10, v11, v12, v13, v14, v15, v16]) (fun nx hnx => ?_) ?_
      · simp only [↓x_eqSS, ↓x_neSS, ↓gKGet, ↓x_kget, ↓x_ixE, at_last, ↓x_appE, ↓x_tyE, ↓x_itE, ↓x_lenE, ↓x_nePr, ↓x_eqPr, ↓x_neE, ↓x_lenr, ↓x_lenrI, ↓gRev, ↓x_par3, ↓x_par33, ↓x_fld, ↓x_fset, ↓x_mkF, ↓x_mk, ↓x_meth, ↓x_fldO, ↓x_fsetE, ↓x_fldE, ↓x_methO, ↓x_isiCO, ↓x_isiCN, ↓x_isiCT, ↓x_isiCLi, ↓x_isiCS, ↓x_isiCI, ↓x_own, ↓x_eqT2, ↓x_neT2, ↓x_neL4, ↓x_eqLN, ↓x_neNil, ↓x_gset, ↓x_lc, ↓x_for, ↓x_it, ↓x_rn1, ↓x_rn2, ↓x_enu, ↓x_zip, ↓x_itS, ↓x_itL, ↓x_itK, ↓x_itT, ↓x_rn1I, ↓x_rn2I, ↓x_enuL, ↓x_enuK, ↓x_zipL, ↓x_ixS0, ↓x_ixL, ↓x_ixT, ↓x_ixK, x_at0, x_at1, x_at2, x_at3, x_at4, ↓x_set00, ↓x_set01, ↓x_set02, ↓x_aug1, ↓x_aug2, ↓x_aug3, ↓x_aug4, ↓x_aug5, ↓x_aug6, ↓x_aug7, ↓x_aug8, ↓x_aug9, ↓x_aug10, ↓x_aug11, ↓x_aug12, ↓x_aug13, ↓x_aug14, ↓x_aug15, ↓x_aug16, ↓x_aug17, ↓x_aug18, ↓x_aug19, ↓x_aug20, ↓x_aug21, ↓x_aug22, ↓x_aug23, Int.reduceToNat, Int.reducePow, ↓gSeq, ↓gIfS, ↓gSet, ↓gAsg, ↓x_par, ↓x_par2, ↓gRet, ↓gRetN, ↓gNext, ↓gDrop, ↓gBreak, ↓gCont, ↓gDead, ↓gCB, ↓gB2, ↓gU, ↓gC, ↓Dl.gCons, ↓Dl.gNil, ↓Dl.gTup, ↓Dl.gLst, ↓gTest, ↓gOrB, ↓gAndB, ↓gNotB, ↓gAndV, ↓gOrV, ↓gNotV, ↓gIf, ↓gIx, ↓gSl, ↓gPart, ↓gNoP, ↓gMt, ↓gCall, ↓gArgs, ↓gIsN, ↓gNotN, ↓gChain, ↓x_fmtS, ↓x_afS, ↓x_afI, ↓x_js0, ↓x_jsc, ↓gJoined, ↓gYes, ↓x_bnm, ↓x_btp, ↓x_bn, ↓x_bc, ↓x_nnN, ↓x_nnI, ↓x_nnS, ↓x_nnB, ↓x_nnT, ↓x_nnL, ↓x_nnO, ↓x_nnl, ↓x_tyS, ↓x_tyL, ↓x_i2, ↓aSub, ↓aFdiv, ↓aMod, ↓aPow, ↓aShr, ↓aLt, ↓aLe, ↓aGt, ↓aGe, ↓x_addI, ↓x_addS, ↓x_mulI, ↓x_iaddS, ↓x_iaddI, ↓x_neg, ↓x_eqI, ↓x_neI, ↓x_eqS, ↓x_neS, ↓x_eqB, ↓x_neB, ↓x_eqNI, ↓x_neNI, ↓x_lenS, ↓x_lenL_l, ↓x_lenL_k, ↓x_lenL_t, ↓x_str, ↓x_intI, ↓x_intB, ↓x_divmod, ↓x_max2, ↓x_min2, ↓x_ixS, ↓x_slS, ↓x_slT, ↓x_slL_l, ↓x_slL_k, ↓x_inS, ↓x_newT, ↓x_newF, ↓x_si, ↓x_s1, ↓x_s0, ↓x_rpart, ↓x_part, ↓x_a1, ↓x_a2, ↓x_isiStr, ↓x_isiInt, ↓x_isiIntB, ↓x_isiIntS, ↓x_isiBB, ↓x_isiBI, ↓x_isiStrI, ↓x_isiNonI, ↓x_isiNonS, ↓x_isiT, ↓x_isiL, ↓x_var0, ↓x_varS, ↓x_ex, ↓x_aug0, gat, pick, Option.some.injEq, D.bl.injEq, D.int.injEq, D.str.injEq, D.tup.injEq, D.lst.injEq, List.cons.injEq, and_true, true_and, List.set_cons_zero, List.set_cons_succ, List.length_cons, List.length_nil, List.filterMap_cons, List.filterMap_nil, List.getElem?_cons_zero, List.getElem?_cons_succ, Option.bind_some, ↓reduceIte, if_true, if_false, Bool.false_eq_true, Bool.true_eq_false, decide_eq_true_eq, beq_self_eq_true, Bool.not_true, Bool.not_false, Bool.not_eq_true', decide_eq_false_iff_not, exists_eq_left', exists_eq_left, exists_eq, ↓x_dnT, ↓x_dnF, ↓gAsgL, ↓gMMDef, ↓gDSet, ↓gSItems, ↓x_nilL, ↓x_nilE, List.isEmpty_nil, List.isEmpty_cons, Bool.true_xor, Bool.false_xor, ↓gSortSet, ↓gOrT, ↓gAndT, ↓gTryAs, ↓gTryO, ↓gRaise, ↓gCallX, ↓gMethX, ↓gMakeX, ↓gFldX, ↓x_fmtRS, ↓x_afRS, ↓x_afRI, ↓x_stO]
        refine Mt.pickL_in (by rw [List.length_map]; omega) (by rw [List.length_map]; omega) ht4 (by omega) fun e o5 he ht5 => ?_
        obtain ⟨x, hx, rfl⟩ := List.mem_map.mp he
        have hxb := hed x hx
        refine Mt.draw_in (by decide) (by decide) ht5 (by omega) fun y o6 hy0 hy1 ht6 => ?_
        simp only [↓x_eqSS, ↓x_neSS, ↓gKGet, ↓x_kget, ↓x_ixE, at_last, ↓x_appE, ↓x_tyE, ↓x_itE, ↓x_lenE, ↓x_nePr, ↓x_eqPr, ↓x_neE, ↓x_lenr, ↓x_lenrI, ↓gRev, ↓x_par3, ↓x_par33, ↓x_fld, ↓x_fset, ↓x_mkF, ↓x_mk, ↓x_meth, ↓x_fldO, ↓x_fsetE, ↓x_fldE, ↓x_methO, ↓x_isiCO, ↓x_isiCN, ↓x_isiCT, ↓x_isiCLi, ↓x_isiCS, ↓x_isiCI, ↓x_own, ↓x_eqT2, ↓x_neT2, ↓x_neL4, ↓x_eqLN, ↓x_neNil, ↓x_gset, ↓x_lc, ↓x_for, ↓x_it, ↓x_rn1, ↓x_rn2, ↓x_enu, ↓x_zip, ↓x_itS, ↓x_itL, ↓x_itK, ↓x_itT, ↓x_rn1I, ↓x_rn2I, ↓x_enuL, ↓x_enuK, ↓x_zipL, ↓x_ixS0, ↓x_ixL, ↓x_ixT, ↓x_ixK, x_at0, x_at1, x_at2, x_at3, x_at4, ↓x_set00, ↓x_set01, ↓x_set02, ↓x_aug1, ↓x_aug2, ↓x_aug3, ↓x_aug4, ↓x_aug5, ↓x_aug6, ↓x_aug7, ↓x_aug8, ↓x_aug9, ↓x_aug10, ↓x_aug11, ↓x_aug12, ↓x_aug13, ↓x_aug14, ↓x_aug15, ↓x_aug16, ↓x_aug17, ↓x_aug18, ↓x_aug19, ↓x_aug20, ↓x_aug21, ↓x_aug22, ↓x_aug23, Int.reduceToNat, Int.reducePow, ↓gSeq, ↓gIfS, ↓gSet, ↓gAsg, ↓x_par, ↓x_par2, ↓gRet, ↓gRetN, ↓gNext, ↓gDrop, ↓gBreak, ↓gCont, ↓gDead, ↓gCB, ↓gB2, ↓gU, ↓gC, ↓Dl.gCons, ↓Dl.gNil, ↓Dl.gTup, ↓Dl.gLst, ↓gTest, ↓gOrB, ↓gAndB, ↓gNotB, ↓gAndV, ↓gOrV, ↓gNotV, ↓gIf, ↓gIx, ↓gSl, ↓gPart, ↓gNoP, ↓gMt, ↓gCall, ↓gArgs, ↓gIsN, ↓gNotN, ↓gChain, ↓x_fmtS, ↓x_afS, ↓x_afI, ↓x_js0, ↓x_jsc, ↓gJoined, ↓gYes, ↓x_bnm, ↓x_btp, ↓x_bn, ↓x_bc, ↓x_nnN, ↓x_nnI, ↓x_nnS, ↓x_nnB, ↓x_nnT, ↓x_nnL, ↓x_nnO, ↓x_nnl, ↓x_tyS, ↓x_tyL, ↓x_i2, ↓aSub, ↓aFdiv, ↓aMod, ↓aPow, ↓aShr, ↓aLt, ↓aLe, ↓aGt, ↓aGe, ↓x_addI, ↓x_addS, ↓x_mulI, ↓x_iaddS, ↓x_iaddI, ↓x_neg, ↓x_eqI, ↓x_neI, ↓x_eqS, ↓x_neS, ↓x_eqB, ↓x_neB, ↓x_eqNI, ↓x_neNI, ↓x_lenS, ↓x_lenL_l, ↓x_lenL_k, ↓x_lenL_t, ↓x_str, ↓x_intI, ↓x_intB, ↓x_divmod, ↓x_max2, ↓x_min2, ↓x_ixS, ↓x_slS, ↓x_slT, ↓x_slL_l, ↓x_slL_k, ↓x_inS, ↓x_newT, ↓x_newF, ↓x_si, ↓x_s1, ↓x_s0, ↓x_rpart, ↓x_part, ↓x_a1, ↓x_a2, ↓x_isiStr, ↓x_isiInt, ↓x_isiIntB, ↓x_isiIntS, ↓x_isiBB, ↓x_isiBI, ↓x_isiStrI, ↓x_isiNonI, ↓x_isiNonS, ↓x_isiT, ↓x_isiL, ↓x_var0, ↓x_varS, ↓x_ex, ↓x_aug0, gat, pick, Option.some.injEq, D.bl.injEq, D.int.injEq, D.str.injEq, D.tup.injEq, D.lst.injEq, List.cons.injEq, and_true, true_and, List.set_cons_zero, List.set_cons_succ, List.length_cons, List.length_nil, List.filterMap_cons, List.filterMap_nil, List.getElem?_cons_zero, List.getElem?_cons_succ, Option.bind_some, ↓reduceIte, if_true, if_false, Bool.false_eq_true, Bool.true_eq_false, decide_eq_true_eq, beq_self_eq_true, Bool.not_true, Bool.not_false, Bool.not_eq_true', decide_eq_false_iff_not, exists_eq_left', exists_eq_left, exists_eq, ↓x_dnT, ↓x_dnF, ↓gAsgL, ↓gMMDef, ↓gDSet, ↓gSItems, ↓x_nilL, ↓x_nilE, List.isEmpty_nil, List.isEmpty_cons, Bool.true_xor, Bool.false_xor, ↓gSortSet, ↓gOrT, ↓gAndT, ↓gTryAs, ↓gTryO, ↓gRaise, ↓gCallX, ↓gMethX, ↓gMakeX, ↓gFldX, ↓x_fmtRS, ↓x_afRS, ↓x_afRI, ↓x_stO]
        exact hnx _ _ ⟨o6, _, rfl, ht6.mono (by omega), by omega, by omega, rfl⟩
      rintro ρ' S'' ⟨o6, st, rfl, ht6, hs0, hs1, rfl⟩
      refine seq_gen (fun ρ' S'' => ∃ (o : Option MO) (up : Int), S'' = o :: R1 ∧ Mt.Tp (2100 * i + 2021 + 10 * j + 5) o ∧ st ≤ up ∧ up ≤ 200000000 ∧ ρ' = [v0, some (.loc 0), some d, some (.lst [.int l, .int hh, .int t, .int n, .int k]), some (gaD a.C_Gauge l hh t n k), some (.lst (R.map rD)), some (.lst (ED.map .int)), some (.loc (R0.length + 1)), some d2, some (.int st), some (.int up), v11, v12, v13, v14, v15, v16]) (fun nx hnx => ?_) ?_
      · simp only [↓x_eqSS, ↓x_neSS, ↓gKGet, ↓x_kget, ↓x_ixE, at_last, ↓x_appE, ↓x_tyE, ↓x_itE, ↓x_lenE, ↓x_nePr, ↓x_eqPr, ↓x_neE, ↓x_lenr, ↓x_lenrI, ↓gRev, ↓x_par3, ↓x_par33, ↓x_fld, ↓x_fset, ↓x_mkF, ↓x_mk, ↓x_meth, ↓x_fldO, ↓x_fsetE, ↓x_fldE, ↓x_methO, ↓x_isiCO, ↓x_isiCN, ↓x_isiCT, ↓x_isiCLi, ↓x_isiCS, ↓x_isiCI, ↓x_own, ↓x_eqT2, ↓x_neT2, ↓x_neL4, ↓x_eqLN, ↓x_neNil, ↓x_gset, ↓x_lc, ↓x_for, ↓x_it, ↓x_rn1, ↓x_rn2, ↓x_enu, ↓x_zip, ↓x_itS, ↓x_itL, ↓x_itK, ↓x_itT, ↓x_rn1I, ↓x_rn2I, ↓x_enuL, ↓x_enuK, ↓x_zipL, ↓x_ixS0, ↓x_ixL, ↓x_ixT, ↓x_ixK, x_at0, x_at1, x_at2, x_at3, x_at4, ↓x_set00, ↓x_set01, ↓x_set02, ↓x_aug1, ↓x_aug2, ↓x_aug3, ↓x_aug4, ↓x_aug5, ↓x_aug6, ↓x_aug7, ↓x_aug8, ↓x_aug9, ↓x_aug10, ↓x_aug11, ↓x_aug12, ↓x_aug13, ↓x_aug14, ↓x_aug15, ↓x_aug16, ↓x_aug17, ↓x_aug18, ↓x_aug19, ↓x_aug20, ↓x_aug21, ↓x_aug22, ↓x_aug23, Int.reduceToNat, Int.reducePow, ↓gSeq, ↓gIfS, ↓gSet, ↓gAsg, ↓x_par, ↓x_par2, ↓gRet, ↓gRetN, ↓gNext, ↓gDrop, ↓gBreak, ↓gCont, ↓gDead, ↓gCB, ↓gB2, ↓gU, ↓gC, ↓Dl.gCons, ↓Dl.gNil, ↓Dl.gTup, ↓Dl.gLst, ↓gTest, ↓gOrB, ↓gAndB, ↓gNotB, ↓gAndV, ↓gOrV, ↓gNotV, ↓gIf, ↓gIx, ↓gSl, ↓gPart, ↓gNoP, ↓gMt, ↓gCall, ↓gArgs, ↓gIsN, ↓gNotN, ↓gChain, ↓x_fmtS, ↓x_afS, ↓x_afI, ↓x_js0, ↓x_jsc, ↓gJoined, ↓gYes, ↓x_bnm, ↓x_btp, ↓x_bn, ↓x_bc, ↓x_nnN, ↓x_nnI, ↓x_nnS, ↓x_nnB, ↓x_nnT, ↓x_nnL, ↓x_nnO, ↓x_nnl, ↓x_tyS, ↓x_tyL, ↓x_i2, ↓aSub, ↓aFdiv, ↓aMod, ↓aPow, ↓aShr, ↓aLt, ↓aLe, ↓aGt, ↓aGe, ↓x_addI, ↓x_addS, ↓x_mulI, ↓x_iaddS, ↓x_iaddI, ↓x_neg, ↓x_eqI, ↓x_neI, ↓x_eqS, ↓x_neS, ↓x_eqB, ↓x_neB, ↓x_eqNI, ↓x_neNI, ↓x_lenS, ↓x_lenL_l, ↓x_lenL_k, ↓x_lenL_t, ↓x_str, ↓x_intI, ↓x_intB, ↓x_divmod, ↓x_max2, ↓x_min2, ↓x_ixS, ↓x_slS, ↓x_slT, ↓x_slL_l, ↓x_slL_k, ↓x_inS, ↓x_newT, ↓x_newF, ↓x_si, ↓x_s1, ↓x_s0, ↓x_rpart, ↓x_part, ↓x_a1, ↓x_a2, ↓x_isiStr, ↓x_isiInt, ↓x_isiIntB, ↓x_isiIntS, ↓x_isiBB, ↓x_isiBI, ↓x_isiStrI, ↓x_isiNonI, ↓x_isiNonS, ↓x_isiT, ↓x_isiL, ↓x_var0, ↓x_varS, ↓x_ex, ↓x_aug0, gat, pick, Option.some.injEq, D.bl.injEq, D.int.injEq, D.str.injEq, D.tup.injEq, D.lst.injEq, List.cons.injEq, and_true, true_and, List.set_cons_zero, List.set_cons_succ, List.length_cons, List.length_nil, List.filterMap_cons, List.filterMap_nil, List.getElem?_cons_zero, List.getElem?_cons_succ, Option.bind_some, ↓reduceIte, if_true, if_false, Bool.false_eq_true, Bool.true_eq_false, decide_eq_true_eq, beq_self_eq_true, Bool.not_true, Bool.not_false, Bool.not_eq_true', decide_eq_false_iff_not, exists_eq_left', exists_eq_left, exists_eq, ↓x_dnT, ↓x_dnF, ↓gAsgL, ↓gMMDef, ↓gDSet, ↓gSItems, ↓x_nilL, ↓x_nilE, List.isEmpty_nil, List.isEmpty_cons, Bool.true_xor, Bool.false_xor, ↓gSortSet, ↓gOrT, ↓gAndT, ↓gTryAs, ↓gTryO, ↓gRaise, ↓gCallX, ↓gMethX, ↓gMakeX, ↓gFldX, ↓x_fmtRS, ↓x_afRS, ↓x_afRI, ↓x_stO]
        refine Mt.draw_in (by decide) (by decide) ht6 (by omega) fun z1 o7 hz0 hz1 ht7 => ?_
        refine Mt.draw_in (by decide) (by decide) ht7 (by omega) fun z2 o8 hz2 hz3 ht8 => ?_
        refine ⟨(by unfold CPow; decide +kernel), by decide, Mt.pickL_in (by simp) (by simp) ht8 (by omega) fun e o9 he ht9 => ?_⟩
        obtain ⟨ad, rfl, ha0, ha1⟩ : ∃ ad : Int, e = .int ad ∧ 0 ≤ ad ∧ ad ≤ 100000000 := by
          simp only [List.mem_cons, List.not_mem_nil, or_false] at he
          rcases he with rfl | rfl | rfl | rfl | rfl
          · exact ⟨_, rfl, by omega, by omega⟩
          · exact ⟨_, rfl, by omega, by omega⟩
          · exact ⟨_, rfl, by omega, by omega⟩
          · exact ⟨_, rfl, by omega, by omega⟩
          · exact ⟨_, rfl, by decide, by decide⟩
        simp only [↓x_eqSS, ↓x_neSS, ↓gKGet, ↓x_kget, ↓x_ixE, at_last, ↓x_appE, ↓x_tyE, ↓x_itE, ↓x_lenE, ↓x_nePr, ↓x_eqPr, ↓x_neE, ↓x_lenr, ↓x_lenrI, ↓gRev, ↓x_par3, ↓x_par33, ↓x_fld, ↓x_fset, ↓x_mkF, ↓x_mk, ↓x_meth, ↓x_fldO, ↓x_fsetE, ↓x_fldE, ↓x_methO, ↓x_isiCO, ↓x_isiCN, ↓x_isiCT, ↓x_isiCLi, ↓x_isiCS, ↓x_isiCI, ↓x_own, ↓x_eqT2, ↓x_neT2, ↓x_neL4, ↓x_eqLN, ↓x_neNil, ↓x_gset, ↓x_lc, ↓x_for, ↓x_it, ↓x_rn1, ↓x_rn2, ↓x_enu, ↓x_zip, ↓x_itS, ↓x_itL, ↓x_itK, ↓x_itT, ↓x_rn1I, ↓x_rn2I, ↓x_enuL, ↓x_enuK, ↓x_zipL, ↓x_ixS0, ↓x_ixL, ↓x_ixT, ↓x_ixK, x_at0, x_at1, x_at2, x_at3, x_at4, ↓x_set00, ↓x_set01, ↓x_set02, ↓x_aug1, ↓x_aug2, ↓x_aug3, ↓x_aug4, ↓x_aug5, ↓x_aug6, ↓x_aug7, ↓x_aug8, ↓x_aug9, ↓x_aug10, ↓x_aug11, ↓x_aug12, ↓x_aug13, ↓x_aug14, ↓x_aug15, ↓x_aug16, ↓x_aug17, ↓x_aug18, ↓x_aug19, ↓x_aug20, ↓x_aug21, ↓x_aug22, ↓x_aug23, Int.reduceToNat, Int.reducePow, ↓gSeq, ↓gIfS, ↓gSet, ↓gAsg, ↓x_par, ↓x_par2, ↓gRet, ↓gRetN, ↓gNext, ↓gDrop, ↓gBreak, ↓gCont, ↓gDead, ↓gCB, ↓gB2, ↓gU, ↓gC, ↓Dl.gCons, ↓Dl.gNil, ↓Dl.gTup, ↓Dl.gLst, ↓gTest, ↓gOrB, ↓gAndB, ↓gNotB, ↓gAndV, ↓gOrV, ↓gNotV, ↓gIf, ↓gIx, ↓gSl, ↓gPart, ↓gNoP, ↓gMt, ↓gCall, ↓gArgs, ↓gIsN, ↓gNotN, ↓gChain, ↓x_fmtS, ↓x_afS, ↓x_afI, ↓x_js0, ↓x_jsc, ↓gJoined, ↓gYes, ↓x_bnm, ↓x_btp, ↓x_bn, ↓x_bc, ↓x_nnN, ↓x_nnI, ↓x_nnS, ↓x_nnB, ↓x_nnT, ↓x_nnL, ↓x_nnO, ↓x_nnl, ↓x_tyS, ↓x_tyL, ↓x_i2, ↓aSub, ↓aFdiv, ↓aMod, ↓aPow, ↓aShr, ↓aLt, ↓aLe, ↓aGt, ↓aGe, ↓x_addI, ↓x_addS, ↓x_mulI, ↓x_iaddS, ↓x_iaddI, ↓x_neg, ↓x_eqI, ↓x_neI, ↓x_eqS, ↓x_neS, ↓x_eqB, ↓x_neB, ↓x_eqNI, ↓x_neNI, ↓x_lenS, ↓x_lenL_l, ↓x_lenL_k, ↓x_lenL_t, ↓x_str, ↓x_intI, ↓x_intB, ↓x_divmod, ↓x_max2, ↓x_min2, ↓x_ixS, ↓x_slS, ↓x_slT, ↓x_slL_l, ↓x_slL_k, ↓x_inS, ↓x_newT, ↓x_newF, ↓x_si, ↓x_s1, ↓x_s0, ↓x_rpart, ↓x_part, ↓x_a1, ↓x_a2, ↓x_isiStr, ↓x_isiInt, ↓x_isiIntB, ↓x_isiIntS, ↓x_isiBB, ↓x_isiBI, ↓x_isiStrI, ↓x_isiNonI, ↓x_isiNonS, ↓x_isiT, ↓x_isiL, ↓x_var0, ↓x_varS, ↓x_ex, ↓x_aug0, gat, pick, Option.some.injEq, D.bl.injEq, D.int.injEq, D.str.injEq, D.tup.injEq, D.lst.injEq, List.cons.injEq, and_true, true_and, List.set_cons_zero, List.set_cons_succ, List.length_cons, List.length_nil, List.filterMap_cons, List.filterMap_nil, List.getElem?_cons_zero, List.getElem?_cons_succ, Option.bind_some, ↓reduceIte, if_true, if_false, Bool.false_eq_true, Bool.true_eq_false, decide_eq_true_eq, beq_self_eq_true, Bool.not_true, Bool.not_false, Bool.not_eq_true', decide_eq_false_iff_not, exists_eq_left', exists_eq_left, exists_eq, ↓x_dnT, ↓x_dnF, ↓gAsgL, ↓gMMDef, ↓gDSet, ↓gSItems, ↓x_nilL, ↓x_nilE, List.isEmpty_nil, List.isEmpty_cons, Bool.true_xor, Bool.false_xor, ↓gSortSet, ↓gOrT, ↓gAndT, ↓gTryAs, ↓gTryO, ↓gRaise, ↓gCallX, ↓gMethX, ↓gMakeX, ↓gFldX, ↓x_fmtRS, ↓x_afRS, ↓x_afRI, ↓x_stO]
        exact hnx _ _ ⟨o9, _, rfl, ht9.mono (by omega), by omega, by omega, rfl⟩
      rintro ρ' S'' ⟨o9, up0, rfl, ht9, hu0, hu1, rfl⟩
      refine seq_gen (fun ρ' S'' => ∃ (o : Option MO) (up : Int), S'' = o :: R1 ∧ Mt.Tp (2100 * i + 2021 + 10 * j + 8) o ∧ st ≤ up ∧ up ≤ 200000000 ∧ ρ' = [v0, some (.loc 0), some d, some (.lst [.int l, .int hh, .int t, .int n, .int k]), some (gaD a.C_Gauge l hh t n k), some (.lst (R.map rD)), some (.lst (ED.map .int)), some (.loc (R0.length + 1)), some d2, some (.int st), some (.int up), v11, v12, v13, v14, v15, v16]) (fun nx hnx => ?_) ?_
      · simp only [↓x_eqSS, ↓x_neSS, ↓gKGet, ↓x_kget, ↓x_ixE, at_last, ↓x_appE, ↓x_tyE, ↓x_itE, ↓x_lenE, ↓x_nePr, ↓x_eqPr, ↓x_neE, ↓x_lenr, ↓x_lenrI, ↓gRev, ↓x_par3, ↓x_par33, ↓x_fld, ↓x_fset, ↓x_mkF, ↓x_mk, ↓x_meth, ↓x_fldO, ↓x_fsetE, ↓x_fldE, ↓x_methO, ↓x_isiCO, ↓x_isiCN, ↓x_isiCT, ↓x_isiCLi, ↓x_isiCS, ↓x_isiCI, ↓x_own, ↓x_eqT2, ↓x_neT2, ↓x_neL4, ↓x_eqLN, ↓x_neNil, ↓x_gset, ↓x_lc, ↓x_for, ↓x_it, ↓x_rn1, ↓x_rn2, ↓x_enu, ↓x_zip, ↓x_itS, ↓x_itL, ↓x_itK, ↓x_itT, ↓x_rn1I, ↓x_rn2I, ↓x_enuL, ↓x_enuK, ↓x_zipL, ↓x_ixS0, ↓x_ixL, ↓x_ixT, ↓x_ixK, x_at0, x_at1, x_at2, x_at3, x_at4, ↓x_set00, ↓x_set01, ↓x_set02, ↓x_aug1, ↓x_aug2, ↓x_aug3, ↓x_aug4, ↓x_aug5, ↓x_aug6, ↓x_aug7, ↓x_aug8, ↓x_aug9, ↓x_aug10, ↓x_aug11, ↓x_aug12, ↓x_aug13, ↓x_aug14, ↓x_aug15, ↓x_aug16, ↓x_aug17, ↓x_aug18, ↓x_aug19, ↓x_aug20, ↓x_aug21, ↓x_aug22, ↓x_aug23, Int.reduceToNat, Int.reducePow, ↓gSeq, ↓gIfS, ↓gSet, ↓gAsg, ↓x_par, ↓x_par2, ↓gRet, ↓gRetN, ↓gNext, ↓gDrop, ↓gBreak, ↓gCont, ↓gDead, ↓gCB, ↓gB2, ↓gU, ↓gC, ↓Dl.gCons, ↓Dl.gNil, ↓Dl.gTup, ↓Dl.gLst, ↓gTest, ↓gOrB, ↓gAndB, ↓gNotB, ↓gAndV, ↓gOrV, ↓gNotV, ↓gIf, ↓gIx, ↓gSl, ↓gPart, ↓gNoP, ↓gMt, ↓gCall, ↓gArgs, ↓gIsN, ↓gNotN, ↓gChain, ↓x_fmtS, ↓x_afS, ↓x_afI, ↓x_js0, ↓x_jsc, ↓gJoined, ↓gYes, ↓x_bnm, ↓x_btp, ↓x_bn, ↓x_bc, ↓x_nnN, ↓x_nnI, ↓x_nnS, ↓x_nnB, ↓x_nnT, ↓x_nnL, ↓x_nnO, ↓x_nnl, ↓x_tyS, ↓x_tyL, ↓x_i2, ↓aSub, ↓aFdiv, ↓aMod, ↓aPow, ↓aShr, ↓aLt, ↓aLe, ↓aGt, ↓aGe, ↓x_addI, ↓x_addS, ↓x_mulI, ↓x_iaddS, ↓x_iaddI, ↓x_neg, ↓x_eqI, ↓x_neI, ↓x_eqS, ↓x_neS, ↓x_eqB, ↓x_neB, ↓x_eqNI, ↓x_neNI, ↓x_lenS, ↓x_lenL_l, ↓x_lenL_k, ↓x_lenL_t, ↓x_str, ↓x_intI, ↓x_intB, ↓x_divmod, ↓x_max2, ↓x_min2, ↓x_ixS, ↓x_slS, ↓x_slT, ↓x_slL_l, ↓x_slL_k, ↓x_inS, ↓x_newT, ↓x_newF, ↓x_si, ↓x_s1, ↓x_s0, ↓x_rpart, ↓x_part, ↓x_a1, ↓x_a2, ↓x_isiStr, ↓x_isiInt, ↓x_isiIntB, ↓x_isiIntS, ↓x_isiBB, ↓x_isiBI, ↓x_isiStrI, ↓x_isiNonI, ↓x_isiNonS, ↓x_isiT, ↓x_isiL, ↓x_var0, ↓x_varS, ↓x_ex, ↓x_aug0, gat, pick, Option.some.injEq, D.bl.injEq, D.int.injEq, D.str.injEq, D.tup.injEq, D.lst.injEq, List.cons.injEq, and_true, true_and, List.set_cons_zero, List.set_cons_succ, List.length_cons, List.length_nil, List.filterMap_cons, List.filterMap_nil, List.getElem?_cons_zero, List.getElem?_cons_succ, Option.bind_some, ↓reduceIte, if_true, if_false, Bool.false_eq_true, Bool.true_eq_false, decide_eq_true_eq, beq_self_eq_true, Bool.not_true, Bool.not_false, Bool.not_eq_true', decide_eq_false_iff_not, exists_eq_left', exists_eq_left, exists_eq, ↓x_dnT, ↓x_dnF, ↓gAsgL, ↓gMMDef, ↓gDSet, ↓gSItems, ↓x_nilL, ↓x_nilE, List.isEmpty_nil, List.isEmpty_cons, Bool.true_xor, Bool.false_xor, ↓gSortSet, ↓gOrT, ↓gAndT, ↓gTryAs, ↓gTryO, ↓gRaise, ↓gCallX, ↓gMethX, ↓gMakeX, ↓gFldX, ↓x_fmtRS, ↓x_afRS, ↓x_afRI, ↓x_stO]
        refine Mt.draw_in (by decide) (by decide) ht9 (by omega) fun w o10 hw0 hw1 ht10 => ?_
        simp only [↓x_eqSS, ↓x_neSS, ↓gKGet, ↓x_kget, ↓x_ixE, at_last, ↓x_appE, ↓x_tyE, ↓x_itE, ↓x_lenE, ↓x_nePr, ↓x_eqPr, ↓x_neE, ↓x_lenr, ↓x_lenrI, ↓gRev, ↓x_par3, ↓x_par33, ↓x_fld, ↓x_fset, ↓x_mkF, ↓x_mk, ↓x_meth, ↓x_fldO, ↓x_fsetE, ↓x_fldE, ↓x_methO, ↓x_isiCO, ↓x_isiCN, ↓x_isiCT, ↓x_isiCLi, ↓x_isiCS, ↓x_isiCI, ↓x_own, ↓x_eqT2, ↓x_neT2, ↓x_neL4, ↓x_eqLN, ↓x_neNil, ↓x_gset, ↓x_lc, ↓x_for, ↓x_it, ↓x_rn1, ↓x_rn2, ↓x_enu, ↓x_zip, ↓x_itS, ↓x_itL, ↓x_itK, ↓x_itT, ↓x_rn1I, ↓x_rn2I, ↓x_enuL, ↓x_enuK, ↓x_zipL, ↓x_ixS0, ↓x_ixL, ↓x_ixT, ↓x_ixK, x_at0, x_at1, x_at2, x_at3, x_at4, ↓x_set00, ↓x_set01, ↓x_set02, ↓x_aug1, ↓x_aug2, ↓x_aug3, ↓x_aug4, ↓x_aug5, ↓x_aug6, ↓x_aug7, ↓x_aug8, ↓x_aug9, ↓x_aug10, ↓x_aug11, ↓x_aug12, ↓x_aug13, ↓x_aug14, ↓x_aug15, ↓x_aug16, ↓x_aug17, ↓x_aug18, ↓x_aug19, ↓x_aug20, ↓x_aug21, ↓x_aug22, ↓x_aug23, Int.reduceToNat, Int.reducePow, ↓gSeq, ↓gIfS, ↓gSet, ↓gAsg, ↓x_par, ↓x_par2, ↓gRet, ↓gRetN, ↓gNext, ↓gDrop, ↓gBreak, ↓gCont, ↓gDead, ↓gCB, ↓gB2, ↓gU, ↓gC, ↓Dl.gCons, ↓Dl.gNil, ↓Dl.gTup, ↓Dl.gLst, ↓gTest, ↓gOrB, ↓gAndB, ↓gNotB, ↓gAndV, ↓gOrV, ↓gNotV, ↓gIf, ↓gIx, ↓gSl, ↓gPart, ↓gNoP, ↓gMt, ↓gCall, ↓gArgs, ↓gIsN, ↓gNotN, ↓gChain, ↓x_fmtS, ↓x_afS, ↓x_afI, ↓x_js0, ↓x_jsc, ↓gJoined, ↓gYes, ↓x_bnm, ↓x_btp, ↓x_bn, ↓x_bc, ↓x_nnN, ↓x_nnI, ↓x_nnS, ↓x_nnB, ↓x_nnT, ↓x_nnL, ↓x_nnO, ↓x_nnl, ↓x_tyS, ↓x_tyL, ↓x_i2, ↓aSub, ↓aFdiv, ↓aMod, ↓aPow, ↓aShr, ↓aLt, ↓aLe, ↓aGt, ↓aGe, ↓x_addI, ↓x_addS, ↓x_mulI, ↓x_iaddS, ↓x_iaddI, ↓x_neg, ↓x_eqI, ↓x_neI, ↓x_eqS, ↓x_neS, ↓x_eqB, ↓x_neB, ↓x_eqNI, ↓x_neNI, ↓x_lenS, ↓x_lenL_l, ↓x_lenL_k, ↓x_lenL_t, ↓x_str, ↓x_intI, ↓x_intB, ↓x_divmod, ↓x_max2, ↓x_min2, ↓x_ixS, ↓x_slS, ↓x_slT, ↓x_slL_l, ↓x_slL_k, ↓x_inS, ↓x_newT, ↓x_newF, ↓x_si, ↓x_s1, ↓x_s0, ↓x_rpart, ↓x_part, ↓x_a1, ↓x_a2, ↓x_isiStr, ↓x_isiInt, ↓x_isiIntB, ↓x_isiIntS, ↓x_isiBB, ↓x_isiBI, ↓x_isiStrI, ↓x_isiNonI, ↓x_isiNonS, ↓x_isiT, ↓x_isiL, ↓x_var0, ↓x_varS, ↓x_ex, ↓x_aug0, gat, pick, Option.some.injEq, D.bl.injEq, D.int.injEq, D.str.injEq, D.tup.injEq, D.lst.injEq, List.cons.injEq, and_true, true_and, List.set_cons_zero, List.set_cons_succ, List.length_cons, List.length_nil, List.filterMap_cons, List.filterMap_nil, List.getElem?_cons_zero, List.getElem?_cons_succ, Option.bind_some, ↓reduceIte, if_true, if_false, Bool.false_eq_true, Bool.true_eq_false, decide_eq_true_eq, beq_self_eq_true, Bool.not_true, Bool.not_false, Bool.not_eq_true', decide_eq_false_iff_not, exists_eq_left', exists_eq_left, exists_eq, ↓x_dnT, ↓x_dnF, ↓gAsgL, ↓gMMDef, ↓gDSet, ↓gSItems, ↓x_nilL, ↓x_nilE, List.isEmpty_nil, List.isEmpty_cons, Bool.true_xor, Bool.false_xor, ↓gSortSet, ↓gOrT, ↓gAndT, ↓gTryAs, ↓gTryO, ↓gRaise, ↓gCallX, ↓gMethX, ↓gMakeX, ↓gFldX, ↓x_fmtRS, ↓x_afRS, ↓x_afRI, ↓x_stO]
        by_cases c : w = 0
        · rw [if_pos c]
          refine Mt.pickL_in (by rw [List.length_map]; omega) (by rw [List.length_map]; omega) ht10 (by omega) fun e o11 he ht11 => ?_
          obtain ⟨x, hx, rfl⟩ := List.mem_map.mp he
          have hxb := hed x hx
          refine Mt.draw_in (by decide) (by decide) ht11 (by omega) fun y o12 hy0 hy1 ht12 => ?_
          simp only [↓x_eqSS, ↓x_neSS, ↓gKGet, ↓x_kget, ↓x_ixE, at_last, ↓x_appE, ↓x_tyE, ↓x_itE, ↓x_lenE, ↓x_nePr, ↓x_eqPr, ↓x_neE, ↓x_lenr, ↓x_lenrI, ↓gRev, ↓x_par3, ↓x_par33, ↓x_fld, ↓x_fset, ↓x_mkF, ↓x_mk, ↓x_meth, ↓x_fldO, ↓x_fsetE, ↓x_fldE, ↓x_methO, ↓x_isiCO, ↓x_isiCN, ↓x_isiCT, ↓x_isiCLi, ↓x_isiCS, ↓x_isiCI, ↓x_own, ↓x_eqT2, ↓x_neT2, ↓x_neL4, ↓x_eqLN, ↓x_neNil, ↓x_gset, ↓x_lc, ↓x_for, ↓x_it, ↓x_rn1, ↓x_rn2, ↓x_enu, ↓x_zip, ↓x_itS, ↓x_itL, ↓x_itK, ↓x_itT, ↓x_rn1I, ↓x_rn2I, ↓x_enuL, ↓x_enuK, ↓x_zipL, ↓x_ixS0, ↓x_ixL, ↓x_ixT, ↓x_ixK, x_at0, x_at1, x_at2, x_at3, x_at4, ↓x_set00, ↓x_set01, ↓x_set02, ↓x_aug1, ↓x_aug2, ↓x_aug3, ↓x_aug4, ↓x_aug5, ↓x_aug6, ↓x_aug7, ↓x_aug8, ↓x_aug9, ↓x_aug10, ↓x_aug11, ↓x_aug12, ↓x_aug13, ↓x_aug14, ↓x_aug15, ↓x_aug16, ↓x_aug17, ↓x_aug18, ↓x_aug19, ↓x_aug20, ↓x_aug21, ↓x_aug22, ↓x_aug23, Int.reduceToNat, Int.reducePow, ↓gSeq, ↓gIfS, ↓gSet, ↓gAsg, ↓x_par, ↓x_par2, ↓gRet, ↓gRetN, ↓gNext, ↓gDrop, ↓gBreak, ↓gCont, ↓gDead, ↓gCB, ↓gB2, ↓gU, ↓gC, ↓Dl.gCons, ↓Dl.gNil, ↓Dl.gTup, ↓Dl.gLst, ↓gTest, ↓gOrB, ↓gAndB, ↓gNotB, ↓gAndV, ↓gOrV, ↓gNotV, ↓gIf, ↓gIx, ↓gSl, ↓gPart, ↓gNoP, ↓gMt, ↓gCall, ↓gArgs, ↓gIsN, ↓gNotN, ↓gChain, ↓x_fmtS, ↓x_afS, ↓x_afI, ↓x_js0, ↓x_jsc, ↓gJoined, ↓gYes, ↓x_bnm, ↓x_btp, ↓x_bn, ↓x_bc, ↓x_nnN, ↓x_nnI, ↓x_nnS, ↓x_nnB, ↓x_nnT, ↓x_nnL, ↓x_nnO, ↓x_nnl, ↓x_tyS, ↓x_tyL, ↓x_i2, ↓aSub, ↓aFdiv, ↓aMod, ↓aPow, ↓aShr, ↓aLt, ↓aLe, ↓aGt, ↓aGe, ↓x_addI, ↓x_addS, ↓x_mulI, ↓x_iaddS, ↓x_iaddI, ↓x_neg, ↓x_eqI, ↓x_neI, ↓x_eqS, ↓x_neS, ↓x_eqB, ↓x_neB, ↓x_eqNI, ↓x_neNI, ↓x_lenS, ↓x_lenL_l, ↓x_lenL_k, ↓x_lenL_t, ↓x_str, ↓x_intI, ↓x_intB, ↓x_divmod, ↓x_max2, ↓x_min2, ↓x_ixS, ↓x_slS, ↓x_slT, ↓x_slL_l, ↓x_slL_k, ↓x_inS, ↓x_newT, ↓x_newF, ↓x_si, ↓x_s1, ↓x_s0, ↓x_rpart, ↓x_part, ↓x_a1, ↓x_a2, ↓x_isiStr, ↓x_isiInt, ↓x_isiIntB, ↓x_isiIntS, ↓x_isiBB, ↓x_isiBI, ↓x_isiStrI, ↓x_isiNonI, ↓x_isiNonS, ↓x_isiT, ↓x_isiL, ↓x_var0, ↓x_varS, ↓x_ex, ↓x_aug0, gat, pick, Option.some.injEq, D.bl.injEq, D.int.injEq, D.str.injEq, D.tup.injEq, D.lst.injEq, List.cons.injEq, and_true, true_and, List.set_cons_zero, List.set_cons_succ, List.length_cons, List.length_nil, List.filterMap_cons, List.filterMap_nil, List.getElem?_cons_zero, List.getElem?_cons_succ, Option.bind_some, ↓reduceIte, if_true, if_false, Bool.false_eq_true, Bool.true_eq_false, decide_eq_true_eq, beq_self_eq_true, Bool.not_true, Bool.not_false, Bool.not_eq_true', decide_eq_false_iff_not, exists_eq_left', exists_eq_left, exists_eq, ↓x_dnT, ↓x_dnF, ↓gAsgL, ↓gMMDef, ↓gDSet, ↓gSItems, ↓x_nilL, ↓x_nilE, List.isEmpty_nil, List.isEmpty_cons, Bool.true_xor, Bool.false_xor, ↓gSortSet, ↓gOrT, ↓gAndT, ↓gTryAs, ↓gTryO, ↓gRaise, ↓gCallX, ↓gMethX, ↓gMakeX, ↓gFldX, ↓x_fmtRS, ↓x_afRS, ↓x_afRI, ↓x_stO]
          exact hnx _ _ ⟨o12, _, rfl, ht12.mono (by omega), by omega, by omega, rfl⟩
        · rw [if_neg c]
          exact hnx _ _ ⟨o10, up0, rfl, ht10.mono (by omega), hu0, hu1, rfl⟩
      rintro ρ' S'' ⟨o11, up, rfl, ht11, hu2, hu3, rfl⟩
      simp only [↓x_eqSS, ↓x_neSS, ↓gKGet, ↓x_kget, ↓x_ixE, at_last, ↓x_appE, ↓x_tyE, ↓x_itE, ↓x_lenE, ↓x_nePr, ↓x_eqPr, ↓x_neE, ↓x_lenr, ↓x_lenrI, ↓gRev, ↓x_par3, ↓x_par33, ↓x_fld, ↓x_fset, ↓x_mkF, ↓x_mk, ↓x_meth, ↓x_fldO, ↓x_fsetE, ↓x_fldE, ↓x_methO, ↓x_isiCO, ↓x_isiCN, ↓x_isiCT, ↓x_isiCLi, ↓x_isiCS, ↓x_isiCI, ↓x_own, ↓x_eqT2, ↓x_neT2, ↓x_neL4, ↓x_eqLN, ↓x_neNil, ↓x_gset, ↓x_lc, ↓x_for, ↓x_it, ↓x_rn1, ↓x_rn2, ↓x_enu, ↓x_zip, ↓x_itS, ↓x_itL, ↓x_itK, ↓x_itT, ↓x_rn1I, ↓x_rn2I, ↓x_enuL, ↓x_enuK, ↓x_zipL, ↓x_ixS0, ↓x_ixL, ↓x_ixT, ↓x_ixK, x_at0, x_at1, x_at2, x_at3, x_at4, ↓x_set00, ↓x_set01, ↓x_set02, ↓x_aug1, ↓x_aug2, ↓x_aug3, ↓x_aug4, ↓x_aug5, ↓x_aug6, ↓x_aug7, ↓x_aug8, ↓x_aug9, ↓x_aug10, ↓x_aug11, ↓x_aug12, ↓x_aug13, ↓x_aug14, ↓x_aug15, ↓x_aug16, ↓x_aug17, ↓x_aug18, ↓x_aug19, ↓x_aug20, ↓x_aug21, ↓x_aug22, ↓x_aug23, Int.reduceToNat, Int.reducePow, ↓gSeq, ↓gIfS, ↓gSet, ↓gAsg, ↓x_par, ↓x_par2, ↓gRet, ↓gRetN, ↓gNext, ↓gDrop, ↓gBreak, ↓gCont, ↓gDead, ↓gCB, ↓gB2, ↓gU, ↓gC, ↓Dl.gCons, ↓Dl.gNil, ↓Dl.gTup, ↓Dl.gLst, ↓gTest, ↓gOrB, ↓gAndB, ↓gNotB, ↓gAndV, ↓gOrV, ↓gNotV, ↓gIf, ↓gIx, ↓gSl, ↓gPart, ↓gNoP, ↓gMt, ↓gCall, ↓gArgs, ↓gIsN, ↓gNotN, ↓gChain, ↓x_fmtS, ↓x_afS, ↓x_afI, ↓x_js0, ↓x_jsc, ↓gJoined, ↓gYes, ↓x_bnm, ↓x_btp, ↓x_bn, ↓x_bc, ↓x_nnN, ↓x_nnI, ↓x_nnS, ↓x_nnB, ↓x_nnT, ↓x_nnL, ↓x_nnO, ↓x_nnl, ↓x_tyS, ↓x_tyL, ↓x_i2, ↓aSub, ↓aFdiv, ↓aMod, ↓aPow, ↓aShr, ↓aLt, ↓aLe, ↓aGt, ↓aGe, ↓x_addI, ↓x_addS, ↓x_mulI, ↓x_iaddS, ↓x_iaddI, ↓x_neg, ↓x_eqI, ↓x_neI, ↓x_eqS, ↓x_neS, ↓x_eqB, ↓x_neB, ↓x_eqNI, ↓x_neNI, ↓x_lenS, ↓x_lenL_l, ↓x_lenL_k, ↓x_lenL_t, ↓x_str, ↓x_intI, ↓x_intB, ↓x_divmod, ↓x_max2, ↓x_min2, ↓x_ixS, ↓x_slS, ↓x_slT, ↓x_slL_l, ↓x_slL_k, ↓x_inS, ↓x_newT, ↓x_newF, ↓x_si, ↓x_s1, ↓x_s0, ↓x_rpart, ↓x_part, ↓x_a1, ↓x_a2, ↓x_isiStr, ↓x_isiInt, ↓x_isiIntB, ↓x_isiIntS, ↓x_isiBB, ↓x_isiBI, ↓x_isiStrI, ↓x_isiNonI, ↓x_isiNonS, ↓x_isiT, ↓x_isiL, ↓x_var0, ↓x_varS, ↓x_ex, ↓x_aug0, gat, pick, Option.some.injEq, D.bl.injEq, D.int.injEq, D.str.injEq, D.tup.injEq, D.lst.injEq, List.cons.injEq, and_true, true_and, List.set_cons_zero, List.set_cons_succ, List.length_cons, List.length_nil, List.filterMap_cons, List.filterMap_nil, List.getElem?_cons_zero, List.getElem?_cons_succ, Option.bind_some, ↓reduceIte, if_true, if_false, Bool.false_eq_true, Bool.true_eq_false, decide_eq_true_eq, beq_self_eq_true, Bool.not_true, Bool.not_false, Bool.not_eq_true', decide_eq_false_iff_not, exists_eq_left', exists_eq_left, exists_eq, ↓x_dnT, ↓x_dnF, ↓gAsgL, ↓gMMDef, ↓gDSet, ↓gSItems, ↓x_nilL, ↓x_nilE, List.isEmpty_nil, List.isEmpty_cons, Bool.true_xor, Bool.false_xor, ↓gSortSet, ↓gOrT, ↓gAndT, ↓gTryAs, ↓gTryO, ↓gRaise, ↓gCallX, ↓gMethX, ↓gMakeX, ↓gFldX, ↓x_fmtRS, ↓x_afRS, ↓x_afRI, ↓x_stO]
      refine (x_list (fz := true) rfl).mpr ?_
      rw [x_newT]
      refine Mt.st_make hu2 ?_
      refine (x_methO (by decide +kernel)).mpr ⟨l, hh, t, n, k, R, st, up, rfl, by omega, hu2, fun E pw hm => ?_⟩
      have hg := goes_pieces (h := hh) (t := t) (n := n) (k := k) pw hm hu2
      generalize pieces (stS l hh t n k R) E = ps at hg ⊢
      refine (x_isi (t := "list") (by simp [tyN]) (by decide)).mpr ⟨_, rfl, ?_⟩
      rw [if_neg (by decide)]
      refine ⟨_, l, hh, t, n, k, R, _, ps, st, up, rfl, rfl, by omega, by simp [seqOf], hg, by omega, _, rfl, ?_⟩
      rw [if_neg (by decide)]
      refine rd_same ⟨_, rfl, ?_⟩
      rw [if_neg Bool.false_ne_true]
      refine (x_methO (by decide +kernel)).mpr ⟨l, hh, t, n, k, R, st, up, rfl, by omega, hu2, fun E2 pw2 hm2 => ?_⟩
      have hg2 := goes_pieces (h := hh) (t := t) (n := n) (k := k) pw2 hm2 hu2
      have hpl2 : (pieces (stS l hh t n k R) E2).length ≤ 200 := Nat.le_trans pieces_len (by have := edges_le pw2 hm2; omega)
      generalize pieces (stS l hh t n k R) E2 = ps2 at hg2 hpl2 ⊢
      have ok2 : OkP ps2 := ok_ps hg2 hs0 (by omega) hpl2
      have hS2 : ((o11 :: R1) ++ [some (.lst (ps.map (pcD a.C_Stretch)))])[R0.length + 1]? = some (some (.lst (HL.map (heD a.C_Stretch)))) := by
        rw [List.cons_append, List.getElem?_cons_succ, List.getElem?_append_left hR0]
        exact hHL
      refine ⟨x_tyO hS2, repr_ps ok2 ⟨by decide, (x_app hS2).mpr ⟨by rw [List.length_map]; omega, ?_⟩⟩⟩
      rw [set_held hR0]
      generalize hY : (some (MO.lst (HL.map (heD a.C_Stretch) ++ [.tup [.lst (ps2.map (pcD a.C_Stretch)), .str (psT ps2)]]))) = Y
      have hS3 : ((o11 :: R1.set R0.length Y) ++ [some (.lst (ps.map (pcD a.C_Stretch)))])[(o11 :: R1).length]? = some (some (.lst (ps.map (pcD a.C_Stretch)))) := by
        rw [show (o11 :: R1).length = (o11 :: R1.set R0.length Y).length by simp]
        exact snoc_get
      refine ⟨x_tyO hS3, _, _, rfl, rfl, hS3, ?_⟩
      have hset : (((o11 :: R1.set R0.length Y) ++ [some (MO.lst (ps.map (pcD a.C_Stretch)))]).set (o11 :: R1).length (some (MO.lst [])) : Sto) = (o11 :: R1.set R0.length Y) ++ [some (MO.lst [])] := by
        rw [show (o11 :: R1).length = (o11 :: R1.set R0.length Y).length by simp]
        exact snoc_set
      rw [hset]
      refine ⟨_, l, hh, t, n, k, R, _, ps2, st, up, rfl, rfl, by omega, rfl, hg2, by omega, _, rfl, ?_⟩
      rw [if_neg (by decide)]
      have fin1 : (R1.set R0.length Y ++ [some (.lst [])])[R0.length]? = some (some (.lst ((HL ++ [ps2]).map (heD a.C_Stretch)))) := by
        rw [List.getElem?_append_left (by rw [List.length_set]; exact hR0), List.getElem?_set_self hR0, ← hY, List.map_append]
        rfl
      have fin2 : ∀ ps ∈ HL ++ [ps2], OkP ps := fun ps hp => by
        rcases List.mem_append.mp hp with z | z
        · exact hok ps z
        · rw [List.mem_singleton.mp z]; exact ok2
      have fin3 : (HL ++ [ps2]).length ≤ j + 1 := by rw [List.length_append]; simp; omega
      by_cases c : st = up
      · rw [if_pos c]
        subst c
        have e0 := goes_nil hg2
        rw [e0] at fin1 fin2 fin3 ⊢
        refine ⟨by decide, x_nilL.mpr ⟨_, rfl, ?_⟩⟩
        rw [if_neg (by simp)]
        exact ⟨o11, _, HL ++ [[]], _, _, _, _, _, _, _, _, _, rfl, ht11.mono (by omega), fin1, fin2, fin3, rfl, rfl, rfl, rfl, rfl, rfl, rfl, rfl, rfl⟩
      · rw [if_neg c]
        exact ⟨o11, _, HL ++ [ps2], _, _, _, _, _, _, _, _, _, rfl, ht11.mono (by omega), fin1, fin2, fin3, rfl, rfl, rfl, rfl, rfl, rfl, rfl, rfl, rfl⟩
    · rintro ρ S' ⟨o4, R1, HL, v8, v9, v10, v11, v12, v13, v14, v15, v16, rfl, ht4, hHL, hok, hHLn, rfl⟩
      rw [x_rngL] at ht4 hHLn
      refine ⟨trivial, ?_⟩
      simp only [↓x_eqSS, ↓x_neSS, ↓gKGet, ↓x_kget, ↓x_ixE, at_last, ↓x_appE, ↓x_tyE, ↓x_itE, ↓x_lenE, ↓x_nePr, ↓x_eqPr, ↓x_neE, ↓x_lenr, ↓x_lenrI, ↓gRev, ↓x_par3, ↓x_par33, ↓x_fld, ↓x_fset, ↓x_mkF, ↓x_mk, ↓x_meth, ↓x_fldO, ↓x_fsetE, ↓x_fldE, ↓x_methO, ↓x_isiCO, ↓x_isiCN, ↓x_isiCT, ↓x_isiCLi, ↓x_isiCS, ↓x_isiCI, ↓x_own, ↓x_eqT2, ↓x_neT2, ↓x_neL4, ↓x_eqLN, ↓x_neNil, ↓x_gset, ↓x_lc, ↓x_for, ↓x_it, ↓x_rn1, ↓x_rn2, ↓x_enu, ↓x_zip, ↓x_itS, ↓x_itL, ↓x_itK, ↓x_itT, ↓x_rn1I, ↓x_rn2I, ↓x_enuL, ↓x_enuK, ↓x_zipL, ↓x_ixS0, ↓x_ixL, ↓x_ixT, ↓x_ixK, x_at0, x_at1, x_at2, x_at3, x_at4, ↓x_set00, ↓x_set01, ↓x_set02, ↓x_aug1, ↓x_aug2, ↓x_aug3, ↓x_aug4, ↓x_aug5, ↓x_aug6, ↓x_aug7, ↓x_aug8, ↓x_aug9, ↓x_aug10, ↓x_aug11, ↓x_aug12, ↓x_aug13, ↓x_aug14, ↓x_aug15, ↓x_aug16, ↓x_aug17, ↓x_aug18, ↓x_aug19, ↓x_aug20, ↓x_aug21, ↓x_aug22, ↓x_aug23, Int.reduceToNat, Int.reducePow, ↓gSeq, ↓gIfS, ↓gSet, ↓gAsg, ↓x_par, ↓x_par2, ↓gRet, ↓gRetN, ↓gNext, ↓gDrop, ↓gBreak, ↓gCont, ↓gDead, ↓gCB, ↓gB2, ↓gU, ↓gC, ↓Dl.gCons, ↓Dl.gNil, ↓Dl.gTup, ↓Dl.gLst, ↓gTest, ↓gOrB, ↓gAndB, ↓gNotB, ↓gAndV, ↓gOrV, ↓gNotV, ↓gIf, ↓gIx, ↓gSl, ↓gPart, ↓gNoP, ↓gMt, ↓gCall, ↓gArgs, ↓gIsN, ↓gNotN, ↓gChain, ↓x_fmtS, ↓x_afS, ↓x_afI, ↓x_js0, ↓x_jsc, ↓gJoined, ↓gYes, ↓x_bnm, ↓x_btp, ↓x_bn, ↓x_bc, ↓x_nnN, ↓x_nnI, ↓x_nnS, ↓x_nnB, ↓x_nnT, ↓x_nnL, ↓x_nnO, ↓x_nnl, ↓x_tyS, ↓x_tyL, ↓x_i2, ↓aSub, ↓aFdiv, ↓aMod, ↓aPow, ↓aShr, ↓aLt, ↓aLe, ↓aGt, ↓aGe, ↓x_addI, ↓x_addS, ↓x_mulI, ↓x_iaddS, ↓x_iaddI, ↓x_neg, ↓x_eqI, ↓x_neI, ↓x_eqS, ↓x_neS, ↓x_eqB, ↓x_neB, ↓x_eqNI, ↓x_neNI, ↓x_lenS, ↓x_lenL_l, ↓x_lenL_k, ↓x_lenL_t, ↓x_str, ↓x_intI, ↓x_intB, ↓x_divmod, ↓x_max2, ↓x_min2, ↓x_ixS, ↓x_slS, ↓x_slT, ↓x_slL_l, ↓x_slL_k, ↓x_inS, ↓x_newT, ↓x_newF, ↓x_si, ↓x_s1, ↓x_s0, ↓x_rpart, ↓x_part, ↓x_a1, ↓x_a2, ↓x_isiStr, ↓x_isiInt, ↓x_isiIntB, ↓x_isiIntS, ↓x_isiBB, ↓x_isiBI, ↓x_isiStrI, ↓x_isiNonI, ↓x_isiNonS, ↓x_isiT, ↓x_isiL, ↓x_var0, ↓x_varS, ↓x_ex, ↓x_aug0, gat, pick, Option.some.injEq, D.bl.injEq, D.int.injEq, D.str.injEq, D.tup.injEq, D.lst.injEq, List.cons.injEq, and_true, true_and, List.set_cons_zero, List.set_cons_succ, List.length_cons, List.length_nil, List.filterMap_cons, List.filterMap_nil, List.getElem?_cons_zero, List.getElem?_cons_succ, Option.bind_some, ↓reduceIte, if_true, if_false, Bool.false_eq_true, Bool.true_eq_false, decide_eq_true_eq, beq_self_eq_true, Bool.not_true, Bool.not_false, Bool.not_eq_true', decide_eq_false_iff_not, exists_eq_left', exists_eq_left, exists_eq, ↓x_dnT, ↓x_dnF, ↓gAsgL, ↓gMMDef, ↓gDSet, ↓gSItems, ↓x_nilL, ↓x_nilE, List.isEmpty_nil, List.isEmpty_cons, Bool.true_xor, Bool.false_xor, ↓gSortSet, ↓gOrT, ↓gAndT, ↓gTryAs, ↓gTryO, ↓gRaise, ↓gCallX, ↓gMethX, ↓gMakeX, ↓gFldX, ↓x_fmtRS, ↓x_afRS, ↓x_afRI, ↓x_stO]
      have hq1 : seqOf (o4 :: R1) (.loc (R0.length + 1)) = some (HL.map (heD a.C_Stretch)) := by simp [seqOf, hHL]
      refine (x_itO hq1).mpr ?_
      refine lc_on (F := heD a.C_Stretch) (fun _ => none) hq1 (by omega) (fun ps hps acc R' hac hR' => ⟨_, x_b2, ?_⟩) ?_
      · simp only [wipeD, ↓x_eqSS, ↓x_neSS, ↓gKGet, ↓x_kget, ↓x_ixE, at_last, ↓x_appE, ↓x_tyE, ↓x_itE, ↓x_lenE, ↓x_nePr, ↓x_eqPr, ↓x_neE, ↓x_lenr, ↓x_lenrI, ↓gRev, ↓x_par3, ↓x_par33, ↓x_fld, ↓x_fset, ↓x_mkF, ↓x_mk, ↓x_meth, ↓x_fldO, ↓x_fsetE, ↓x_fldE, ↓x_methO, ↓x_isiCO, ↓x_isiCN, ↓x_isiCT, ↓x_isiCLi, ↓x_isiCS, ↓x_isiCI, ↓x_own, ↓x_eqT2, ↓x_neT2, ↓x_neL4, ↓x_eqLN, ↓x_neNil, ↓x_gset, ↓x_lc, ↓x_for, ↓x_it, ↓x_rn1, ↓x_rn2, ↓x_enu, ↓x_zip, ↓x_itS, ↓x_itL, ↓x_itK, ↓x_itT, ↓x_rn1I, ↓x_rn2I, ↓x_enuL, ↓x_enuK, ↓x_zipL, ↓x_ixS0, ↓x_ixL, ↓x_ixT, ↓x_ixK, x_at0, x_at1, x_at2, x_at3, x_at4, ↓x_set00, ↓x_set01, ↓x_set02, ↓x_aug1, ↓x_aug2, ↓x_aug3, ↓x_aug4, ↓x_aug5, ↓x_aug6, ↓x_aug7, ↓x_aug8, ↓x_aug9, ↓x_aug10, ↓x_aug11, ↓x_aug12, ↓x_aug13, ↓x_aug14, ↓x_aug15, ↓x_aug16, ↓x_aug17, ↓x_aug18, ↓x_aug19, ↓x_aug20, ↓x_aug21, ↓x_aug22, ↓x_aug23, Int.reduceToNat, Int.reducePow, ↓gSeq, ↓gIfS, ↓gSet, ↓gAsg, ↓x_par, ↓x_par2, ↓gRet, ↓gRetN, ↓gNext, ↓gDrop, ↓gBreak, ↓gCont, ↓gDead, ↓gCB, ↓gB2, ↓gU, ↓gC, ↓Dl.gCons, ↓Dl.gNil, ↓Dl.gTup, ↓Dl.gLst, ↓gTest, ↓gOrB, ↓gAndB, ↓gNotB, ↓gAndV, ↓gOrV, ↓gNotV, ↓gIf, ↓gIx, ↓gSl, ↓gPart, ↓gNoP, ↓gMt, ↓gCall, ↓gArgs, ↓gIsN, ↓gNotN, ↓gChain, ↓x_fmtS, ↓x_afS, ↓x_afI, ↓x_js0, ↓x_jsc, ↓gJoined, ↓gYes, ↓x_bnm, ↓x_btp, ↓x_bn, ↓x_bc, ↓x_nnN, ↓x_nnI, ↓x_nnS, ↓x_nnB, ↓x_nnT, ↓x_nnL, ↓x_nnO, ↓x_nnl, ↓x_tyS, ↓x_tyL, ↓x_i2, ↓aSub, ↓aFdiv, ↓aMod, ↓aPow, ↓aShr, ↓aLt, ↓aLe, ↓aGt, ↓aGe, ↓x_addI, ↓x_addS, ↓x_mulI, ↓x_iaddS, ↓x_iaddI, ↓x_neg, ↓x_eqI, ↓x_neI, ↓x_eqS, ↓x_neS, ↓x_eqB, ↓x_neB, ↓x_eqNI, ↓x_neNI, ↓x_lenS, ↓x_lenL_l, ↓x_lenL_k, ↓x_lenL_t, ↓x_str, ↓x_intI, ↓x_intB, ↓x_divmod, ↓x_max2, ↓x_min2, ↓x_ixS, ↓x_slS, ↓x_slT, ↓x_slL_l, ↓x_slL_k, ↓x_inS, ↓x_newT, ↓x_newF, ↓x_si, ↓x_s1, ↓x_s0, ↓x_rpart, ↓x_part, ↓x_a1, ↓x_a2, ↓x_isiStr, ↓x_isiInt, ↓x_isiIntB, ↓x_isiIntS, ↓x_isiBB, ↓x_isiBI, ↓x_isiStrI, ↓x_isiNonI, ↓x_isiNonS, ↓x_isiT, ↓x_isiL, ↓x_var0, ↓x_varS, ↓x_ex, ↓x_aug0, gat, pick, Option.some.injEq, D.bl.injEq, D.int.injEq, D.str.injEq, D.tup.injEq, D.lst.injEq, List.cons.injEq, and_true, true_and, List.set_cons_zero, List.set_cons_succ, List.length_cons, List.length_nil, List.filterMap_cons, List.filterMap_nil, List.getElem?_cons_zero, List.getElem?_cons_succ, Option.bind_some, ↓reduceIte, if_true, if_false, Bool.false_eq_true, Bool.true_eq_false, decide_eq_true_eq, beq_self_eq_true, Bool.not_true, Bool.not_false, Bool.not_eq_true', decide_eq_false_iff_not, exists_eq_left', exists_eq_left, exists_eq, ↓x_dnT, ↓x_dnF, ↓gAsgL, ↓gMMDef, ↓gDSet, ↓gSItems, ↓x_nilL, ↓x_nilE, List.isEmpty_nil, List.isEmpty_cons, Bool.true_xor, Bool.false_xor, ↓gSortSet, ↓gOrT, ↓gAndT, ↓gTryAs, ↓gTryO, ↓gRaise, ↓gCallX, ↓gMethX, ↓gMakeX, ↓gFldX, ↓x_fmtRS, ↓x_afRS, ↓x_afRI, ↓x_stO]
        refine repr_ps (hok ps hps) ?_
        simp only [↓x_eqSS, ↓x_neSS, ↓gKGet, ↓x_kget, ↓x_ixE, at_last, ↓x_appE, ↓x_tyE, ↓x_itE, ↓x_lenE, ↓x_nePr, ↓x_eqPr, ↓x_neE, ↓x_lenr, ↓x_lenrI, ↓gRev, ↓x_par3, ↓x_par33, ↓x_fld, ↓x_fset, ↓x_mkF, ↓x_mk, ↓x_meth, ↓x_fldO, ↓x_fsetE, ↓x_fldE, ↓x_methO, ↓x_isiCO, ↓x_isiCN, ↓x_isiCT, ↓x_isiCLi, ↓x_isiCS, ↓x_isiCI, ↓x_own, ↓x_eqT2, ↓x_neT2, ↓x_neL4, ↓x_eqLN, ↓x_neNil, ↓x_gset, ↓x_lc, ↓x_for, ↓x_it, ↓x_rn1, ↓x_rn2, ↓x_enu, ↓x_zip, ↓x_itS, ↓x_itL, ↓x_itK, ↓x_itT, ↓x_rn1I, ↓x_rn2I, ↓x_enuL, ↓x_enuK, ↓x_zipL, ↓x_ixS0, ↓x_ixL, ↓x_ixT, ↓x_ixK, x_at0, x_at1, x_at2, x_at3, x_at4, ↓x_set00, ↓x_set01, ↓x_set02, ↓x_aug1, ↓x_aug2, ↓x_aug3, ↓x_aug4, ↓x_aug5, ↓x_aug6, ↓x_aug7, ↓x_aug8, ↓x_aug9, ↓x_aug10, ↓x_aug11, ↓x_aug12, ↓x_aug13, ↓x_aug14, ↓x_aug15, ↓x_aug16, ↓x_aug17, ↓x_aug18, ↓x_aug19, ↓x_aug20, ↓x_aug21, ↓x_aug22, ↓x_aug23, Int.reduceToNat, Int.reducePow, ↓gSeq, ↓gIfS, ↓gSet, ↓gAsg, ↓x_par, ↓x_par2, ↓gRet, ↓gRetN, ↓gNext, ↓gDrop, ↓gBreak, ↓gCont, ↓gDead, ↓gCB, ↓gB2, ↓gU, ↓gC, ↓Dl.gCons, ↓Dl.gNil, ↓Dl.gTup, ↓Dl.gLst, ↓gTest, ↓gOrB, ↓gAndB, ↓gNotB, ↓gAndV, ↓gOrV, ↓gNotV, ↓gIf, ↓gIx, ↓gSl, ↓gPart, ↓gNoP, ↓gMt, ↓gCall, ↓gArgs, ↓gIsN, ↓gNotN, ↓gChain, ↓x_fmtS, ↓x_afS, ↓x_afI, ↓x_js0, ↓x_jsc, ↓gJoined, ↓gYes, ↓x_bnm, ↓x_btp, ↓x_bn, ↓x_bc, ↓x_nnN, ↓x_nnI, ↓x_nnS, ↓x_nnB, ↓x_nnT, ↓x_nnL, ↓x_nnO, ↓x_nnl, ↓x_tyS, ↓x_tyL, ↓x_i2, ↓aSub, ↓aFdiv, ↓aMod, ↓aPow, ↓aShr, ↓aLt, ↓aLe, ↓aGt, ↓aGe, ↓x_addI, ↓x_addS, ↓x_mulI, ↓x_iaddS, ↓x_iaddI, ↓x_neg, ↓x_eqI, ↓x_neI, ↓x_eqS, ↓x_neS, ↓x_eqB, ↓x_neB, ↓x_eqNI, ↓x_neNI, ↓x_lenS, ↓x_lenL_l, ↓x_lenL_k, ↓x_lenL_t, ↓x_str, ↓x_intI, ↓x_intB, ↓x_divmod, ↓x_max2, ↓x_min2, ↓x_ixS, ↓x_slS, ↓x_slT, ↓x_slL_l, ↓x_slL_k, ↓x_inS, ↓x_newT, ↓x_newF, ↓x_si, ↓x_s1, ↓x_s0, ↓x_rpart, ↓x_part, ↓x_a1, ↓x_a2, ↓x_isiStr, ↓x_isiInt, ↓x_isiIntB, ↓x_isiIntS, ↓x_isiBB, ↓x_isiBI, ↓x_isiStrI, ↓x_isiNonI, ↓x_isiNonS, ↓x_isiT, ↓x_isiL, ↓x_var0, ↓x_varS, ↓x_ex, ↓x_aug0, gat, pick, Option.some.injEq, D.bl.injEq, D.int.injEq, D.str.injEq, D.tup.injEq, D.lst.injEq, List.cons.injEq, and_true, true_and, List.set_cons_zero, List.set_cons_succ, List.length_cons, List.length_nil, List.filterMap_cons, List.filterMap_nil, List.getElem?_cons_zero, List.getElem?_cons_succ, Option.bind_some, ↓reduceIte, if_true, if_false, Bool.false_eq_true, Bool.true_eq_false, decide_eq_true_eq, beq_self_eq_true, Bool.not_true, Bool.not_false, Bool.not_eq_true', decide_eq_false_iff_not, exists_eq_left', exists_eq_left, exists_eq, ↓x_dnT, ↓x_dnF, ↓gAsgL, ↓gMMDef, ↓gDSet, ↓gSItems, ↓x_nilL, ↓x_nilE, List.isEmpty_nil, List.isEmpty_cons, Bool.true_xor, Bool.false_xor, ↓gSortSet, ↓gOrT, ↓gAndT, ↓gTryAs, ↓gTryO, ↓gRaise, ↓gCallX, ↓gMethX, ↓gMakeX, ↓gFldX, ↓x_fmtRS, ↓x_afRS, ↓x_afRI, ↓x_stO]
        simpa using hR'
      rw [show HL.filterMap (fun _ => (none : Option D)) = [] by simp, x_newT]
      refine ⟨by decide, x_nilL.mpr ⟨_, rfl, ?_⟩⟩
      rw [if_neg (by decide)]
      exact ⟨o4, R1, _, _, _, _, _, _, _, _, _, _, _, _, _, _, _, _, rfl, ht4.mono (by omega), rfl, rfl, rfl, rfl, rfl, rfl, rfl, rfl, rfl, rfl, rfl, rfl, rfl, rfl, rfl, rfl⟩
  · rintro ρ S' ⟨o, R0, v0, v2, v3, v4, v5, v6, v7, v8, v9, v10, v11, v12, v13, v14, v15, v16, rfl, ht, rfl⟩
    refine ⟨trivial, ?_⟩
    simp only [↓x_eqSS, ↓x_neSS, ↓gKGet, ↓x_kget, ↓x_ixE, at_last, ↓x_appE, ↓x_tyE, ↓x_itE, ↓x_lenE, ↓x_nePr, ↓x_eqPr, ↓x_neE, ↓x_lenr, ↓x_lenrI, ↓gRev, ↓x_par3, ↓x_par33, ↓x_fld, ↓x_fset, ↓x_mkF, ↓x_mk, ↓x_meth, ↓x_fldO, ↓x_fsetE, ↓x_fldE, ↓x_methO, ↓x_isiCO, ↓x_isiCN, ↓x_isiCT, ↓x_isiCLi, ↓x_isiCS, ↓x_isiCI, ↓x_own, ↓x_eqT2, ↓x_neT2, ↓x_neL4, ↓x_eqLN, ↓x_neNil, ↓x_gset, ↓x_lc, ↓x_for, ↓x_it, ↓x_rn1, ↓x_rn2, ↓x_enu, ↓x_zip, ↓x_itS, ↓x_itL, ↓x_itK, ↓x_itT, ↓x_rn1I, ↓x_rn2I, ↓x_enuL, ↓x_enuK, ↓x_zipL, ↓x_ixS0, ↓x_ixL, ↓x_ixT, ↓x_ixK, x_at0, x_at1, x_at2, x_at3, x_at4, ↓x_set00, ↓x_set01, ↓x_set02, ↓x_aug1, ↓x_aug2, ↓x_aug3, ↓x_aug4, ↓x_aug5, ↓x_aug6, ↓x_aug7, ↓x_aug8, ↓x_aug9, ↓x_aug10, ↓x_aug11, ↓x_aug12, ↓x_aug13, ↓x_aug14, ↓x_aug15, ↓x_aug16, ↓x_aug17, ↓x_aug18, ↓x_aug19, ↓x_aug20, ↓x_aug21, ↓x_aug22, ↓x_aug23, Int.reduceToNat, Int.reducePow, ↓gSeq, ↓gIfS, ↓gSet, ↓gAsg, ↓x_par, ↓x_par2, ↓gRet, ↓gRetN, ↓gNext, ↓gDrop, ↓gBreak, ↓gCont, ↓gDead, ↓gCB, ↓gB2, ↓gU, ↓gC, ↓Dl.gCons, ↓Dl.gNil, ↓Dl.gTup, ↓Dl.gLst, ↓gTest, ↓gOrB, ↓gAndB, ↓gNotB, ↓gAndV, ↓gOrV, ↓gNotV, ↓gIf, ↓gIx, ↓gSl, ↓gPart, ↓gNoP, ↓gMt, ↓gCall, ↓gArgs, ↓gIsN, ↓gNotN, ↓gChain, ↓x_fmtS, ↓x_afS, ↓x_afI, ↓x_js0, ↓x_jsc, ↓gJoined, ↓gYes, ↓x_bnm, ↓x_btp, ↓x_bn, ↓x_bc, ↓x_nnN, ↓x_nnI, ↓x_nnS, ↓x_nnB, ↓x_nnT, ↓x_nnL, ↓x_nnO, ↓x_nnl, ↓x_tyS, ↓x_tyL, ↓x_i2, ↓aSub, ↓aFdiv, ↓aMod, ↓aPow, ↓aShr, ↓aLt, ↓aLe, ↓aGt, ↓aGe, ↓x_addI, ↓x_addS, ↓x_mulI, ↓x_iaddS, ↓x_iaddI, ↓x_neg, ↓x_eqI, ↓x_neI, ↓x_eqS, ↓x_neS, ↓x_eqB, ↓x_neB, ↓x_eqNI, ↓x_neNI, ↓x_lenS, ↓x_lenL_l, ↓x_lenL_k, ↓x_lenL_t, ↓x_str, ↓x_intI, ↓x_intB, ↓x_divmod, ↓x_max2, ↓x_min2, ↓x_ixS, ↓x_slS, ↓x_slT, ↓x_slL_l, ↓x_slL_k, ↓x_inS, ↓x_newT, ↓x_newF, ↓x_si, ↓x_s1, ↓x_s0, ↓x_rpart, ↓x_part, ↓x_a1, ↓x_a2, ↓x_isiStr, ↓x_isiInt, ↓x_isiIntB, ↓x_isiIntS, ↓x_isiBB, ↓x_isiBI, ↓x_isiStrI, ↓x_isiNonI, ↓x_isiNonS, ↓x_isiT, ↓x_isiL, ↓x_var0, ↓x_varS, ↓x_ex, ↓x_aug0, gat, pick, Option.some.injEq, D.bl.injEq, D.int.injEq, D.str.injEq, D.tup.injEq, D.lst.injEq, List.cons.injEq, and_true, true_and, List.set_cons_zero, List.set_cons_succ, List.length_cons, List.length_nil, List.filterMap_cons, List.filterMap_nil, List.getElem?_cons_zero, List.getElem?_cons_succ, Option.bind_some, ↓reduceIte, if_true, if_false, Bool.false_eq_true, Bool.true_eq_false, decide_eq_true_eq, beq_self_eq_true, Bool.not_true, Bool.not_false, Bool.not_eq_true', decide_eq_false_iff_not, exists_eq_left', exists_eq_left, exists_eq, ↓x_dnT, ↓x_dnF, ↓gAsgL, ↓gMMDef, ↓gDSet, ↓gSItems, ↓x_nilL, ↓x_nilE, List.isEmpty_nil, List.isEmpty_cons, Bool.true_xor, Bool.false_xor, ↓gSortSet, ↓gOrT, ↓gAndT, ↓gTryAs, ↓gTryO, ↓gRaise, ↓gCallX, ↓gMethX, ↓gMakeX, ↓gFldX, ↓x_fmtRS, ↓x_afRS, ↓x_afRI, ↓x_stO]
    refine ga_make0 ?_
    refine (x_methO (by decide +kernel)).mpr ⟨by decide, Mt.st_make (by decide) ?_⟩
    refine ⟨60, 200, 400, 5, 20, [], 3, 9, rfl, by decide, by decide, fun E pw hm => Mt.st_make (by decide) ⟨by decide, by decide, ?_⟩⟩
    have e : E = [3, 9] := rise_eq pw (by simp) fun x => by
      rw [hm x]
      simp [isT]
    rw [e, show pieces (stS 60 200 400 5 20 []) [3, 9] = [((3 : Int), (9 : Int), Str.ofString "free")] by decide +kernel]
    exact eqtl_same (ps := [((3 : Int), (9 : Int), Str.ofString "free")]) (h _)
end
end Lw
namespace Lw
open PySem L2 Dl
section
variable {P : Program} {w : World} {K : PySem.W.Frag} {mg : Str → Option Value} {base : Heap} {a : Ad}
theorem ok_Stretch_init (T : Txt K mg a) : CFn P w K mg base "Stretch" a.C_Stretch "Stretch.__init__" s_Stretch_init dv_Stretch_init 1 ps_Stretch_init (sp_Stretch_init a) :=
  cfn_of0 T.mC_Stretch T.b_Stretch_init sc_Stretch_init (by intro ds S q h; first | exact False.elim h | (cases h with | inl h => (first | (obtain ⟨rfl, _⟩ := h; rfl) | (obtain ⟨_, _, _, _, ⟨_, _, rfl, _⟩, _⟩ := h; rfl) | (obtain ⟨_, rfl, _⟩ := h; rfl) | (obtain ⟨_, _, rfl, _⟩ := h; rfl) | (obtain ⟨_, _, _, rfl, _⟩ := h; rfl) | (obtain ⟨_, _, _, _, rfl, _⟩ := h; rfl) | (obtain ⟨_, _, _, _, _, rfl, _⟩ := h; rfl) | (obtain ⟨_, _, _, _, _, _, rfl, _⟩ := h; rfl) | (obtain ⟨_, _, _, _, _, _, _, rfl, _⟩ := h; rfl) | (obtain ⟨_, _, _, _, _, _, _, _, rfl, _⟩ := h; rfl) | (obtain ⟨_, _, _, _, _, _, _, _, _, rfl, _⟩ := h; rfl) | (obtain ⟨_, _, _, _, _, _, _, _, _, _, rfl, _⟩ := h; rfl) | (obtain ⟨_, _, _, _, _, _, _, _, _, _, _, rfl, _⟩ := h; rfl) | (obtain ⟨_, _, _, _, _, _, _, _, _, _, _, _, rfl, _⟩ := h; rfl) | (obtain ⟨_, _, _, _, _, _, _, _, _, _, _, _, _, rfl, _⟩ := h; rfl) | (obtain ⟨_, _, _, _, _, _, _, _, _, _, _, _, _, _, rfl, _⟩ := h; rfl) | (obtain ⟨_, _, _, _, _, _, _, _, _, _, _, _, _, _, _, rfl, _⟩ := h; rfl) | (obtain ⟨_, _, _, _, _, _, _, _, _, _, _, _, _, _, _, _, rfl, _⟩ := h; rfl) | (obtain ⟨_, _, _, _, _, _, _, _, _, _, _, _, _, _, _, _, _, rfl, _⟩ := h; rfl) | (obtain ⟨_, _, _, _, _, _, _, _, _, _, _, _, _, _, _, _, _, _, rfl, _⟩ := h; rfl) | (obtain ⟨_, _, _, _, _, _, _, _, _, _, _, _, _, _, _, _, _, _, _, rfl, _⟩ := h; rfl) | exact Mt.tk_len rfl h | (obtain ⟨_, h⟩ := h; exact Mt.tk_len rfl h) | (obtain ⟨_, _, h⟩ := h; exact Mt.tk_len rfl h) | (obtain ⟨_, _, _, h⟩ := h; exact Mt.tk_len rfl h) | (obtain ⟨_, _, _, _, h⟩ := h; exact Mt.tk_len rfl h) | (obtain ⟨_, _, _, _, _, h⟩ := h; exact Mt.tk_len rfl h) | (obtain ⟨_, _, _, _, _, _, h⟩ := h; exact Mt.tk_len rfl h) | (obtain ⟨_, _, _, _, _, _, _, h⟩ := h; exact Mt.tk_len rfl h) | (obtain ⟨_, _, _, _, _, _, _, _, h⟩ := h; exact Mt.tk_len rfl h) | (obtain ⟨_, _, _, _, _, _, _, _, _, h⟩ := h; exact Mt.tk_len rfl h) | (obtain ⟨_, _, _, _, _, _, _, _, _, _, h⟩ := h; exact Mt.tk_len rfl h) | (obtain ⟨_, _, _, _, _, _, _, _, _, _, _, h⟩ := h; exact Mt.tk_len rfl h) | (obtain ⟨_, _, _, _, _, _, _, _, _, _, _, _, h⟩ := h; exact Mt.tk_len rfl h) | (obtain ⟨_, _, _, _, _, _, _, _, _, _, _, _, _, h⟩ := h; exact Mt.tk_len rfl h) | (obtain ⟨_, _, _, _, _, _, _, _, _, _, _, _, _, _, h⟩ := h; exact Mt.tk_len rfl h) | (obtain ⟨_, _, _, _, _, _, _, _, _, _, _, _, _, _, _, h⟩ := h; exact Mt.tk_len rfl h) | (obtain ⟨_, _, _, _, _, _, _, _, _, _, _, _, _, _, _, _, h⟩ := h; exact Mt.tk_len rfl h) | (obtain ⟨_, _, _, _, _, _, _, _, _, _, _, _, _, _, _, _, _, h⟩ := h; exact Mt.tk_len rfl h)) | inr h => (first | (obtain ⟨rfl, _⟩ := h; rfl) | (obtain ⟨_, _, _, _, ⟨_, _, rfl, _⟩, _⟩ := h; rfl) | (obtain ⟨_, rfl, _⟩ := h; rfl) | (obtain ⟨_, _, rfl, _⟩ := h; rfl) | (obtain ⟨_, _, _, rfl, _⟩ := h; rfl) | (obtain ⟨_, _, _, _, rfl, _⟩ := h; rfl) | (obtain ⟨_, _, _, _, _, rfl, _⟩ := h; rfl) | (obtain ⟨_, _, _, _, _, _, rfl, _⟩ := h; rfl) | (obtain ⟨_, _, _, _, _, _, _, rfl, _⟩ := h; rfl) | (obtain ⟨_, _, _, _, _, _, _, _, rfl, _⟩ := h; rfl) | (obtain ⟨_, _, _, _, _, _, _, _, _, rfl, _⟩ := h; rfl) | (obtain ⟨_, _, _, _, _, _, _, _, _, _, rfl, _⟩ := h; rfl) | (obtain ⟨_, _, _, _, _, _, _, _, _, _, _, rfl, _⟩ := h; rfl) | (obtain ⟨_, _, _, _, _, _, _, _, _, _, _, _, rfl, _⟩ := h; rfl) | (obtain ⟨_, _, _, _, _, _, _, _, _, _, _, _, _, rfl, _⟩ := h; rfl) | (obtain ⟨_, _, _, _, _, _, _, _, _, _, _, _, _, _, rfl, _⟩ := h; rfl) | (obtain ⟨_, _, _, _, _, _, _, _, _, _, _, _, _, _, _, rfl, _⟩ := h; rfl) | (obtain ⟨_, _, _, _, _, _, _, _, _, _, _, _, _, _, _, _, rfl, _⟩ := h; rfl) | (obtain ⟨_, _, _, _, _, _, _, _, _, _, _, _, _, _, _, _, _, rfl, _⟩ := h; rfl) | (obtain ⟨_, _, _, _, _, _, _, _, _, _, _, _, _, _, _, _, _, _, rfl, _⟩ := h; rfl) | (obtain ⟨_, _, _, _, _, _, _, _, _, _, _, _, _, _, _, _, _, _, _, rfl, _⟩ := h; rfl) | exact Mt.tk_len rfl h | (obtain ⟨_, h⟩ := h; exact Mt.tk_len rfl h) | (obtain ⟨_, _, h⟩ := h; exact Mt.tk_len rfl h) | (obtain ⟨_, _, _, h⟩ := h; exact Mt.tk_len rfl h) | (obtain ⟨_, _, _, _, h⟩ := h; exact Mt.tk_len rfl h) | (obtain ⟨_, _, _, _, _, h⟩ := h; exact Mt.tk_len rfl h) | (obtain ⟨_, _, _, _, _, _, h⟩ := h; exact Mt.tk_len rfl h) | (obtain ⟨_, _, _, _, _, _, _, h⟩ := h; exact Mt.tk_len rfl h) | (obtain ⟨_, _, _, _, _, _, _, _, h⟩ := h; exact Mt.tk_len rfl h) | (obtain ⟨_, _, _, _, _, _, _, _, _, h⟩ := h; exact Mt.tk_len rfl h) | (obtain ⟨_, _, _, _, _, _, _, _, _, _, h⟩ := h; exact Mt.tk_len rfl h) | (obtain ⟨_, _, _, _, _, _, _, _, _, _, _, h⟩ := h; exact Mt.tk_len rfl h) | (obtain ⟨_, _, _, _, _, _, _, _, _, _, _, _, h⟩ := h; exact Mt.tk_len rfl h) | (obtain ⟨_, _, _, _, _, _, _, _, _, _, _, _, _, h⟩ := h; exact Mt.tk_len rfl h) | (obtain ⟨_, _, _, _, _, _, _, _, _, _, _, _, _, _, h⟩ := h; exact Mt.tk_len rfl h) | (obtain ⟨_, _, _, _, _, _, _, _, _, _, _, _, _, _, _, h⟩ := h; exact Mt.tk_len rfl h) | (obtain ⟨_, _, _, _, _, _, _, _, _, _, _, _, _, _, _, _, h⟩ := h; exact Mt.tk_len rfl h) | (obtain ⟨_, _, _, _, _, _, _, _, _, _, _, _, _, _, _, _, _, h⟩ := h; exact Mt.tk_len rfl h))) | (first | (obtain ⟨rfl, _⟩ := h; rfl) | (obtain ⟨_, _, _, _, ⟨_, _, rfl, _⟩, _⟩ := h; rfl) | (obtain ⟨_, rfl, _⟩ := h; rfl) | (obtain ⟨_, _, rfl, _⟩ := h; rfl) | (obtain ⟨_, _, _, rfl, _⟩ := h; rfl) | (obtain ⟨_, _, _, _, rfl, _⟩ := h; rfl) | (obtain ⟨_, _, _, _, _, rfl, _⟩ := h; rfl) | (obtain ⟨_, _, _, _, _, _, rfl, _⟩ := h; rfl) | (obtain ⟨_, _, _, _, _, _, _, rfl, _⟩ := h; rfl) | (obtain ⟨_, _, _, _, _, _, _, _, rfl, _⟩ := h; rfl) | (obtain ⟨_, _, _, _, _, _, _, _, _, rfl, _⟩ := h; rfl) | (obtain ⟨_, _, _, _, _, _, _, _, _, _, rfl, _⟩ := h; rfl) | (obtain ⟨_, _, _, _, _, _, _, _, _, _, _, rfl, _⟩ := h; rfl) | (obtain ⟨_, _, _, _, _, _, _, _, _, _, _, _, rfl, _⟩ := h; rfl) | (obtain ⟨_, _, _, _, _, _, _, _, _, _, _, _, _, rfl, _⟩ := h; rfl) | (obtain ⟨_, _, _, _, _, _, _, _, _, _, _, _, _, _, rfl, _⟩ := h; rfl) | (obtain ⟨_, _, _, _, _, _, _, _, _, _, _, _, _, _, _, rfl, _⟩ := h; rfl) | (obtain ⟨_, _, _, _, _, _, _, _, _, _, _, _, _, _, _, _, rfl, _⟩ := h; rfl) | (obtain ⟨_, _, _, _, _, _, _, _, _, _, _, _, _, _, _, _, _, rfl, _⟩ := h; rfl) | (obtain ⟨_, _, _, _, _, _, _, _, _, _, _, _, _, _, _, _, _, _, rfl, _⟩ := h; rfl) | (obtain ⟨_, _, _, _, _, _, _, _, _, _, _, _, _, _, _, _, _, _, _, rfl, _⟩ := h; rfl) | exact Mt.tk_len rfl h | (obtain ⟨_, h⟩ := h; exact Mt.tk_len rfl h) | (obtain ⟨_, _, h⟩ := h; exact Mt.tk_len rfl h) | (obtain ⟨_, _, _, h⟩ := h; exact Mt.tk_len rfl h) | (obtain ⟨_, _, _, _, h⟩ := h; exact Mt.tk_len rfl h) | (obtain ⟨_, _, _, _, _, h⟩ := h; exact Mt.tk_len rfl h) | (obtain ⟨_, _, _, _, _, _, h⟩ := h; exact Mt.tk_len rfl h) | (obtain ⟨_, _, _, _, _, _, _, h⟩ := h; exact Mt.tk_len rfl h) | (obtain ⟨_, _, _, _, _, _, _, _, h⟩ := h; exact Mt.tk_len rfl h) | (obtain ⟨_, _, _, _, _, _, _, _, _, h⟩ := h; exact Mt.tk_len rfl h) | (obtain ⟨_, _, _, _, _, _, _, _, _, _, h⟩ := h; exact Mt.tk_len rfl h) | (obtain ⟨_, _, _, _, _, _, _, _, _, _, _, h⟩ := h; exact Mt.tk_len rfl h) | (obtain ⟨_, _, _, _, _, _, _, _, _, _, _, _, h⟩ := h; exact Mt.tk_len rfl h) | (obtain ⟨_, _, _, _, _, _, _, _, _, _, _, _, _, h⟩ := h; exact Mt.tk_len rfl h) | (obtain ⟨_, _, _, _, _, _, _, _, _, _, _, _, _, _, h⟩ := h; exact Mt.tk_len rfl h) | (obtain ⟨_, _, _, _, _, _, _, _, _, _, _, _, _, _, _, h⟩ := h; exact Mt.tk_len rfl h) | (obtain ⟨_, _, _, _, _, _, _, _, _, _, _, _, _, _, _, _, h⟩ := h; exact Mt.tk_len rfl h) | (obtain ⟨_, _, _, _, _, _, _, _, _, _, _, _, _, _, _, _, _, h⟩ := h; exact Mt.tk_len rfl h))) (g_Stretch_init K a) (fun f cdv A outer s H E hr => t_Stretch_init T  hr) (fun ds S q _ _ h => r_Stretch_init T ds S q h)
theorem ok_Stretch_len (T : Txt K mg a) : MFn P w K mg base a.C_Stretch "__len__" "Stretch.__len__" s_Stretch_len dv_Stretch_len 1 ps_Stretch_len (sp_Stretch_len a) :=
  mfn_of0 T.cl_Stretch T.b_Stretch_len sc_Stretch_len (by intro ds S q h; obtain ⟨_, _, rfl, _⟩ := h; rfl) (g_Stretch_len K a) (fun f cdv A outer s H E hr => t_Stretch_len T  hr) (fun ds S q _ _ h => r_Stretch_len T ds S q h)
theorem ok_Stretch_eq (T : Txt K mg a) : MFn P w K mg base a.C_Stretch "__eq__" "Stretch.__eq__" s_Stretch_eq dv_Stretch_eq 1 ps_Stretch_eq (sp_Stretch_eq a) :=
  mfn_of0 T.cl_Stretch T.b_Stretch_eq sc_Stretch_eq (by intro ds S q h; first | exact False.elim h | (cases h with | inl h => (first | (obtain ⟨rfl, _⟩ := h; rfl) | (obtain ⟨_, _, _, _, ⟨_, _, rfl, _⟩, _⟩ := h; rfl) | (obtain ⟨_, rfl, _⟩ := h; rfl) | (obtain ⟨_, _, rfl, _⟩ := h; rfl) | (obtain ⟨_, _, _, rfl, _⟩ := h; rfl) | (obtain ⟨_, _, _, _, rfl, _⟩ := h; rfl) | (obtain ⟨_, _, _, _, _, rfl, _⟩ := h; rfl) | (obtain ⟨_, _, _, _, _, _, rfl, _⟩ := h; rfl) | (obtain ⟨_, _, _, _, _, _, _, rfl, _⟩ := h; rfl) | (obtain ⟨_, _, _, _, _, _, _, _, rfl, _⟩ := h; rfl) | (obtain ⟨_, _, _, _, _, _, _, _, _, rfl, _⟩ := h; rfl) | (obtain ⟨_, _, _, _, _, _, _, _, _, _, rfl, _⟩ := h; rfl) | (obtain ⟨_, _, _, _, _, _, _, _, _, _, _, rfl, _⟩ := h; rfl) | (obtain ⟨_, _, _, _, _, _, _, _, _, _, _, _, rfl, _⟩ := h; rfl) | (obtain ⟨_, _, _, _, _, _, _, _, _, _, _, _, _, rfl, _⟩ := h; rfl) | (obtain ⟨_, _, _, _, _, _, _, _, _, _, _, _, _, _, rfl, _⟩ := h; rfl) | (obtain ⟨_, _, _, _, _, _, _, _, _, _, _, _, _, _, _, rfl, _⟩ := h; rfl) | (obtain ⟨_, _, _, _, _, _, _, _, _, _, _, _, _, _, _, _, rfl, _⟩ := h; rfl) | (obtain ⟨_, _, _, _, _, _, _, _, _, _, _, _, _, _, _, _, _, rfl, _⟩ := h; rfl) | (obtain ⟨_, _, _, _, _, _, _, _, _, _, _, _, _, _, _, _, _, _, rfl, _⟩ := h; rfl) | (obtain ⟨_, _, _, _, _, _, _, _, _, _, _, _, _, _, _, _, _, _, _, rfl, _⟩ := h; rfl) | exact Mt.tk_len rfl h | (obtain ⟨_, h⟩ := h; exact Mt.tk_len rfl h) | (obtain ⟨_, _, h⟩ := h; exact Mt.tk_len rfl h) | (obtain ⟨_, _, _, h⟩ := h; exact Mt.tk_len rfl h) | (obtain ⟨_, _, _, _, h⟩ := h; exact Mt.tk_len rfl h) | (obtain ⟨_, _, _, _, _, h⟩ := h; exact Mt.tk_len rfl h) | (obtain ⟨_, _, _, _, _, _, h⟩ := h; exact Mt.tk_len rfl h) | (obtain ⟨_, _, _, _, _, _, _, h⟩ := h; exact Mt.tk_len rfl h) | (obtain ⟨_, _, _, _, _, _, _, _, h⟩ := h; exact Mt.tk_len rfl h) | (obtain ⟨_, _, _, _, _, _, _, _, _, h⟩ := h; exact Mt.tk_len rfl h) | (obtain ⟨_, _, _, _, _, _, _, _, _, _, h⟩ := h; exact Mt.tk_len rfl h) | (obtain ⟨_, _, _, _, _, _, _, _, _, _, _, h⟩ := h; exact Mt.tk_len rfl h) | (obtain ⟨_, _, _, _, _, _, _, _, _, _, _, _, h⟩ := h; exact Mt.tk_len rfl h) | (obtain ⟨_, _, _, _, _, _, _, _, _, _, _, _, _, h⟩ := h; exact Mt.tk_len rfl h) | (obtain ⟨_, _, _, _, _, _, _, _, _, _, _, _, _, _, h⟩ := h; exact Mt.tk_len rfl h) | (obtain ⟨_, _, _, _, _, _, _, _, _, _, _, _, _, _, _, h⟩ := h; exact Mt.tk_len rfl h) | (obtain ⟨_, _, _, _, _, _, _, _, _, _, _, _, _, _, _, _, h⟩ := h; exact Mt.tk_len rfl h) | (obtain ⟨_, _, _, _, _, _, _, _, _, _, _, _, _, _, _, _, _, h⟩ := h; exact Mt.tk_len rfl h)) | inr h => (first | (obtain ⟨rfl, _⟩ := h; rfl) | (obtain ⟨_, _, _, _, ⟨_, _, rfl, _⟩, _⟩ := h; rfl) | (obtain ⟨_, rfl, _⟩ := h; rfl) | (obtain ⟨_, _, rfl, _⟩ := h; rfl) | (obtain ⟨_, _, _, rfl, _⟩ := h; rfl) | (obtain ⟨_, _, _, _, rfl, _⟩ := h; rfl) | (obtain ⟨_, _, _, _, _, rfl, _⟩ := h; rfl) | (obtain ⟨_, _, _, _, _, _, rfl, _⟩ := h; rfl) | (obtain ⟨_, _, _, _, _, _, _, rfl, _⟩ := h; rfl) | (obtain ⟨_, _, _, _, _, _, _, _, rfl, _⟩ := h; rfl) | (obtain ⟨_, _, _, _, _, _, _, _, _, rfl, _⟩ := h; rfl) | (obtain ⟨_, _, _, _, _, _, _, _, _, _, rfl, _⟩ := h; rfl) | (obtain ⟨_, _, _, _, _, _, _, _, _, _, _, rfl, _⟩ := h; rfl) | (obtain ⟨_, _, _, _, _, _, _, _, _, _, _, _, rfl, _⟩ := h; rfl) | (obtain ⟨_, _, _, _, _, _, _, _, _, _, _, _, _, rfl, _⟩ := h; rfl) | (obtain ⟨_, _, _, _, _, _, _, _, _, _, _, _, _, _, rfl, _⟩ := h; rfl) | (obtain ⟨_, _, _, _, _, _, _, _, _, _, _, _, _, _, _, rfl, _⟩ := h; rfl) | (obtain ⟨_, _, _, _, _, _, _, _, _, _, _, _, _, _, _, _, rfl, _⟩ := h; rfl) | (obtain ⟨_, _, _, _, _, _, _, _, _, _, _, _, _, _, _, _, _, rfl, _⟩ := h; rfl) | (obtain ⟨_, _, _, _, _, _, _, _, _, _, _, _, _, _, _, _, _, _, rfl, _⟩ := h; rfl) | (obtain ⟨_, _, _, _, _, _, _, _, _, _, _, _, _, _, _, _, _, _, _, rfl, _⟩ := h; rfl) | exact Mt.tk_len rfl h | (obtain ⟨_, h⟩ := h; exact Mt.tk_len rfl h) | (obtain ⟨_, _, h⟩ := h; exact Mt.tk_len rfl h) | (obtain ⟨_, _, _, h⟩ := h; exact Mt.tk_len rfl h) | (obtain ⟨_, _, _, _, h⟩ := h; exact Mt.tk_len rfl h) | (obtain ⟨_, _, _, _, _, h⟩ := h; exact Mt.tk_len rfl h) | (obtain ⟨_, _, _, _, _, _, h⟩ := h; exact Mt.tk_len rfl h) | (obtain ⟨_, _, _, _, _, _, _, h⟩ := h; exact Mt.tk_len rfl h) | (obtain ⟨_, _, _, _, _, _, _, _, h⟩ := h; exact Mt.tk_len rfl h) | (obtain ⟨_, _, _, _, _, _, _, _, _, h⟩ := h; exact Mt.tk_len rfl h) | (obtain ⟨_, _, _, _, _, _, _, _, _, _, h⟩ := h; exact Mt.tk_len rfl h) | (obtain ⟨_, _, _, _, _, _, _, _, _, _, _, h⟩ := h; exact Mt.tk_len rfl h) | (obtain ⟨_, _, _, _, _, _, _, _, _, _, _, _, h⟩ := h; exact Mt.tk_len rfl h) | (obtain ⟨_, _, _, _, _, _, _, _, _, _, _, _, _, h⟩ := h; exact Mt.tk_len rfl h) | (obtain ⟨_, _, _, _, _, _, _, _, _, _, _, _, _, _, h⟩ := h; exact Mt.tk_len rfl h) | (obtain ⟨_, _, _, _, _, _, _, _, _, _, _, _, _, _, _, h⟩ := h; exact Mt.tk_len rfl h) | (obtain ⟨_, _, _, _, _, _, _, _, _, _, _, _, _, _, _, _, h⟩ := h; exact Mt.tk_len rfl h) | (obtain ⟨_, _, _, _, _, _, _, _, _, _, _, _, _, _, _, _, _, h⟩ := h; exact Mt.tk_len rfl h))) | (first | (obtain ⟨rfl, _⟩ := h; rfl) | (obtain ⟨_, _, _, _, ⟨_, _, rfl, _⟩, _⟩ := h; rfl) | (obtain ⟨_, rfl, _⟩ := h; rfl) | (obtain ⟨_, _, rfl, _⟩ := h; rfl) | (obtain ⟨_, _, _, rfl, _⟩ := h; rfl) | (obtain ⟨_, _, _, _, rfl, _⟩ := h; rfl) | (obtain ⟨_, _, _, _, _, rfl, _⟩ := h; rfl) | (obtain ⟨_, _, _, _, _, _, rfl, _⟩ := h; rfl) | (obtain ⟨_, _, _, _, _, _, _, rfl, _⟩ := h; rfl) | (obtain ⟨_, _, _, _, _, _, _, _, rfl, _⟩ := h; rfl) | (obtain ⟨_, _, _, _, _, _, _, _, _, rfl, _⟩ := h; rfl) | (obtain ⟨_, _, _, _, _, _, _, _, _, _, rfl, _⟩ := h; rfl) | (obtain ⟨_, _, _, _, _, _, _, _, _, _, _, rfl, _⟩ := h; rfl) | (obtain ⟨_, _, _, _, _, _, _, _, _, _, _, _, rfl, _⟩ := h; rfl) | (obtain ⟨_, _, _, _, _, _, _, _, _, _, _, _, _, rfl, _⟩ := h; rfl) | (obtain ⟨_, _, _, _, _, _, _, _, _, _, _, _, _, _, rfl, _⟩ := h; rfl) | (obtain ⟨_, _, _, _, _, _, _, _, _, _, _, _, _, _, _, rfl, _⟩ := h; rfl) | (obtain ⟨_, _, _, _, _, _, _, _, _, _, _, _, _, _, _, _, rfl, _⟩ := h; rfl) | (obtain ⟨_, _, _, _, _, _, _, _, _, _, _, _, _, _, _, _, _, rfl, _⟩ := h; rfl) | (obtain ⟨_, _, _, _, _, _, _, _, _, _, _, _, _, _, _, _, _, _, rfl, _⟩ := h; rfl) | (obtain ⟨_, _, _, _, _, _, _, _, _, _, _, _, _, _, _, _, _, _, _, rfl, _⟩ := h; rfl) | exact Mt.tk_len rfl h | (obtain ⟨_, h⟩ := h; exact Mt.tk_len rfl h) | (obtain ⟨_, _, h⟩ := h; exact Mt.tk_len rfl h) | (obtain ⟨_, _, _, h⟩ := h; exact Mt.tk_len rfl h) | (obtain ⟨_, _, _, _, h⟩ := h; exact Mt.tk_len rfl h) | (obtain ⟨_, _, _, _, _, h⟩ := h; exact Mt.tk_len rfl h) | (obtain ⟨_, _, _, _, _, _, h⟩ := h; exact Mt.tk_len rfl h) | (obtain ⟨_, _, _, _, _, _, _, h⟩ := h; exact Mt.tk_len rfl h) | (obtain ⟨_, _, _, _, _, _, _, _, h⟩ := h; exact Mt.tk_len rfl h) | (obtain ⟨_, _, _, _, _, _, _, _, _, h⟩ := h; exact Mt.tk_len rfl h) | (obtain ⟨_, _, _, _, _, _, _, _, _, _, h⟩ := h; exact Mt.tk_len rfl h) | (obtain ⟨_, _, _, _, _, _, _, _, _, _, _, h⟩ := h; exact Mt.tk_len rfl h) | (obtain ⟨_, _, _, _, _, _, _, _, _, _, _, _, h⟩ := h; exact Mt.tk_len rfl h) | (obtain ⟨_, _, _, _, _, _, _, _, _, _, _, _, _, h⟩ := h; exact Mt.tk_len rfl h) | (obtain ⟨_, _, _, _, _, _, _, _, _, _, _, _, _, _, h⟩ := h; exact Mt.tk_len rfl h) | (obtain ⟨_, _, _, _, _, _, _, _, _, _, _, _, _, _, _, h⟩ := h; exact Mt.tk_len rfl h) | (obtain ⟨_, _, _, _, _, _, _, _, _, _, _, _, _, _, _, _, h⟩ := h; exact Mt.tk_len rfl h) | (obtain ⟨_, _, _, _, _, _, _, _, _, _, _, _, _, _, _, _, _, h⟩ := h; exact Mt.tk_len rfl h))) (g_Stretch_eq K a) (fun f cdv A outer s H E hr => t_Stretch_eq T  hr) (fun ds S q _ _ h => r_Stretch_eq T ds S q h)
theorem ok_Stretch_repr (T : Txt K mg a) : MFn P w K mg base a.C_Stretch "__repr__" "Stretch.__repr__" s_Stretch_repr dv_Stretch_repr 1 ps_Stretch_repr (sp_Stretch_repr a) :=
  mfn_of0 T.cl_Stretch T.b_Stretch_repr sc_Stretch_repr (by intro ds S q h; obtain ⟨_, _, rfl, _⟩ := h; rfl) (g_Stretch_repr K a) (fun f cdv A outer s H E hr => t_Stretch_repr T  hr) (fun ds S q _ _ h => r_Stretch_repr T ds S q h)
theorem ok_number_at (T : Txt K mg a) : Fnc P w K mg base "number_at" s_number_at dv_number_at 1 ps_number_at (sp_number_at a) :=
  fnc_of0 T.b_number_at sc_number_at (by intro ds S q h; obtain ⟨_, _, rfl, _⟩ := h; rfl) (g_number_at K a) (fun f cdv A outer s H E hr => t_number_at T  hr) (fun ds S q _ _ h => r_number_at ds S q h)
theorem ok_Gauge_init (T : Txt K mg a) : CFn P w K mg base "Gauge" a.C_Gauge "Gauge.__init__" s_Gauge_init dv_Gauge_init 1 ps_Gauge_init (sp_Gauge_init a) :=
  cfn_of0 T.mC_Gauge T.b_Gauge_init sc_Gauge_init (by intro ds S q h; obtain ⟨_, _, _, _, _, _, rfl, _⟩ := h; rfl) (g_Gauge_init K a) (fun f cdv A outer s H E hr => t_Gauge_init T  hr) (fun ds S q _ _ h => r_Gauge_init T ds S q h)
theorem ok_Gauge_arrivals (T : Txt K mg a) : MFn P w K mg base a.C_Gauge "arrivals" "Gauge.arrivals" s_Gauge_arrivals dv_Gauge_arrivals 1 ps_Gauge_arrivals (sp_Gauge_arrivals a) :=
  mfn_of T.cl_Gauge T.b_Gauge_arrivals sc_Gauge_arrivals (by intro ds S q h; obtain ⟨_, _, _, _, _, _, _, rfl, _⟩ := h; rfl) (g_Gauge_arrivals K a) (fun f cdv A outer s H E hr => t_Gauge_arrivals T  hr) (rf_Gauge_arrivals T)
theorem ok_Gauge_stand_by (T : Txt K mg a) : MFn P w K mg base a.C_Gauge "stand_by" "Gauge.stand_by" s_Gauge_stand_by dv_Gauge_stand_by 1 ps_Gauge_stand_by (sp_Gauge_stand_by a) :=
  mfn_of0 T.cl_Gauge T.b_Gauge_stand_by sc_Gauge_stand_by (by intro ds S q h; obtain ⟨_, _, _, _, _, _, _, rfl, _⟩ := h; rfl) (g_Gauge_stand_by K a) (fun f cdv A outer s H E hr => t_Gauge_stand_by T  hr) (fun ds S q _ _ h => r_Gauge_stand_by T ds S q h)
theorem ok_Gauge_stands_live (T : Txt K mg a) : MFn P w K mg base a.C_Gauge "stands" "Gauge.stands" s_Gauge_stands dv_Gauge_stands 3 ps_Gauge_stands (sp_Gauge_stands_live a) :=
  mfn_of0 T.cl_Gauge T.b_Gauge_stands sc_Gauge_stands (by intro ds S q h; first | exact False.elim h | (cases h with | inl h => (first | (obtain ⟨rfl, _⟩ := h; rfl) | (obtain ⟨_, _, _, _, ⟨_, _, rfl, _⟩, _⟩ := h; rfl) | (obtain ⟨_, rfl, _⟩ := h; rfl) | (obtain ⟨_, _, rfl, _⟩ := h; rfl) | (obtain ⟨_, _, _, rfl, _⟩ := h; rfl) | (obtain ⟨_, _, _, _, rfl, _⟩ := h; rfl) | (obtain ⟨_, _, _, _, _, rfl, _⟩ := h; rfl) | (obtain ⟨_, _, _, _, _, _, rfl, _⟩ := h; rfl) | (obtain ⟨_, _, _, _, _, _, _, rfl, _⟩ := h; rfl) | (obtain ⟨_, _, _, _, _, _, _, _, rfl, _⟩ := h; rfl) | (obtain ⟨_, _, _, _, _, _, _, _, _, rfl, _⟩ := h; rfl) | (obtain ⟨_, _, _, _, _, _, _, _, _, _, rfl, _⟩ := h; rfl) | (obtain ⟨_, _, _, _, _, _, _, _, _, _, _, rfl, _⟩ := h; rfl) | (obtain ⟨_, _, _, _, _, _, _, _, _, _, _, _, rfl, _⟩ := h; rfl) | (obtain ⟨_, _, _, _, _, _, _, _, _, _, _, _, _, rfl, _⟩ := h; rfl) | (obtain ⟨_, _, _, _, _, _, _, _, _, _, _, _, _, _, rfl, _⟩ := h; rfl) | (obtain ⟨_, _, _, _, _, _, _, _, _, _, _, _, _, _, _, rfl, _⟩ := h; rfl) | (obtain ⟨_, _, _, _, _, _, _, _, _, _, _, _, _, _, _, _, rfl, _⟩ := h; rfl) | (obtain ⟨_, _, _, _, _, _, _, _, _, _, _, _, _, _, _, _, _, rfl, _⟩ := h; rfl) | (obtain ⟨_, _, _, _, _, _, _, _, _, _, _, _, _, _, _, _, _, _, rfl, _⟩ := h; rfl) | (obtain ⟨_, _, _, _, _, _, _, _, _, _, _, _, _, _, _, _, _, _, _, rfl, _⟩ := h; rfl) | exact Mt.tk_len rfl h | (obtain ⟨_, h⟩ := h; exact Mt.tk_len rfl h) | (obtain ⟨_, _, h⟩ := h; exact Mt.tk_len rfl h) | (obtain ⟨_, _, _, h⟩ := h; exact Mt.tk_len rfl h) | (obtain ⟨_, _, _, _, h⟩ := h; exact Mt.tk_len rfl h) | (obtain ⟨_, _, _, _, _, h⟩ := h; exact Mt.tk_len rfl h) | (obtain ⟨_, _, _, _, _, _, h⟩ := h; exact Mt.tk_len rfl h) | (obtain ⟨_, _, _, _, _, _, _, h⟩ := h; exact Mt.tk_len rfl h) | (obtain ⟨_, _, _, _, _, _, _, _, h⟩ := h; exact Mt.tk_len rfl h) | (obtain ⟨_, _, _, _, _, _, _, _, _, h⟩ := h; exact Mt.tk_len rfl h) | (obtain ⟨_, _, _, _, _, _, _, _, _, _, h⟩ := h; exact Mt.tk_len rfl h) | (obtain ⟨_, _, _, _, _, _, _, _, _, _, _, h⟩ := h; exact Mt.tk_len rfl h) | (obtain ⟨_, _, _, _, _, _, _, _, _, _, _, _, h⟩ := h; exact Mt.tk_len rfl h) | (obtain ⟨_, _, _, _, _, _, _, _, _, _, _, _, _, h⟩ := h; exact Mt.tk_len rfl h) | (obtain ⟨_, _, _, _, _, _, _, _, _, _, _, _, _, _, h⟩ := h; exact Mt.tk_len rfl h) | (obtain ⟨_, _, _, _, _, _, _, _, _, _, _, _, _, _, _, h⟩ := h; exact Mt.tk_len rfl h) | (obtain ⟨_, _, _, _, _, _, _, _, _, _, _, _, _, _, _, _, h⟩ := h; exact Mt.tk_len rfl h) | (obtain ⟨_, _, _, _, _, _, _, _, _, _, _, _, _, _, _, _, _, h⟩ := h; exact Mt.tk_len rfl h)) | inr h => (first | (obtain ⟨rfl, _⟩ := h; rfl) | (obtain ⟨_, _, _, _, ⟨_, _, rfl, _⟩, _⟩ := h; rfl) | (obtain ⟨_, rfl, _⟩ := h; rfl) | (obtain ⟨_, _, rfl, _⟩ := h; rfl) | (obtain ⟨_, _, _, rfl, _⟩ := h; rfl) | (obtain ⟨_, _, _, _, rfl, _⟩ := h; rfl) | (obtain ⟨_, _, _, _, _, rfl, _⟩ := h; rfl) | (obtain ⟨_, _, _, _, _, _, rfl, _⟩ := h; rfl) | (obtain ⟨_, _, _, _, _, _, _, rfl, _⟩ := h; rfl) | (obtain ⟨_, _, _, _, _, _, _, _, rfl, _⟩ := h; rfl) | (obtain ⟨_, _, _, _, _, _, _, _, _, rfl, _⟩ := h; rfl) | (obtain ⟨_, _, _, _, _, _, _, _, _, _, rfl, _⟩ := h; rfl) | (obtain ⟨_, _, _, _, _, _, _, _, _, _, _, rfl, _⟩ := h; rfl) | (obtain ⟨_, _, _, _, _, _, _, _, _, _, _, _, rfl, _⟩ := h; rfl) | (obtain ⟨_, _, _, _, _, _, _, _, _, _, _, _, _, rfl, _⟩ := h; rfl) | (obtain ⟨_, _, _, _, _, _, _, _, _, _, _, _, _, _, rfl, _⟩ := h; rfl) | (obtain ⟨_, _, _, _, _, _, _, _, _, _, _, _, _, _, _, rfl, _⟩ := h; rfl) | (obtain ⟨_, _, _, _, _, _, _, _, _, _, _, _, _, _, _, _, rfl, _⟩ := h; rfl) | (obtain ⟨_, _, _, _, _, _, _, _, _, _, _, _, _, _, _, _, _, rfl, _⟩ := h; rfl) | (obtain ⟨_, _, _, _, _, _, _, _, _, _, _, _, _, _, _, _, _, _, rfl, _⟩ := h; rfl) | (obtain ⟨_, _, _, _, _, _, _, _, _, _, _, _, _, _, _, _, _, _, _, rfl, _⟩ := h; rfl) | exact Mt.tk_len rfl h | (obtain ⟨_, h⟩ := h; exact Mt.tk_len rfl h) | (obtain ⟨_, _, h⟩ := h; exact Mt.tk_len rfl h) | (obtain ⟨_, _, _, h⟩ := h; exact Mt.tk_len rfl h) | (obtain ⟨_, _, _, _, h⟩ := h; exact Mt.tk_len rfl h) | (obtain ⟨_, _, _, _, _, h⟩ := h; exact Mt.tk_len rfl h) | (obtain ⟨_, _, _, _, _, _, h⟩ := h; exact Mt.tk_len rfl h) | (obtain ⟨_, _, _, _, _, _, _, h⟩ := h; exact Mt.tk_len rfl h) | (obtain ⟨_, _, _, _, _, _, _, _, h⟩ := h; exact Mt.tk_len rfl h) | (obtain ⟨_, _, _, _, _, _, _, _, _, h⟩ := h; exact Mt.tk_len rfl h) | (obtain ⟨_, _, _, _, _, _, _, _, _, _, h⟩ := h; exact Mt.tk_len rfl h) | (obtain ⟨_, _, _, _, _, _, _, _, _, _, _, h⟩ := h; exact Mt.tk_len rfl h) | (obtain ⟨_, _, _, _, _, _, _, _, _, _, _, _, h⟩ := h; exact Mt.tk_len rfl h) | (obtain ⟨_, _, _, _, _, _, _, _, _, _, _, _, _, h⟩ := h; exact Mt.tk_len rfl h) | (obtain ⟨_, _, _, _, _, _, _, _, _, _, _, _, _, _, h⟩ := h; exact Mt.tk_len rfl h) | (obtain ⟨_, _, _, _, _, _, _, _, _, _, _, _, _, _, _, h⟩ := h; exact Mt.tk_len rfl h) | (obtain ⟨_, _, _, _, _, _, _, _, _, _, _, _, _, _, _, _, h⟩ := h; exact Mt.tk_len rfl h) | (obtain ⟨_, _, _, _, _, _, _, _, _, _, _, _, _, _, _, _, _, h⟩ := h; exact Mt.tk_len rfl h))) | (first | (obtain ⟨rfl, _⟩ := h; rfl) | (obtain ⟨_, _, _, _, ⟨_, _, rfl, _⟩, _⟩ := h; rfl) | (obtain ⟨_, rfl, _⟩ := h; rfl) | (obtain ⟨_, _, rfl, _⟩ := h; rfl) | (obtain ⟨_, _, _, rfl, _⟩ := h; rfl) | (obtain ⟨_, _, _, _, rfl, _⟩ := h; rfl) | (obtain ⟨_, _, _, _, _, rfl, _⟩ := h; rfl) | (obtain ⟨_, _, _, _, _, _, rfl, _⟩ := h; rfl) | (obtain ⟨_, _, _, _, _, _, _, rfl, _⟩ := h; rfl) | (obtain ⟨_, _, _, _, _, _, _, _, rfl, _⟩ := h; rfl) | (obtain ⟨_, _, _, _, _, _, _, _, _, rfl, _⟩ := h; rfl) | (obtain ⟨_, _, _, _, _, _, _, _, _, _, rfl, _⟩ := h; rfl) | (obtain ⟨_, _, _, _, _, _, _, _, _, _, _, rfl, _⟩ := h; rfl) | (obtain ⟨_, _, _, _, _, _, _, _, _, _, _, _, rfl, _⟩ := h; rfl) | (obtain ⟨_, _, _, _, _, _, _, _, _, _, _, _, _, rfl, _⟩ := h; rfl) | (obtain ⟨_, _, _, _, _, _, _, _, _, _, _, _, _, _, rfl, _⟩ := h; rfl) | (obtain ⟨_, _, _, _, _, _, _, _, _, _, _, _, _, _, _, rfl, _⟩ := h; rfl) | (obtain ⟨_, _, _, _, _, _, _, _, _, _, _, _, _, _, _, _, rfl, _⟩ := h; rfl) | (obtain ⟨_, _, _, _, _, _, _, _, _, _, _, _, _, _, _, _, _, rfl, _⟩ := h; rfl) | (obtain ⟨_, _, _, _, _, _, _, _, _, _, _, _, _, _, _, _, _, _, rfl, _⟩ := h; rfl) | (obtain ⟨_, _, _, _, _, _, _, _, _, _, _, _, _, _, _, _, _, _, _, rfl, _⟩ := h; rfl) | exact Mt.tk_len rfl h | (obtain ⟨_, h⟩ := h; exact Mt.tk_len rfl h) | (obtain ⟨_, _, h⟩ := h; exact Mt.tk_len rfl h) | (obtain ⟨_, _, _, h⟩ := h; exact Mt.tk_len rfl h) | (obtain ⟨_, _, _, _, h⟩ := h; exact Mt.tk_len rfl h) | (obtain ⟨_, _, _, _, _, h⟩ := h; exact Mt.tk_len rfl h) | (obtain ⟨_, _, _, _, _, _, h⟩ := h; exact Mt.tk_len rfl h) | (obtain ⟨_, _, _, _, _, _, _, h⟩ := h; exact Mt.tk_len rfl h) | (obtain ⟨_, _, _, _, _, _, _, _, h⟩ := h; exact Mt.tk_len rfl h) | (obtain ⟨_, _, _, _, _, _, _, _, _, h⟩ := h; exact Mt.tk_len rfl h) | (obtain ⟨_, _, _, _, _, _, _, _, _, _, h⟩ := h; exact Mt.tk_len rfl h) | (obtain ⟨_, _, _, _, _, _, _, _, _, _, _, h⟩ := h; exact Mt.tk_len rfl h) | (obtain ⟨_, _, _, _, _, _, _, _, _, _, _, _, h⟩ := h; exact Mt.tk_len rfl h) | (obtain ⟨_, _, _, _, _, _, _, _, _, _, _, _, _, h⟩ := h; exact Mt.tk_len rfl h) | (obtain ⟨_, _, _, _, _, _, _, _, _, _, _, _, _, _, h⟩ := h; exact Mt.tk_len rfl h) | (obtain ⟨_, _, _, _, _, _, _, _, _, _, _, _, _, _, _, h⟩ := h; exact Mt.tk_len rfl h) | (obtain ⟨_, _, _, _, _, _, _, _, _, _, _, _, _, _, _, _, h⟩ := h; exact Mt.tk_len rfl h) | (obtain ⟨_, _, _, _, _, _, _, _, _, _, _, _, _, _, _, _, _, h⟩ := h; exact Mt.tk_len rfl h))) (g_Gauge_stands K a) (fun f cdv A outer s H E hr => t_Gauge_stands T (ok_Gauge_arrivals T) (ok_Gauge_stand_by T) (ok_Stretch_init T) (ok_number_at T) hr) (fun ds S q _ _ h => r_Gauge_stands_live T ds S q h)
theorem ok_Gauge_stands (T : Txt K mg a) : MFn P w K mg base a.C_Gauge "stands" "Gauge.stands" s_Gauge_stands dv_Gauge_stands 3 ps_Gauge_stands (sp_Gauge_stands a) :=
  mfn_of T.cl_Gauge T.b_Gauge_stands sc_Gauge_stands (by intro ds S q h; obtain ⟨_, _, _, _, _, _, _, _, rfl, _⟩ := h; rfl) (g_Gauge_stands K a) (fun f cdv A outer s H E hr => t_Gauge_stands T (ok_Gauge_arrivals T) (ok_Gauge_stand_by T) (ok_Stretch_init T) (ok_number_at T) hr) (rf_Gauge_stands T)
theorem ok__law_feed (T : Txt K mg a) : Fnc P w K mg base "_law_feed" s__law_feed dv__law_feed 1 ps__law_feed (sp__law_feed a) :=
  fnc_of0 T.b__law_feed sc__law_feed (by intro ds S q h; first | exact False.elim h | (cases h with | inl h => (first | (obtain ⟨rfl, _⟩ := h; rfl) | (obtain ⟨_, _, _, _, ⟨_, _, rfl, _⟩, _⟩ := h; rfl) | (obtain ⟨_, rfl, _⟩ := h; rfl) | (obtain ⟨_, _, rfl, _⟩ := h; rfl) | (obtain ⟨_, _, _, rfl, _⟩ := h; rfl) | (obtain ⟨_, _, _, _, rfl, _⟩ := h; rfl) | (obtain ⟨_, _, _, _, _, rfl, _⟩ := h; rfl) | (obtain ⟨_, _, _, _, _, _, rfl, _⟩ := h; rfl) | (obtain ⟨_, _, _, _, _, _, _, rfl, _⟩ := h; rfl) | (obtain ⟨_, _, _, _, _, _, _, _, rfl, _⟩ := h; rfl) | (obtain ⟨_, _, _, _, _, _, _, _, _, rfl, _⟩ := h; rfl) | (obtain ⟨_, _, _, _, _, _, _, _, _, _, rfl, _⟩ := h; rfl) | (obtain ⟨_, _, _, _, _, _, _, _, _, _, _, rfl, _⟩ := h; rfl) | (obtain ⟨_, _, _, _, _, _, _, _, _, _, _, _, rfl, _⟩ := h; rfl) | (obtain ⟨_, _, _, _, _, _, _, _, _, _, _, _, _, rfl, _⟩ := h; rfl) | (obtain ⟨_, _, _, _, _, _, _, _, _, _, _, _, _, _, rfl, _⟩ := h; rfl) | (obtain ⟨_, _, _, _, _, _, _, _, _, _, _, _, _, _, _, rfl, _⟩ := h; rfl) | (obtain ⟨_, _, _, _, _, _, _, _, _, _, _, _, _, _, _, _, rfl, _⟩ := h; rfl) | (obtain ⟨_, _, _, _, _, _, _, _, _, _, _, _, _, _, _, _, _, rfl, _⟩ := h; rfl) | (obtain ⟨_, _, _, _, _, _, _, _, _, _, _, _, _, _, _, _, _, _, rfl, _⟩ := h; rfl) | (obtain ⟨_, _, _, _, _, _, _, _, _, _, _, _, _, _, _, _, _, _, _, rfl, _⟩ := h; rfl) | exact Mt.tk_len rfl h | (obtain ⟨_, h⟩ := h; exact Mt.tk_len rfl h) | (obtain ⟨_, _, h⟩ := h; exact Mt.tk_len rfl h) | (obtain ⟨_, _, _, h⟩ := h; exact Mt.tk_len rfl h) | (obtain ⟨_, _, _, _, h⟩ := h; exact Mt.tk_len rfl h) | (obtain ⟨_, _, _, _, _, h⟩ := h; exact Mt.tk_len rfl h) | (obtain ⟨_, _, _, _, _, _, h⟩ := h; exact Mt.tk_len rfl h) | (obtain ⟨_, _, _, _, _, _, _, h⟩ := h; exact Mt.tk_len rfl h) | (obtain ⟨_, _, _, _, _, _, _, _, h⟩ := h; exact Mt.tk_len rfl h) | (obtain ⟨_, _, _, _, _, _, _, _, _, h⟩ := h; exact Mt.tk_len rfl h) | (obtain ⟨_, _, _, _, _, _, _, _, _, _, h⟩ := h; exact Mt.tk_len rfl h) | (obtain ⟨_, _, _, _, _, _, _, _, _, _, _, h⟩ := h; exact Mt.tk_len rfl h) | (obtain ⟨_, _, _, _, _, _, _, _, _, _, _, _, h⟩ := h; exact Mt.tk_len rfl h) | (obtain ⟨_, _, _, _, _, _, _, _, _, _, _, _, _, h⟩ := h; exact Mt.tk_len rfl h) | (obtain ⟨_, _, _, _, _, _, _, _, _, _, _, _, _, _, h⟩ := h; exact Mt.tk_len rfl h) | (obtain ⟨_, _, _, _, _, _, _, _, _, _, _, _, _, _, _, h⟩ := h; exact Mt.tk_len rfl h) | (obtain ⟨_, _, _, _, _, _, _, _, _, _, _, _, _, _, _, _, h⟩ := h; exact Mt.tk_len rfl h) | (obtain ⟨_, _, _, _, _, _, _, _, _, _, _, _, _, _, _, _, _, h⟩ := h; exact Mt.tk_len rfl h)) | inr h => (first | (obtain ⟨rfl, _⟩ := h; rfl) | (obtain ⟨_, _, _, _, ⟨_, _, rfl, _⟩, _⟩ := h; rfl) | (obtain ⟨_, rfl, _⟩ := h; rfl) | (obtain ⟨_, _, rfl, _⟩ := h; rfl) | (obtain ⟨_, _, _, rfl, _⟩ := h; rfl) | (obtain ⟨_, _, _, _, rfl, _⟩ := h; rfl) | (obtain ⟨_, _, _, _, _, rfl, _⟩ := h; rfl) | (obtain ⟨_, _, _, _, _, _, rfl, _⟩ := h; rfl) | (obtain ⟨_, _, _, _, _, _, _, rfl, _⟩ := h; rfl) | (obtain ⟨_, _, _, _, _, _, _, _, rfl, _⟩ := h; rfl) | (obtain ⟨_, _, _, _, _, _, _, _, _, rfl, _⟩ := h; rfl) | (obtain ⟨_, _, _, _, _, _, _, _, _, _, rfl, _⟩ := h; rfl) | (obtain ⟨_, _, _, _, _, _, _, _, _, _, _, rfl, _⟩ := h; rfl) | (obtain ⟨_, _, _, _, _, _, _, _, _, _, _, _, rfl, _⟩ := h; rfl) | (obtain ⟨_, _, _, _, _, _, _, _, _, _, _, _, _, rfl, _⟩ := h; rfl) | (obtain ⟨_, _, _, _, _, _, _, _, _, _, _, _, _, _, rfl, _⟩ := h; rfl) | (obtain ⟨_, _, _, _, _, _, _, _, _, _, _, _, _, _, _, rfl, _⟩ := h; rfl) | (obtain ⟨_, _, _, _, _, _, _, _, _, _, _, _, _, _, _, _, rfl, _⟩ := h; rfl) | (obtain ⟨_, _, _, _, _, _, _, _, _, _, _, _, _, _, _, _, _, rfl, _⟩ := h; rfl) | (obtain ⟨_, _, _, _, _, _, _, _, _, _, _, _, _, _, _, _, _, _, rfl, _⟩ := h; rfl) | (obtain ⟨_, _, _, _, _, _, _, _, _, _, _, _, _, _, _, _, _, _, _, rfl, _⟩ := h; rfl) | exact Mt.tk_len rfl h | (obtain ⟨_, h⟩ := h; exact Mt.tk_len rfl h) | (obtain ⟨_, _, h⟩ := h; exact Mt.tk_len rfl h) | (obtain ⟨_, _, _, h⟩ := h; exact Mt.tk_len rfl h) | (obtain ⟨_, _, _, _, h⟩ := h; exact Mt.tk_len rfl h) | (obtain ⟨_, _, _, _, _, h⟩ := h; exact Mt.tk_len rfl h) | (obtain ⟨_, _, _, _, _, _, h⟩ := h; exact Mt.tk_len rfl h) | (obtain ⟨_, _, _, _, _, _, _, h⟩ := h; exact Mt.tk_len rfl h) | (obtain ⟨_, _, _, _, _, _, _, _, h⟩ := h; exact Mt.tk_len rfl h) | (obtain ⟨_, _, _, _, _, _, _, _, _, h⟩ := h; exact Mt.tk_len rfl h) | (obtain ⟨_, _, _, _, _, _, _, _, _, _, h⟩ := h; exact Mt.tk_len rfl h) | (obtain ⟨_, _, _, _, _, _, _, _, _, _, _, h⟩ := h; exact Mt.tk_len rfl h) | (obtain ⟨_, _, _, _, _, _, _, _, _, _, _, _, h⟩ := h; exact Mt.tk_len rfl h) | (obtain ⟨_, _, _, _, _, _, _, _, _, _, _, _, _, h⟩ := h; exact Mt.tk_len rfl h) | (obtain ⟨_, _, _, _, _, _, _, _, _, _, _, _, _, _, h⟩ := h; exact Mt.tk_len rfl h) | (obtain ⟨_, _, _, _, _, _, _, _, _, _, _, _, _, _, _, h⟩ := h; exact Mt.tk_len rfl h) | (obtain ⟨_, _, _, _, _, _, _, _, _, _, _, _, _, _, _, _, h⟩ := h; exact Mt.tk_len rfl h) | (obtain ⟨_, _, _, _, _, _, _, _, _, _, _, _, _, _, _, _, _, h⟩ := h; exact Mt.tk_len rfl h))) | (first | (obtain ⟨rfl, _⟩ := h; rfl) | (obtain ⟨_, _, _, _, ⟨_, _, rfl, _⟩, _⟩ := h; rfl) | (obtain ⟨_, rfl, _⟩ := h; rfl) | (obtain ⟨_, _, rfl, _⟩ := h; rfl) | (obtain ⟨_, _, _, rfl, _⟩ := h; rfl) | (obtain ⟨_, _, _, _, rfl, _⟩ := h; rfl) | (obtain ⟨_, _, _, _, _, rfl, _⟩ := h; rfl) | (obtain ⟨_, _, _, _, _, _, rfl, _⟩ := h; rfl) | (obtain ⟨_, _, _, _, _, _, _, rfl, _⟩ := h; rfl) | (obtain ⟨_, _, _, _, _, _, _, _, rfl, _⟩ := h; rfl) | (obtain ⟨_, _, _, _, _, _, _, _, _, rfl, _⟩ := h; rfl) | (obtain ⟨_, _, _, _, _, _, _, _, _, _, rfl, _⟩ := h; rfl) | (obtain ⟨_, _, _, _, _, _, _, _, _, _, _, rfl, _⟩ := h; rfl) | (obtain ⟨_, _, _, _, _, _, _, _, _, _, _, _, rfl, _⟩ := h; rfl) | (obtain ⟨_, _, _, _, _, _, _, _, _, _, _, _, _, rfl, _⟩ := h; rfl) | (obtain ⟨_, _, _, _, _, _, _, _, _, _, _, _, _, _, rfl, _⟩ := h; rfl) | (obtain ⟨_, _, _, _, _, _, _, _, _, _, _, _, _, _, _, rfl, _⟩ := h; rfl) | (obtain ⟨_, _, _, _, _, _, _, _, _, _, _, _, _, _, _, _, rfl, _⟩ := h; rfl) | (obtain ⟨_, _, _, _, _, _, _, _, _, _, _, _, _, _, _, _, _, rfl, _⟩ := h; rfl) | (obtain ⟨_, _, _, _, _, _, _, _, _, _, _, _, _, _, _, _, _, _, rfl, _⟩ := h; rfl) | (obtain ⟨_, _, _, _, _, _, _, _, _, _, _, _, _, _, _, _, _, _, _, rfl, _⟩ := h; rfl) | exact Mt.tk_len rfl h | (obtain ⟨_, h⟩ := h; exact Mt.tk_len rfl h) | (obtain ⟨_, _, h⟩ := h; exact Mt.tk_len rfl h) | (obtain ⟨_, _, _, h⟩ := h; exact Mt.tk_len rfl h) | (obtain ⟨_, _, _, _, h⟩ := h; exact Mt.tk_len rfl h) | (obtain ⟨_, _, _, _, _, h⟩ := h; exact Mt.tk_len rfl h) | (obtain ⟨_, _, _, _, _, _, h⟩ := h; exact Mt.tk_len rfl h) | (obtain ⟨_, _, _, _, _, _, _, h⟩ := h; exact Mt.tk_len rfl h) | (obtain ⟨_, _, _, _, _, _, _, _, h⟩ := h; exact Mt.tk_len rfl h) | (obtain ⟨_, _, _, _, _, _, _, _, _, h⟩ := h; exact Mt.tk_len rfl h) | (obtain ⟨_, _, _, _, _, _, _, _, _, _, h⟩ := h; exact Mt.tk_len rfl h) | (obtain ⟨_, _, _, _, _, _, _, _, _, _, _, h⟩ := h; exact Mt.tk_len rfl h) | (obtain ⟨_, _, _, _, _, _, _, _, _, _, _, _, h⟩ := h; exact Mt.tk_len rfl h) | (obtain ⟨_, _, _, _, _, _, _, _, _, _, _, _, _, h⟩ := h; exact Mt.tk_len rfl h) | (obtain ⟨_, _, _, _, _, _, _, _, _, _, _, _, _, _, h⟩ := h; exact Mt.tk_len rfl h) | (obtain ⟨_, _, _, _, _, _, _, _, _, _, _, _, _, _, _, h⟩ := h; exact Mt.tk_len rfl h) | (obtain ⟨_, _, _, _, _, _, _, _, _, _, _, _, _, _, _, _, h⟩ := h; exact Mt.tk_len rfl h) | (obtain ⟨_, _, _, _, _, _, _, _, _, _, _, _, _, _, _, _, _, h⟩ := h; exact Mt.tk_len rfl h))) (g__law_feed K a) (fun f cdv A outer s H E hr => t__law_feed T  hr) (fun ds S q _ _ h => r__law_feed ds S q h)
theorem ok__law_draw (T : Txt K mg a) : Fnc P w K mg base "_law_draw" s__law_draw dv__law_draw 1 ps__law_draw (sp__law_draw a) :=
  fnc_of0 T.b__law_draw sc__law_draw (by intro ds S q h; first | exact False.elim h | (cases h with | inl h => (first | (obtain ⟨rfl, _⟩ := h; rfl) | (obtain ⟨_, _, _, _, ⟨_, _, rfl, _⟩, _⟩ := h; rfl) | (obtain ⟨_, rfl, _⟩ := h; rfl) | (obtain ⟨_, _, rfl, _⟩ := h; rfl) | (obtain ⟨_, _, _, rfl, _⟩ := h; rfl) | (obtain ⟨_, _, _, _, rfl, _⟩ := h; rfl) | (obtain ⟨_, _, _, _, _, rfl, _⟩ := h; rfl) | (obtain ⟨_, _, _, _, _, _, rfl, _⟩ := h; rfl) | (obtain ⟨_, _, _, _, _, _, _, rfl, _⟩ := h; rfl) | (obtain ⟨_, _, _, _, _, _, _, _, rfl, _⟩ := h; rfl) | (obtain ⟨_, _, _, _, _, _, _, _, _, rfl, _⟩ := h; rfl) | (obtain ⟨_, _, _, _, _, _, _, _, _, _, rfl, _⟩ := h; rfl) | (obtain ⟨_, _, _, _, _, _, _, _, _, _, _, rfl, _⟩ := h; rfl) | (obtain ⟨_, _, _, _, _, _, _, _, _, _, _, _, rfl, _⟩ := h; rfl) | (obtain ⟨_, _, _, _, _, _, _, _, _, _, _, _, _, rfl, _⟩ := h; rfl) | (obtain ⟨_, _, _, _, _, _, _, _, _, _, _, _, _, _, rfl, _⟩ := h; rfl) | (obtain ⟨_, _, _, _, _, _, _, _, _, _, _, _, _, _, _, rfl, _⟩ := h; rfl) | (obtain ⟨_, _, _, _, _, _, _, _, _, _, _, _, _, _, _, _, rfl, _⟩ := h; rfl) | (obtain ⟨_, _, _, _, _, _, _, _, _, _, _, _, _, _, _, _, _, rfl, _⟩ := h; rfl) | (obtain ⟨_, _, _, _, _, _, _, _, _, _, _, _, _, _, _, _, _, _, rfl, _⟩ := h; rfl) | (obtain ⟨_, _, _, _, _, _, _, _, _, _, _, _, _, _, _, _, _, _, _, rfl, _⟩ := h; rfl) | exact Mt.tk_len rfl h | (obtain ⟨_, h⟩ := h; exact Mt.tk_len rfl h) | (obtain ⟨_, _, h⟩ := h; exact Mt.tk_len rfl h) | (obtain ⟨_, _, _, h⟩ := h; exact Mt.tk_len rfl h) | (obtain ⟨_, _, _, _, h⟩ := h; exact Mt.tk_len rfl h) | (obtain ⟨_, _, _, _, _, h⟩ := h; exact Mt.tk_len rfl h) | (obtain ⟨_, _, _, _, _, _, h⟩ := h; exact Mt.tk_len rfl h) | (obtain ⟨_, _, _, _, _, _, _, h⟩ := h; exact Mt.tk_len rfl h) | (obtain ⟨_, _, _, _, _, _, _, _, h⟩ := h; exact Mt.tk_len rfl h) | (obtain ⟨_, _, _, _, _, _, _, _, _, h⟩ := h; exact Mt.tk_len rfl h) | (obtain ⟨_, _, _, _, _, _, _, _, _, _, h⟩ := h; exact Mt.tk_len rfl h) | (obtain ⟨_, _, _, _, _, _, _, _, _, _, _, h⟩ := h; exact Mt.tk_len rfl h) | (obtain ⟨_, _, _, _, _, _, _, _, _, _, _, _, h⟩ := h; exact Mt.tk_len rfl h) | (obtain ⟨_, _, _, _, _, _, _, _, _, _, _, _, _, h⟩ := h; exact Mt.tk_len rfl h) | (obtain ⟨_, _, _, _, _, _, _, _, _, _, _, _, _, _, h⟩ := h; exact Mt.tk_len rfl h) | (obtain ⟨_, _, _, _, _, _, _, _, _, _, _, _, _, _, _, h⟩ := h; exact Mt.tk_len rfl h) | (obtain ⟨_, _, _, _, _, _, _, _, _, _, _, _, _, _, _, _, h⟩ := h; exact Mt.tk_len rfl h) | (obtain ⟨_, _, _, _, _, _, _, _, _, _, _, _, _, _, _, _, _, h⟩ := h; exact Mt.tk_len rfl h)) | inr h => (first | (obtain ⟨rfl, _⟩ := h; rfl) | (obtain ⟨_, _, _, _, ⟨_, _, rfl, _⟩, _⟩ := h; rfl) | (obtain ⟨_, rfl, _⟩ := h; rfl) | (obtain ⟨_, _, rfl, _⟩ := h; rfl) | (obtain ⟨_, _, _, rfl, _⟩ := h; rfl) | (obtain ⟨_, _, _, _, rfl, _⟩ := h; rfl) | (obtain ⟨_, _, _, _, _, rfl, _⟩ := h; rfl) | (obtain ⟨_, _, _, _, _, _, rfl, _⟩ := h; rfl) | (obtain ⟨_, _, _, _, _, _, _, rfl, _⟩ := h; rfl) | (obtain ⟨_, _, _, _, _, _, _, _, rfl, _⟩ := h; rfl) | (obtain ⟨_, _, _, _, _, _, _, _, _, rfl, _⟩ := h; rfl) | (obtain ⟨_, _, _, _, _, _, _, _, _, _, rfl, _⟩ := h; rfl) | (obtain ⟨_, _, _, _, _, _, _, _, _, _, _, rfl, _⟩ := h; rfl) | (obtain ⟨_, _, _, _, _, _, _, _, _, _, _, _, rfl, _⟩ := h; rfl) | (obtain ⟨_, _, _, _, _, _, _, _, _, _, _, _, _, rfl, _⟩ := h; rfl) | (obtain ⟨_, _, _, _, _, _, _, _, _, _, _, _, _, _, rfl, _⟩ := h; rfl) | (obtain ⟨_, _, _, _, _, _, _, _, _, _, _, _, _, _, _, rfl, _⟩ := h; rfl) | (obtain ⟨_, _, _, _, _, _, _, _, _, _, _, _, _, _, _, _, rfl, _⟩ := h; rfl) | (obtain ⟨_, _, _, _, _, _, _, _, _, _, _, _, _, _, _, _, _, rfl, _⟩ := h; rfl) | (obtain ⟨_, _, _, _, _, _, _, _, _, _, _, _, _, _, _, _, _, _, rfl, _⟩ := h; rfl) | (obtain ⟨_, _, _, _, _, _, _, _, _, _, _, _, _, _, _, _, _, _, _, rfl, _⟩ := h; rfl) | exact Mt.tk_len rfl h | (obtain ⟨_, h⟩ := h; exact Mt.tk_len rfl h) | (obtain ⟨_, _, h⟩ := h; exact Mt.tk_len rfl h) | (obtain ⟨_, _, _, h⟩ := h; exact Mt.tk_len rfl h) | (obtain ⟨_, _, _, _, h⟩ := h; exact Mt.tk_len rfl h) | (obtain ⟨_, _, _, _, _, h⟩ := h; exact Mt.tk_len rfl h) | (obtain ⟨_, _, _, _, _, _, h⟩ := h; exact Mt.tk_len rfl h) | (obtain ⟨_, _, _, _, _, _, _, h⟩ := h; exact Mt.tk_len rfl h) | (obtain ⟨_, _, _, _, _, _, _, _, h⟩ := h; exact Mt.tk_len rfl h) | (obtain ⟨_, _, _, _, _, _, _, _, _, h⟩ := h; exact Mt.tk_len rfl h) | (obtain ⟨_, _, _, _, _, _, _, _, _, _, h⟩ := h; exact Mt.tk_len rfl h) | (obtain ⟨_, _, _, _, _, _, _, _, _, _, _, h⟩ := h; exact Mt.tk_len rfl h) | (obtain ⟨_, _, _, _, _, _, _, _, _, _, _, _, h⟩ := h; exact Mt.tk_len rfl h) | (obtain ⟨_, _, _, _, _, _, _, _, _, _, _, _, _, h⟩ := h; exact Mt.tk_len rfl h) | (obtain ⟨_, _, _, _, _, _, _, _, _, _, _, _, _, _, h⟩ := h; exact Mt.tk_len rfl h) | (obtain ⟨_, _, _, _, _, _, _, _, _, _, _, _, _, _, _, h⟩ := h; exact Mt.tk_len rfl h) | (obtain ⟨_, _, _, _, _, _, _, _, _, _, _, _, _, _, _, _, h⟩ := h; exact Mt.tk_len rfl h) | (obtain ⟨_, _, _, _, _, _, _, _, _, _, _, _, _, _, _, _, _, h⟩ := h; exact Mt.tk_len rfl h))) | (first | (obtain ⟨rfl, _⟩ := h; rfl) | (obtain ⟨_, _, _, _, ⟨_, _, rfl, _⟩, _⟩ := h; rfl) | (obtain ⟨_, rfl, _⟩ := h; rfl) | (obtain ⟨_, _, rfl, _⟩ := h; rfl) | (obtain ⟨_, _, _, rfl, _⟩ := h; rfl) | (obtain ⟨_, _, _, _, rfl, _⟩ := h; rfl) | (obtain ⟨_, _, _, _, _, rfl, _⟩ := h; rfl) | (obtain ⟨_, _, _, _, _, _, rfl, _⟩ := h; rfl) | (obtain ⟨_, _, _, _, _, _, _, rfl, _⟩ := h; rfl) | (obtain ⟨_, _, _, _, _, _, _, _, rfl, _⟩ := h; rfl) | (obtain ⟨_, _, _, _, _, _, _, _, _, rfl, _⟩ := h; rfl) | (obtain ⟨_, _, _, _, _, _, _, _, _, _, rfl, _⟩ := h; rfl) | (obtain ⟨_, _, _, _, _, _, _, _, _, _, _, rfl, _⟩ := h; rfl) | (obtain ⟨_, _, _, _, _, _, _, _, _, _, _, _, rfl, _⟩ := h; rfl) | (obtain ⟨_, _, _, _, _, _, _, _, _, _, _, _, _, rfl, _⟩ := h; rfl) | (obtain ⟨_, _, _, _, _, _, _, _, _, _, _, _, _, _, rfl, _⟩ := h; rfl) | (obtain ⟨_, _, _, _, _, _, _, _, _, _, _, _, _, _, _, rfl, _⟩ := h; rfl) | (obtain ⟨_, _, _, _, _, _, _, _, _, _, _, _, _, _, _, _, rfl, _⟩ := h; rfl) | (obtain ⟨_, _, _, _, _, _, _, _, _, _, _, _, _, _, _, _, _, rfl, _⟩ := h; rfl) | (obtain ⟨_, _, _, _, _, _, _, _, _, _, _, _, _, _, _, _, _, _, rfl, _⟩ := h; rfl) | (obtain ⟨_, _, _, _, _, _, _, _, _, _, _, _, _, _, _, _, _, _, _, rfl, _⟩ := h; rfl) | exact Mt.tk_len rfl h | (obtain ⟨_, h⟩ := h; exact Mt.tk_len rfl h) | (obtain ⟨_, _, h⟩ := h; exact Mt.tk_len rfl h) | (obtain ⟨_, _, _, h⟩ := h; exact Mt.tk_len rfl h) | (obtain ⟨_, _, _, _, h⟩ := h; exact Mt.tk_len rfl h) | (obtain ⟨_, _, _, _, _, h⟩ := h; exact Mt.tk_len rfl h) | (obtain ⟨_, _, _, _, _, _, h⟩ := h; exact Mt.tk_len rfl h) | (obtain ⟨_, _, _, _, _, _, _, h⟩ := h; exact Mt.tk_len rfl h) | (obtain ⟨_, _, _, _, _, _, _, _, h⟩ := h; exact Mt.tk_len rfl h) | (obtain ⟨_, _, _, _, _, _, _, _, _, h⟩ := h; exact Mt.tk_len rfl h) | (obtain ⟨_, _, _, _, _, _, _, _, _, _, h⟩ := h; exact Mt.tk_len rfl h) | (obtain ⟨_, _, _, _, _, _, _, _, _, _, _, h⟩ := h; exact Mt.tk_len rfl h) | (obtain ⟨_, _, _, _, _, _, _, _, _, _, _, _, h⟩ := h; exact Mt.tk_len rfl h) | (obtain ⟨_, _, _, _, _, _, _, _, _, _, _, _, _, h⟩ := h; exact Mt.tk_len rfl h) | (obtain ⟨_, _, _, _, _, _, _, _, _, _, _, _, _, _, h⟩ := h; exact Mt.tk_len rfl h) | (obtain ⟨_, _, _, _, _, _, _, _, _, _, _, _, _, _, _, h⟩ := h; exact Mt.tk_len rfl h) | (obtain ⟨_, _, _, _, _, _, _, _, _, _, _, _, _, _, _, _, h⟩ := h; exact Mt.tk_len rfl h) | (obtain ⟨_, _, _, _, _, _, _, _, _, _, _, _, _, _, _, _, _, h⟩ := h; exact Mt.tk_len rfl h))) (g__law_draw K a) (fun f cdv A outer s H E hr => t__law_draw T  hr) (fun ds S q _ _ h => r__law_draw ds S q h)
theorem ok__law_of (T : Txt K mg a) : Fnc P w K mg base "_law_of" s__law_of dv__law_of 2 ps__law_of (sp__law_of a) :=
  fnc_of0 T.b__law_of sc__law_of (by intro ds S q h; first | exact False.elim h | (cases h with | inl h => (first | (obtain ⟨rfl, _⟩ := h; rfl) | (obtain ⟨_, _, _, _, ⟨_, _, rfl, _⟩, _⟩ := h; rfl) | (obtain ⟨_, rfl, _⟩ := h; rfl) | (obtain ⟨_, _, rfl, _⟩ := h; rfl) | (obtain ⟨_, _, _, rfl, _⟩ := h; rfl) | (obtain ⟨_, _, _, _, rfl, _⟩ := h; rfl) | (obtain ⟨_, _, _, _, _, rfl, _⟩ := h; rfl) | (obtain ⟨_, _, _, _, _, _, rfl, _⟩ := h; rfl) | (obtain ⟨_, _, _, _, _, _, _, rfl, _⟩ := h; rfl) | (obtain ⟨_, _, _, _, _, _, _, _, rfl, _⟩ := h; rfl) | (obtain ⟨_, _, _, _, _, _, _, _, _, rfl, _⟩ := h; rfl) | (obtain ⟨_, _, _, _, _, _, _, _, _, _, rfl, _⟩ := h; rfl) | (obtain ⟨_, _, _, _, _, _, _, _, _, _, _, rfl, _⟩ := h; rfl) | (obtain ⟨_, _, _, _, _, _, _, _, _, _, _, _, rfl, _⟩ := h; rfl) | (obtain ⟨_, _, _, _, _, _, _, _, _, _, _, _, _, rfl, _⟩ := h; rfl) | (obtain ⟨_, _, _, _, _, _, _, _, _, _, _, _, _, _, rfl, _⟩ := h; rfl) | (obtain ⟨_, _, _, _, _, _, _, _, _, _, _, _, _, _, _, rfl, _⟩ := h; rfl) | (obtain ⟨_, _, _, _, _, _, _, _, _, _, _, _, _, _, _, _, rfl, _⟩ := h; rfl) | (obtain ⟨_, _, _, _, _, _, _, _, _, _, _, _, _, _, _, _, _, rfl, _⟩ := h; rfl) | (obtain ⟨_, _, _, _, _, _, _, _, _, _, _, _, _, _, _, _, _, _, rfl, _⟩ := h; rfl) | (obtain ⟨_, _, _, _, _, _, _, _, _, _, _, _, _, _, _, _, _, _, _, rfl, _⟩ := h; rfl) | exact Mt.tk_len rfl h | (obtain ⟨_, h⟩ := h; exact Mt.tk_len rfl h) | (obtain ⟨_, _, h⟩ := h; exact Mt.tk_len rfl h) | (obtain ⟨_, _, _, h⟩ := h; exact Mt.tk_len rfl h) | (obtain ⟨_, _, _, _, h⟩ := h; exact Mt.tk_len rfl h) | (obtain ⟨_, _, _, _, _, h⟩ := h; exact Mt.tk_len rfl h) | (obtain ⟨_, _, _, _, _, _, h⟩ := h; exact Mt.tk_len rfl h) | (obtain ⟨_, _, _, _, _, _, _, h⟩ := h; exact Mt.tk_len rfl h) | (obtain ⟨_, _, _, _, _, _, _, _, h⟩ := h; exact Mt.tk_len rfl h) | (obtain ⟨_, _, _, _, _, _, _, _, _, h⟩ := h; exact Mt.tk_len rfl h) | (obtain ⟨_, _, _, _, _, _, _, _, _, _, h⟩ := h; exact Mt.tk_len rfl h) | (obtain ⟨_, _, _, _, _, _, _, _, _, _, _, h⟩ := h; exact Mt.tk_len rfl h) | (obtain ⟨_, _, _, _, _, _, _, _, _, _, _, _, h⟩ := h; exact Mt.tk_len rfl h) | (obtain ⟨_, _, _, _, _, _, _, _, _, _, _, _, _, h⟩ := h; exact Mt.tk_len rfl h) | (obtain ⟨_, _, _, _, _, _, _, _, _, _, _, _, _, _, h⟩ := h; exact Mt.tk_len rfl h) | (obtain ⟨_, _, _, _, _, _, _, _, _, _, _, _, _, _, _, h⟩ := h; exact Mt.tk_len rfl h) | (obtain ⟨_, _, _, _, _, _, _, _, _, _, _, _, _, _, _, _, h⟩ := h; exact Mt.tk_len rfl h) | (obtain ⟨_, _, _, _, _, _, _, _, _, _, _, _, _, _, _, _, _, h⟩ := h; exact Mt.tk_len rfl h)) | inr h => (first | (obtain ⟨rfl, _⟩ := h; rfl) | (obtain ⟨_, _, _, _, ⟨_, _, rfl, _⟩, _⟩ := h; rfl) | (obtain ⟨_, rfl, _⟩ := h; rfl) | (obtain ⟨_, _, rfl, _⟩ := h; rfl) | (obtain ⟨_, _, _, rfl, _⟩ := h; rfl) | (obtain ⟨_, _, _, _, rfl, _⟩ := h; rfl) | (obtain ⟨_, _, _, _, _, rfl, _⟩ := h; rfl) | (obtain ⟨_, _, _, _, _, _, rfl, _⟩ := h; rfl) | (obtain ⟨_, _, _, _, _, _, _, rfl, _⟩ := h; rfl) | (obtain ⟨_, _, _, _, _, _, _, _, rfl, _⟩ := h; rfl) | (obtain ⟨_, _, _, _, _, _, _, _, _, rfl, _⟩ := h; rfl) | (obtain ⟨_, _, _, _, _, _, _, _, _, _, rfl, _⟩ := h; rfl) | (obtain ⟨_, _, _, _, _, _, _, _, _, _, _, rfl, _⟩ := h; rfl) | (obtain ⟨_, _, _, _, _, _, _, _, _, _, _, _, rfl, _⟩ := h; rfl) | (obtain ⟨_, _, _, _, _, _, _, _, _, _, _, _, _, rfl, _⟩ := h; rfl) | (obtain ⟨_, _, _, _, _, _, _, _, _, _, _, _, _, _, rfl, _⟩ := h; rfl) | (obtain ⟨_, _, _, _, _, _, _, _, _, _, _, _, _, _, _, rfl, _⟩ := h; rfl) | (obtain ⟨_, _, _, _, _, _, _, _, _, _, _, _, _, _, _, _, rfl, _⟩ := h; rfl) | (obtain ⟨_, _, _, _, _, _, _, _, _, _, _, _, _, _, _, _, _, rfl, _⟩ := h; rfl) | (obtain ⟨_, _, _, _, _, _, _, _, _, _, _, _, _, _, _, _, _, _, rfl, _⟩ := h; rfl) | (obtain ⟨_, _, _, _, _, _, _, _, _, _, _, _, _, _, _, _, _, _, _, rfl, _⟩ := h; rfl) | exact Mt.tk_len rfl h | (obtain ⟨_, h⟩ := h; exact Mt.tk_len rfl h) | (obtain ⟨_, _, h⟩ := h; exact Mt.tk_len rfl h) | (obtain ⟨_, _, _, h⟩ := h; exact Mt.tk_len rfl h) | (obtain ⟨_, _, _, _, h⟩ := h; exact Mt.tk_len rfl h) | (obtain ⟨_, _, _, _, _, h⟩ := h; exact Mt.tk_len rfl h) | (obtain ⟨_, _, _, _, _, _, h⟩ := h; exact Mt.tk_len rfl h) | (obtain ⟨_, _, _, _, _, _, _, h⟩ := h; exact Mt.tk_len rfl h) | (obtain ⟨_, _, _, _, _, _, _, _, h⟩ := h; exact Mt.tk_len rfl h) | (obtain ⟨_, _, _, _, _, _, _, _, _, h⟩ := h; exact Mt.tk_len rfl h) | (obtain ⟨_, _, _, _, _, _, _, _, _, _, h⟩ := h; exact Mt.tk_len rfl h) | (obtain ⟨_, _, _, _, _, _, _, _, _, _, _, h⟩ := h; exact Mt.tk_len rfl h) | (obtain ⟨_, _, _, _, _, _, _, _, _, _, _, _, h⟩ := h; exact Mt.tk_len rfl h) | (obtain ⟨_, _, _, _, _, _, _, _, _, _, _, _, _, h⟩ := h; exact Mt.tk_len rfl h) | (obtain ⟨_, _, _, _, _, _, _, _, _, _, _, _, _, _, h⟩ := h; exact Mt.tk_len rfl h) | (obtain ⟨_, _, _, _, _, _, _, _, _, _, _, _, _, _, _, h⟩ := h; exact Mt.tk_len rfl h) | (obtain ⟨_, _, _, _, _, _, _, _, _, _, _, _, _, _, _, _, h⟩ := h; exact Mt.tk_len rfl h) | (obtain ⟨_, _, _, _, _, _, _, _, _, _, _, _, _, _, _, _, _, h⟩ := h; exact Mt.tk_len rfl h))) | (first | (obtain ⟨rfl, _⟩ := h; rfl) | (obtain ⟨_, _, _, _, ⟨_, _, rfl, _⟩, _⟩ := h; rfl) | (obtain ⟨_, rfl, _⟩ := h; rfl) | (obtain ⟨_, _, rfl, _⟩ := h; rfl) | (obtain ⟨_, _, _, rfl, _⟩ := h; rfl) | (obtain ⟨_, _, _, _, rfl, _⟩ := h; rfl) | (obtain ⟨_, _, _, _, _, rfl, _⟩ := h; rfl) | (obtain ⟨_, _, _, _, _, _, rfl, _⟩ := h; rfl) | (obtain ⟨_, _, _, _, _, _, _, rfl, _⟩ := h; rfl) | (obtain ⟨_, _, _, _, _, _, _, _, rfl, _⟩ := h; rfl) | (obtain ⟨_, _, _, _, _, _, _, _, _, rfl, _⟩ := h; rfl) | (obtain ⟨_, _, _, _, _, _, _, _, _, _, rfl, _⟩ := h; rfl) | (obtain ⟨_, _, _, _, _, _, _, _, _, _, _, rfl, _⟩ := h; rfl) | (obtain ⟨_, _, _, _, _, _, _, _, _, _, _, _, rfl, _⟩ := h; rfl) | (obtain ⟨_, _, _, _, _, _, _, _, _, _, _, _, _, rfl, _⟩ := h; rfl) | (obtain ⟨_, _, _, _, _, _, _, _, _, _, _, _, _, _, rfl, _⟩ := h; rfl) | (obtain ⟨_, _, _, _, _, _, _, _, _, _, _, _, _, _, _, rfl, _⟩ := h; rfl) | (obtain ⟨_, _, _, _, _, _, _, _, _, _, _, _, _, _, _, _, rfl, _⟩ := h; rfl) | (obtain ⟨_, _, _, _, _, _, _, _, _, _, _, _, _, _, _, _, _, rfl, _⟩ := h; rfl) | (obtain ⟨_, _, _, _, _, _, _, _, _, _, _, _, _, _, _, _, _, _, rfl, _⟩ := h; rfl) | (obtain ⟨_, _, _, _, _, _, _, _, _, _, _, _, _, _, _, _, _, _, _, rfl, _⟩ := h; rfl) | exact Mt.tk_len rfl h | (obtain ⟨_, h⟩ := h; exact Mt.tk_len rfl h) | (obtain ⟨_, _, h⟩ := h; exact Mt.tk_len rfl h) | (obtain ⟨_, _, _, h⟩ := h; exact Mt.tk_len rfl h) | (obtain ⟨_, _, _, _, h⟩ := h; exact Mt.tk_len rfl h) | (obtain ⟨_, _, _, _, _, h⟩ := h; exact Mt.tk_len rfl h) | (obtain ⟨_, _, _, _, _, _, h⟩ := h; exact Mt.tk_len rfl h) | (obtain ⟨_, _, _, _, _, _, _, h⟩ := h; exact Mt.tk_len rfl h) | (obtain ⟨_, _, _, _, _, _, _, _, h⟩ := h; exact Mt.tk_len rfl h) | (obtain ⟨_, _, _, _, _, _, _, _, _, h⟩ := h; exact Mt.tk_len rfl h) | (obtain ⟨_, _, _, _, _, _, _, _, _, _, h⟩ := h; exact Mt.tk_len rfl h) | (obtain ⟨_, _, _, _, _, _, _, _, _, _, _, h⟩ := h; exact Mt.tk_len rfl h) | (obtain ⟨_, _, _, _, _, _, _, _, _, _, _, _, h⟩ := h; exact Mt.tk_len rfl h) | (obtain ⟨_, _, _, _, _, _, _, _, _, _, _, _, _, h⟩ := h; exact Mt.tk_len rfl h) | (obtain ⟨_, _, _, _, _, _, _, _, _, _, _, _, _, _, h⟩ := h; exact Mt.tk_len rfl h) | (obtain ⟨_, _, _, _, _, _, _, _, _, _, _, _, _, _, _, h⟩ := h; exact Mt.tk_len rfl h) | (obtain ⟨_, _, _, _, _, _, _, _, _, _, _, _, _, _, _, _, h⟩ := h; exact Mt.tk_len rfl h) | (obtain ⟨_, _, _, _, _, _, _, _, _, _, _, _, _, _, _, _, _, h⟩ := h; exact Mt.tk_len rfl h))) (g__law_of K a) (fun f cdv A outer s H E hr => t__law_of T (ok__law_draw T) hr) (fun ds S q _ _ h => r__law_of ds S q h)
theorem ok__law_readings (T : Txt K mg a) : Fnc P w K mg base "_law_readings" s__law_readings dv__law_readings 3 ps__law_readings (sp__law_readings a) :=
  fnc_of T.b__law_readings sc__law_readings (by intro ds S q h; first | exact False.elim h | (cases h with | inl h => (first | (obtain ⟨rfl, _⟩ := h; rfl) | (obtain ⟨_, _, _, _, ⟨_, _, rfl, _⟩, _⟩ := h; rfl) | (obtain ⟨_, rfl, _⟩ := h; rfl) | (obtain ⟨_, _, rfl, _⟩ := h; rfl) | (obtain ⟨_, _, _, rfl, _⟩ := h; rfl) | (obtain ⟨_, _, _, _, rfl, _⟩ := h; rfl) | (obtain ⟨_, _, _, _, _, rfl, _⟩ := h; rfl) | (obtain ⟨_, _, _, _, _, _, rfl, _⟩ := h; rfl) | (obtain ⟨_, _, _, _, _, _, _, rfl, _⟩ := h; rfl) | (obtain ⟨_, _, _, _, _, _, _, _, rfl, _⟩ := h; rfl) | (obtain ⟨_, _, _, _, _, _, _, _, _, rfl, _⟩ := h; rfl) | (obtain ⟨_, _, _, _, _, _, _, _, _, _, rfl, _⟩ := h; rfl) | (obtain ⟨_, _, _, _, _, _, _, _, _, _, _, rfl, _⟩ := h; rfl) | (obtain ⟨_, _, _, _, _, _, _, _, _, _, _, _, rfl, _⟩ := h; rfl) | (obtain ⟨_, _, _, _, _, _, _, _, _, _, _, _, _, rfl, _⟩ := h; rfl) | (obtain ⟨_, _, _, _, _, _, _, _, _, _, _, _, _, _, rfl, _⟩ := h; rfl) | (obtain ⟨_, _, _, _, _, _, _, _, _, _, _, _, _, _, _, rfl, _⟩ := h; rfl) | (obtain ⟨_, _, _, _, _, _, _, _, _, _, _, _, _, _, _, _, rfl, _⟩ := h; rfl) | (obtain ⟨_, _, _, _, _, _, _, _, _, _, _, _, _, _, _, _, _, rfl, _⟩ := h; rfl) | (obtain ⟨_, _, _, _, _, _, _, _, _, _, _, _, _, _, _, _, _, _, rfl, _⟩ := h; rfl) | (obtain ⟨_, _, _, _, _, _, _, _, _, _, _, _, _, _, _, _, _, _, _, rfl, _⟩ := h; rfl) | exact Mt.tk_len rfl h | (obtain ⟨_, h⟩ := h; exact Mt.tk_len rfl h) | (obtain ⟨_, _, h⟩ := h; exact Mt.tk_len rfl h) | (obtain ⟨_, _, _, h⟩ := h; exact Mt.tk_len rfl h) | (obtain ⟨_, _, _, _, h⟩ := h; exact Mt.tk_len rfl h) | (obtain ⟨_, _, _, _, _, h⟩ := h; exact Mt.tk_len rfl h) | (obtain ⟨_, _, _, _, _, _, h⟩ := h; exact Mt.tk_len rfl h) | (obtain ⟨_, _, _, _, _, _, _, h⟩ := h; exact Mt.tk_len rfl h) | (obtain ⟨_, _, _, _, _, _, _, _, h⟩ := h; exact Mt.tk_len rfl h) | (obtain ⟨_, _, _, _, _, _, _, _, _, h⟩ := h; exact Mt.tk_len rfl h) | (obtain ⟨_, _, _, _, _, _, _, _, _, _, h⟩ := h; exact Mt.tk_len rfl h) | (obtain ⟨_, _, _, _, _, _, _, _, _, _, _, h⟩ := h; exact Mt.tk_len rfl h) | (obtain ⟨_, _, _, _, _, _, _, _, _, _, _, _, h⟩ := h; exact Mt.tk_len rfl h) | (obtain ⟨_, _, _, _, _, _, _, _, _, _, _, _, _, h⟩ := h; exact Mt.tk_len rfl h) | (obtain ⟨_, _, _, _, _, _, _, _, _, _, _, _, _, _, h⟩ := h; exact Mt.tk_len rfl h) | (obtain ⟨_, _, _, _, _, _, _, _, _, _, _, _, _, _, _, h⟩ := h; exact Mt.tk_len rfl h) | (obtain ⟨_, _, _, _, _, _, _, _, _, _, _, _, _, _, _, _, h⟩ := h; exact Mt.tk_len rfl h) | (obtain ⟨_, _, _, _, _, _, _, _, _, _, _, _, _, _, _, _, _, h⟩ := h; exact Mt.tk_len rfl h)) | inr h => (first | (obtain ⟨rfl, _⟩ := h; rfl) | (obtain ⟨_, _, _, _, ⟨_, _, rfl, _⟩, _⟩ := h; rfl) | (obtain ⟨_, rfl, _⟩ := h; rfl) | (obtain ⟨_, _, rfl, _⟩ := h; rfl) | (obtain ⟨_, _, _, rfl, _⟩ := h; rfl) | (obtain ⟨_, _, _, _, rfl, _⟩ := h; rfl) | (obtain ⟨_, _, _, _, _, rfl, _⟩ := h; rfl) | (obtain ⟨_, _, _, _, _, _, rfl, _⟩ := h; rfl) | (obtain ⟨_, _, _, _, _, _, _, rfl, _⟩ := h; rfl) | (obtain ⟨_, _, _, _, _, _, _, _, rfl, _⟩ := h; rfl) | (obtain ⟨_, _, _, _, _, _, _, _, _, rfl, _⟩ := h; rfl) | (obtain ⟨_, _, _, _, _, _, _, _, _, _, rfl, _⟩ := h; rfl) | (obtain ⟨_, _, _, _, _, _, _, _, _, _, _, rfl, _⟩ := h; rfl) | (obtain ⟨_, _, _, _, _, _, _, _, _, _, _, _, rfl, _⟩ := h; rfl) | (obtain ⟨_, _, _, _, _, _, _, _, _, _, _, _, _, rfl, _⟩ := h; rfl) | (obtain ⟨_, _, _, _, _, _, _, _, _, _, _, _, _, _, rfl, _⟩ := h; rfl) | (obtain ⟨_, _, _, _, _, _, _, _, _, _, _, _, _, _, _, rfl, _⟩ := h; rfl) | (obtain ⟨_, _, _, _, _, _, _, _, _, _, _, _, _, _, _, _, rfl, _⟩ := h; rfl) | (obtain ⟨_, _, _, _, _, _, _, _, _, _, _, _, _, _, _, _, _, rfl, _⟩ := h; rfl) | (obtain ⟨_, _, _, _, _, _, _, _, _, _, _, _, _, _, _, _, _, _, rfl, _⟩ := h; rfl) | (obtain ⟨_, _, _, _, _, _, _, _, _, _, _, _, _, _, _, _, _, _, _, rfl, _⟩ := h; rfl) | exact Mt.tk_len rfl h | (obtain ⟨_, h⟩ := h; exact Mt.tk_len rfl h) | (obtain ⟨_, _, h⟩ := h; exact Mt.tk_len rfl h) | (obtain ⟨_, _, _, h⟩ := h; exact Mt.tk_len rfl h) | (obtain ⟨_, _, _, _, h⟩ := h; exact Mt.tk_len rfl h) | (obtain ⟨_, _, _, _, _, h⟩ := h; exact Mt.tk_len rfl h) | (obtain ⟨_, _, _, _, _, _, h⟩ := h; exact Mt.tk_len rfl h) | (obtain ⟨_, _, _, _, _, _, _, h⟩ := h; exact Mt.tk_len rfl h) | (obtain ⟨_, _, _, _, _, _, _, _, h⟩ := h; exact Mt.tk_len rfl h) | (obtain ⟨_, _, _, _, _, _, _, _, _, h⟩ := h; exact Mt.tk_len rfl h) | (obtain ⟨_, _, _, _, _, _, _, _, _, _, h⟩ := h; exact Mt.tk_len rfl h) | (obtain ⟨_, _, _, _, _, _, _, _, _, _, _, h⟩ := h; exact Mt.tk_len rfl h) | (obtain ⟨_, _, _, _, _, _, _, _, _, _, _, _, h⟩ := h; exact Mt.tk_len rfl h) | (obtain ⟨_, _, _, _, _, _, _, _, _, _, _, _, _, h⟩ := h; exact Mt.tk_len rfl h) | (obtain ⟨_, _, _, _, _, _, _, _, _, _, _, _, _, _, h⟩ := h; exact Mt.tk_len rfl h) | (obtain ⟨_, _, _, _, _, _, _, _, _, _, _, _, _, _, _, h⟩ := h; exact Mt.tk_len rfl h) | (obtain ⟨_, _, _, _, _, _, _, _, _, _, _, _, _, _, _, _, h⟩ := h; exact Mt.tk_len rfl h) | (obtain ⟨_, _, _, _, _, _, _, _, _, _, _, _, _, _, _, _, _, h⟩ := h; exact Mt.tk_len rfl h))) | (first | (obtain ⟨rfl, _⟩ := h; rfl) | (obtain ⟨_, _, _, _, ⟨_, _, rfl, _⟩, _⟩ := h; rfl) | (obtain ⟨_, rfl, _⟩ := h; rfl) | (obtain ⟨_, _, rfl, _⟩ := h; rfl) | (obtain ⟨_, _, _, rfl, _⟩ := h; rfl) | (obtain ⟨_, _, _, _, rfl, _⟩ := h; rfl) | (obtain ⟨_, _, _, _, _, rfl, _⟩ := h; rfl) | (obtain ⟨_, _, _, _, _, _, rfl, _⟩ := h; rfl) | (obtain ⟨_, _, _, _, _, _, _, rfl, _⟩ := h; rfl) | (obtain ⟨_, _, _, _, _, _, _, _, rfl, _⟩ := h; rfl) | (obtain ⟨_, _, _, _, _, _, _, _, _, rfl, _⟩ := h; rfl) | (obtain ⟨_, _, _, _, _, _, _, _, _, _, rfl, _⟩ := h; rfl) | (obtain ⟨_, _, _, _, _, _, _, _, _, _, _, rfl, _⟩ := h; rfl) | (obtain ⟨_, _, _, _, _, _, _, _, _, _, _, _, rfl, _⟩ := h; rfl) | (obtain ⟨_, _, _, _, _, _, _, _, _, _, _, _, _, rfl, _⟩ := h; rfl) | (obtain ⟨_, _, _, _, _, _, _, _, _, _, _, _, _, _, rfl, _⟩ := h; rfl) | (obtain ⟨_, _, _, _, _, _, _, _, _, _, _, _, _, _, _, rfl, _⟩ := h; rfl) | (obtain ⟨_, _, _, _, _, _, _, _, _, _, _, _, _, _, _, _, rfl, _⟩ := h; rfl) | (obtain ⟨_, _, _, _, _, _, _, _, _, _, _, _, _, _, _, _, _, rfl, _⟩ := h; rfl) | (obtain ⟨_, _, _, _, _, _, _, _, _, _, _, _, _, _, _, _, _, _, rfl, _⟩ := h; rfl) | (obtain ⟨_, _, _, _, _, _, _, _, _, _, _, _, _, _, _, _, _, _, _, rfl, _⟩ := h; rfl) | exact Mt.tk_len rfl h | (obtain ⟨_, h⟩ := h; exact Mt.tk_len rfl h) | (obtain ⟨_, _, h⟩ := h; exact Mt.tk_len rfl h) | (obtain ⟨_, _, _, h⟩ := h; exact Mt.tk_len rfl h) | (obtain ⟨_, _, _, _, h⟩ := h; exact Mt.tk_len rfl h) | (obtain ⟨_, _, _, _, _, h⟩ := h; exact Mt.tk_len rfl h) | (obtain ⟨_, _, _, _, _, _, h⟩ := h; exact Mt.tk_len rfl h) | (obtain ⟨_, _, _, _, _, _, _, h⟩ := h; exact Mt.tk_len rfl h) | (obtain ⟨_, _, _, _, _, _, _, _, h⟩ := h; exact Mt.tk_len rfl h) | (obtain ⟨_, _, _, _, _, _, _, _, _, h⟩ := h; exact Mt.tk_len rfl h) | (obtain ⟨_, _, _, _, _, _, _, _, _, _, h⟩ := h; exact Mt.tk_len rfl h) | (obtain ⟨_, _, _, _, _, _, _, _, _, _, _, h⟩ := h; exact Mt.tk_len rfl h) | (obtain ⟨_, _, _, _, _, _, _, _, _, _, _, _, h⟩ := h; exact Mt.tk_len rfl h) | (obtain ⟨_, _, _, _, _, _, _, _, _, _, _, _, _, h⟩ := h; exact Mt.tk_len rfl h) | (obtain ⟨_, _, _, _, _, _, _, _, _, _, _, _, _, _, h⟩ := h; exact Mt.tk_len rfl h) | (obtain ⟨_, _, _, _, _, _, _, _, _, _, _, _, _, _, _, h⟩ := h; exact Mt.tk_len rfl h) | (obtain ⟨_, _, _, _, _, _, _, _, _, _, _, _, _, _, _, _, h⟩ := h; exact Mt.tk_len rfl h) | (obtain ⟨_, _, _, _, _, _, _, _, _, _, _, _, _, _, _, _, _, h⟩ := h; exact Mt.tk_len rfl h))) (g__law_readings K a) (fun f cdv A outer s H E hr => t__law_readings T (ok__law_draw T) (ok__law_of T) hr) (rf__law_readings)
theorem ok__law_bounds (T : Txt K mg a) : Fnc P w K mg base "_law_bounds" s__law_bounds dv__law_bounds 3 ps__law_bounds (sp__law_bounds a) :=
  fnc_of0 T.b__law_bounds sc__law_bounds (by intro ds S q h; first | exact False.elim h | (cases h with | inl h => (first | (obtain ⟨rfl, _⟩ := h; rfl) | (obtain ⟨_, _, _, _, ⟨_, _, rfl, _⟩, _⟩ := h; rfl) | (obtain ⟨_, rfl, _⟩ := h; rfl) | (obtain ⟨_, _, rfl, _⟩ := h; rfl) | (obtain ⟨_, _, _, rfl, _⟩ := h; rfl) | (obtain ⟨_, _, _, _, rfl, _⟩ := h; rfl) | (obtain ⟨_, _, _, _, _, rfl, _⟩ := h; rfl) | (obtain ⟨_, _, _, _, _, _, rfl, _⟩ := h; rfl) | (obtain ⟨_, _, _, _, _, _, _, rfl, _⟩ := h; rfl) | (obtain ⟨_, _, _, _, _, _, _, _, rfl, _⟩ := h; rfl) | (obtain ⟨_, _, _, _, _, _, _, _, _, rfl, _⟩ := h; rfl) | (obtain ⟨_, _, _, _, _, _, _, _, _, _, rfl, _⟩ := h; rfl) | (obtain ⟨_, _, _, _, _, _, _, _, _, _, _, rfl, _⟩ := h; rfl) | (obtain ⟨_, _, _, _, _, _, _, _, _, _, _, _, rfl, _⟩ := h; rfl) | (obtain ⟨_, _, _, _, _, _, _, _, _, _, _, _, _, rfl, _⟩ := h; rfl) | (obtain ⟨_, _, _, _, _, _, _, _, _, _, _, _, _, _, rfl, _⟩ := h; rfl) | (obtain ⟨_, _, _, _, _, _, _, _, _, _, _, _, _, _, _, rfl, _⟩ := h; rfl) | (obtain ⟨_, _, _, _, _, _, _, _, _, _, _, _, _, _, _, _, rfl, _⟩ := h; rfl) | (obtain ⟨_, _, _, _, _, _, _, _, _, _, _, _, _, _, _, _, _, rfl, _⟩ := h; rfl) | (obtain ⟨_, _, _, _, _, _, _, _, _, _, _, _, _, _, _, _, _, _, rfl, _⟩ := h; rfl) | (obtain ⟨_, _, _, _, _, _, _, _, _, _, _, _, _, _, _, _, _, _, _, rfl, _⟩ := h; rfl) | exact Mt.tk_len rfl h | (obtain ⟨_, h⟩ := h; exact Mt.tk_len rfl h) | (obtain ⟨_, _, h⟩ := h; exact Mt.tk_len rfl h) | (obtain ⟨_, _, _, h⟩ := h; exact Mt.tk_len rfl h) | (obtain ⟨_, _, _, _, h⟩ := h; exact Mt.tk_len rfl h) | (obtain ⟨_, _, _, _, _, h⟩ := h; exact Mt.tk_len rfl h) | (obtain ⟨_, _, _, _, _, _, h⟩ := h; exact Mt.tk_len rfl h) | (obtain ⟨_, _, _, _, _, _, _, h⟩ := h; exact Mt.tk_len rfl h) | (obtain ⟨_, _, _, _, _, _, _, _, h⟩ := h; exact Mt.tk_len rfl h) | (obtain ⟨_, _, _, _, _, _, _, _, _, h⟩ := h; exact Mt.tk_len rfl h) | (obtain ⟨_, _, _, _, _, _, _, _, _, _, h⟩ := h; exact Mt.tk_len rfl h) | (obtain ⟨_, _, _, _, _, _, _, _, _, _, _, h⟩ := h; exact Mt.tk_len rfl h) | (obtain ⟨_, _, _, _, _, _, _, _, _, _, _, _, h⟩ := h; exact Mt.tk_len rfl h) | (obtain ⟨_, _, _, _, _, _, _, _, _, _, _, _, _, h⟩ := h; exact Mt.tk_len rfl h) | (obtain ⟨_, _, _, _, _, _, _, _, _, _, _, _, _, _, h⟩ := h; exact Mt.tk_len rfl h) | (obtain ⟨_, _, _, _, _, _, _, _, _, _, _, _, _, _, _, h⟩ := h; exact Mt.tk_len rfl h) | (obtain ⟨_, _, _, _, _, _, _, _, _, _, _, _, _, _, _, _, h⟩ := h; exact Mt.tk_len rfl h) | (obtain ⟨_, _, _, _, _, _, _, _, _, _, _, _, _, _, _, _, _, h⟩ := h; exact Mt.tk_len rfl h)) | inr h => (first | (obtain ⟨rfl, _⟩ := h; rfl) | (obtain ⟨_, _, _, _, ⟨_, _, rfl, _⟩, _⟩ := h; rfl) | (obtain ⟨_, rfl, _⟩ := h; rfl) | (obtain ⟨_, _, rfl, _⟩ := h; rfl) | (obtain ⟨_, _, _, rfl, _⟩ := h; rfl) | (obtain ⟨_, _, _, _, rfl, _⟩ := h; rfl) | (obtain ⟨_, _, _, _, _, rfl, _⟩ := h; rfl) | (obtain ⟨_, _, _, _, _, _, rfl, _⟩ := h; rfl) | (obtain ⟨_, _, _, _, _, _, _, rfl, _⟩ := h; rfl) | (obtain ⟨_, _, _, _, _, _, _, _, rfl, _⟩ := h; rfl) | (obtain ⟨_, _, _, _, _, _, _, _, _, rfl, _⟩ := h; rfl) | (obtain ⟨_, _, _, _, _, _, _, _, _, _, rfl, _⟩ := h; rfl) | (obtain ⟨_, _, _, _, _, _, _, _, _, _, _, rfl, _⟩ := h; rfl) | (obtain ⟨_, _, _, _, _, _, _, _, _, _, _, _, rfl, _⟩ := h; rfl) | (obtain ⟨_, _, _, _, _, _, _, _, _, _, _, _, _, rfl, _⟩ := h; rfl) | (obtain ⟨_, _, _, _, _, _, _, _, _, _, _, _, _, _, rfl, _⟩ := h; rfl) | (obtain ⟨_, _, _, _, _, _, _, _, _, _, _, _, _, _, _, rfl, _⟩ := h; rfl) | (obtain ⟨_, _, _, _, _, _, _, _, _, _, _, _, _, _, _, _, rfl, _⟩ := h; rfl) | (obtain ⟨_, _, _, _, _, _, _, _, _, _, _, _, _, _, _, _, _, rfl, _⟩ := h; rfl) | (obtain ⟨_, _, _, _, _, _, _, _, _, _, _, _, _, _, _, _, _, _, rfl, _⟩ := h; rfl) | (obtain ⟨_, _, _, _, _, _, _, _, _, _, _, _, _, _, _, _, _, _, _, rfl, _⟩ := h; rfl) | exact Mt.tk_len rfl h | (obtain ⟨_, h⟩ := h; exact Mt.tk_len rfl h) | (obtain ⟨_, _, h⟩ := h; exact Mt.tk_len rfl h) | (obtain ⟨_, _, _, h⟩ := h; exact Mt.tk_len rfl h) | (obtain ⟨_, _, _, _, h⟩ := h; exact Mt.tk_len rfl h) | (obtain ⟨_, _, _, _, _, h⟩ := h; exact Mt.tk_len rfl h) | (obtain ⟨_, _, _, _, _, _, h⟩ := h; exact Mt.tk_len rfl h) | (obtain ⟨_, _, _, _, _, _, _, h⟩ := h; exact Mt.tk_len rfl h) | (obtain ⟨_, _, _, _, _, _, _, _, h⟩ := h; exact Mt.tk_len rfl h) | (obtain ⟨_, _, _, _, _, _, _, _, _, h⟩ := h; exact Mt.tk_len rfl h) | (obtain ⟨_, _, _, _, _, _, _, _, _, _, h⟩ := h; exact Mt.tk_len rfl h) | (obtain ⟨_, _, _, _, _, _, _, _, _, _, _, h⟩ := h; exact Mt.tk_len rfl h) | (obtain ⟨_, _, _, _, _, _, _, _, _, _, _, _, h⟩ := h; exact Mt.tk_len rfl h) | (obtain ⟨_, _, _, _, _, _, _, _, _, _, _, _, _, h⟩ := h; exact Mt.tk_len rfl h) | (obtain ⟨_, _, _, _, _, _, _, _, _, _, _, _, _, _, h⟩ := h; exact Mt.tk_len rfl h) | (obtain ⟨_, _, _, _, _, _, _, _, _, _, _, _, _, _, _, h⟩ := h; exact Mt.tk_len rfl h) | (obtain ⟨_, _, _, _, _, _, _, _, _, _, _, _, _, _, _, _, h⟩ := h; exact Mt.tk_len rfl h) | (obtain ⟨_, _, _, _, _, _, _, _, _, _, _, _, _, _, _, _, _, h⟩ := h; exact Mt.tk_len rfl h))) | (first | (obtain ⟨rfl, _⟩ := h; rfl) | (obtain ⟨_, _, _, _, ⟨_, _, rfl, _⟩, _⟩ := h; rfl) | (obtain ⟨_, rfl, _⟩ := h; rfl) | (obtain ⟨_, _, rfl, _⟩ := h; rfl) | (obtain ⟨_, _, _, rfl, _⟩ := h; rfl) | (obtain ⟨_, _, _, _, rfl, _⟩ := h; rfl) | (obtain ⟨_, _, _, _, _, rfl, _⟩ := h; rfl) | (obtain ⟨_, _, _, _, _, _, rfl, _⟩ := h; rfl) | (obtain ⟨_, _, _, _, _, _, _, rfl, _⟩ := h; rfl) | (obtain ⟨_, _, _, _, _, _, _, _, rfl, _⟩ := h; rfl) | (obtain ⟨_, _, _, _, _, _, _, _, _, rfl, _⟩ := h; rfl) | (obtain ⟨_, _, _, _, _, _, _, _, _, _, rfl, _⟩ := h; rfl) | (obtain ⟨_, _, _, _, _, _, _, _, _, _, _, rfl, _⟩ := h; rfl) | (obtain ⟨_, _, _, _, _, _, _, _, _, _, _, _, rfl, _⟩ := h; rfl) | (obtain ⟨_, _, _, _, _, _, _, _, _, _, _, _, _, rfl, _⟩ := h; rfl) | (obtain ⟨_, _, _, _, _, _, _, _, _, _, _, _, _, _, rfl, _⟩ := h; rfl) | (obtain ⟨_, _, _, _, _, _, _, _, _, _, _, _, _, _, _, rfl, _⟩ := h; rfl) | (obtain ⟨_, _, _, _, _, _, _, _, _, _, _, _, _, _, _, _, rfl, _⟩ := h; rfl) | (obtain ⟨_, _, _, _, _, _, _, _, _, _, _, _, _, _, _, _, _, rfl, _⟩ := h; rfl) | (obtain ⟨_, _, _, _, _, _, _, _, _, _, _, _, _, _, _, _, _, _, rfl, _⟩ := h; rfl) | (obtain ⟨_, _, _, _, _, _, _, _, _, _, _, _, _, _, _, _, _, _, _, rfl, _⟩ := h; rfl) | exact Mt.tk_len rfl h | (obtain ⟨_, h⟩ := h; exact Mt.tk_len rfl h) | (obtain ⟨_, _, h⟩ := h; exact Mt.tk_len rfl h) | (obtain ⟨_, _, _, h⟩ := h; exact Mt.tk_len rfl h) | (obtain ⟨_, _, _, _, h⟩ := h; exact Mt.tk_len rfl h) | (obtain ⟨_, _, _, _, _, h⟩ := h; exact Mt.tk_len rfl h) | (obtain ⟨_, _, _, _, _, _, h⟩ := h; exact Mt.tk_len rfl h) | (obtain ⟨_, _, _, _, _, _, _, h⟩ := h; exact Mt.tk_len rfl h) | (obtain ⟨_, _, _, _, _, _, _, _, h⟩ := h; exact Mt.tk_len rfl h) | (obtain ⟨_, _, _, _, _, _, _, _, _, h⟩ := h; exact Mt.tk_len rfl h) | (obtain ⟨_, _, _, _, _, _, _, _, _, _, h⟩ := h; exact Mt.tk_len rfl h) | (obtain ⟨_, _, _, _, _, _, _, _, _, _, _, h⟩ := h; exact Mt.tk_len rfl h) | (obtain ⟨_, _, _, _, _, _, _, _, _, _, _, _, h⟩ := h; exact Mt.tk_len rfl h) | (obtain ⟨_, _, _, _, _, _, _, _, _, _, _, _, _, h⟩ := h; exact Mt.tk_len rfl h) | (obtain ⟨_, _, _, _, _, _, _, _, _, _, _, _, _, _, h⟩ := h; exact Mt.tk_len rfl h) | (obtain ⟨_, _, _, _, _, _, _, _, _, _, _, _, _, _, _, h⟩ := h; exact Mt.tk_len rfl h) | (obtain ⟨_, _, _, _, _, _, _, _, _, _, _, _, _, _, _, _, h⟩ := h; exact Mt.tk_len rfl h) | (obtain ⟨_, _, _, _, _, _, _, _, _, _, _, _, _, _, _, _, _, h⟩ := h; exact Mt.tk_len rfl h))) (g__law_bounds K a) (fun f cdv A outer s H E hr => t__law_bounds T (ok__law_draw T) (ok__law_of T) hr) (fun ds S q _ _ h => r__law_bounds ds S q h)
theorem ok__law_last (T : Txt K mg a) : Fnc P w K mg base "_law_last" s__law_last dv__law_last 1 ps__law_last (sp__law_last a) :=
  fnc_of0 T.b__law_last sc__law_last (by intro ds S q h; obtain ⟨_, _, rfl, _⟩ := h; rfl) (g__law_last K a) (fun f cdv A outer s H E hr => t__law_last T  hr) (fun ds S q _ _ h => r__law_last ds S q h)
theorem ok__law_stand (T : Txt K mg a) : Fnc P w K mg base "_law_stand" s__law_stand dv__law_stand 2 ps__law_stand (sp__law_stand a) :=
  fnc_of0 T.b__law_stand sc__law_stand (by intro ds S q h; first | exact False.elim h | (cases h with | inl h => (first | (obtain ⟨rfl, _⟩ := h; rfl) | (obtain ⟨_, _, _, _, ⟨_, _, rfl, _⟩, _⟩ := h; rfl) | (obtain ⟨_, rfl, _⟩ := h; rfl) | (obtain ⟨_, _, rfl, _⟩ := h; rfl) | (obtain ⟨_, _, _, rfl, _⟩ := h; rfl) | (obtain ⟨_, _, _, _, rfl, _⟩ := h; rfl) | (obtain ⟨_, _, _, _, _, rfl, _⟩ := h; rfl) | (obtain ⟨_, _, _, _, _, _, rfl, _⟩ := h; rfl) | (obtain ⟨_, _, _, _, _, _, _, rfl, _⟩ := h; rfl) | (obtain ⟨_, _, _, _, _, _, _, _, rfl, _⟩ := h; rfl) | (obtain ⟨_, _, _, _, _, _, _, _, _, rfl, _⟩ := h; rfl) | (obtain ⟨_, _, _, _, _, _, _, _, _, _, rfl, _⟩ := h; rfl) | (obtain ⟨_, _, _, _, _, _, _, _, _, _, _, rfl, _⟩ := h; rfl) | (obtain ⟨_, _, _, _, _, _, _, _, _, _, _, _, rfl, _⟩ := h; rfl) | (obtain ⟨_, _, _, _, _, _, _, _, _, _, _, _, _, rfl, _⟩ := h; rfl) | (obtain ⟨_, _, _, _, _, _, _, _, _, _, _, _, _, _, rfl, _⟩ := h; rfl) | (obtain ⟨_, _, _, _, _, _, _, _, _, _, _, _, _, _, _, rfl, _⟩ := h; rfl) | (obtain ⟨_, _, _, _, _, _, _, _, _, _, _, _, _, _, _, _, rfl, _⟩ := h; rfl) | (obtain ⟨_, _, _, _, _, _, _, _, _, _, _, _, _, _, _, _, _, rfl, _⟩ := h; rfl) | (obtain ⟨_, _, _, _, _, _, _, _, _, _, _, _, _, _, _, _, _, _, rfl, _⟩ := h; rfl) | (obtain ⟨_, _, _, _, _, _, _, _, _, _, _, _, _, _, _, _, _, _, _, rfl, _⟩ := h; rfl) | exact Mt.tk_len rfl h | (obtain ⟨_, h⟩ := h; exact Mt.tk_len rfl h) | (obtain ⟨_, _, h⟩ := h; exact Mt.tk_len rfl h) | (obtain ⟨_, _, _, h⟩ := h; exact Mt.tk_len rfl h) | (obtain ⟨_, _, _, _, h⟩ := h; exact Mt.tk_len rfl h) | (obtain ⟨_, _, _, _, _, h⟩ := h; exact Mt.tk_len rfl h) | (obtain ⟨_, _, _, _, _, _, h⟩ := h; exact Mt.tk_len rfl h) | (obtain ⟨_, _, _, _, _, _, _, h⟩ := h; exact Mt.tk_len rfl h) | (obtain ⟨_, _, _, _, _, _, _, _, h⟩ := h; exact Mt.tk_len rfl h) | (obtain ⟨_, _, _, _, _, _, _, _, _, h⟩ := h; exact Mt.tk_len rfl h) | (obtain ⟨_, _, _, _, _, _, _, _, _, _, h⟩ := h; exact Mt.tk_len rfl h) | (obtain ⟨_, _, _, _, _, _, _, _, _, _, _, h⟩ := h; exact Mt.tk_len rfl h) | (obtain ⟨_, _, _, _, _, _, _, _, _, _, _, _, h⟩ := h; exact Mt.tk_len rfl h) | (obtain ⟨_, _, _, _, _, _, _, _, _, _, _, _, _, h⟩ := h; exact Mt.tk_len rfl h) | (obtain ⟨_, _, _, _, _, _, _, _, _, _, _, _, _, _, h⟩ := h; exact Mt.tk_len rfl h) | (obtain ⟨_, _, _, _, _, _, _, _, _, _, _, _, _, _, _, h⟩ := h; exact Mt.tk_len rfl h) | (obtain ⟨_, _, _, _, _, _, _, _, _, _, _, _, _, _, _, _, h⟩ := h; exact Mt.tk_len rfl h) | (obtain ⟨_, _, _, _, _, _, _, _, _, _, _, _, _, _, _, _, _, h⟩ := h; exact Mt.tk_len rfl h)) | inr h => (first | (obtain ⟨rfl, _⟩ := h; rfl) | (obtain ⟨_, _, _, _, ⟨_, _, rfl, _⟩, _⟩ := h; rfl) | (obtain ⟨_, rfl, _⟩ := h; rfl) | (obtain ⟨_, _, rfl, _⟩ := h; rfl) | (obtain ⟨_, _, _, rfl, _⟩ := h; rfl) | (obtain ⟨_, _, _, _, rfl, _⟩ := h; rfl) | (obtain ⟨_, _, _, _, _, rfl, _⟩ := h; rfl) | (obtain ⟨_, _, _, _, _, _, rfl, _⟩ := h; rfl) | (obtain ⟨_, _, _, _, _, _, _, rfl, _⟩ := h; rfl) | (obtain ⟨_, _, _, _, _, _, _, _, rfl, _⟩ := h; rfl) | (obtain ⟨_, _, _, _, _, _, _, _, _, rfl, _⟩ := h; rfl) | (obtain ⟨_, _, _, _, _, _, _, _, _, _, rfl, _⟩ := h; rfl) | (obtain ⟨_, _, _, _, _, _, _, _, _, _, _, rfl, _⟩ := h; rfl) | (obtain ⟨_, _, _, _, _, _, _, _, _, _, _, _, rfl, _⟩ := h; rfl) | (obtain ⟨_, _, _, _, _, _, _, _, _, _, _, _, _, rfl, _⟩ := h; rfl) | (obtain ⟨_, _, _, _, _, _, _, _, _, _, _, _, _, _, rfl, _⟩ := h; rfl) | (obtain ⟨_, _, _, _, _, _, _, _, _, _, _, _, _, _, _, rfl, _⟩ := h; rfl) | (obtain ⟨_, _, _, _, _, _, _, _, _, _, _, _, _, _, _, _, rfl, _⟩ := h; rfl) | (obtain ⟨_, _, _, _, _, _, _, _, _, _, _, _, _, _, _, _, _, rfl, _⟩ := h; rfl) | (obtain ⟨_, _, _, _, _, _, _, _, _, _, _, _, _, _, _, _, _, _, rfl, _⟩ := h; rfl) | (obtain ⟨_, _, _, _, _, _, _, _, _, _, _, _, _, _, _, _, _, _, _, rfl, _⟩ := h; rfl) | exact Mt.tk_len rfl h | (obtain ⟨_, h⟩ := h; exact Mt.tk_len rfl h) | (obtain ⟨_, _, h⟩ := h; exact Mt.tk_len rfl h) | (obtain ⟨_, _, _, h⟩ := h; exact Mt.tk_len rfl h) | (obtain ⟨_, _, _, _, h⟩ := h; exact Mt.tk_len rfl h) | (obtain ⟨_, _, _, _, _, h⟩ := h; exact Mt.tk_len rfl h) | (obtain ⟨_, _, _, _, _, _, h⟩ := h; exact Mt.tk_len rfl h) | (obtain ⟨_, _, _, _, _, _, _, h⟩ := h; exact Mt.tk_len rfl h) | (obtain ⟨_, _, _, _, _, _, _, _, h⟩ := h; exact Mt.tk_len rfl h) | (obtain ⟨_, _, _, _, _, _, _, _, _, h⟩ := h; exact Mt.tk_len rfl h) | (obtain ⟨_, _, _, _, _, _, _, _, _, _, h⟩ := h; exact Mt.tk_len rfl h) | (obtain ⟨_, _, _, _, _, _, _, _, _, _, _, h⟩ := h; exact Mt.tk_len rfl h) | (obtain ⟨_, _, _, _, _, _, _, _, _, _, _, _, h⟩ := h; exact Mt.tk_len rfl h) | (obtain ⟨_, _, _, _, _, _, _, _, _, _, _, _, _, h⟩ := h; exact Mt.tk_len rfl h) | (obtain ⟨_, _, _, _, _, _, _, _, _, _, _, _, _, _, h⟩ := h; exact Mt.tk_len rfl h) | (obtain ⟨_, _, _, _, _, _, _, _, _, _, _, _, _, _, _, h⟩ := h; exact Mt.tk_len rfl h) | (obtain ⟨_, _, _, _, _, _, _, _, _, _, _, _, _, _, _, _, h⟩ := h; exact Mt.tk_len rfl h) | (obtain ⟨_, _, _, _, _, _, _, _, _, _, _, _, _, _, _, _, _, h⟩ := h; exact Mt.tk_len rfl h))) | (first | (obtain ⟨rfl, _⟩ := h; rfl) | (obtain ⟨_, _, _, _, ⟨_, _, rfl, _⟩, _⟩ := h; rfl) | (obtain ⟨_, rfl, _⟩ := h; rfl) | (obtain ⟨_, _, rfl, _⟩ := h; rfl) | (obtain ⟨_, _, _, rfl, _⟩ := h; rfl) | (obtain ⟨_, _, _, _, rfl, _⟩ := h; rfl) | (obtain ⟨_, _, _, _, _, rfl, _⟩ := h; rfl) | (obtain ⟨_, _, _, _, _, _, rfl, _⟩ := h; rfl) | (obtain ⟨_, _, _, _, _, _, _, rfl, _⟩ := h; rfl) | (obtain ⟨_, _, _, _, _, _, _, _, rfl, _⟩ := h; rfl) | (obtain ⟨_, _, _, _, _, _, _, _, _, rfl, _⟩ := h; rfl) | (obtain ⟨_, _, _, _, _, _, _, _, _, _, rfl, _⟩ := h; rfl) | (obtain ⟨_, _, _, _, _, _, _, _, _, _, _, rfl, _⟩ := h; rfl) | (obtain ⟨_, _, _, _, _, _, _, _, _, _, _, _, rfl, _⟩ := h; rfl) | (obtain ⟨_, _, _, _, _, _, _, _, _, _, _, _, _, rfl, _⟩ := h; rfl) | (obtain ⟨_, _, _, _, _, _, _, _, _, _, _, _, _, _, rfl, _⟩ := h; rfl) | (obtain ⟨_, _, _, _, _, _, _, _, _, _, _, _, _, _, _, rfl, _⟩ := h; rfl) | (obtain ⟨_, _, _, _, _, _, _, _, _, _, _, _, _, _, _, _, rfl, _⟩ := h; rfl) | (obtain ⟨_, _, _, _, _, _, _, _, _, _, _, _, _, _, _, _, _, rfl, _⟩ := h; rfl) | (obtain ⟨_, _, _, _, _, _, _, _, _, _, _, _, _, _, _, _, _, _, rfl, _⟩ := h; rfl) | (obtain ⟨_, _, _, _, _, _, _, _, _, _, _, _, _, _, _, _, _, _, _, rfl, _⟩ := h; rfl) | exact Mt.tk_len rfl h | (obtain ⟨_, h⟩ := h; exact Mt.tk_len rfl h) | (obtain ⟨_, _, h⟩ := h; exact Mt.tk_len rfl h) | (obtain ⟨_, _, _, h⟩ := h; exact Mt.tk_len rfl h) | (obtain ⟨_, _, _, _, h⟩ := h; exact Mt.tk_len rfl h) | (obtain ⟨_, _, _, _, _, h⟩ := h; exact Mt.tk_len rfl h) | (obtain ⟨_, _, _, _, _, _, h⟩ := h; exact Mt.tk_len rfl h) | (obtain ⟨_, _, _, _, _, _, _, h⟩ := h; exact Mt.tk_len rfl h) | (obtain ⟨_, _, _, _, _, _, _, _, h⟩ := h; exact Mt.tk_len rfl h) | (obtain ⟨_, _, _, _, _, _, _, _, _, h⟩ := h; exact Mt.tk_len rfl h) | (obtain ⟨_, _, _, _, _, _, _, _, _, _, h⟩ := h; exact Mt.tk_len rfl h) | (obtain ⟨_, _, _, _, _, _, _, _, _, _, _, h⟩ := h; exact Mt.tk_len rfl h) | (obtain ⟨_, _, _, _, _, _, _, _, _, _, _, _, h⟩ := h; exact Mt.tk_len rfl h) | (obtain ⟨_, _, _, _, _, _, _, _, _, _, _, _, _, h⟩ := h; exact Mt.tk_len rfl h) | (obtain ⟨_, _, _, _, _, _, _, _, _, _, _, _, _, _, h⟩ := h; exact Mt.tk_len rfl h) | (obtain ⟨_, _, _, _, _, _, _, _, _, _, _, _, _, _, _, h⟩ := h; exact Mt.tk_len rfl h) | (obtain ⟨_, _, _, _, _, _, _, _, _, _, _, _, _, _, _, _, h⟩ := h; exact Mt.tk_len rfl h) | (obtain ⟨_, _, _, _, _, _, _, _, _, _, _, _, _, _, _, _, _, h⟩ := h; exact Mt.tk_len rfl h))) (g__law_stand K a) (fun f cdv A outer s H E hr => t__law_stand T (ok__law_last T) hr) (fun ds S q _ _ h => r__law_stand ds S q h)
theorem ok__law_edges (T : Txt K mg a) : Fnc P w K mg base "_law_edges" s__law_edges dv__law_edges 1 ps__law_edges (sp__law_edges a) :=
  fnc_of0 T.b__law_edges sc__law_edges (by intro ds S q h; first | exact False.elim h | (cases h with | inl h => (first | (obtain ⟨rfl, _⟩ := h; rfl) | (obtain ⟨_, _, _, _, ⟨_, _, rfl, _⟩, _⟩ := h; rfl) | (obtain ⟨_, rfl, _⟩ := h; rfl) | (obtain ⟨_, _, rfl, _⟩ := h; rfl) | (obtain ⟨_, _, _, rfl, _⟩ := h; rfl) | (obtain ⟨_, _, _, _, rfl, _⟩ := h; rfl) | (obtain ⟨_, _, _, _, _, rfl, _⟩ := h; rfl) | (obtain ⟨_, _, _, _, _, _, rfl, _⟩ := h; rfl) | (obtain ⟨_, _, _, _, _, _, _, rfl, _⟩ := h; rfl) | (obtain ⟨_, _, _, _, _, _, _, _, rfl, _⟩ := h; rfl) | (obtain ⟨_, _, _, _, _, _, _, _, _, rfl, _⟩ := h; rfl) | (obtain ⟨_, _, _, _, _, _, _, _, _, _, rfl, _⟩ := h; rfl) | (obtain ⟨_, _, _, _, _, _, _, _, _, _, _, rfl, _⟩ := h; rfl) | (obtain ⟨_, _, _, _, _, _, _, _, _, _, _, _, rfl, _⟩ := h; rfl) | (obtain ⟨_, _, _, _, _, _, _, _, _, _, _, _, _, rfl, _⟩ := h; rfl) | (obtain ⟨_, _, _, _, _, _, _, _, _, _, _, _, _, _, rfl, _⟩ := h; rfl) | (obtain ⟨_, _, _, _, _, _, _, _, _, _, _, _, _, _, _, rfl, _⟩ := h; rfl) | (obtain ⟨_, _, _, _, _, _, _, _, _, _, _, _, _, _, _, _, rfl, _⟩ := h; rfl) | (obtain ⟨_, _, _, _, _, _, _, _, _, _, _, _, _, _, _, _, _, rfl, _⟩ := h; rfl) | (obtain ⟨_, _, _, _, _, _, _, _, _, _, _, _, _, _, _, _, _, _, rfl, _⟩ := h; rfl) | (obtain ⟨_, _, _, _, _, _, _, _, _, _, _, _, _, _, _, _, _, _, _, rfl, _⟩ := h; rfl) | exact Mt.tk_len rfl h | (obtain ⟨_, h⟩ := h; exact Mt.tk_len rfl h) | (obtain ⟨_, _, h⟩ := h; exact Mt.tk_len rfl h) | (obtain ⟨_, _, _, h⟩ := h; exact Mt.tk_len rfl h) | (obtain ⟨_, _, _, _, h⟩ := h; exact Mt.tk_len rfl h) | (obtain ⟨_, _, _, _, _, h⟩ := h; exact Mt.tk_len rfl h) | (obtain ⟨_, _, _, _, _, _, h⟩ := h; exact Mt.tk_len rfl h) | (obtain ⟨_, _, _, _, _, _, _, h⟩ := h; exact Mt.tk_len rfl h) | (obtain ⟨_, _, _, _, _, _, _, _, h⟩ := h; exact Mt.tk_len rfl h) | (obtain ⟨_, _, _, _, _, _, _, _, _, h⟩ := h; exact Mt.tk_len rfl h) | (obtain ⟨_, _, _, _, _, _, _, _, _, _, h⟩ := h; exact Mt.tk_len rfl h) | (obtain ⟨_, _, _, _, _, _, _, _, _, _, _, h⟩ := h; exact Mt.tk_len rfl h) | (obtain ⟨_, _, _, _, _, _, _, _, _, _, _, _, h⟩ := h; exact Mt.tk_len rfl h) | (obtain ⟨_, _, _, _, _, _, _, _, _, _, _, _, _, h⟩ := h; exact Mt.tk_len rfl h) | (obtain ⟨_, _, _, _, _, _, _, _, _, _, _, _, _, _, h⟩ := h; exact Mt.tk_len rfl h) | (obtain ⟨_, _, _, _, _, _, _, _, _, _, _, _, _, _, _, h⟩ := h; exact Mt.tk_len rfl h) | (obtain ⟨_, _, _, _, _, _, _, _, _, _, _, _, _, _, _, _, h⟩ := h; exact Mt.tk_len rfl h) | (obtain ⟨_, _, _, _, _, _, _, _, _, _, _, _, _, _, _, _, _, h⟩ := h; exact Mt.tk_len rfl h)) | inr h => (first | (obtain ⟨rfl, _⟩ := h; rfl) | (obtain ⟨_, _, _, _, ⟨_, _, rfl, _⟩, _⟩ := h; rfl) | (obtain ⟨_, rfl, _⟩ := h; rfl) | (obtain ⟨_, _, rfl, _⟩ := h; rfl) | (obtain ⟨_, _, _, rfl, _⟩ := h; rfl) | (obtain ⟨_, _, _, _, rfl, _⟩ := h; rfl) | (obtain ⟨_, _, _, _, _, rfl, _⟩ := h; rfl) | (obtain ⟨_, _, _, _, _, _, rfl, _⟩ := h; rfl) | (obtain ⟨_, _, _, _, _, _, _, rfl, _⟩ := h; rfl) | (obtain ⟨_, _, _, _, _, _, _, _, rfl, _⟩ := h; rfl) | (obtain ⟨_, _, _, _, _, _, _, _, _, rfl, _⟩ := h; rfl) | (obtain ⟨_, _, _, _, _, _, _, _, _, _, rfl, _⟩ := h; rfl) | (obtain ⟨_, _, _, _, _, _, _, _, _, _, _, rfl, _⟩ := h; rfl) | (obtain ⟨_, _, _, _, _, _, _, _, _, _, _, _, rfl, _⟩ := h; rfl) | (obtain ⟨_, _, _, _, _, _, _, _, _, _, _, _, _, rfl, _⟩ := h; rfl) | (obtain ⟨_, _, _, _, _, _, _, _, _, _, _, _, _, _, rfl, _⟩ := h; rfl) | (obtain ⟨_, _, _, _, _, _, _, _, _, _, _, _, _, _, _, rfl, _⟩ := h; rfl) | (obtain ⟨_, _, _, _, _, _, _, _, _, _, _, _, _, _, _, _, rfl, _⟩ := h; rfl) | (obtain ⟨_, _, _, _, _, _, _, _, _, _, _, _, _, _, _, _, _, rfl, _⟩ := h; rfl) | (obtain ⟨_, _, _, _, _, _, _, _, _, _, _, _, _, _, _, _, _, _, rfl, _⟩ := h; rfl) | (obtain ⟨_, _, _, _, _, _, _, _, _, _, _, _, _, _, _, _, _, _, _, rfl, _⟩ := h; rfl) | exact Mt.tk_len rfl h | (obtain ⟨_, h⟩ := h; exact Mt.tk_len rfl h) | (obtain ⟨_, _, h⟩ := h; exact Mt.tk_len rfl h) | (obtain ⟨_, _, _, h⟩ := h; exact Mt.tk_len rfl h) | (obtain ⟨_, _, _, _, h⟩ := h; exact Mt.tk_len rfl h) | (obtain ⟨_, _, _, _, _, h⟩ := h; exact Mt.tk_len rfl h) | (obtain ⟨_, _, _, _, _, _, h⟩ := h; exact Mt.tk_len rfl h) | (obtain ⟨_, _, _, _, _, _, _, h⟩ := h; exact Mt.tk_len rfl h) | (obtain ⟨_, _, _, _, _, _, _, _, h⟩ := h; exact Mt.tk_len rfl h) | (obtain ⟨_, _, _, _, _, _, _, _, _, h⟩ := h; exact Mt.tk_len rfl h) | (obtain ⟨_, _, _, _, _, _, _, _, _, _, h⟩ := h; exact Mt.tk_len rfl h) | (obtain ⟨_, _, _, _, _, _, _, _, _, _, _, h⟩ := h; exact Mt.tk_len rfl h) | (obtain ⟨_, _, _, _, _, _, _, _, _, _, _, _, h⟩ := h; exact Mt.tk_len rfl h) | (obtain ⟨_, _, _, _, _, _, _, _, _, _, _, _, _, h⟩ := h; exact Mt.tk_len rfl h) | (obtain ⟨_, _, _, _, _, _, _, _, _, _, _, _, _, _, h⟩ := h; exact Mt.tk_len rfl h) | (obtain ⟨_, _, _, _, _, _, _, _, _, _, _, _, _, _, _, h⟩ := h; exact Mt.tk_len rfl h) | (obtain ⟨_, _, _, _, _, _, _, _, _, _, _, _, _, _, _, _, h⟩ := h; exact Mt.tk_len rfl h) | (obtain ⟨_, _, _, _, _, _, _, _, _, _, _, _, _, _, _, _, _, h⟩ := h; exact Mt.tk_len rfl h))) | (first | (obtain ⟨rfl, _⟩ := h; rfl) | (obtain ⟨_, _, _, _, ⟨_, _, rfl, _⟩, _⟩ := h; rfl) | (obtain ⟨_, rfl, _⟩ := h; rfl) | (obtain ⟨_, _, rfl, _⟩ := h; rfl) | (obtain ⟨_, _, _, rfl, _⟩ := h; rfl) | (obtain ⟨_, _, _, _, rfl, _⟩ := h; rfl) | (obtain ⟨_, _, _, _, _, rfl, _⟩ := h; rfl) | (obtain ⟨_, _, _, _, _, _, rfl, _⟩ := h; rfl) | (obtain ⟨_, _, _, _, _, _, _, rfl, _⟩ := h; rfl) | (obtain ⟨_, _, _, _, _, _, _, _, rfl, _⟩ := h; rfl) | (obtain ⟨_, _, _, _, _, _, _, _, _, rfl, _⟩ := h; rfl) | (obtain ⟨_, _, _, _, _, _, _, _, _, _, rfl, _⟩ := h; rfl) | (obtain ⟨_, _, _, _, _, _, _, _, _, _, _, rfl, _⟩ := h; rfl) | (obtain ⟨_, _, _, _, _, _, _, _, _, _, _, _, rfl, _⟩ := h; rfl) | (obtain ⟨_, _, _, _, _, _, _, _, _, _, _, _, _, rfl, _⟩ := h; rfl) | (obtain ⟨_, _, _, _, _, _, _, _, _, _, _, _, _, _, rfl, _⟩ := h; rfl) | (obtain ⟨_, _, _, _, _, _, _, _, _, _, _, _, _, _, _, rfl, _⟩ := h; rfl) | (obtain ⟨_, _, _, _, _, _, _, _, _, _, _, _, _, _, _, _, rfl, _⟩ := h; rfl) | (obtain ⟨_, _, _, _, _, _, _, _, _, _, _, _, _, _, _, _, _, rfl, _⟩ := h; rfl) | (obtain ⟨_, _, _, _, _, _, _, _, _, _, _, _, _, _, _, _, _, _, rfl, _⟩ := h; rfl) | (obtain ⟨_, _, _, _, _, _, _, _, _, _, _, _, _, _, _, _, _, _, _, rfl, _⟩ := h; rfl) | exact Mt.tk_len rfl h | (obtain ⟨_, h⟩ := h; exact Mt.tk_len rfl h) | (obtain ⟨_, _, h⟩ := h; exact Mt.tk_len rfl h) | (obtain ⟨_, _, _, h⟩ := h; exact Mt.tk_len rfl h) | (obtain ⟨_, _, _, _, h⟩ := h; exact Mt.tk_len rfl h) | (obtain ⟨_, _, _, _, _, h⟩ := h; exact Mt.tk_len rfl h) | (obtain ⟨_, _, _, _, _, _, h⟩ := h; exact Mt.tk_len rfl h) | (obtain ⟨_, _, _, _, _, _, _, h⟩ := h; exact Mt.tk_len rfl h) | (obtain ⟨_, _, _, _, _, _, _, _, h⟩ := h; exact Mt.tk_len rfl h) | (obtain ⟨_, _, _, _, _, _, _, _, _, h⟩ := h; exact Mt.tk_len rfl h) | (obtain ⟨_, _, _, _, _, _, _, _, _, _, h⟩ := h; exact Mt.tk_len rfl h) | (obtain ⟨_, _, _, _, _, _, _, _, _, _, _, h⟩ := h; exact Mt.tk_len rfl h) | (obtain ⟨_, _, _, _, _, _, _, _, _, _, _, _, h⟩ := h; exact Mt.tk_len rfl h) | (obtain ⟨_, _, _, _, _, _, _, _, _, _, _, _, _, h⟩ := h; exact Mt.tk_len rfl h) | (obtain ⟨_, _, _, _, _, _, _, _, _, _, _, _, _, _, h⟩ := h; exact Mt.tk_len rfl h) | (obtain ⟨_, _, _, _, _, _, _, _, _, _, _, _, _, _, _, h⟩ := h; exact Mt.tk_len rfl h) | (obtain ⟨_, _, _, _, _, _, _, _, _, _, _, _, _, _, _, _, h⟩ := h; exact Mt.tk_len rfl h) | (obtain ⟨_, _, _, _, _, _, _, _, _, _, _, _, _, _, _, _, _, h⟩ := h; exact Mt.tk_len rfl h))) (g__law_edges K a) (fun f cdv A outer s H E hr => t__law_edges T  hr) (fun ds S q _ _ h => r__law_edges ds S q h)
theorem ok__law_right (T : Txt K mg a) : Fnc P w K mg base "_law_right" s__law_right dv__law_right 3 ps__law_right (sp__law_right a) :=
  fnc_of0 T.b__law_right sc__law_right (by intro ds S q h; first | exact False.elim h | (cases h with | inl h => (first | (obtain ⟨rfl, _⟩ := h; rfl) | (obtain ⟨_, _, _, _, ⟨_, _, rfl, _⟩, _⟩ := h; rfl) | (obtain ⟨_, rfl, _⟩ := h; rfl) | (obtain ⟨_, _, rfl, _⟩ := h; rfl) | (obtain ⟨_, _, _, rfl, _⟩ := h; rfl) | (obtain ⟨_, _, _, _, rfl, _⟩ := h; rfl) | (obtain ⟨_, _, _, _, _, rfl, _⟩ := h; rfl) | (obtain ⟨_, _, _, _, _, _, rfl, _⟩ := h; rfl) | (obtain ⟨_, _, _, _, _, _, _, rfl, _⟩ := h; rfl) | (obtain ⟨_, _, _, _, _, _, _, _, rfl, _⟩ := h; rfl) | (obtain ⟨_, _, _, _, _, _, _, _, _, rfl, _⟩ := h; rfl) | (obtain ⟨_, _, _, _, _, _, _, _, _, _, rfl, _⟩ := h; rfl) | (obtain ⟨_, _, _, _, _, _, _, _, _, _, _, rfl, _⟩ := h; rfl) | (obtain ⟨_, _, _, _, _, _, _, _, _, _, _, _, rfl, _⟩ := h; rfl) | (obtain ⟨_, _, _, _, _, _, _, _, _, _, _, _, _, rfl, _⟩ := h; rfl) | (obtain ⟨_, _, _, _, _, _, _, _, _, _, _, _, _, _, rfl, _⟩ := h; rfl) | (obtain ⟨_, _, _, _, _, _, _, _, _, _, _, _, _, _, _, rfl, _⟩ := h; rfl) | (obtain ⟨_, _, _, _, _, _, _, _, _, _, _, _, _, _, _, _, rfl, _⟩ := h; rfl) | (obtain ⟨_, _, _, _, _, _, _, _, _, _, _, _, _, _, _, _, _, rfl, _⟩ := h; rfl) | (obtain ⟨_, _, _, _, _, _, _, _, _, _, _, _, _, _, _, _, _, _, rfl, _⟩ := h; rfl) | (obtain ⟨_, _, _, _, _, _, _, _, _, _, _, _, _, _, _, _, _, _, _, rfl, _⟩ := h; rfl) | exact Mt.tk_len rfl h | (obtain ⟨_, h⟩ := h; exact Mt.tk_len rfl h) | (obtain ⟨_, _, h⟩ := h; exact Mt.tk_len rfl h) | (obtain ⟨_, _, _, h⟩ := h; exact Mt.tk_len rfl h) | (obtain ⟨_, _, _, _, h⟩ := h; exact Mt.tk_len rfl h) | (obtain ⟨_, _, _, _, _, h⟩ := h; exact Mt.tk_len rfl h) | (obtain ⟨_, _, _, _, _, _, h⟩ := h; exact Mt.tk_len rfl h) | (obtain ⟨_, _, _, _, _, _, _, h⟩ := h; exact Mt.tk_len rfl h) | (obtain ⟨_, _, _, _, _, _, _, _, h⟩ := h; exact Mt.tk_len rfl h) | (obtain ⟨_, _, _, _, _, _, _, _, _, h⟩ := h; exact Mt.tk_len rfl h) | (obtain ⟨_, _, _, _, _, _, _, _, _, _, h⟩ := h; exact Mt.tk_len rfl h) | (obtain ⟨_, _, _, _, _, _, _, _, _, _, _, h⟩ := h; exact Mt.tk_len rfl h) | (obtain ⟨_, _, _, _, _, _, _, _, _, _, _, _, h⟩ := h; exact Mt.tk_len rfl h) | (obtain ⟨_, _, _, _, _, _, _, _, _, _, _, _, _, h⟩ := h; exact Mt.tk_len rfl h) | (obtain ⟨_, _, _, _, _, _, _, _, _, _, _, _, _, _, h⟩ := h; exact Mt.tk_len rfl h) | (obtain ⟨_, _, _, _, _, _, _, _, _, _, _, _, _, _, _, h⟩ := h; exact Mt.tk_len rfl h) | (obtain ⟨_, _, _, _, _, _, _, _, _, _, _, _, _, _, _, _, h⟩ := h; exact Mt.tk_len rfl h) | (obtain ⟨_, _, _, _, _, _, _, _, _, _, _, _, _, _, _, _, _, h⟩ := h; exact Mt.tk_len rfl h)) | inr h => (first | (obtain ⟨rfl, _⟩ := h; rfl) | (obtain ⟨_, _, _, _, ⟨_, _, rfl, _⟩, _⟩ := h; rfl) | (obtain ⟨_, rfl, _⟩ := h; rfl) | (obtain ⟨_, _, rfl, _⟩ := h; rfl) | (obtain ⟨_, _, _, rfl, _⟩ := h; rfl) | (obtain ⟨_, _, _, _, rfl, _⟩ := h; rfl) | (obtain ⟨_, _, _, _, _, rfl, _⟩ := h; rfl) | (obtain ⟨_, _, _, _, _, _, rfl, _⟩ := h; rfl) | (obtain ⟨_, _, _, _, _, _, _, rfl, _⟩ := h; rfl) | (obtain ⟨_, _, _, _, _, _, _, _, rfl, _⟩ := h; rfl) | (obtain ⟨_, _, _, _, _, _, _, _, _, rfl, _⟩ := h; rfl) | (obtain ⟨_, _, _, _, _, _, _, _, _, _, rfl, _⟩ := h; rfl) | (obtain ⟨_, _, _, _, _, _, _, _, _, _, _, rfl, _⟩ := h; rfl) | (obtain ⟨_, _, _, _, _, _, _, _, _, _, _, _, rfl, _⟩ := h; rfl) | (obtain ⟨_, _, _, _, _, _, _, _, _, _, _, _, _, rfl, _⟩ := h; rfl) | (obtain ⟨_, _, _, _, _, _, _, _, _, _, _, _, _, _, rfl, _⟩ := h; rfl) | (obtain ⟨_, _, _, _, _, _, _, _, _, _, _, _, _, _, _, rfl, _⟩ := h; rfl) | (obtain ⟨_, _, _, _, _, _, _, _, _, _, _, _, _, _, _, _, rfl, _⟩ := h; rfl) | (obtain ⟨_, _, _, _, _, _, _, _, _, _, _, _, _, _, _, _, _, rfl, _⟩ := h; rfl) | (obtain ⟨_, _, _, _, _, _, _, _, _, _, _, _, _, _, _, _, _, _, rfl, _⟩ := h; rfl) | (obtain ⟨_, _, _, _, _, _, _, _, _, _, _, _, _, _, _, _, _, _, _, rfl, _⟩ := h; rfl) | exact Mt.tk_len rfl h | (obtain ⟨_, h⟩ := h; exact Mt.tk_len rfl h) | (obtain ⟨_, _, h⟩ := h; exact Mt.tk_len rfl h) | (obtain ⟨_, _, _, h⟩ := h; exact Mt.tk_len rfl h) | (obtain ⟨_, _, _, _, h⟩ := h; exact Mt.tk_len rfl h) | (obtain ⟨_, _, _, _, _, h⟩ := h; exact Mt.tk_len rfl h) | (obtain ⟨_, _, _, _, _, _, h⟩ := h; exact Mt.tk_len rfl h) | (obtain ⟨_, _, _, _, _, _, _, h⟩ := h; exact Mt.tk_len rfl h) | (obtain ⟨_, _, _, _, _, _, _, _, h⟩ := h; exact Mt.tk_len rfl h) | (obtain ⟨_, _, _, _, _, _, _, _, _, h⟩ := h; exact Mt.tk_len rfl h) | (obtain ⟨_, _, _, _, _, _, _, _, _, _, h⟩ := h; exact Mt.tk_len rfl h) | (obtain ⟨_, _, _, _, _, _, _, _, _, _, _, h⟩ := h; exact Mt.tk_len rfl h) | (obtain ⟨_, _, _, _, _, _, _, _, _, _, _, _, h⟩ := h; exact Mt.tk_len rfl h) | (obtain ⟨_, _, _, _, _, _, _, _, _, _, _, _, _, h⟩ := h; exact Mt.tk_len rfl h) | (obtain ⟨_, _, _, _, _, _, _, _, _, _, _, _, _, _, h⟩ := h; exact Mt.tk_len rfl h) | (obtain ⟨_, _, _, _, _, _, _, _, _, _, _, _, _, _, _, h⟩ := h; exact Mt.tk_len rfl h) | (obtain ⟨_, _, _, _, _, _, _, _, _, _, _, _, _, _, _, _, h⟩ := h; exact Mt.tk_len rfl h) | (obtain ⟨_, _, _, _, _, _, _, _, _, _, _, _, _, _, _, _, _, h⟩ := h; exact Mt.tk_len rfl h))) | (first | (obtain ⟨rfl, _⟩ := h; rfl) | (obtain ⟨_, _, _, _, ⟨_, _, rfl, _⟩, _⟩ := h; rfl) | (obtain ⟨_, rfl, _⟩ := h; rfl) | (obtain ⟨_, _, rfl, _⟩ := h; rfl) | (obtain ⟨_, _, _, rfl, _⟩ := h; rfl) | (obtain ⟨_, _, _, _, rfl, _⟩ := h; rfl) | (obtain ⟨_, _, _, _, _, rfl, _⟩ := h; rfl) | (obtain ⟨_, _, _, _, _, _, rfl, _⟩ := h; rfl) | (obtain ⟨_, _, _, _, _, _, _, rfl, _⟩ := h; rfl) | (obtain ⟨_, _, _, _, _, _, _, _, rfl, _⟩ := h; rfl) | (obtain ⟨_, _, _, _, _, _, _, _, _, rfl, _⟩ := h; rfl) | (obtain ⟨_, _, _, _, _, _, _, _, _, _, rfl, _⟩ := h; rfl) | (obtain ⟨_, _, _, _, _, _, _, _, _, _, _, rfl, _⟩ := h; rfl) | (obtain ⟨_, _, _, _, _, _, _, _, _, _, _, _, rfl, _⟩ := h; rfl) | (obtain ⟨_, _, _, _, _, _, _, _, _, _, _, _, _, rfl, _⟩ := h; rfl) | (obtain ⟨_, _, _, _, _, _, _, _, _, _, _, _, _, _, rfl, _⟩ := h; rfl) | (obtain ⟨_, _, _, _, _, _, _, _, _, _, _, _, _, _, _, rfl, _⟩ := h; rfl) | (obtain ⟨_, _, _, _, _, _, _, _, _, _, _, _, _, _, _, _, rfl, _⟩ := h; rfl) | (obtain ⟨_, _, _, _, _, _, _, _, _, _, _, _, _, _, _, _, _, rfl, _⟩ := h; rfl) | (obtain ⟨_, _, _, _, _, _, _, _, _, _, _, _, _, _, _, _, _, _, rfl, _⟩ := h; rfl) | (obtain ⟨_, _, _, _, _, _, _, _, _, _, _, _, _, _, _, _, _, _, _, rfl, _⟩ := h; rfl) | exact Mt.tk_len rfl h | (obtain ⟨_, h⟩ := h; exact Mt.tk_len rfl h) | (obtain ⟨_, _, h⟩ := h; exact Mt.tk_len rfl h) | (obtain ⟨_, _, _, h⟩ := h; exact Mt.tk_len rfl h) | (obtain ⟨_, _, _, _, h⟩ := h; exact Mt.tk_len rfl h) | (obtain ⟨_, _, _, _, _, h⟩ := h; exact Mt.tk_len rfl h) | (obtain ⟨_, _, _, _, _, _, h⟩ := h; exact Mt.tk_len rfl h) | (obtain ⟨_, _, _, _, _, _, _, h⟩ := h; exact Mt.tk_len rfl h) | (obtain ⟨_, _, _, _, _, _, _, _, h⟩ := h; exact Mt.tk_len rfl h) | (obtain ⟨_, _, _, _, _, _, _, _, _, h⟩ := h; exact Mt.tk_len rfl h) | (obtain ⟨_, _, _, _, _, _, _, _, _, _, h⟩ := h; exact Mt.tk_len rfl h) | (obtain ⟨_, _, _, _, _, _, _, _, _, _, _, h⟩ := h; exact Mt.tk_len rfl h) | (obtain ⟨_, _, _, _, _, _, _, _, _, _, _, _, h⟩ := h; exact Mt.tk_len rfl h) | (obtain ⟨_, _, _, _, _, _, _, _, _, _, _, _, _, h⟩ := h; exact Mt.tk_len rfl h) | (obtain ⟨_, _, _, _, _, _, _, _, _, _, _, _, _, _, h⟩ := h; exact Mt.tk_len rfl h) | (obtain ⟨_, _, _, _, _, _, _, _, _, _, _, _, _, _, _, h⟩ := h; exact Mt.tk_len rfl h) | (obtain ⟨_, _, _, _, _, _, _, _, _, _, _, _, _, _, _, _, h⟩ := h; exact Mt.tk_len rfl h) | (obtain ⟨_, _, _, _, _, _, _, _, _, _, _, _, _, _, _, _, _, h⟩ := h; exact Mt.tk_len rfl h))) (g__law_right K a) (fun f cdv A outer s H E hr => t__law_right T (ok_Stretch_len T) (ok__law_edges T) (ok__law_stand T) hr) (fun ds S q _ _ h => r__law_right T ds S q h)
end
theorem all_mk {l : PySem.W.OpenLaw} {w : World} {K : PySem.W.Frag} {h : Heap} {mg : Str → Option Value} {fa : Addr} (X : K.In h) (G : h.Ns mainGlobals mg) (hfa_ : mg "law" = some (.ref fa)) (c : Hd.SaysL hqs K) :
    ∃ fd : FuncData, (∀ (s : Shared) (v : Value), BindsTo s fd ⟨[v], []⟩ [("_law_script", v)]) ∧ ∀ base : Heap, K.In base → base.Ns mainGlobals mg → FnG l.prog w K mg base CX0 165 fa fd ["_law_script"] (spOf K sp_law) := by
  have c0 := c ([], hfn0) (by simp [hqs])
  have cc0 := c (hfa0, []) (by simp [hqs])
  obtain ⟨fd_Stretch_init, F_Stretch_init⟩ := c0.def_ 0 (d := hd_Stretch_init) rfl
  obtain ⟨fd_Stretch_len, F_Stretch_len⟩ := c0.def_ 1 (d := hd_Stretch_len) rfl
  obtain ⟨fd_Stretch_eq, F_Stretch_eq⟩ := c0.def_ 2 (d := hd_Stretch_eq) rfl
  obtain ⟨fd_Stretch_repr, F_Stretch_repr⟩ := c0.def_ 3 (d := hd_Stretch_repr) rfl
  obtain ⟨fd_number_at, F_number_at⟩ := c0.def_ 4 (d := hd_number_at) rfl
  obtain ⟨fd_Gauge_init, F_Gauge_init⟩ := c0.def_ 5 (d := hd_Gauge_init) rfl
  obtain ⟨fd_Gauge_arrivals, F_Gauge_arrivals⟩ := c0.def_ 6 (d := hd_Gauge_arrivals) rfl
  obtain ⟨fd_Gauge_stand_by, F_Gauge_stand_by⟩ := c0.def_ 7 (d := hd_Gauge_stand_by) rfl
  obtain ⟨fd_Gauge_stands, F_Gauge_stands⟩ := c0.def_ 8 (d := hd_Gauge_stands) rfl
  obtain ⟨fd__law_feed, F__law_feed⟩ := c0.def_ 9 (d := hd__law_feed) rfl
  obtain ⟨fd__law_draw, F__law_draw⟩ := c0.def_ 10 (d := hd__law_draw) rfl
  obtain ⟨fd__law_of, F__law_of⟩ := c0.def_ 11 (d := hd__law_of) rfl
  obtain ⟨fd__law_readings, F__law_readings⟩ := c0.def_ 12 (d := hd__law_readings) rfl
  obtain ⟨fd__law_bounds, F__law_bounds⟩ := c0.def_ 13 (d := hd__law_bounds) rfl
  obtain ⟨fd__law_last, F__law_last⟩ := c0.def_ 14 (d := hd__law_last) rfl
  obtain ⟨fd__law_stand, F__law_stand⟩ := c0.def_ 15 (d := hd__law_stand) rfl
  obtain ⟨fd__law_edges, F__law_edges⟩ := c0.def_ 16 (d := hd__law_edges) rfl
  obtain ⟨fd__law_right, F__law_right⟩ := c0.def_ 17 (d := hd__law_right) rfl
  obtain ⟨fd_law, F_law⟩ := c0.def_ 18 (d := hd_law) rfl
  have aC_Stretch : PySem.W.nsIn K mainGlobals "Stretch" = some (some (.ref (He.ga K "Stretch"))) := of_decide_eq_true (cc0.fact 0 rfl)
  have aC_Gauge : PySem.W.nsIn K mainGlobals "Gauge" = some (some (.ref (He.ga K "Gauge"))) := of_decide_eq_true (cc0.fact 1 rfl)
  have a_Stretch_init : PySem.W.findIn K (.ref (He.ga K "Stretch")) "__init__" = some (some (.ref (He.fAd K ("Stretch", some "__init__")))) := of_decide_eq_true (cc0.fact 2 rfl)
  have i_Stretch_init : PySem.W.isFn K (.ref (He.fAd K ("Stretch", some "__init__"))) = true := cc0.fact 3 rfl
  have a_Stretch_len : PySem.W.findIn K (.ref (He.ga K "Stretch")) "__len__" = some (some (.ref (He.fAd K ("Stretch", some "__len__")))) := of_decide_eq_true (cc0.fact 4 rfl)
  have i_Stretch_len : PySem.W.isFn K (.ref (He.fAd K ("Stretch", some "__len__"))) = true := cc0.fact 5 rfl
  have a_Stretch_eq : PySem.W.findIn K (.ref (He.ga K "Stretch")) "__eq__" = some (some (.ref (He.fAd K ("Stretch", some "__eq__")))) := of_decide_eq_true (cc0.fact 6 rfl)
  have i_Stretch_eq : PySem.W.isFn K (.ref (He.fAd K ("Stretch", some "__eq__"))) = true := cc0.fact 7 rfl
  have a_Stretch_repr : PySem.W.findIn K (.ref (He.ga K "Stretch")) "__repr__" = some (some (.ref (He.fAd K ("Stretch", some "__repr__")))) := of_decide_eq_true (cc0.fact 8 rfl)
  have i_Stretch_repr : PySem.W.isFn K (.ref (He.fAd K ("Stretch", some "__repr__"))) = true := cc0.fact 9 rfl
  have a_number_at : PySem.W.nsIn K mainGlobals "number_at" = some (some (.ref (He.fAd K ("number_at", none)))) := of_decide_eq_true (cc0.fact 10 rfl)
  have a_Gauge_init : PySem.W.findIn K (.ref (He.ga K "Gauge")) "__init__" = some (some (.ref (He.fAd K ("Gauge", some "__init__")))) := of_decide_eq_true (cc0.fact 11 rfl)
  have i_Gauge_init : PySem.W.isFn K (.ref (He.fAd K ("Gauge", some "__init__"))) = true := cc0.fact 12 rfl
  have a_Gauge_arrivals : PySem.W.findIn K (.ref (He.ga K "Gauge")) "arrivals" = some (some (.ref (He.fAd K ("Gauge", some "arrivals")))) := of_decide_eq_true (cc0.fact 13 rfl)
  have i_Gauge_arrivals : PySem.W.isFn K (.ref (He.fAd K ("Gauge", some "arrivals"))) = true := cc0.fact 14 rfl
  have a_Gauge_stand_by : PySem.W.findIn K (.ref (He.ga K "Gauge")) "stand_by" = some (some (.ref (He.fAd K ("Gauge", some "stand_by")))) := of_decide_eq_true (cc0.fact 15 rfl)
  have i_Gauge_stand_by : PySem.W.isFn K (.ref (He.fAd K ("Gauge", some "stand_by"))) = true := cc0.fact 16 rfl
  have a_Gauge_stands : PySem.W.findIn K (.ref (He.ga K "Gauge")) "stands" = some (some (.ref (He.fAd K ("Gauge", some "stands")))) := of_decide_eq_true (cc0.fact 17 rfl)
  have i_Gauge_stands : PySem.W.isFn K (.ref (He.fAd K ("Gauge", some "stands"))) = true := cc0.fact 18 rfl
  have a__law_feed : PySem.W.nsIn K mainGlobals "_law_feed" = some (some (.ref (He.fAd K ("_law_feed", none)))) := of_decide_eq_true (cc0.fact 19 rfl)
  have a__law_draw : PySem.W.nsIn K mainGlobals "_law_draw" = some (some (.ref (He.fAd K ("_law_draw", none)))) := of_decide_eq_true (cc0.fact 20 rfl)
  have a__law_of : PySem.W.nsIn K mainGlobals "_law_of" = some (some (.ref (He.fAd K ("_law_of", none)))) := of_decide_eq_true (cc0.fact 21 rfl)
  have a__law_readings : PySem.W.nsIn K mainGlobals "_law_readings" = some (some (.ref (He.fAd K ("_law_readings", none)))) := of_decide_eq_true (cc0.fact 22 rfl)
  have a__law_bounds : PySem.W.nsIn K mainGlobals "_law_bounds" = some (some (.ref (He.fAd K ("_law_bounds", none)))) := of_decide_eq_true (cc0.fact 23 rfl)
  have a__law_last : PySem.W.nsIn K mainGlobals "_law_last" = some (some (.ref (He.fAd K ("_law_last", none)))) := of_decide_eq_true (cc0.fact 24 rfl)
  have a__law_stand : PySem.W.nsIn K mainGlobals "_law_stand" = some (some (.ref (He.fAd K ("_law_stand", none)))) := of_decide_eq_true (cc0.fact 25 rfl)
  have a__law_edges : PySem.W.nsIn K mainGlobals "_law_edges" = some (some (.ref (He.fAd K ("_law_edges", none)))) := of_decide_eq_true (cc0.fact 26 rfl)
  have a__law_right : PySem.W.nsIn K mainGlobals "_law_right" = some (some (.ref (He.fAd K ("_law_right", none)))) := of_decide_eq_true (cc0.fact 27 rfl)
  have a_law : PySem.W.nsIn K mainGlobals "law" = some (some (.ref (He.fAd K ("law", none)))) := of_decide_eq_true (cc0.fact 28 rfl)
  have pg_Stretch : PySem.W.plainGet K (He.ga K "Stretch") Str.empty = true := cc0.fact 29 rfl
  have hd_Stretch : PySem.W.hasDictIn K (He.ga K "Stretch") = true := cc0.fact 30 rfl
  have po_Stretch : PySem.W.plainOver K (He.ga K "Stretch") = true := cc0.fact 31 rfl
  have sa_Stretch : PySem.W.findIn K (.ref (He.ga K "Stretch")) "__setattr__" = some (some (.builtin "object.__setattr__")) := of_decide_eq_true (cc0.fact 32 rfl)
  have mk_Stretch : PySem.W.makesIn K (He.ga K "Stretch") = true := cc0.fact 33 rfl
  have kc_Stretch : PySem.W.keepIn K (.ref (He.ga K "Stretch")) = true := cc0.fact 34 rfl
  have pg_Gauge : PySem.W.plainGet K (He.ga K "Gauge") Str.empty = true := cc0.fact 35 rfl
  have hd_Gauge : PySem.W.hasDictIn K (He.ga K "Gauge") = true := cc0.fact 36 rfl
  have po_Gauge : PySem.W.plainOver K (He.ga K "Gauge") = true := cc0.fact 37 rfl
  have sa_Gauge : PySem.W.findIn K (.ref (He.ga K "Gauge")) "__setattr__" = some (some (.builtin "object.__setattr__")) := of_decide_eq_true (cc0.fact 38 rfl)
  have mk_Gauge : PySem.W.makesIn K (He.ga K "Gauge") = true := cc0.fact 39 rfl
  have kc_Gauge : PySem.W.keepIn K (.ref (He.ga K "Gauge")) = true := cc0.fact 40 rfl
  have zno_int : PySem.W.nsIn K mainGlobals "int" = some none := of_decide_eq_true (cc0.fact 41 rfl)
  have zno_isinstance : PySem.W.nsIn K mainGlobals "isinstance" = some none := of_decide_eq_true (cc0.fact 42 rfl)
  have zno_len : PySem.W.nsIn K mainGlobals "len" = some none := of_decide_eq_true (cc0.fact 43 rfl)
  have zno_list : PySem.W.nsIn K mainGlobals "list" = some none := of_decide_eq_true (cc0.fact 44 rfl)
  have zno_max : PySem.W.nsIn K mainGlobals "max" = some none := of_decide_eq_true (cc0.fact 45 rfl)
  have zno_range : PySem.W.nsIn K mainGlobals "range" = some none := of_decide_eq_true (cc0.fact 46 rfl)
  have zno_repr : PySem.W.nsIn K mainGlobals "repr" = some none := of_decide_eq_true (cc0.fact 47 rfl)
  have zno_set : PySem.W.nsIn K mainGlobals "set" = some none := of_decide_eq_true (cc0.fact 48 rfl)
  have zno_sorted : PySem.W.nsIn K mainGlobals "sorted" = some none := of_decide_eq_true (cc0.fact 49 rfl)
  have zno_zip : PySem.W.nsIn K mainGlobals "zip" = some none := of_decide_eq_true (cc0.fact 50 rfl)
  have zf_Stretch_first : PySem.W.findIn K (.ref (He.ga K "Stretch")) "first" = some none := of_decide_eq_true (cc0.fact 51 rfl)
  have zf_Stretch_behind : PySem.W.findIn K (.ref (He.ga K "Stretch")) "behind" = some none := of_decide_eq_true (cc0.fact 52 rfl)
  have zf_Gauge_lag : PySem.W.findIn K (.ref (He.ga K "Gauge")) "lag" = some none := of_decide_eq_true (cc0.fact 53 rfl)
  have zf_Gauge_high : PySem.W.findIn K (.ref (He.ga K "Gauge")) "high" = some none := of_decide_eq_true (cc0.fact 54 rfl)
  have zf_Gauge_top : PySem.W.findIn K (.ref (He.ga K "Gauge")) "top" = some none := of_decide_eq_true (cc0.fact 55 rfl)
  have zf_Gauge_thin : PySem.W.findIn K (.ref (He.ga K "Gauge")) "thin" = some none := of_decide_eq_true (cc0.fact 56 rfl)
  have zf_Gauge_thick : PySem.W.findIn K (.ref (He.ga K "Gauge")) "thick" = some none := of_decide_eq_true (cc0.fact 57 rfl)
  have icl_Stretch : PySem.W.isClsIn K (He.ga K "Stretch") = true := cc0.fact 58 rfl
  have ity_Stretch : PySem.W.typeIn K (.ref (He.ga K "Stretch")) = some (.type "type") := of_decide_eq_true (cc0.fact 59 rfl)
  have zkb_Stretch_NoneType : PySem.W.subIn K (.type "NoneType") (.ref (He.ga K "Stretch")) = some false := of_decide_eq_true (cc0.fact 60 rfl)
  have zkb_Stretch_bool : PySem.W.subIn K (.type "bool") (.ref (He.ga K "Stretch")) = some false := of_decide_eq_true (cc0.fact 61 rfl)
  have zkb_Stretch_int : PySem.W.subIn K (.type "int") (.ref (He.ga K "Stretch")) = some false := of_decide_eq_true (cc0.fact 62 rfl)
  have zkb_Stretch_str : PySem.W.subIn K (.type "str") (.ref (He.ga K "Stretch")) = some false := of_decide_eq_true (cc0.fact 63 rfl)
  have zkb_Stretch_tuple : PySem.W.subIn K (.type "tuple") (.ref (He.ga K "Stretch")) = some false := of_decide_eq_true (cc0.fact 64 rfl)
  have zkb_Stretch_list : PySem.W.subIn K (.type "list") (.ref (He.ga K "Stretch")) = some false := of_decide_eq_true (cc0.fact 65 rfl)
  have zkb_Stretch_dict : PySem.W.subIn K (.type "dict") (.ref (He.ga K "Stretch")) = some false := of_decide_eq_true (cc0.fact 66 rfl)
  have zkc_Gauge_Stretch : PySem.W.subIn K (.ref (He.ga K "Gauge")) (.ref (He.ga K "Stretch")) = some false := of_decide_eq_true (cc0.fact 67 rfl)
  have ykc_Gauge_Stretch : (Value.ref (He.ga K "Gauge") == Value.ref (He.ga K "Stretch")) = false := of_decide_eq_true (cc0.fact 68 rfl)
  have ia_Stretch : PySem.W.findIn K (.ref (He.ga K "Stretch")) "__class__" = some (some (.builtin "object.__class__")) := of_decide_eq_true (cc0.fact 69 rfl)
  have in_Stretch : PySem.W.specialIn K (.builtin "object.__class__") "__get__" = some (some (.builtin "getset_descriptor.__get__")) := of_decide_eq_true (cc0.fact 70 rfl)
  have it_Stretch : PySem.W.takesIn K (.builtin "object.__class__") = some true := of_decide_eq_true (cc0.fact 71 rfl)
  have im_Stretch : PySem.W.mroIn K (He.ga K "Stretch") (.type "object") = some true := of_decide_eq_true (cc0.fact 72 rfl)
  have ia_Gauge : PySem.W.findIn K (.ref (He.ga K "Gauge")) "__class__" = some (some (.builtin "object.__class__")) := of_decide_eq_true (cc0.fact 73 rfl)
  have in_Gauge : PySem.W.specialIn K (.builtin "object.__class__") "__get__" = some (some (.builtin "getset_descriptor.__get__")) := of_decide_eq_true (cc0.fact 70 rfl)
  have it_Gauge : PySem.W.takesIn K (.builtin "object.__class__") = some true := of_decide_eq_true (cc0.fact 71 rfl)
  have im_Gauge : PySem.W.mroIn K (He.ga K "Gauge") (.type "object") = some true := of_decide_eq_true (cc0.fact 74 rfl)
  have T : Txt K mg ⟨(He.ga K "Stretch"), (He.ga K "Gauge")⟩ := ⟨⟨(He.fAd K ("Stretch", some "__init__")), fd_Stretch_init, F_Stretch_init, ⟨mk_Stretch, a_Stretch_init, i_Stretch_init, kc_Stretch⟩⟩, ⟨(He.fAd K ("Stretch", some "__len__")), fd_Stretch_len, F_Stretch_len, ⟨a_Stretch_len, i_Stretch_len, F_Stretch_len.kp⟩⟩, ⟨(He.fAd K ("Stretch", some "__eq__")), fd_Stretch_eq, F_Stretch_eq, ⟨a_Stretch_eq, i_Stretch_eq, F_Stretch_eq.kp⟩⟩, ⟨(He.fAd K ("Stretch", some "__repr__")), fd_Stretch_repr, F_Stretch_repr, ⟨a_Stretch_repr, i_Stretch_repr, F_Stretch_repr.kp⟩⟩, ⟨(He.fAd K ("number_at", none)), fd_number_at, F_number_at, PySem.W.mg_of X G a_number_at⟩, ⟨(He.fAd K ("Gauge", some "__init__")), fd_Gauge_init, F_Gauge_init, ⟨mk_Gauge, a_Gauge_init, i_Gauge_init, kc_Gauge⟩⟩, ⟨(He.fAd K ("Gauge", some "arrivals")), fd_Gauge_arrivals, F_Gauge_arrivals, ⟨a_Gauge_arrivals, i_Gauge_arrivals, F_Gauge_arrivals.kp⟩⟩, ⟨(He.fAd K ("Gauge", some "stand_by")), fd_Gauge_stand_by, F_Gauge_stand_by, ⟨a_Gauge_stand_by, i_Gauge_stand_by, F_Gauge_stand_by.kp⟩⟩, ⟨(He.fAd K ("Gauge", some "stands")), fd_Gauge_stands, F_Gauge_stands, ⟨a_Gauge_stands, i_Gauge_stands, F_Gauge_stands.kp⟩⟩, ⟨(He.fAd K ("_law_feed", none)), fd__law_feed, F__law_feed, PySem.W.mg_of X G a__law_feed⟩, ⟨(He.fAd K ("_law_draw", none)), fd__law_draw, F__law_draw, PySem.W.mg_of X G a__law_draw⟩, ⟨(He.fAd K ("_law_of", none)), fd__law_of, F__law_of, PySem.W.mg_of X G a__law_of⟩, ⟨(He.fAd K ("_law_readings", none)), fd__law_readings, F__law_readings, PySem.W.mg_of X G a__law_readings⟩, ⟨(He.fAd K ("_law_bounds", none)), fd__law_bounds, F__law_bounds, PySem.W.mg_of X G a__law_bounds⟩, ⟨(He.fAd K ("_law_last", none)), fd__law_last, F__law_last, PySem.W.mg_of X G a__law_last⟩, ⟨(He.fAd K ("_law_stand", none)), fd__law_stand, F__law_stand, PySem.W.mg_of X G a__law_stand⟩, ⟨(He.fAd K ("_law_edges", none)), fd__law_edges, F__law_edges, PySem.W.mg_of X G a__law_edges⟩, ⟨(He.fAd K ("_law_right", none)), fd__law_right, F__law_right, PySem.W.mg_of X G a__law_right⟩, ⟨(He.fAd K ("law", none)), fd_law, F_law, PySem.W.mg_of X G a_law⟩, PySem.W.mg_of X G aC_Stretch, ⟨pg_Stretch, hd_Stretch, po_Stretch, sa_Stretch⟩, PySem.W.mg_of X G aC_Gauge, ⟨pg_Gauge, hd_Gauge, po_Gauge, sa_Gauge⟩, PySem.W.mg_none_of X G zno_int, PySem.W.mg_none_of X G zno_isinstance, PySem.W.mg_none_of X G zno_len, PySem.W.mg_none_of X G zno_list, PySem.W.mg_none_of X G zno_max, PySem.W.mg_none_of X G zno_range, PySem.W.mg_none_of X G zno_repr, PySem.W.mg_none_of X G zno_set, PySem.W.mg_none_of X G zno_sorted, PySem.W.mg_none_of X G zno_zip, ⟨⟨pg_Stretch, hd_Stretch, po_Stretch, sa_Stretch⟩, zf_Stretch_first⟩, ⟨⟨pg_Stretch, hd_Stretch, po_Stretch, sa_Stretch⟩, zf_Stretch_behind⟩, ⟨⟨pg_Gauge, hd_Gauge, po_Gauge, sa_Gauge⟩, zf_Gauge_lag⟩, ⟨⟨pg_Gauge, hd_Gauge, po_Gauge, sa_Gauge⟩, zf_Gauge_high⟩, ⟨⟨pg_Gauge, hd_Gauge, po_Gauge, sa_Gauge⟩, zf_Gauge_top⟩, ⟨⟨pg_Gauge, hd_Gauge, po_Gauge, sa_Gauge⟩, zf_Gauge_thin⟩, ⟨⟨pg_Gauge, hd_Gauge, po_Gauge, sa_Gauge⟩, zf_Gauge_thick⟩, ⟨by intro b hb; simp only [basicT, List.mem_cons, List.not_mem_nil, or_false] at hb; rcases hb with rfl | rfl | rfl | rfl | rfl | rfl | rfl; exact kit_mk icl_Stretch ity_Stretch zkb_Stretch_NoneType rfl; exact kit_mk icl_Stretch ity_Stretch zkb_Stretch_bool rfl; exact kit_mk icl_Stretch ity_Stretch zkb_Stretch_int rfl; exact kit_mk icl_Stretch ity_Stretch zkb_Stretch_str rfl; exact kit_mk icl_Stretch ity_Stretch zkb_Stretch_tuple rfl; exact kit_mk icl_Stretch ity_Stretch zkb_Stretch_list rfl; exact kit_mk icl_Stretch ity_Stretch zkb_Stretch_dict rfl⟩, ⟨kit_same⟩, ⟨kit_mk icl_Stretch ity_Stretch zkc_Gauge_Stretch ykc_Gauge_Stretch⟩, ⟨⟨pg_Stretch, hd_Stretch, po_Stretch, sa_Stretch⟩, ia_Stretch, in_Stretch, it_Stretch, im_Stretch⟩, ⟨⟨pg_Gauge, hd_Gauge, po_Gauge, sa_Gauge⟩, ia_Gauge, in_Gauge, it_Gauge, im_Gauge⟩⟩
  obtain ⟨f0, fd, F, hm⟩ := T.b_law
  have e := hfa_.symm.trans hm
  cases e
  refine ⟨fd, fun s v => ?_, fun base _ _ => fn_body0 F sc_law (by intro ds S q h; first | exact False.elim h | (cases h with | inl h => (first | (obtain ⟨rfl, _⟩ := h; rfl) | (obtain ⟨_, _, _, _, ⟨_, _, rfl, _⟩, _⟩ := h; rfl) | (obtain ⟨_, rfl, _⟩ := h; rfl) | (obtain ⟨_, _, rfl, _⟩ := h; rfl) | (obtain ⟨_, _, _, rfl, _⟩ := h; rfl) | (obtain ⟨_, _, _, _, rfl, _⟩ := h; rfl) | (obtain ⟨_, _, _, _, _, rfl, _⟩ := h; rfl) | (obtain ⟨_, _, _, _, _, _, rfl, _⟩ := h; rfl) | (obtain ⟨_, _, _, _, _, _, _, rfl, _⟩ := h; rfl) | (obtain ⟨_, _, _, _, _, _, _, _, rfl, _⟩ := h; rfl) | (obtain ⟨_, _, _, _, _, _, _, _, _, rfl, _⟩ := h; rfl) | (obtain ⟨_, _, _, _, _, _, _, _, _, _, rfl, _⟩ := h; rfl) | (obtain ⟨_, _, _, _, _, _, _, _, _, _, _, rfl, _⟩ := h; rfl) | (obtain ⟨_, _, _, _, _, _, _, _, _, _, _, _, rfl, _⟩ := h; rfl) | (obtain ⟨_, _, _, _, _, _, _, _, _, _, _, _, _, rfl, _⟩ := h; rfl) | (obtain ⟨_, _, _, _, _, _, _, _, _, _, _, _, _, _, rfl, _⟩ := h; rfl) | (obtain ⟨_, _, _, _, _, _, _, _, _, _, _, _, _, _, _, rfl, _⟩ := h; rfl) | (obtain ⟨_, _, _, _, _, _, _, _, _, _, _, _, _, _, _, _, rfl, _⟩ := h; rfl) | (obtain ⟨_, _, _, _, _, _, _, _, _, _, _, _, _, _, _, _, _, rfl, _⟩ := h; rfl) | (obtain ⟨_, _, _, _, _, _, _, _, _, _, _, _, _, _, _, _, _, _, rfl, _⟩ := h; rfl) | (obtain ⟨_, _, _, _, _, _, _, _, _, _, _, _, _, _, _, _, _, _, _, rfl, _⟩ := h; rfl) | exact Mt.tk_len rfl h | (obtain ⟨_, h⟩ := h; exact Mt.tk_len rfl h) | (obtain ⟨_, _, h⟩ := h; exact Mt.tk_len rfl h) | (obtain ⟨_, _, _, h⟩ := h; exact Mt.tk_len rfl h) | (obtain ⟨_, _, _, _, h⟩ := h; exact Mt.tk_len rfl h) | (obtain ⟨_, _, _, _, _, h⟩ := h; exact Mt.tk_len rfl h) | (obtain ⟨_, _, _, _, _, _, h⟩ := h; exact Mt.tk_len rfl h) | (obtain ⟨_, _, _, _, _, _, _, h⟩ := h; exact Mt.tk_len rfl h) | (obtain ⟨_, _, _, _, _, _, _, _, h⟩ := h; exact Mt.tk_len rfl h) | (obtain ⟨_, _, _, _, _, _, _, _, _, h⟩ := h; exact Mt.tk_len rfl h) | (obtain ⟨_, _, _, _, _, _, _, _, _, _, h⟩ := h; exact Mt.tk_len rfl h) | (obtain ⟨_, _, _, _, _, _, _, _, _, _, _, h⟩ := h; exact Mt.tk_len rfl h) | (obtain ⟨_, _, _, _, _, _, _, _, _, _, _, _, h⟩ := h; exact Mt.tk_len rfl h) | (obtain ⟨_, _, _, _, _, _, _, _, _, _, _, _, _, h⟩ := h; exact Mt.tk_len rfl h) | (obtain ⟨_, _, _, _, _, _, _, _, _, _, _, _, _, _, h⟩ := h; exact Mt.tk_len rfl h) | (obtain ⟨_, _, _, _, _, _, _, _, _, _, _, _, _, _, _, h⟩ := h; exact Mt.tk_len rfl h) | (obtain ⟨_, _, _, _, _, _, _, _, _, _, _, _, _, _, _, _, h⟩ := h; exact Mt.tk_len rfl h) | (obtain ⟨_, _, _, _, _, _, _, _, _, _, _, _, _, _, _, _, _, h⟩ := h; exact Mt.tk_len rfl h)) | inr h => (first | (obtain ⟨rfl, _⟩ := h; rfl) | (obtain ⟨_, _, _, _, ⟨_, _, rfl, _⟩, _⟩ := h; rfl) | (obtain ⟨_, rfl, _⟩ := h; rfl) | (obtain ⟨_, _, rfl, _⟩ := h; rfl) | (obtain ⟨_, _, _, rfl, _⟩ := h; rfl) | (obtain ⟨_, _, _, _, rfl, _⟩ := h; rfl) | (obtain ⟨_, _, _, _, _, rfl, _⟩ := h; rfl) | (obtain ⟨_, _, _, _, _, _, rfl, _⟩ := h; rfl) | (obtain ⟨_, _, _, _, _, _, _, rfl, _⟩ := h; rfl) | (obtain ⟨_, _, _, _, _, _, _, _, rfl, _⟩ := h; rfl) | (obtain ⟨_, _, _, _, _, _, _, _, _, rfl, _⟩ := h; rfl) | (obtain ⟨_, _, _, _, _, _, _, _, _, _, rfl, _⟩ := h; rfl) | (obtain ⟨_, _, _, _, _, _, _, _, _, _, _, rfl, _⟩ := h; rfl) | (obtain ⟨_, _, _, _, _, _, _, _, _, _, _, _, rfl, _⟩ := h; rfl) | (obtain ⟨_, _, _, _, _, _, _, _, _, _, _, _, _, rfl, _⟩ := h; rfl) | (obtain ⟨_, _, _, _, _, _, _, _, _, _, _, _, _, _, rfl, _⟩ := h; rfl) | (obtain ⟨_, _, _, _, _, _, _, _, _, _, _, _, _, _, _, rfl, _⟩ := h; rfl) | (obtain ⟨_, _, _, _, _, _, _, _, _, _, _, _, _, _, _, _, rfl, _⟩ := h; rfl) | (obtain ⟨_, _, _, _, _, _, _, _, _, _, _, _, _, _, _, _, _, rfl, _⟩ := h; rfl) | (obtain ⟨_, _, _, _, _, _, _, _, _, _, _, _, _, _, _, _, _, _, rfl, _⟩ := h; rfl) | (obtain ⟨_, _, _, _, _, _, _, _, _, _, _, _, _, _, _, _, _, _, _, rfl, _⟩ := h; rfl) | exact Mt.tk_len rfl h | (obtain ⟨_, h⟩ := h; exact Mt.tk_len rfl h) | (obtain ⟨_, _, h⟩ := h; exact Mt.tk_len rfl h) | (obtain ⟨_, _, _, h⟩ := h; exact Mt.tk_len rfl h) | (obtain ⟨_, _, _, _, h⟩ := h; exact Mt.tk_len rfl h) | (obtain ⟨_, _, _, _, _, h⟩ := h; exact Mt.tk_len rfl h) | (obtain ⟨_, _, _, _, _, _, h⟩ := h; exact Mt.tk_len rfl h) | (obtain ⟨_, _, _, _, _, _, _, h⟩ := h; exact Mt.tk_len rfl h) | (obtain ⟨_, _, _, _, _, _, _, _, h⟩ := h; exact Mt.tk_len rfl h) | (obtain ⟨_, _, _, _, _, _, _, _, _, h⟩ := h; exact Mt.tk_len rfl h) | (obtain ⟨_, _, _, _, _, _, _, _, _, _, h⟩ := h; exact Mt.tk_len rfl h) | (obtain ⟨_, _, _, _, _, _, _, _, _, _, _, h⟩ := h; exact Mt.tk_len rfl h) | (obtain ⟨_, _, _, _, _, _, _, _, _, _, _, _, h⟩ := h; exact Mt.tk_len rfl h) | (obtain ⟨_, _, _, _, _, _, _, _, _, _, _, _, _, h⟩ := h; exact Mt.tk_len rfl h) | (obtain ⟨_, _, _, _, _, _, _, _, _, _, _, _, _, _, h⟩ := h; exact Mt.tk_len rfl h) | (obtain ⟨_, _, _, _, _, _, _, _, _, _, _, _, _, _, _, h⟩ := h; exact Mt.tk_len rfl h) | (obtain ⟨_, _, _, _, _, _, _, _, _, _, _, _, _, _, _, _, h⟩ := h; exact Mt.tk_len rfl h) | (obtain ⟨_, _, _, _, _, _, _, _, _, _, _, _, _, _, _, _, _, h⟩ := h; exact Mt.tk_len rfl h))) | (first | (obtain ⟨rfl, _⟩ := h; rfl) | (obtain ⟨_, _, _, _, ⟨_, _, rfl, _⟩, _⟩ := h; rfl) | (obtain ⟨_, rfl, _⟩ := h; rfl) | (obtain ⟨_, _, rfl, _⟩ := h; rfl) | (obtain ⟨_, _, _, rfl, _⟩ := h; rfl) | (obtain ⟨_, _, _, _, rfl, _⟩ := h; rfl) | (obtain ⟨_, _, _, _, _, rfl, _⟩ := h; rfl) | (obtain ⟨_, _, _, _, _, _, rfl, _⟩ := h; rfl) | (obtain ⟨_, _, _, _, _, _, _, rfl, _⟩ := h; rfl) | (obtain ⟨_, _, _, _, _, _, _, _, rfl, _⟩ := h; rfl) | (obtain ⟨_, _, _, _, _, _, _, _, _, rfl, _⟩ := h; rfl) | (obtain ⟨_, _, _, _, _, _, _, _, _, _, rfl, _⟩ := h; rfl) | (obtain ⟨_, _, _, _, _, _, _, _, _, _, _, rfl, _⟩ := h; rfl) | (obtain ⟨_, _, _, _, _, _, _, _, _, _, _, _, rfl, _⟩ := h; rfl) | (obtain ⟨_, _, _, _, _, _, _, _, _, _, _, _, _, rfl, _⟩ := h; rfl) | (obtain ⟨_, _, _, _, _, _, _, _, _, _, _, _, _, _, rfl, _⟩ := h; rfl) | (obtain ⟨_, _, _, _, _, _, _, _, _, _, _, _, _, _, _, rfl, _⟩ := h; rfl) | (obtain ⟨_, _, _, _, _, _, _, _, _, _, _, _, _, _, _, _, rfl, _⟩ := h; rfl) | (obtain ⟨_, _, _, _, _, _, _, _, _, _, _, _, _, _, _, _, _, rfl, _⟩ := h; rfl) | (obtain ⟨_, _, _, _, _, _, _, _, _, _, _, _, _, _, _, _, _, _, rfl, _⟩ := h; rfl) | (obtain ⟨_, _, _, _, _, _, _, _, _, _, _, _, _, _, _, _, _, _, _, rfl, _⟩ := h; rfl) | exact Mt.tk_len rfl h | (obtain ⟨_, h⟩ := h; exact Mt.tk_len rfl h) | (obtain ⟨_, _, h⟩ := h; exact Mt.tk_len rfl h) | (obtain ⟨_, _, _, h⟩ := h; exact Mt.tk_len rfl h) | (obtain ⟨_, _, _, _, h⟩ := h; exact Mt.tk_len rfl h) | (obtain ⟨_, _, _, _, _, h⟩ := h; exact Mt.tk_len rfl h) | (obtain ⟨_, _, _, _, _, _, h⟩ := h; exact Mt.tk_len rfl h) | (obtain ⟨_, _, _, _, _, _, _, h⟩ := h; exact Mt.tk_len rfl h) | (obtain ⟨_, _, _, _, _, _, _, _, h⟩ := h; exact Mt.tk_len rfl h) | (obtain ⟨_, _, _, _, _, _, _, _, _, h⟩ := h; exact Mt.tk_len rfl h) | (obtain ⟨_, _, _, _, _, _, _, _, _, _, h⟩ := h; exact Mt.tk_len rfl h) | (obtain ⟨_, _, _, _, _, _, _, _, _, _, _, h⟩ := h; exact Mt.tk_len rfl h) | (obtain ⟨_, _, _, _, _, _, _, _, _, _, _, _, h⟩ := h; exact Mt.tk_len rfl h) | (obtain ⟨_, _, _, _, _, _, _, _, _, _, _, _, _, h⟩ := h; exact Mt.tk_len rfl h) | (obtain ⟨_, _, _, _, _, _, _, _, _, _, _, _, _, _, h⟩ := h; exact Mt.tk_len rfl h) | (obtain ⟨_, _, _, _, _, _, _, _, _, _, _, _, _, _, _, h⟩ := h; exact Mt.tk_len rfl h) | (obtain ⟨_, _, _, _, _, _, _, _, _, _, _, _, _, _, _, _, h⟩ := h; exact Mt.tk_len rfl h) | (obtain ⟨_, _, _, _, _, _, _, _, _, _, _, _, _, _, _, _, _, h⟩ := h; exact Mt.tk_len rfl h))) (g_law K ⟨(He.ga K "Stretch"), (He.ga K "Gauge")⟩) (fun cdv A outer s H E hr => t_law T (ok_Gauge_init T) (ok_Gauge_stands_live T) (ok_Gauge_stands T) (ok_Stretch_eq T) (ok_Stretch_init T) (ok_Stretch_repr T) (ok__law_bounds T) (ok__law_draw T) (ok__law_edges T) (ok__law_feed T) (ok__law_of T) (ok__law_readings T) (ok__law_right T) hr) (fun ds S q _ _ h => r_law T ds S q h)⟩
  obtain ⟨oc, od, dV, kV, doc, pm, an, cdv, ct, osl, rfl, lk, hcd, df, kw⟩ := F.ex
  rcases df with ⟨_, rfl⟩ | ⟨z, _⟩
  · exact .of_eq rfl
  · exact absurd rfl z
theorem start_law {K : PySem.W.Frag} {H : Hp} {a : Addr} {ns : List Int} (hS : SqL K H a (ns.map V.int)) : spOf K sp_law [.ref a] H (fun v _ => v = .bl true) fun _ _ _ => False := by
  have hv : ∀ b o, H b = some o → vis (fun _ => a) [] (fun _ => False) H b = some o := fun b o e => vis_of e (fun z => z) fun n ⟨o, l⟩ => by simp at l
  refine ⟨fun _ => a, [], fun _ => False, [.ksq (ns.map .int)], fun d _ => d = .bl true, Wd0.u0 ⟨fun i j ⟨o, l⟩ => by simp at l, fun i ⟨o, l⟩ => by simp at l, fun b z => z.elim, fun i o l => by simp at l⟩, ?_, ⟨ns, rfl, rfl, fun _ => rfl⟩, ?_⟩
  · exact Reps.one (by rw [Rep]; exact ⟨a, _, rfl, SqL.sub hv hS, Reps.ofInts ns⟩)
  · intro v H' m' d S' e w r hd
    subst hd
    exact r
end Lw
open PySem PySem.W PySem.Calls PyProof.Rows in
set_option maxRecDepth 100000 in
set_option maxHeartbeats 0 in
theorem PySem.Challenge.cw_boatbridge_k43_stands_within_stretches_holds : PySem.Challenge.rw_boatbridge_k43_stands_within_stretches.Holds := by
  w_on; o_law
  refine HandSHeadRun.head_any (r := OpenLaw.row PySem.Challenge.rw_boatbridge_k43_stands_within_stretches) (q := view (OpenLaw.row PySem.Challenge.rw_boatbridge_k43_stands_within_stretches).prog [23]) (H := Lw.hk) (ob := Lw.hob) (M := 60000) (loose := Lw.hnames) (d := HandSHeadRun.topDef (OpenLaw.row PySem.Challenge.rw_boatbridge_k43_stands_within_stretches).prog 23) (kwd := []) Lw.hob_eq
    (by kernel_rfl) (fun s => by kernel_rfl) Lw.hrun (by kernel_rfl) (by kernel_rfl) (by kernel_rfl) (by rfl) (by first | assumption | decide +kernel) (by decide +kernel) ⟨rfl, rfl, rfl, rfl, rfl, by decide +kernel⟩ ?hw ?hc
  case hw => w_witness2
  case hc =>
    refine Hd.walk_ofQ (l := PySem.Challenge.rw_boatbridge_k43_stands_within_stretches) (n := 63) (k := 165) (x := "_law_script") (sp := fun K => Dl.spOf K Lw.sp_law) rfl (by decide) (by kernel_rfl) ⟨rfl, by decide, by decide⟩ ?F (fun K H a ns hl _ hS => Lw.start_law hS)
    intro w mg fa h Y G hmg0
    obtain ⟨K, KX, c⟩ := Y
    have hmg : mg ("law" : PySem.Str) = some (.ref fa) := by
      have e : (HandSHeadRun.topDef (OpenLaw.row PySem.Challenge.rw_boatbridge_k43_stands_within_stretches).prog 23).name = ("law" : PySem.Str) := by kernel_rfl
      rw [← e]
      exact hmg0
    obtain ⟨fd, hb, hF⟩ := Lw.all_mk (l := PySem.Challenge.rw_boatbridge_k43_stands_within_stretches) (w := w) KX G hmg c
    exact ⟨K, fd, KX, hb, hF⟩
#print axioms PySem.Challenge.cw_boatbridge_k43_stands_within_stretches_holds
