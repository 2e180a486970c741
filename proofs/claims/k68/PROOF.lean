import PyProof.Rows.All
import Wide.All
import OpenK.AllK
import Wide.FinOn
import HandS.ForMost
import HandS.TupAny
import HandS.Codes
import HandS.Flow
import HandS.Defaults
import HandS.MakeKw
import HandS.ExcOwn
import HandS.Wide
import HandS.FStr
import HandS.StrMore
import HandS.IsInst
import HandS.Small
import HandS.Style
import KE.SortData
import KE.DataFind
import OpenK.KOps
import HandS.OwnEq
import PyProof.InstEq
import HandS.Sort
import HandS.More
import PyProof.ReprRoads
import PyProof.StrLawsRepr
import HandS.IntHex
import HandS.Exc
import HandS.ListItems
import HandS.TryOnly
import HandS.SortKw
import KE.DataMinMax
import KE.KDictItemsList
import KE.KDictExact
import HandS.Deep
import HandS.ExcInit
import HandS.ExcSuper
import HandS.ExcBuiltin
import HandS.ExcField
import KE.KExcIs
import HandS.WordsExc
import HandS.ExcIs
import PyProof.ExcBaseAll.NotImplementedError
import PyProof.ExcBaseAll.OverflowError
import PyProof.ExcBaseAll.ArithmeticError
import PyProof.ExcBaseAll.TypeError
import PyProof.ExcBaseAll.ValueError
import PyProof.ExcBaseAll.ZeroDivisionError
import PyProof.ExcBaseAll.RuntimeError
import PyProof.ExcBaseAll.Exception
import PyProof.ExcBaseAll.IndexError
import PyProof.ExcBaseAll.LookupError
import KE.GoesEnumKw
import KE.KDictZip
import HandS.Zip
import HandS.Conv
import HandS.Remove
import HandS.SetKeys
import HandS.Strs
import KE.KDictList
import KE.KStateDown
import HandS.Head0
import HandS.Head1
import HandS.Head2
import HandS.HeadEnd
import HandS.HeadHook1
import HandS.HeadHook2
import PySem.Challenge.RW_boatbridge_k68_books_as_objects
set_option Elab.async false
set_option linter.all false
set_option maxRecDepth 100000
set_option maxHeartbeats 4000000
namespace Dl
open PySem L2
/-- an exception's class: an own one, a built-in one -/
inductive XC where
  | own (C : Addr) | blt (n : String)
  deriving DecidableEq
def XC.val : XC → Value
  | .own C => .ref C
  | .blt n => .type n
/-- plain data -/
inductive D where
  | non | bl (b : Bool) | int (i : Int) | str (x : Str)
  | tup (ds : List D) | lst (ds : List D) | ksq (ds : List D)
  | obj (C : Addr) (ks : List Str) (ds : List D)
  | dic (ks : List Key) (ds : List D)
  | loc (n : Nat) | ref (a : Addr) | ty (n : String)
  | exc (c : XC) (ks : List Str) (ds : List D)
/-- mutable objects -/
inductive MO where
  | lst (ds : List D)
  | obj (C : Addr) (ks : List Str) (ds : List D)
  | dic (ks : List Key) (ds : List D)
  | dicT (ks : List (List Key)) (ds : List D)
abbrev Sto := List (Option MO)
abbrev Env_ := List (Option D)
/-- an exception's object that is kept -/
def excO (cls : Value) (d : Option Addr) (a : Addr) : HO := .ext fun h => ∃ (oe : Obj) (vs : Array Value), h.get? a = some oe ∧ oe.cls = cls ∧ oe.dict = d ∧ oe.data = .fields vs
/-- its fields -/
def Xd (Hv : Hp) (d : Option Addr) (fs : List (Str × V)) : Prop := match d with
  | some dd => Hv dd = some (.xd fs)
  | none => fs = []
theorem Xd.sub {H H' : Hp} {d : Option Addr} {fs : List (Str × V)} (h : ∀ a o, H a = some o → H' a = some o) (r : Xd H d fs) : Xd H' d fs := by
  cases d with
  | none => exact r
  | some dd => exact h _ _ r
section
variable (K : PySem.W.Frag) (m : Nat → Addr) (N : Nat) (Hv : Hp)
mutual
def Rep : D → V → Prop
  | .non, v => v = .non
  | .bl b, v => v = .bl b
  | .int i, v => v = .int i
  | .str x, v => v = .str x
  | .tup ds, v => ∃ a vs, v = .ref a ∧ SqT K Hv a vs ∧ Reps ds vs
  | .lst ds, v => ∃ a vs, v = .ref a ∧ Hv a = some (.lst vs) ∧ Reps ds vs
  | .ksq ds, v => ∃ a vs, v = .ref a ∧ SqL K Hv a vs ∧ Reps ds vs
  | .obj C ks ds, v => ∃ a dx vs, v = .ref a ∧ Hv a = some (.ins C dx (ks.zip vs)) ∧ ks.length = vs.length ∧ Reps ds vs
  | .dic ks ds, v => ∃ a vs, v = .ref a ∧ Hv a = some (.dK (ks.zip vs)) ∧ ks.length = vs.length ∧ Reps ds vs
  | .loc n, v => v = .ref (m n) ∧ n < N
  | .ref a, v => v = .ref a
  | .ty n, v => v = .ty n
  | .exc c ks ds, v => ∃ a dd vs, v = .ref a ∧ Hv a = some (excO c.val dd a) ∧ Xd Hv dd (ks.zip vs) ∧ ks.length = vs.length ∧ Reps ds vs
def Reps : List D → List V → Prop
  | [], vs => vs = []
  | d :: ds, vs => ∃ v r, vs = v :: r ∧ Rep d v ∧ Reps ds r
end
end
theorem SqT.sub {K : PySem.W.Frag} {H H' : Hp} {a : Addr} {vs : List V} (h : ∀ a o, H a = some o → H' a = some o) (r : SqT K H a vs) : SqT K H' a vs := by
  rcases r with (r | ⟨o, r⟩) | r
  · exact .inl (.inl (h _ _ r))
  · exact .inl (.inr ⟨o, h _ _ r⟩)
  · exact .inr r
theorem SqL.sub {K : PySem.W.Frag} {H H' : Hp} {a : Addr} {vs : List V} (h : ∀ a o, H a = some o → H' a = some o) (r : SqL K H a vs) : SqL K H' a vs := by
  rcases r with (r | ⟨o, r⟩) | r
  · exact .inl (.inl (h _ _ r))
  · exact .inl (.inr ⟨o, h _ _ r⟩)
  · exact .inr r
section
variable {K : PySem.W.Frag} {m m' : Nat → Addr} {N N' : Nat} {H H' : Hp}
mutual
theorem Rep.mono (hm : ∀ i, i < N → m' i = m i) (hN : N ≤ N') (hh : ∀ a o, H a = some o → H' a = some o) : ∀ {d : D} {v : V}, Rep K m N H d v → Rep K m' N' H' d v
  | .non, _, r => r
  | .bl _, _, r => r
  | .int _, _, r => r
  | .str _, _, r => r
  | .tup ds, _, r => by
    obtain ⟨a, vs, e, s, q⟩ := r
    exact ⟨a, vs, e, SqT.sub hh s, Reps.mono hm hN hh q⟩
  | .lst ds, _, r => by
    obtain ⟨a, vs, e, s, q⟩ := r
    exact ⟨a, vs, e, hh _ _ s, Reps.mono hm hN hh q⟩
  | .ksq ds, _, r => by
    obtain ⟨a, vs, e, s, q⟩ := r
    exact ⟨a, vs, e, SqL.sub hh s, Reps.mono hm hN hh q⟩
  | .obj C ks ds, _, r => by
    obtain ⟨a, dx, vs, e, s, l, q⟩ := r
    exact ⟨a, dx, vs, e, hh _ _ s, l, Reps.mono hm hN hh q⟩
  | .dic ks ds, _, r => by
    obtain ⟨a, vs, e, s, l, q⟩ := r
    exact ⟨a, vs, e, hh _ _ s, l, Reps.mono hm hN hh q⟩
  | .loc n, _, r => ⟨by rw [r.1, hm n r.2], Nat.lt_of_lt_of_le r.2 hN⟩
  | .ref _, _, r => r
  | .ty _, _, r => r
  | .exc c ks ds, _, r => by
    obtain ⟨a, dd, vs, e, s, x, l, q⟩ := r
    exact ⟨a, dd, vs, e, hh _ _ s, x.sub hh, l, Reps.mono hm hN hh q⟩
theorem Reps.mono (hm : ∀ i, i < N → m' i = m i) (hN : N ≤ N') (hh : ∀ a o, H a = some o → H' a = some o) : ∀ {ds : List D} {vs : List V}, Reps K m N H ds vs → Reps K m' N' H' ds vs
  | [], _, r => r
  | d :: ds, _, r => by
    obtain ⟨v, q, e, r1, r2⟩ := r
    exact ⟨v, q, e, Rep.mono hm hN hh r1, Reps.mono hm hN hh r2⟩
end
theorem Reps.len : ∀ {ds : List D} {vs : List V}, Reps K m N H ds vs → vs.length = ds.length
  | [], _, r => by rw [show _ = [] from r]; rfl
  | d :: ds, _, r => by
    obtain ⟨v, q, e, r1, r2⟩ := r
    rw [e, List.length_cons, List.length_cons, Reps.len r2]
theorem Reps.get : ∀ {ds : List D} {vs : List V} {i : Nat} {d : D}, Reps K m N H ds vs → ds[i]? = some d → ∃ v, vs[i]? = some v ∧ Rep K m N H d v
  | [], _, _, _, _, e => by simp at e
  | d :: ds, _, 0, _, r, e => by
    obtain ⟨v, q, e1, r1, r2⟩ := r
    rw [List.getElem?_cons_zero] at e
    cases e
    exact ⟨v, by rw [e1]; rfl, r1⟩
  | d :: ds, _, i + 1, _, r, e => by
    obtain ⟨v, q, e1, r1, r2⟩ := r
    rw [List.getElem?_cons_succ] at e
    obtain ⟨w, h1, h2⟩ := Reps.get r2 e
    exact ⟨w, by rw [e1, List.getElem?_cons_succ]; exact h1, h2⟩
theorem Reps.append : ∀ {ds es : List D} {vs ws : List V}, Reps K m N H ds vs → Reps K m N H es ws → Reps K m N H (ds ++ es) (vs ++ ws)
  | [], _, _, _, r, s => by rw [show _ = [] from r]; exact s
  | d :: ds, _, _, _, r, s => by
    obtain ⟨v, q, e1, r1, r2⟩ := r
    rw [e1]
    exact ⟨v, _, rfl, r1, Reps.append r2 s⟩
theorem Reps.nil : Reps K m N H [] [] := rfl
theorem Reps.one {d : D} {v : V} (r : Rep K m N H d v) : Reps K m N H [d] [v] := ⟨v, [], rfl, r, rfl⟩
theorem Reps.cons {d : D} {v : V} {ds : List D} {vs : List V} (r : Rep K m N H d v) (s : Reps K m N H ds vs) : Reps K m N H (d :: ds) (v :: vs) := ⟨v, vs, rfl, r, s⟩
theorem Reps.take : ∀ {ds : List D} {vs : List V} (n : Nat), Reps K m N H ds vs → Reps K m N H (ds.take n) (vs.take n)
  | [], _, n, r => by rw [show _ = [] from r]; simp [Reps]
  | d :: ds, _, 0, r => by simp [Reps]
  | d :: ds, _, n + 1, r => by
    obtain ⟨v, q, e1, r1, r2⟩ := r
    rw [e1]
    exact ⟨v, _, rfl, r1, Reps.take n r2⟩
theorem Reps.drop : ∀ {ds : List D} {vs : List V} (n : Nat), Reps K m N H ds vs → Reps K m N H (ds.drop n) (vs.drop n)
  | [], _, n, r => by rw [show _ = [] from r]; simp [Reps]
  | d :: ds, _, 0, r => r
  | d :: ds, _, n + 1, r => by
    obtain ⟨v, q, e1, r1, r2⟩ := r
    rw [e1]
    exact Reps.drop n r2
theorem Reps.set : ∀ {ds : List D} {vs : List V} (n : Nat) {d : D} {v : V}, Reps K m N H ds vs → Rep K m N H d v → Reps K m N H (ds.set n d) (vs.set n v)
  | [], _, n, _, _, r, _ => by rw [show _ = [] from r]; simp [Reps]
  | d :: ds, _, 0, _, _, r, s => by
    obtain ⟨v, q, e1, r1, r2⟩ := r
    rw [e1]
    exact ⟨_, _, rfl, s, r2⟩
  | d :: ds, _, n + 1, _, _, r, s => by
    obtain ⟨v, q, e1, r1, r2⟩ := r
    rw [e1]
    exact ⟨v, _, rfl, r1, Reps.set n r2 s⟩
theorem Reps.rev : ∀ {ds : List D} {vs : List V}, Reps K m N H ds vs → Reps K m N H ds.reverse vs.reverse
  | [], _, r => by rw [show _ = [] from r]; simp [Reps]
  | d :: ds, _, r => by
    obtain ⟨v, q, e1, r1, r2⟩ := r
    rw [e1, List.reverse_cons, List.reverse_cons]
    exact (Reps.rev r2).append (Reps.one r1)
/-- ints, texts -/
theorem Reps.ints : ∀ {ns : List Int} {vs : List V}, Reps K m N H (ns.map D.int) vs → vs = ns.map V.int
  | [], _, r => r
  | n :: ns, _, r => by
    obtain ⟨v, q, e1, r1, r2⟩ := r
    rw [e1, show v = V.int n from r1, Reps.ints r2]
    rfl
theorem Reps.ofInts : ∀ (ns : List Int), Reps K m N H (ns.map D.int) (ns.map V.int)
  | [] => rfl
  | n :: ns => ⟨_, _, rfl, rfl, Reps.ofInts ns⟩
theorem Reps.strs : ∀ {ns : List Str} {vs : List V}, Reps K m N H (ns.map D.str) vs → vs = ns.map V.str
  | [], _, r => r
  | n :: ns, _, r => by
    obtain ⟨v, q, e1, r1, r2⟩ := r
    rw [e1, show v = V.str n from r1, Reps.strs r2]
    rfl
theorem Reps.ofStrs : ∀ (ns : List Str), Reps K m N H (ns.map D.str) (ns.map V.str)
  | [] => rfl
  | n :: ns => ⟨_, _, rfl, rfl, Reps.ofStrs ns⟩
end
def Live (S : Sto) (n : Nat) : Prop := ∃ o, S[n]? = some (some o)
open Classical in
noncomputable def vis (m : Nat → Addr) (S : Sto) (Z : Addr → Prop) (H : Hp) : Hp := fun a => if Z a ∨ (∃ n, Live S n ∧ m n = a) then none else H a
theorem vis_sub {m : Nat → Addr} {S : Sto} {Z : Addr → Prop} {H : Hp} {a : Addr} {o : HO} (h : vis m S Z H a = some o) : H a = some o := by
  unfold vis at h
  split at h
  · cases h
  · exact h
theorem vis_of {m : Nat → Addr} {S : Sto} {Z : Addr → Prop} {H : Hp} {a : Addr} {o : HO} (h : H a = some o) (hz : ¬ Z a) (hl : ∀ n, Live S n → m n ≠ a) : vis m S Z H a = some o := by
  unfold vis
  rw [if_neg]
  · exact h
  · rintro (z | ⟨n, l, e⟩)
    · exact hz z
    · exact hl n l e
theorem vis_not {m : Nat → Addr} {S : Sto} {Z : Addr → Prop} {H : Hp} {a : Addr} {o : HO} (h : vis m S Z H a = some o) : ¬ Z a ∧ ∀ n, Live S n → m n ≠ a := by
  unfold vis at h
  split at h
  · cases h
  · rename_i q
    exact ⟨fun z => q (.inl z), fun n l e => q (.inr ⟨n, l, e⟩)⟩
section
variable (K : PySem.W.Frag) (m : Nat → Addr) (N : Nat) (Hv H : Hp)
def RepM : MO → Addr → Prop
  | .lst ds, a => ∃ vs, H a = some (.lst vs) ∧ Reps K m N Hv ds vs
  | .obj C ks ds, a => ∃ dx vs, H a = some (.ins C dx (ks.zip vs)) ∧ ks.length = vs.length ∧ Reps K m N Hv ds vs
  | .dic ks ds, a => ∃ vs, H a = some (.dK (ks.zip vs)) ∧ ks.length = vs.length ∧ Reps K m N Hv ds vs
  | .dicT ks ds, a => ∃ vs, H a = some (.dT (ks.zip vs)) ∧ ks.length = vs.length ∧ Reps K m N Hv ds vs
end
theorem RepM.mono {K : PySem.W.Frag} {m m' : Nat → Addr} {N N' : Nat} {Hv Hv' H H' : Hp} {o : MO} {a a' : Addr} (hm : ∀ i, i < N → m' i = m i) (hN : N ≤ N') (hh : ∀ a o, Hv a = some o → Hv' a = some o) (ha : H' a' = H a)
    (r : RepM K m N Hv H o a) : RepM K m' N' Hv' H' o a' := by
  cases o with
  | lst ds => obtain ⟨vs, e, q⟩ := r; exact ⟨vs, ha.trans e, Reps.mono hm hN hh q⟩
  | obj C ks ds => obtain ⟨dx, vs, e, l, q⟩ := r; exact ⟨dx, vs, ha.trans e, l, Reps.mono hm hN hh q⟩
  | dic ks ds => obtain ⟨vs, e, l, q⟩ := r; exact ⟨vs, ha.trans e, l, Reps.mono hm hN hh q⟩
  | dicT ks ds => obtain ⟨vs, e, l, q⟩ := r; exact ⟨vs, ha.trans e, l, Reps.mono hm hN hh q⟩
theorem RepM.there {K : PySem.W.Frag} {m : Nat → Addr} {N : Nat} {Hv H : Hp} {o : MO} {a : Addr} (r : RepM K m N Hv H o a) : ∃ u, H a = some u := by
  cases o with
  | lst ds => obtain ⟨vs, e, q⟩ := r; exact ⟨_, e⟩
  | obj C ks ds => obtain ⟨dx, vs, e, l, q⟩ := r; exact ⟨_, e⟩
  | dic ks ds => obtain ⟨vs, e, l, q⟩ := r; exact ⟨_, e⟩
  | dicT ks ds => obtain ⟨vs, e, l, q⟩ := r; exact ⟨_, e⟩
structure Wd0 (K : PySem.W.Frag) (m : Nat → Addr) (S : Sto) (Z : Addr → Prop) (H : Hp) : Prop where
  inj : ∀ i j, Live S i → Live S j → m i = m j → i = j
  zz : ∀ i, Live S i → ¬ Z (m i)
  zh : ∀ a, Z a → ∃ o, H a = some o
  rep : ∀ i o, S[i]? = some (some o) → RepM K m S.length (vis m S Z H) H o (m i)
structure Ext (m : Nat → Addr) (S : Sto) (Z : Addr → Prop) (H : Hp) (m' : Nat → Addr) (S' : Sto) (H' : Hp) : Prop where
  len : S.length ≤ S'.length
  loc : ∀ i, i < S.length → m' i = m i
  vis : ∀ a o, vis m S Z H a = some o → vis m' S' Z H' a = some o
  zed : ∀ a, Z a → H' a = H a
section
variable {K : PySem.W.Frag} {m m1 m2 : Nat → Addr} {S S1 S2 : Sto} {Z : Addr → Prop} {H H1 H2 : Hp}
theorem Ext.refl : Ext m S Z H m S H := ⟨Nat.le_refl _, fun _ _ => rfl, fun _ _ h => h, fun _ _ => rfl⟩
theorem Ext.trans (a : Ext m S Z H m1 S1 H1) (b : Ext m1 S1 Z H1 m2 S2 H2) : Ext m S Z H m2 S2 H2 :=
  ⟨Nat.le_trans a.len b.len, fun i h => (b.loc i (Nat.lt_of_lt_of_le h a.len)).trans (a.loc i h), fun x o h => b.vis x o (a.vis x o h), fun x h => (b.zed x h).trans (a.zed x h)⟩
theorem Rep.ext {d : D} {v : V} (e : Ext m S Z H m1 S1 H1) (r : Rep K m S.length (vis m S Z H) d v) : Rep K m1 S1.length (vis m1 S1 Z H1) d v := Rep.mono e.loc e.len e.vis r
theorem Reps.ext {d : List D} {v : List V} (e : Ext m S Z H m1 S1 H1) (r : Reps K m S.length (vis m S Z H) d v) : Reps K m1 S1.length (vis m1 S1 Z H1) d v := Reps.mono e.loc e.len e.vis r
theorem Wd0.live (w : Wd0 K m S Z H) {i : Nat} (l : Live S i) : ∃ o, H (m i) = some o := by
  obtain ⟨o, e⟩ := l
  exact (w.rep i o e).there
theorem Wd0.fresh (w : Wd0 K m S Z H) {p : Addr} (hp : H p = none) : ¬ Z p ∧ ∀ n, Live S n → m n ≠ p := by
  refine ⟨fun z => ?_, fun n l e => ?_⟩
  · obtain ⟨o, q⟩ := w.zh p z
    rw [hp] at q; cases q
  · obtain ⟨o, q⟩ := w.live l
    rw [e, hp] at q; cases q
/-- a new object that is no part of the store -/
theorem Wd0.new (w : Wd0 K m S Z H) {p : Addr} {o : HO} (hp : H p = none) : Wd0 K m S Z (upd H p o) ∧ Ext m S Z H m S (upd H p o) ∧ vis m S Z (upd H p o) p = some o := by
  obtain ⟨nz, nl⟩ := w.fresh hp
  have hv : ∀ a u, vis m S Z H a = some u → vis m S Z (upd H p o) a = some u := fun a u h => by
    obtain ⟨z1, z2⟩ := vis_not h
    exact vis_of (by rw [upd_ne (ne_of_none (vis_sub h) hp)]; exact vis_sub h) z1 z2
  have hz : ∀ a, Z a → upd H p o a = H a := fun a z => upd_ne (fun e => nz (e ▸ z))
  refine ⟨⟨w.inj, w.zz, fun a z => ?_, fun i x e => ?_⟩, ⟨Nat.le_refl _, fun _ _ => rfl, hv, hz⟩, vis_of upd_same nz nl⟩
  · rw [hz a z]; exact w.zh a z
  · exact (w.rep i x e).mono (fun _ _ => rfl) (Nat.le_refl _) hv (upd_ne (nl i ⟨x, e⟩))
/-- a new object of the store -/
theorem Wd0.add (w : Wd0 K m S Z H) {p : Addr} {o : HO} {mo : MO} (hp : H p = none) (hr : ∀ m1 N1 Hv1, (∀ i, i < S.length → m1 i = m i) → S.length ≤ N1 → (∀ a u, vis m S Z H a = some u → Hv1 a = some u) → RepM K m1 N1 Hv1 (upd H p o) mo p) :
    ∃ m', m' S.length = p ∧ Wd0 K m' (S ++ [some mo]) Z (upd H p o) ∧ Ext m S Z H m' (S ++ [some mo]) (upd H p o) := by
  obtain ⟨nz, nl⟩ := w.fresh hp
  let m' : Nat → Addr := fun i => if i = S.length then p else m i
  have e0 : m' S.length = p := if_pos rfl
  have e1 : ∀ i, i < S.length → m' i = m i := fun i h => if_neg (Nat.ne_of_lt h)
  have lv : ∀ i, Live (S ++ [some mo]) i → (i < S.length ∧ Live S i) ∨ i = S.length := fun i ⟨x, e⟩ => by
    by_cases h : i < S.length
    · exact .inl ⟨h, x, by rw [List.getElem?_append_left h] at e; exact e⟩
    · right
      have := (List.getElem?_eq_some_iff.mp e).1
      rw [List.length_append, List.length_singleton] at this
      omega
  have hv : ∀ a u, vis m S Z H a = some u → vis m' (S ++ [some mo]) Z (upd H p o) a = some u := fun a u h => by
    obtain ⟨z1, z2⟩ := vis_not h
    have nap : a ≠ p := ne_of_none (vis_sub h) hp
    refine vis_of (by rw [upd_ne nap]; exact vis_sub h) z1 fun n l => ?_
    rcases lv n l with ⟨hn, l⟩ | rfl
    · rw [e1 n hn]; exact z2 n l
    · rw [e0]; exact nap.symm
  have hz : ∀ a, Z a → upd H p o a = H a := fun a z => upd_ne (fun e => nz (e ▸ z))
  have len : (S ++ [some mo]).length = S.length + 1 := by simp
  refine ⟨m', e0, ⟨fun i j li lj e => ?_, fun i li => ?_, fun a z => by rw [hz a z]; exact w.zh a z, fun i x e => ?_⟩, ⟨by omega, e1, hv, hz⟩⟩
  · rcases lv i li with ⟨hi, li⟩ | rfl <;> rcases lv j lj with ⟨hj, lj⟩ | rfl
    · rw [e1 i hi, e1 j hj] at e; exact w.inj i j li lj e
    · rw [e1 i hi, e0] at e; exact absurd e (nl i li)
    · rw [e0, e1 j hj] at e; exact absurd e.symm (nl j lj)
    · rfl
  · rcases lv i li with ⟨hi, li⟩ | rfl
    · rw [e1 i hi]; exact w.zz i li
    · rw [e0]; exact nz
  · rw [len]
    rcases lv i ⟨x, e⟩ with ⟨hi, li⟩ | rfl
    · rw [List.getElem?_append_left hi] at e
      exact (w.rep i x e).mono e1 (Nat.le_succ _) hv (by rw [e1 i hi]; exact upd_ne (nl i li))
    · rw [List.getElem?_append_right (Nat.le_refl _), Nat.sub_self, List.getElem?_cons_zero] at e
      cases e
      rw [e0]
      exact hr m' _ _ e1 (Nat.le_succ _) hv
/-- an object of the store changes -/
theorem Wd0.upd (w : Wd0 K m S Z H) {n : Nat} {o : HO} {mo : MO} (l : Live S n) (hr : RepM K m S.length (vis m S Z H) (upd H (m n) o) mo (m n)) :
    Wd0 K m (S.set n (some mo)) Z (upd H (m n) o) ∧ Ext m S Z H m (S.set n (some mo)) (upd H (m n) o) ∧ vis m (S.set n (some mo)) Z (upd H (m n) o) = vis m S Z H := by
  have hn : n < S.length := by obtain ⟨x, e⟩ := l; exact (List.getElem?_eq_some_iff.mp e).1
  have lv : ∀ i, Live (S.set n (some mo)) i ↔ Live S i := fun i => by
    unfold Live
    by_cases h : n = i
    · subst h
      rw [List.getElem?_set_self hn]
      exact ⟨fun _ => l, fun _ => ⟨_, rfl⟩⟩
    · rw [List.getElem?_set_ne h]
  have hv : vis m (S.set n (some mo)) Z (L2.upd H (m n) o) = vis m S Z H := by
    funext a
    unfold vis
    have e : (∃ k, Live (S.set n (some mo)) k ∧ m k = a) ↔ ∃ k, Live S k ∧ m k = a := ⟨fun ⟨k, q, e⟩ => ⟨k, (lv k).mp q, e⟩, fun ⟨k, q, e⟩ => ⟨k, (lv k).mpr q, e⟩⟩
    by_cases c : Z a ∨ ∃ k, Live S k ∧ m k = a
    · rw [if_pos c, if_pos (by rw [e]; exact c)]
    · rw [if_neg c, if_neg (by rw [e]; exact c)]
      exact upd_ne (fun q => c (.inr ⟨n, l, q.symm⟩))
  have hz : ∀ a, Z a → L2.upd H (m n) o a = H a := fun a z => upd_ne (fun e => w.zz n l (e ▸ z))
  refine ⟨⟨fun i j li lj => w.inj i j ((lv i).mp li) ((lv j).mp lj), fun i li => w.zz i ((lv i).mp li), fun a z => by rw [hz a z]; exact w.zh a z, fun i x e => ?_⟩, ⟨by rw [List.length_set]; exact Nat.le_refl _, fun _ _ => rfl, fun a u h => by rw [hv]; exact h, hz⟩, hv⟩
  rw [hv, List.length_set]
  by_cases h : n = i
  · subst h
    rw [List.getElem?_set_self hn] at e
    cases e
    exact hr
  · rw [List.getElem?_set_ne h] at e
    exact (w.rep i x e).mono (fun _ _ => rfl) (Nat.le_refl _) (fun _ _ q => q) (upd_ne (fun q => h (w.inj i n ⟨x, e⟩ l q).symm))
end
mutual
def D.under (n : Nat) : D → Bool
  | .tup ds => D.unders n ds
  | .lst ds => D.unders n ds
  | .ksq ds => D.unders n ds
  | .obj _ _ ds => D.unders n ds
  | .dic _ ds => D.unders n ds
  | .loc k => decide (k < n)
  | .exc _ _ ds => D.unders n ds
  | .non => true | .bl _ => true | .int _ => true | .str _ => true | .ref _ => true | .ty _ => true
def D.unders (n : Nat) : List D → Bool
  | [] => true
  | d :: ds => D.under n d && D.unders n ds
end
def MO.under (n : Nat) : MO → Bool
  | .lst ds => D.unders n ds
  | .obj _ _ ds => D.unders n ds
  | .dic _ ds => D.unders n ds
  | .dicT _ ds => D.unders n ds
def Sto.under (n : Nat) (S : Sto) : Bool := S.all fun o => match o with | none => true | some x => x.under n
section
variable {K : PySem.W.Frag} {m : Nat → Addr} {N n : Nat} {H : Hp}
mutual
theorem Rep.cut (hn : n ≤ N) : ∀ {d : D} {v : V}, Rep K m N H d v → d.under n = true → Rep K m n H d v
  | .non, _, r, _ => r
  | .bl _, _, r, _ => r
  | .int _, _, r, _ => r
  | .str _, _, r, _ => r
  | .tup ds, _, r, b => by
    obtain ⟨a, vs, e, s, q⟩ := r
    exact ⟨a, vs, e, s, Reps.cut hn q b⟩
  | .lst ds, _, r, b => by
    obtain ⟨a, vs, e, s, q⟩ := r
    exact ⟨a, vs, e, s, Reps.cut hn q b⟩
  | .ksq ds, _, r, b => by
    obtain ⟨a, vs, e, s, q⟩ := r
    exact ⟨a, vs, e, s, Reps.cut hn q b⟩
  | .obj C ks ds, _, r, b => by
    obtain ⟨a, dx, vs, e, s, l, q⟩ := r
    exact ⟨a, dx, vs, e, s, l, Reps.cut hn q b⟩
  | .dic ks ds, _, r, b => by
    obtain ⟨a, vs, e, s, l, q⟩ := r
    exact ⟨a, vs, e, s, l, Reps.cut hn q b⟩
  | .loc k, _, r, b => ⟨r.1, by simpa [D.under] using b⟩
  | .ref _, _, r, _ => r
  | .ty _, _, r, _ => r
  | .exc c ks ds, _, r, b => by
    obtain ⟨a, dd, vs, e, s, x, l, q⟩ := r
    exact ⟨a, dd, vs, e, s, x, l, Reps.cut hn q b⟩
theorem Reps.cut (hn : n ≤ N) : ∀ {ds : List D} {vs : List V}, Reps K m N H ds vs → D.unders n ds = true → Reps K m n H ds vs
  | [], _, r, _ => r
  | d :: ds, _, r, b => by
    obtain ⟨v, q, e, r1, r2⟩ := r
    have b' : D.under n d = true ∧ D.unders n ds = true := by simpa [D.unders] using b
    exact ⟨v, q, e, Rep.cut hn r1 b'.1, Reps.cut hn r2 b'.2⟩
end
mutual
theorem Rep.below : ∀ {d : D} {v : V}, Rep K m N H d v → d.under N = true
  | .non, _, _ => by simp [D.under]
  | .bl _, _, _ => by simp [D.under]
  | .int _, _, _ => by simp [D.under]
  | .str _, _, _ => by simp [D.under]
  | .tup ds, _, r => by
    obtain ⟨a, vs, e, s, q⟩ := r
    simpa [D.under] using Reps.below q
  | .lst ds, _, r => by
    obtain ⟨a, vs, e, s, q⟩ := r
    simpa [D.under] using Reps.below q
  | .ksq ds, _, r => by
    obtain ⟨a, vs, e, s, q⟩ := r
    simpa [D.under] using Reps.below q
  | .obj C ks ds, _, r => by
    obtain ⟨a, dx, vs, e, s, l, q⟩ := r
    simpa [D.under] using Reps.below q
  | .dic ks ds, _, r => by
    obtain ⟨a, vs, e, s, l, q⟩ := r
    simpa [D.under] using Reps.below q
  | .loc k, _, r => by simpa [D.under] using r.2
  | .ref _, _, _ => by simp [D.under]
  | .ty _, _, _ => by simp [D.under]
  | .exc c ks ds, _, r => by
    obtain ⟨a, dd, vs, e, s, x, l, q⟩ := r
    simpa [D.under] using Reps.below q
theorem Reps.below : ∀ {ds : List D} {vs : List V}, Reps K m N H ds vs → D.unders N ds = true
  | [], _, _ => by simp [D.unders]
  | d :: ds, _, r => by
    obtain ⟨v, q, e, r1, r2⟩ := r
    simp [D.unders, Rep.below r1, Reps.below r2]
end
theorem RepM.cut {Hv : Hp} (hn : n ≤ N) {o : MO} {a : Addr} (r : RepM K m N Hv H o a) (b : o.under n = true) : RepM K m n Hv H o a := by
  cases o with
  | lst ds => obtain ⟨vs, e, q⟩ := r; exact ⟨vs, e, Reps.cut hn q b⟩
  | obj C ks ds => obtain ⟨dx, vs, e, l, q⟩ := r; exact ⟨dx, vs, e, l, Reps.cut hn q b⟩
  | dic ks ds => obtain ⟨vs, e, l, q⟩ := r; exact ⟨vs, e, l, Reps.cut hn q b⟩
  | dicT ks ds => obtain ⟨vs, e, l, q⟩ := r; exact ⟨vs, e, l, Reps.cut hn q b⟩
end
section
variable {K : PySem.W.Frag} {m m0 : Nat → Addr} {S S0 : Sto} {Z : Addr → Prop} {H H0 : Hp} {n : Nat}
theorem live_take {i : Nat} (h : Live (S.take n) i) : i < n ∧ Live S i := by
  obtain ⟨x, e⟩ := h
  have h1 : i < (S.take n).length := (List.getElem?_eq_some_iff.mp e).1
  rw [List.length_take] at h1
  have h2 : i < n := by omega
  refine ⟨h2, x, ?_⟩
  rw [List.getElem?_take_of_lt h2] at e
  exact e
theorem vis_take {a : Addr} {o : HO} (h : vis m S Z H a = some o) : vis m (S.take n) Z H a = some o := by
  obtain ⟨z1, z2⟩ := vis_not h
  exact vis_of (vis_sub h) z1 fun k l => z2 k (live_take l).2
/-- the store is cut: what lies beyond n is forgotten -/
theorem Wd0.take (w : Wd0 K m S Z H) (hn : n ≤ S.length) (hb : Sto.under n (S.take n) = true) : Wd0 K m (S.take n) Z H := by
  have len : (S.take n).length = n := by rw [List.length_take]; omega
  refine ⟨fun i j li lj => w.inj i j (live_take li).2 (live_take lj).2, fun i li => w.zz i (live_take li).2, w.zh, fun i x e => ?_⟩
  have h := live_take ⟨x, e⟩
  have e' := e
  rw [List.getElem?_take_of_lt h.1] at e'
  rw [len]
  have bx : x.under n = true := by
    have hm : some x ∈ S.take n := List.mem_of_getElem? e
    have := List.all_eq_true.mp hb _ hm
    exact this
  exact ((w.rep i x e').mono (fun _ _ => rfl) (Nat.le_refl _) (fun a o q => vis_take (n := n) q) rfl).cut hn bx
theorem Ext.take (e : Ext m0 S0 Z H0 m S H) (h : S0.length ≤ n) (hn : n ≤ S.length) : Ext m0 S0 Z H0 m (S.take n) H :=
  ⟨by rw [List.length_take]; omega, e.loc, fun a o q => vis_take (e.vis a o q), e.zed⟩
/-- an object of the store is given up: from here on it is seen, and never changes -/
theorem live_setN {i k : Nat} (h : Live (S.set k none) i) : i ≠ k ∧ Live S i := by
  obtain ⟨x, e⟩ := h
  by_cases q : k = i
  · subst q
    by_cases hk : k < S.length
    · rw [List.getElem?_set_self hk] at e; cases e
    · rw [List.getElem?_eq_none_iff.mpr (by rw [List.length_set]; omega)] at e; cases e
  · rw [List.getElem?_set_ne q] at e
    exact ⟨fun z => q z.symm, x, e⟩
theorem vis_setN {a : Addr} {o : HO} {k : Nat} (h : vis m S Z H a = some o) : vis m (S.set k none) Z H a = some o := by
  obtain ⟨z1, z2⟩ := vis_not h
  exact vis_of (vis_sub h) z1 fun j l => z2 j (live_setN l).2
theorem Wd0.freeze (w : Wd0 K m S Z H) (k : Nat) : Wd0 K m (S.set k none) Z H := by
  refine ⟨fun i j li lj => w.inj i j (live_setN li).2 (live_setN lj).2, fun i li => w.zz i (live_setN li).2, w.zh, fun i x e => ?_⟩
  have h := live_setN ⟨x, e⟩
  rw [List.getElem?_set_ne (fun q => h.1 q.symm)] at e
  rw [List.length_set]
  exact (w.rep i x e).mono (fun _ _ => rfl) (Nat.le_refl _) (fun a o q => vis_setN (k := k) q) rfl
theorem Ext.freeze (e : Ext m0 S0 Z H0 m S H) (k : Nat) : Ext m0 S0 Z H0 m (S.set k none) H :=
  ⟨by rw [List.length_set]; exact e.len, e.loc, fun a o q => vis_setN (e.vis a o q), e.zed⟩
/-- the list at k, given up, as data -/
theorem Wd0.frozen_lst (w : Wd0 K m S Z H) {k : Nat} {ds : List D} (e : S[k]? = some (some (.lst ds))) : Rep K m (S.set k none).length (vis m (S.set k none) Z H) (.lst ds) (.ref (m k)) := by
  obtain ⟨vs, h, r⟩ := w.rep k _ e
  refine ⟨m k, vs, rfl, vis_of h (w.zz k ⟨_, e⟩) fun j l q => ?_, ?_⟩
  · have h2 := live_setN l
    exact h2.1 (w.inj j k h2.2 ⟨_, e⟩ q)
  · rw [List.length_set]
    exact Reps.mono (fun _ _ => rfl) (Nat.le_refl _) (fun a o q => vis_setN q) r
theorem Wd0.frozen_obj (w : Wd0 K m S Z H) {k : Nat} {C : Addr} {ks : List Str} {ds : List D} (e : S[k]? = some (some (.obj C ks ds))) : Rep K m (S.set k none).length (vis m (S.set k none) Z H) (.obj C ks ds) (.ref (m k)) := by
  obtain ⟨dx, vs, h, hl, r⟩ := w.rep k _ e
  refine ⟨m k, dx, vs, rfl, vis_of h (w.zz k ⟨_, e⟩) fun j l q => ?_, hl, ?_⟩
  · have h2 := live_setN l
    exact h2.1 (w.inj j k h2.2 ⟨_, e⟩ q)
  · rw [List.length_set]
    exact Reps.mono (fun _ _ => rfl) (Nat.le_refl _) (fun a o q => vis_setN q) r
theorem Wd0.frozen_dic (w : Wd0 K m S Z H) {k : Nat} {ks : List Key} {ds : List D} (e : S[k]? = some (some (.dic ks ds))) : Rep K m (S.set k none).length (vis m (S.set k none) Z H) (.dic ks ds) (.ref (m k)) := by
  obtain ⟨vs, h, hl, r⟩ := w.rep k _ e
  refine ⟨m k, vs, rfl, vis_of h (w.zz k ⟨_, e⟩) fun j l q => ?_, hl, ?_⟩
  · have h2 := live_setN l
    exact h2.1 (w.inj j k h2.2 ⟨_, e⟩ q)
  · rw [List.length_set]
    exact Reps.mono (fun _ _ => rfl) (Nat.le_refl _) (fun a o q => vis_setN q) r
end
def RelS (K : PySem.W.Frag) (m : Nat → Addr) (N : Nat) (Hv : Hp) (ρ : Env_) (σ : St) : Prop :=
  ρ.length = σ.length ∧ ∀ (i : Nat) (d : D), ρ[i]? = some (some d) → ∃ v : V, σ[i]? = some (some v) ∧ Rep K m N Hv d v
/-- a wish of exceptions, by data: class, fields, slots, store -/
abbrev XW := XC → List Str → List D → Env_ → Sto → Prop
structure Wi where
  W : Value → Option Addr → St → Hp → Prop
  D : XW
/-- none is let out -/
def U0 : Wi := ⟨fun _ _ _ _ => False, fun _ _ _ _ _ => False⟩
def Up (K : PySem.W.Frag) (U : Wi) (m : Nat → Addr) (S : Sto) (Z : Addr → Prop) (H : Hp) : Prop :=
  ∀ (H' : Hp) (m' : Nat → Addr) (S' : Sto) (σ' : St) (ρ' : Env_) (c : XC) (dd : Option Addr) (ks : List Str) (ds : List D) (vs : List V), Ext m S Z H m' S' H' → Wd0 K m' S' Z H' → RelS K m' S'.length (vis m' S' Z H') ρ' σ' →
    Xd (vis m' S' Z H') dd (ks.zip vs) → ks.length = vs.length → Reps K m' S'.length (vis m' S' Z H') ds vs → U.D c ks ds ρ' S' → U.W c.val dd σ' H'
structure Wd (K : PySem.W.Frag) (U : Wi) (m : Nat → Addr) (S : Sto) (Z : Addr → Prop) (H : Hp) : Prop extends Wd0 K m S Z H where
  up : Up K U m S Z H
section
variable {K : PySem.W.Frag} {U : Wi} {m m1 : Nat → Addr} {S S1 : Sto} {Z : Addr → Prop} {H H1 : Hp}
theorem Wd0.u0 (w : Wd0 K m S Z H) : Wd K U0 m S Z H := ⟨w, fun _ _ _ _ _ _ _ _ _ _ _ _ _ _ _ _ z => z.elim⟩
/-- a later world -/
theorem Wd.on (w : Wd K U m S Z H) (e : Ext m S Z H m1 S1 H1) (w1 : Wd0 K m1 S1 Z H1) : Wd K U m1 S1 Z H1 := ⟨w1, fun H' m' S' σ' ρ' c dd ks ds vs e' => w.up H' m' S' σ' ρ' c dd ks ds vs (e.trans e')⟩
theorem Wd.new (w : Wd K U m S Z H) {p : Addr} {o : HO} (hp : H p = none) : Wd K U m S Z (upd H p o) ∧ Ext m S Z H m S (upd H p o) ∧ vis m S Z (upd H p o) p = some o := by
  obtain ⟨a, b, c⟩ := w.toWd0.new (o := o) hp
  exact ⟨w.on b a, b, c⟩
theorem Wd.add (w : Wd K U m S Z H) {p : Addr} {o : HO} {mo : MO} (hp : H p = none) (hr : ∀ m1 N1 Hv1, (∀ i, i < S.length → m1 i = m i) → S.length ≤ N1 → (∀ a u, vis m S Z H a = some u → Hv1 a = some u) → RepM K m1 N1 Hv1 (upd H p o) mo p) :
    ∃ m', m' S.length = p ∧ Wd K U m' (S ++ [some mo]) Z (upd H p o) ∧ Ext m S Z H m' (S ++ [some mo]) (upd H p o) := by
  obtain ⟨m', e0, a, b⟩ := w.toWd0.add (o := o) (mo := mo) hp hr
  exact ⟨m', e0, w.on b a, b⟩
theorem Wd.upd (w : Wd K U m S Z H) {n : Nat} {o : HO} {mo : MO} (l : Live S n) (hr : RepM K m S.length (vis m S Z H) (upd H (m n) o) mo (m n)) :
    Wd K U m (S.set n (some mo)) Z (L2.upd H (m n) o) ∧ Ext m S Z H m (S.set n (some mo)) (L2.upd H (m n) o) ∧ vis m (S.set n (some mo)) Z (L2.upd H (m n) o) = vis m S Z H := by
  obtain ⟨a, b, c⟩ := w.toWd0.upd (o := o) (mo := mo) l hr
  exact ⟨w.on b a, b, c⟩
theorem Wd.freeze (w : Wd K U m S Z H) (k : Nat) : Wd K U m (S.set k none) Z H := w.on (Ext.refl.freeze k) (w.toWd0.freeze k)
end
end Dl
namespace Dl
open PySem L2
section
variable {K : PySem.W.Frag} {m : Nat → Addr} {N : Nat} {Hv : Hp}
theorem rep_non : Rep K m N Hv .non .non := by simp [Rep]
theorem rep_bl {b : Bool} : Rep K m N Hv (.bl b) (.bl b) := by simp [Rep]
theorem rep_int {b : Int} : Rep K m N Hv (.int b) (.int b) := by simp [Rep]
theorem rep_str {b : Str} : Rep K m N Hv (.str b) (.str b) := by simp [Rep]
theorem rep_ref {b : Addr} : Rep K m N Hv (.ref b) (.ref b) := by simp [Rep]
theorem rep_tup {a : Addr} {vs : List V} {ds : List D} (h : SqT K Hv a vs) (r : Reps K m N Hv ds vs) : Rep K m N Hv (.tup ds) (.ref a) := by rw [Rep]; exact ⟨a, vs, rfl, h, r⟩
theorem rep_lst {a : Addr} {vs : List V} {ds : List D} (h : Hv a = some (.lst vs)) (r : Reps K m N Hv ds vs) : Rep K m N Hv (.lst ds) (.ref a) := by rw [Rep]; exact ⟨a, vs, rfl, h, r⟩
theorem rep_loc {a : Addr} {n : Nat} (e : m n = a) (h : n < N) : Rep K m N Hv (.loc n) (.ref a) := by rw [Rep]; exact ⟨by rw [e], h⟩
theorem reps_nil : Reps K m N Hv [] [] := by simp [Reps]
end
/-- what is wanted behind a step, by data -/
def Outs {A B : Type} (m : Nat → Addr) (S : Sto) (Z : Addr → Prop) (H : Hp) (K : PySem.W.Frag) (U : Wi) (rel : (Nat → Addr) → Nat → Hp → A → B → Prop) (q : A → Sto → Prop) (Q : B → Hp → Prop) : Prop :=
  ∀ b H' m' a S', Ext m S Z H m' S' H' → Wd K U m' S' Z H' → rel m' S'.length (vis m' S' Z H') a b → q a S' → Q b H'
abbrev rD (K : PySem.W.Frag) : (Nat → Addr) → Nat → Hp → D → V → Prop := fun m N Hv d v => Rep K m N Hv d v
abbrev rDs (K : PySem.W.Frag) : (Nat → Addr) → Nat → Hp → List D → List V → Prop := fun m N Hv d v => Reps K m N Hv d v
abbrev rEq {A : Type} : (Nat → Addr) → Nat → Hp → A → A → Prop := fun _ _ _ a b => a = b
/-- a step by data -/
abbrev G (A : Type) := Env_ → Sto → (A → Sto → Prop) → Prop
def tof {A B : Type} (K : PySem.W.Frag) (U : Wi) (rel : (Nat → Addr) → Nat → Hp → A → B → Prop) (g : G A) : St → Hp → (B → Hp → Prop) → Prop := fun σ H Q =>
  ∃ m S Z ρ q, Wd K U m S Z H ∧ RelS K m S.length (vis m S Z H) ρ σ ∧ g ρ S q ∧ Outs m S Z H K U rel q Q
abbrev tofE (K : PySem.W.Frag) (U : Wi) (g : G D) : TE := tof K U (rD K) g
abbrev tofB (K : PySem.W.Frag) (U : Wi) (g : G Bool) : TT := tof K U rEq g
abbrev tofA (K : PySem.W.Frag) (U : Wi) (g : G (List D)) : TA := tof K U (rDs K) g
abbrev tofO (K : PySem.W.Frag) (U : Wi) (g : G (Option Int)) : TO := tof K U rEq g
section
variable {A B : Type} {K : PySem.W.Frag} {m m1 : Nat → Addr} {S S1 : Sto} {Z : Addr → Prop} {H H1 : Hp} {rel : (Nat → Addr) → Nat → Hp → A → B → Prop} {q : A → Sto → Prop} {Q : B → Hp → Prop} {ρ : Env_} {σ : St}
theorem Outs.ext (e : Ext m S Z H m1 S1 H1) (k : Outs m S Z H K U rel q Q) : Outs m1 S1 Z H1 K U rel q Q := fun b H' m' a S' e' w r h => k b H' m' a S' (e.trans e') w r h
theorem Outs.now (k : Outs m S Z H K U rel q Q) (w : Wd K U m S Z H) {a : A} {b : B} (r : rel m S.length (vis m S Z H) a b) (h : q a S) : Q b H := k b H m a S Ext.refl w r h
theorem Outs.at (k : Outs m S Z H K U rel q Q) (e : Ext m S Z H m1 S1 H1) (w : Wd K U m1 S1 Z H1) {a : A} {b : B} (r : rel m1 S1.length (vis m1 S1 Z H1) a b) (h : q a S1) : Q b H1 := k b H1 m1 a S1 e w r h
theorem RelS.ext (e : Ext m S Z H m1 S1 H1) (r : RelS K m S.length (vis m S Z H) ρ σ) : RelS K m1 S1.length (vis m1 S1 Z H1) ρ σ :=
  ⟨r.1, fun i d h => let ⟨v, h1, h2⟩ := r.2 i d h; ⟨v, h1, h2.ext e⟩⟩
theorem RelS.set {i : Nat} {d : D} {v : V} {N : Nat} {Hv : Hp} (r : RelS K m N Hv ρ σ) (h : Rep K m N Hv d v) : RelS K m N Hv (ρ.set i (some d)) (σ.set i (some v)) := by
  refine ⟨by rw [List.length_set, List.length_set]; exact r.1, fun j x e => ?_⟩
  by_cases hj : i = j
  · subst hj
    have hl : i < ρ.length := by
      have := (List.getElem?_eq_some_iff.mp e).1
      rw [List.length_set] at this; exact this
    rw [List.getElem?_set_self hl] at e
    cases e
    exact ⟨v, List.getElem?_set_self (by rw [← r.1]; exact hl), h⟩
  · rw [List.getElem?_set_ne hj] at e
    obtain ⟨w, h1, h2⟩ := r.2 j x e
    exact ⟨w, by rw [List.getElem?_set_ne hj]; exact h1, h2⟩
theorem tof_in {g : G A} (w : Wd K U m S Z H) (r : RelS K m S.length (vis m S Z H) ρ σ) (h : g ρ S q) (k : Outs m S Z H K U rel q Q) : tof K U rel g σ H Q := ⟨m, S, Z, ρ, q, w, r, h, k⟩
end
section
variable {X : Cx} {e : Expr} {t t' : TE}
theorem weakE (h : PE X e t) (k : ∀ σ H Q, t' σ H Q → t σ H Q) : PE X e t' := ⟨fun pins s σ H Q I q => h.run pins s σ H Q I (k σ H Q q)⟩
theorem weakT {u u' : TT} (h : PT X e u) (k : ∀ σ H Q, u' σ H Q → u σ H Q) : PT X e u' := ⟨fun pins s σ H Q I q => h.run pins s σ H Q I (k σ H Q q)⟩
theorem weakW {u u' : TT} (h : PW X e u) (k : ∀ σ H Q, u' σ H Q → u σ H Q) : PW X e u' := ⟨fun wh pins s σ H Q I q => h.run wh pins s σ H Q I (k σ H Q q)⟩
theorem weakA {es : List Expr} {u u' : TA} (h : PA X es u) (k : ∀ σ H Q, u' σ H Q → u σ H Q) : PA X es u' := ⟨fun pos pins s σ H Q I q => h.run pos pins s σ H Q I (k σ H Q q)⟩
theorem weakO {e : Option Expr} {u u' : TO} (h : PO X e u) (k : ∀ σ H Q, u' σ H Q → u σ H Q) : PO X e u' := ⟨fun pins s σ H Q I q => h.run pins s σ H Q I (k σ H Q q)⟩
theorem weakS {st : Stmt} {u u' : TS} (h : PS X st u) (k : ∀ E σ H, u' E σ H → u E σ H) : PS X st u' := ⟨fun pins s σ H E I q => h.run pins s σ H E I (k E σ H q)⟩
theorem weakSs {st : List Stmt} {u u' : TS} (h : PSs X st u) (k : ∀ E σ H, u' E σ H → u E σ H) : PSs X st u' := ⟨fun pins s σ H E I q => h.run pins s σ H E I (k E σ H q)⟩
end
def gVar (i : Nat) : G D := fun ρ S q => ∃ d : D, ρ[i]? = some (some d) ∧ q d S
def gC (d : D) : G D := fun _ S q => q d S
section
variable {X : Cx} {pos : Pos}
theorem d_var (i : Nat) {x : Str} (hN : X.N[i]? = some x := by rfl) (hv : Vis X.env.scope x := by first | exact Or.inl rfl | exact Or.inr (Or.inl rfl) | exact Or.inr (Or.inr rfl)) (hd : (x == ("__debug__" : Str)) = false := by decide)
    (hcd : (x == ("__classdict__" : Str)) = false := by decide) : PE X (.Name x pos) (tofE X.K U (gVar i)) :=
  weakE (pe_var hN hv hd hcd) fun σ H Q ⟨m, S, Z, ρ, q, w, r, ⟨d, e, h⟩, k⟩ => by
    obtain ⟨v, h1, h2⟩ := r.2 i d e
    exact ⟨v, h1, k.now w h2 h⟩
theorem ofC {e : Expr} {d : D} {v : V} (h : PE X e (tC v)) (hr : ∀ K m N Hv, Rep K m N Hv d v) : PE X e (tofE X.K U (gC d)) :=
  weakE h fun σ H Q ⟨m, S, Z, ρ, q, w, r, h, k⟩ => k.now w (hr _ _ _ _) h
theorem d_int {i j} : PE X (.Constant (.int i) j pos) (tofE X.K U (gC (.int i))) := ofC pe_int fun _ _ _ _ => rfl
theorem d_bl {b j} : PE X (.Constant (.bool b) j pos) (tofE X.K U (gC (.bl b))) := ofC pe_bl fun _ _ _ _ => rfl
theorem d_non {j} : PE X (.Constant .none j pos) (tofE X.K U (gC .non)) := ofC pe_non fun _ _ _ _ => rfl
theorem d_str {x j} : PE X (.Constant (.str x) j pos) (tofE X.K U (gC (.str x))) := ofC pe_str fun _ _ _ _ => rfl
/-- a module's constant: an int, a text -/
theorem d_gint {x : Str} {i : Int} (hg : Gl X x) (hm : ∃ t, X.mg x = some (.int i t)) (hd : (x == ("__debug__" : Str)) = false := by decide) : PE X (.Name x pos) (tofE X.K U (gC (.int i))) := by
  obtain ⟨t, hm⟩ := hm
  exact ofC (pe_glob (v := .int i) hg hm ⟨_, rfl⟩ hd) fun _ _ _ _ => rfl
/-- a module's tuple, list -/
structure KTup (K : PySem.W.Frag) (ds : List D) (a : Addr) : Prop where
  ok : ∀ m N Hv, Rep K m N Hv (.tup ds) (.ref a)
theorem d_gref {x : Str} {a : Addr} (hg : Gl X x) (hm : X.mg x = some (.ref a)) (hd : (x == ("__debug__" : Str)) = false := by decide) : PE X (.Name x pos) (tofE X.K U (gC (.ref a))) :=
  ofC (pe_glob (v := .ref a) hg hm rfl hd) fun _ _ _ _ => rfl
end
abbrev R2D := D → D → Sto → (D → Sto → Prop) → Prop
abbrev R1D := D → Sto → (D → Sto → Prop) → Prop
abbrev RND := List D → Sto → (D → Sto → Prop) → Prop
def gB2 (r : R2D) (ga gb : G D) : G D := fun ρ S q => ga ρ S fun a S1 => gb ρ S1 fun b S2 => r a b S2 q
def gU (r : R1D) (ga : G D) : G D := fun ρ S q => ga ρ S fun a S1 => r a S1 q
def VR2 (K : PySem.W.Frag) (r : R2) (g : R2D) : Prop := ∀ {U : Wi} {m : Nat → Addr} {S : Sto} {Z : Addr → Prop} {H : Hp} {a b : D} {v u : V} {q : D → Sto → Prop} {Q : VK}, Wd K U m S Z H → Rep K m S.length (vis m S Z H) a v → Rep K m S.length (vis m S Z H) b u →
  g a b S q → Outs m S Z H K U (rD K) q Q → r v u H Q
def VR1 (K : PySem.W.Frag) (r : V → Hp → VK → Prop) (g : R1D) : Prop := ∀ {U : Wi} {m : Nat → Addr} {S : Sto} {Z : Addr → Prop} {H : Hp} {a : D} {v : V} {q : D → Sto → Prop} {Q : VK}, Wd K U m S Z H → Rep K m S.length (vis m S Z H) a v →
  g a S q → Outs m S Z H K U (rD K) q Q → r v H Q
def VRN (K : PySem.W.Frag) (r : List V → Hp → VK → Prop) (g : RND) : Prop := ∀ {U : Wi} {m : Nat → Addr} {S : Sto} {Z : Addr → Prop} {H : Hp} {a : List D} {v : List V} {q : D → Sto → Prop} {Q : VK}, Wd K U m S Z H → Reps K m S.length (vis m S Z H) a v →
  g a S q → Outs m S Z H K U (rD K) q Q → r v H Q
section
variable {X : Cx} {pos : Pos} {a b c e : Expr} {ga gb gc : G D} {r r' : R2} {g g' : R2D}
theorem two_in {K : PySem.W.Frag} (hv : VR2 K r g) {σ : St} {H : Hp} {Q : VK} (h : tofE K U (gB2 g ga gb) σ H Q) : tOp r (tofE K U ga) (tofE K U gb) σ H Q := by
  obtain ⟨m, S, Z, ρ, q, w, rs, h, k⟩ := h
  exact tof_in w rs h fun v1 H1 m1 d1 S1 e1 w1 r1 h1 => tof_in w1 (rs.ext e1) h1 fun v2 H2 m2 d2 S2 e2 w2 r2 h2 => hv w2 (r1.ext e2) r2 h2 (k.ext (e1.trans e2))
theorem d_op {op : Operator} (ho : OpR X (binaryOp op) r) (hv : VR2 X.K r g) (ha : PE X a (tofE X.K U ga)) (hb : PE X b (tofE X.K U gb)) : PE X (.BinOp a op b pos) (tofE X.K U (gB2 g ga gb)) :=
  weakE (pe_op ho ha hb) fun _ _ _ h => two_in hv h
theorem d_cmp {op : CmpOp} (ho : OpR X (compareOp op) r) (hv : VR2 X.K r g) (ha : PE X a (tofE X.K U ga)) (hb : PE X b (tofE X.K U gb)) (hm : behindInMarks op b = false := by first | rfl | exact nomark _) : PE X (.Compare a [op] [b] pos) (tofE X.K U (gB2 g ga gb)) :=
  weakE (pe_cmpR ho ha hb hm) fun _ _ _ h => two_in hv h
/-- a comparison as a test -/
def gTest (g : G D) : G Bool := fun ρ S q => g ρ S fun d S1 => ∃ k, d = .bl k ∧ q k S1
theorem d_test {t : TE} (h : PE X e t) (ht : PT X e (tTest t)) {g : G D} (k : ∀ σ H Q, tofE X.K U g σ H Q → t σ H Q) : PT X e (tofB X.K U (gTest g)) :=
  weakT ht fun σ H Q ⟨m, S, Z, ρ, q, w, rs, h, kk⟩ => k σ H _ (tof_in w rs h fun v1 H1 m1 d1 S1 e1 w1 r1 h1 => by
    obtain ⟨b, e, h1⟩ := h1
    subst e
    exact ⟨b, r1, kk.at e1 w1 rfl h1⟩)
theorem d_tcmp {op : CmpOp} (ho : OpR X (compareOp op) r) (hv : VR2 X.K r g) (ha : PE X a (tofE X.K U ga)) (hb : PE X b (tofE X.K U gb)) (hm : behindInMarks op b = false := by first | rfl | exact nomark _) : PT X (.Compare a [op] [b] pos) (tofB X.K U (gTest (gB2 g ga gb))) :=
  d_test (pe_cmpR (pos := pos) ho ha hb hm) (pt_cmpR ho ha hb hm) fun _ _ _ h => two_in hv h
theorem VR2.or {K : PySem.W.Frag} (h : VR2 K r g) (h' : VR2 K r' g') : VR2 K (fun x y H Q => r x y H Q ∨ r' x y H Q) (fun a b S q => g a b S q ∨ g' a b S q) := fun w r1 r2 x k => x.elim (fun x => .inl (h w r1 r2 x k)) (fun x => .inr (h' w r1 r2 x k))
/-- a chain a < b < c -/
def gChain (g g' : R2D) (ga gb gc : G D) : G D := fun ρ S q => ga ρ S fun a S1 => gb ρ S1 fun b S2 => g a b S2 fun z S3 => ∃ k, z = .bl k ∧ (if k = true then gc ρ S3 fun c S4 => g' b c S4 q else q (.bl false) S3)
theorem d_un {op : UnaryOp} {u : V → Hp → VK → Prop} {g1 : R1D} (ho : UnR X (unaryOp op) u) (hv : VR1 X.K u g1) (ha : PE X a (tofE X.K U ga)) : PE X (.UnaryOp op a pos) (tofE X.K U (gU g1 ga)) :=
  weakE (pe_un ho ha) fun _ _ _ ⟨m, S, Z, ρ, q, w, rs, h, k⟩ => tof_in w rs h fun v1 H1 m1 d1 S1 e1 w1 r1 h1 => hv w1 r1 h1 (k.ext e1)
end
section
variable {X : Cx} {pos : Pos} {a b c e : Expr} {ga gb gc : G D} {rest : List Expr} {ta tb : G Bool}
/-- an expression whose value is a bool, as a test -/
theorem d_val (h : PE X e (tofE X.K U ga)) (he : ∀ whole, isTrue e X.env whole = (do let v ← whole; standAt e.pos; holding [v] (truthy v)) := by intro _; rfl) : PT X e (tofB X.K U (gTest ga)) :=
  d_test (t := tofE X.K U ga) h (weakT (pt_val h he) fun _ _ _ h => h) fun _ _ _ h => h
def gAndB (ta tb : G Bool) : G Bool := fun ρ S q => ta ρ S fun c S1 => if c = true then tb ρ S1 q else q false S1
def gOrB (ta tb : G Bool) : G Bool := fun ρ S q => ta ρ S fun c S1 => if c = true then q true S1 else tb ρ S1 q
def gNotB (ta : G Bool) : G Bool := fun ρ S q => ta ρ S fun c S1 => q (!c) S1
theorem d_and1 (ha : PT X a (tofB X.K U ta)) : PW X (.BoolOp .And [a] pos) (tofB X.K U ta) := pw_and1 ha
theorem d_or1 (ha : PT X a (tofB X.K U ta)) : PW X (.BoolOp .Or [a] pos) (tofB X.K U ta) := pw_or1 ha
theorem d_and (ha : PT X a (tofB X.K U ta)) (hb : PW X (.BoolOp .And (b :: rest) pos) (tofB X.K U tb)) : PW X (.BoolOp .And (a :: b :: rest) pos) (tofB X.K U (gAndB ta tb)) :=
  weakW (pw_and ha hb) fun σ H Q ⟨m, S, Z, ρ, q, w, rs, h, k⟩ => tof_in w rs h fun v1 H1 m1 d1 S1 e1 w1 r1 h1 => by
    cases (show d1 = v1 from r1)
    cases v1 with
    | true => exact tof_in w1 (rs.ext e1) h1 (k.ext e1)
    | false => exact k.at e1 w1 rfl h1
theorem d_or (ha : PT X a (tofB X.K U ta)) (hb : PW X (.BoolOp .Or (b :: rest) pos) (tofB X.K U tb)) : PW X (.BoolOp .Or (a :: b :: rest) pos) (tofB X.K U (gOrB ta tb)) :=
  weakW (pw_or ha hb) fun σ H Q ⟨m, S, Z, ρ, q, w, rs, h, k⟩ => tof_in w rs h fun v1 H1 m1 d1 S1 e1 w1 r1 h1 => by
    cases (show d1 = v1 from r1)
    cases v1 with
    | true => exact k.at e1 w1 rfl h1
    | false => exact tof_in w1 (rs.ext e1) h1 (k.ext e1)
theorem d_not (ha : PT X a (tofB X.K U ta)) : PT X (.UnaryOp .Not a pos) (tofB X.K U (gNotB ta)) :=
  weakT (pt_not ha) fun σ H Q ⟨m, S, Z, ρ, q, w, rs, h, k⟩ => tof_in w rs h fun v1 H1 m1 d1 S1 e1 w1 r1 h1 => by
    cases (show d1 = v1 from r1)
    exact k.at e1 w1 rfl h1
/-- and, or, not as values: bools -/
def gAndV (ga gb : G D) : G D := fun ρ S q => ga ρ S fun a S1 => ∃ c, a = .bl c ∧ if c = true then gb ρ S1 q else q (.bl false) S1
def gOrV (ga gb : G D) : G D := fun ρ S q => ga ρ S fun a S1 => ∃ c, a = .bl c ∧ if c = true then q (.bl true) S1 else gb ρ S1 q
def gNotV (ga : G D) : G D := fun ρ S q => ga ρ S fun a S1 => ∃ c, a = .bl c ∧ q (.bl (!c)) S1
theorem d_oneV {op} (h : PE X a (tofE X.K U ga)) : PE X (.BoolOp op [a] pos) (tofE X.K U ga) := pe_one h
theorem d_andV (ha : PE X a (tofE X.K U ga)) (hb : PE X (.BoolOp .And (b :: rest) pos) (tofE X.K U gb)) : PE X (.BoolOp .And (a :: b :: rest) pos) (tofE X.K U (gAndV ga gb)) :=
  weakE (pe_and ha hb) fun σ H Q ⟨m, S, Z, ρ, q, w, rs, h, k⟩ => tof_in w rs h fun v1 H1 m1 d1 S1 e1 w1 r1 h1 => by
    obtain ⟨c, e, h1⟩ := h1
    subst e
    refine ⟨c, r1, ?_⟩
    cases c with
    | true => exact tof_in w1 (rs.ext e1) h1 (k.ext e1)
    | false => exact k.at e1 w1 rep_bl h1
def gIf (t : G Bool) (ga gb : G D) : G D := fun ρ S q => t ρ S fun c S1 => if c = true then ga ρ S1 q else gb ρ S1 q
theorem d_ifExp (hc : PT X c (tofB X.K U ta)) (ha : PE X a (tofE X.K U ga)) (hb : PE X b (tofE X.K U gb)) : PE X (.IfExp c a b pos) (tofE X.K U (gIf ta ga gb)) :=
  weakE (pe_ifExp hc ha hb) fun σ H Q ⟨m, S, Z, ρ, q, w, rs, h, k⟩ => tof_in w rs h fun v1 H1 m1 d1 S1 e1 w1 r1 h1 => by
    cases (show d1 = v1 from r1)
    cases v1 with
    | true => exact tof_in w1 (rs.ext e1) h1 (k.ext e1)
    | false => exact tof_in w1 (rs.ext e1) h1 (k.ext e1)
/-- is None -/
def D.isNon : D → Bool
  | .non => true
  | _ => false
theorem Rep.isNon {K : PySem.W.Frag} {m : Nat → Addr} {N : Nat} {Hv : Hp} {d : D} {v : V} (r : Rep K m N Hv d v) : decide (v = .non) = d.isNon := by
  cases d with
  | non => rw [show v = .non from r]; rfl
  | bl b => rw [show v = .bl b from r]; rfl
  | int b => rw [show v = .int b from r]; rfl
  | str b => rw [show v = .str b from r]; rfl
  | tup b => obtain ⟨a, vs, e, _⟩ := r; rw [e]; rfl
  | lst b => obtain ⟨a, vs, e, _⟩ := r; rw [e]; rfl
  | ksq b => obtain ⟨a, vs, e, _⟩ := r; rw [e]; rfl
  | obj b => obtain ⟨a, dx, vs, e, _⟩ := r; rw [e]; rfl
  | dic b => obtain ⟨a, vs, e, _⟩ := r; rw [e]; rfl
  | loc n => rw [r.1]; rfl
  | ref a => rw [show v = .ref a from r]; rfl
  | ty a => rw [show v = .ty a from r]; rfl
  | exc c ks ds => obtain ⟨a, dd, vs, e, _⟩ := r; rw [e]; rfl
def gIsN (ga : G D) : G D := fun ρ S q => ga ρ S fun a S1 => q (.bl a.isNon) S1
def gNotN (ga : G D) : G D := fun ρ S q => ga ρ S fun a S1 => q (.bl (!a.isNon)) S1
theorem d_tisN {j pos'} (ha : PE X a (tofE X.K U ga)) : PT X (.Compare a [.Is] [.Constant .none j pos'] pos) (tofB X.K U (gTest (gIsN ga))) :=
  weakT (pt_cmp (pc_isN ha)) fun σ H Q ⟨m, S, Z, ρ, q, w, rs, h, k⟩ => tof_in w rs h fun v1 H1 m1 d1 S1 e1 w1 r1 ⟨b, e, h1⟩ => ⟨_, by rw [Rep.isNon r1], k.at e1 w1 (by cases e; rfl) h1⟩
theorem d_tnotN {j pos'} (ha : PE X a (tofE X.K U ga)) : PT X (.Compare a [.IsNot] [.Constant .none j pos'] pos) (tofB X.K U (gTest (gNotN ga))) :=
  weakT (pt_cmp (pc_notN ha)) fun σ H Q ⟨m, S, Z, ρ, q, w, rs, h, k⟩ => tof_in w rs h fun v1 H1 m1 d1 S1 e1 w1 r1 ⟨b, e, h1⟩ => ⟨_, by rw [Rep.isNon r1], k.at e1 w1 (by cases e; rfl) h1⟩
end
def gNil : G (List D) := fun _ S q => q [] S
def gCons (ga : G D) (gr : G (List D)) : G (List D) := fun ρ S q => ga ρ S fun a S1 => gr ρ S1 fun as S2 => q (a :: as) S2
/-- a new list: given up at once, or of the store -/
def newL (fz : Bool) (ds : List D) (S : Sto) (q : D → Sto → Prop) : Prop := if fz = true then q (.lst ds) S else q (.loc S.length) (S ++ [some (.lst ds)])
section
variable {K : PySem.W.Frag} {m : Nat → Addr} {S : Sto} {Z : Addr → Prop} {H : Hp} {q : D → Sto → Prop} {Q : VK} {ds : List D} {vs : List V} {fz : Bool} {p : Addr}
theorem out_newL (w : Wd K U m S Z H) (r : Reps K m S.length (vis m S Z H) ds vs) (h : newL fz ds S q) (k : Outs m S Z H K U (rD K) q Q) (hp : H p = none) : Q (.ref p) (upd H p (.lst vs)) := by
  cases fz with
  | true =>
    obtain ⟨w1, e1, hv⟩ := w.new (o := .lst vs) hp
    exact k.at e1 w1 (rep_lst hv (r.ext e1)) h
  | false =>
    obtain ⟨m', e0, w1, e1⟩ := w.add (o := .lst vs) (mo := .lst ds) hp fun m1 N1 Hv1 h1 h2 h3 => ⟨vs, upd_same, Reps.mono h1 h2 h3 r⟩
    exact k.at e1 w1 (rep_loc e0 (by simp)) h
theorem out_newT (w : Wd K U m S Z H) (r : Reps K m S.length (vis m S Z H) ds vs) (h : q (.tup ds) S) (k : Outs m S Z H K U (rD K) q Q) (hp : H p = none) : Q (.ref p) (upd H p (.tup vs)) := by
  obtain ⟨w1, e1, hv⟩ := w.new (o := .tup vs) hp
  exact k.at e1 w1 (rep_tup (SqT.of hv) (r.ext e1)) h
end
section
variable {X : Cx} {pos : Pos} {e : Expr} {es : List Expr} {ga : G D} {gr : G (List D)}
theorem d_nil : PA X [] (tofA X.K U gNil) := weakA pa_nil fun σ H Q ⟨m, S, Z, ρ, q, w, rs, h, k⟩ => k.now w reps_nil h
theorem d_cons (ha : PE X e (tofE X.K U ga)) (hr : PA X es (tofA X.K U gr)) (hs : starEach (e :: es) X.env = (false, eval e X.env) :: starEach es X.env := by rfl) : PA X (e :: es) (tofA X.K U (gCons ga gr)) :=
  weakA (pa_cons ha hr hs) fun σ H Q ⟨m, S, Z, ρ, q, w, rs, h, k⟩ => tof_in w rs h fun v1 H1 m1 d1 S1 e1 w1 r1 h1 => tof_in w1 (rs.ext e1) h1 fun v2 H2 m2 d2 S2 e2 w2 r2 h2 => k.at (e1.trans e2) w2 (Reps.cons (r1.ext e2) r2) h2
def gTup (gs : G (List D)) : G D := fun ρ S q => gs ρ S fun ds S1 => ds.length ≤ sizeLine ∧ q (.tup ds) S1
def gLst (fz : Bool) (gs : G (List D)) : G D := fun ρ S q => gs ρ S fun ds S1 => ds.length ≤ sizeLine ∧ newL fz ds S1 q
theorem d_tup {x1} (h : PA X es (tofA X.K U gr)) : PE X (.Tuple es x1 pos) (tofE X.K U (gTup gr)) :=
  weakE (pe_tup h) fun σ H Q ⟨m, S, Z, ρ, q, w, rs, h, k⟩ => tof_in w rs h fun v1 H1 m1 d1 S1 e1 w1 r1 h1 => ⟨by rw [Reps.len r1]; exact h1.1, fun p hp => out_newT w1 r1 h1.2 (k.ext e1) hp⟩
theorem d_lst (fz : Bool) (h : PA X es (tofA X.K U gr)) : PE X (.List es pos) (tofE X.K U (gLst fz gr)) :=
  weakE (pe_lst h) fun σ H Q ⟨m, S, Z, ρ, q, w, rs, h, k⟩ => tof_in w rs h fun v1 H1 m1 d1 S1 e1 w1 r1 h1 => ⟨by rw [Reps.len r1]; exact h1.1, fun p hp => out_newL w1 r1 h1.2 (k.ext e1) hp⟩
/-- a built-in by its name -/
def gCB (r : RND) (gs : G (List D)) : G D := fun ρ S q => gs ρ S fun ds S1 => r ds S1 q
theorem d_callB {x : Str} {id : String} {p : Pos} {r : List V → Hp → VK → Prop} {g : RND} (hc : CallR X (.builtin id) r) (hv : VRN X.K r g) (hg : Gl X x) (hm : X.mg x = none) (hb : bootBuiltins x = some (.builtin id)) (ha : PA X (e :: es) (tofA X.K U gr)) (hn : x ≠ "__name__" := by decide) (hdb : (x == ("__debug__" : Str)) = false := by decide)
    (hs : starEach (e :: es) X.env = (false, eval e X.env) :: starEach es X.env := by rfl) (hpl : (backTo pos (starEach es X.env)).any (·.1) = false := by rfl) : PE X (.Call (.Name x p) (e :: es) [] pos) (tofE X.K U (gCB g gr)) :=
  weakE (pe_callB hc hg hm hb ha hn hdb hs hpl) fun σ H Q ⟨m, S, Z, ρ, q, w, rs, h, k⟩ => tof_in w rs h fun v1 H1 m1 d1 S1 e1 w1 r1 h1 => hv w1 r1 h1 (k.ext e1)
theorem d_callTy {x : Str} {T : String} {p : Pos} {r : List V → Hp → VK → Prop} {g : RND} (hc : CallR X (.type T) r) (hv : VRN X.K r g) (hg : Gl X x) (hm : X.mg x = none) (hb : bootBuiltins x = some (.type T)) (ha : PA X (e :: es) (tofA X.K U gr)) (hn : x ≠ "__name__" := by decide) (hdb : (x == ("__debug__" : Str)) = false := by decide)
    (hs : starEach (e :: es) X.env = (false, eval e X.env) :: starEach es X.env := by rfl) (hpl : (backTo pos (starEach es X.env)).any (·.1) = false := by rfl) : PE X (.Call (.Name x p) (e :: es) [] pos) (tofE X.K U (gCB g gr)) :=
  weakE (pe_callTy hc hg hm hb ha hn hdb hs hpl) fun σ H Q ⟨m, S, Z, ρ, q, w, rs, h, k⟩ => tof_in w rs h fun v1 H1 m1 d1 S1 e1 w1 r1 h1 => hv w1 r1 h1 (k.ext e1)
def VRM (K : PySem.W.Frag) (T : String) (r : V → List V → Hp → VK → Prop) (g : D → RND) : Prop := (∀ {U : Wi} {m : Nat → Addr} {S : Sto} {Z : Addr → Prop} {H : Hp} {o : D} {u : V} {a : List D} {v : List V} {q : D → Sto → Prop} {Q : VK}, Wd K U m S Z H → Rep K m S.length (vis m S Z H) o u → Reps K m S.length (vis m S Z H) a v →
  g o a S q → Outs m S Z H K U (rD K) q Q → r u v H Q)
/-- the receiver's kind -/
def isTy (T : String) (S : Sto) : D → Bool
  | .str _ => T == "str"
  | .lst _ => T == "list"
  | .ksq _ => T == "list"
  | .tup _ => T == "tuple"
  | .int _ => T == "int"
  | .loc k => match S[k]? with
    | some (some (.lst _)) => T == "list"
    | some (some (.dic _ _)) => T == "dict"
    | some (some (.dicT _ _)) => T == "dict"
    | _ => false
  | .dic _ _ => T == "dict"
  | _ => false
end
end Dl
namespace Dl
open PySem L2
/-- what is wanted behind a statement, by data -/
structure DE where
  nx : Env_ → Sto → Prop
  rt : D → Sto → Prop
  bk : Env_ → Sto → Prop := fun _ _ => False
  ct : Env_ → Sto → Prop := fun _ _ => False
abbrev GS := DE → Env_ → Sto → Prop
abbrev rS (K : PySem.W.Frag) : (Nat → Addr) → Nat → Hp → Env_ → St → Prop := fun m N Hv ρ σ => RelS K m N Hv ρ σ
structure OutE (m : Nat → Addr) (S : Sto) (Z : Addr → Prop) (H : Hp) (K : PySem.W.Frag) (U : Wi) (E : DE) (De : Ends) : Prop where
  nx : Outs m S Z H K U (rS K) E.nx De.nx
  rt : Outs m S Z H K U (rD K) E.rt De.rt
  bk : Outs m S Z H K U (rS K) E.bk De.bk
  ct : Outs m S Z H K U (rS K) E.ct De.ct
def tofS (K : PySem.W.Frag) (U : Wi) (g : GS) : TS := fun De σ H => ∃ m S Z ρ E, Wd K U m S Z H ∧ RelS K m S.length (vis m S Z H) ρ σ ∧ g E ρ S ∧ OutE m S Z H K U E De
section
variable {K : PySem.W.Frag} {m m1 : Nat → Addr} {S S1 : Sto} {Z : Addr → Prop} {H H1 : Hp} {E : DE} {De : Ends} {ρ : Env_} {σ : St}
theorem OutE.ext (e : Ext m S Z H m1 S1 H1) (k : OutE m S Z H K U E De) : OutE m1 S1 Z H1 K U E De := ⟨k.nx.ext e, k.rt.ext e, k.bk.ext e, k.ct.ext e⟩
theorem tofS_in {g : GS} (w : Wd K U m S Z H) (r : RelS K m S.length (vis m S Z H) ρ σ) (h : g E ρ S) (k : OutE m S Z H K U E De) : tofS K U g De σ H := ⟨m, S, Z, ρ, E, w, r, h, k⟩
end
def gNext : GS := fun E ρ S => E.nx ρ S
def gSeq (g1 g2 : GS) : GS := fun E ρ S => g1 { E with nx := g2 E } ρ S
def gBreak : GS := fun E ρ S => E.bk ρ S
def gCont : GS := fun E ρ S => E.ct ρ S
def gDrop (ge : G D) : GS := fun E ρ S => ge ρ S fun _ S1 => E.nx ρ S1
def gRet (ge : G D) : GS := fun E ρ S => ge ρ S E.rt
def gRetN : GS := fun E ρ S => E.rt .non S
def gIfS (gt : G Bool) (g1 g2 : GS) : GS := fun E ρ S => gt ρ S fun b S1 => if b = true then g1 E ρ S1 else g2 E ρ S1
def gDead : GS := fun _ _ _ => False
section
variable {X : Cx} {pos : Pos} {st : Stmt} {rest : List Stmt} {e c : Expr} {ge : G D} {gt : G Bool} {g1 g2 : GS}
theorem ds_nil : PSs X [] (tofS X.K U gNext) := weakSs pss_nil fun E σ H ⟨m, S, Z, ρ, D, w, rs, h, k⟩ => k.nx.now w rs h
theorem ds_cons (h1 : PS X st (tofS X.K U g1)) (h2 : PSs X rest (tofS X.K U g2)) : PSs X (st :: rest) (tofS X.K U (gSeq g1 g2)) :=
  weakSs (pss_cons h1 h2) fun E σ H ⟨m, S, Z, ρ, D, w, rs, h, k⟩ => tofS_in (E := { D with nx := g2 D }) w rs h ⟨fun σ1 H1 m1 ρ1 S1 e1 w1 r1 h1 => tofS_in w1 r1 h1 (k.ext e1), k.rt, k.bk, k.ct⟩
theorem ds_one (h1 : PS X st (tofS X.K U g1)) : PSs X [st] (tofS X.K U g1) := pss_one h1
theorem d_expr (he : PE X e (tofE X.K U ge)) (hs : swapsWith e none pos.line X.env = pure false := by rfl) : PS X (.Expr e pos) (tofS X.K U (gDrop ge)) :=
  weakS (ps_expr he hs) fun E σ H ⟨m, S, Z, ρ, D, w, rs, h, k⟩ => tof_in w rs h fun v1 H1 m1 d1 S1 e1 w1 r1 h1 => k.nx.at e1 w1 (rs.ext e1) h1
theorem d_ret (he : PE X e (tofE X.K U ge)) : PS X (.Return (some e) pos) (tofS X.K U (gRet ge)) :=
  weakS (ps_ret he) fun E σ H ⟨m, S, Z, ρ, D, w, rs, h, k⟩ => tof_in w rs h k.rt
theorem d_if {a b : List Stmt} (hc : PT X c (tofB X.K U gt)) (ha : PSs X a (tofS X.K U g1)) (hb : PSs X b (tofS X.K U g2)) : PS X (.If c a b pos) (tofS X.K U (gIfS gt g1 g2)) :=
  weakS (ps_if hc ha hb) fun E σ H ⟨m, S, Z, ρ, D, w, rs, h, k⟩ => tof_in w rs h fun v1 H1 m1 d1 S1 e1 w1 r1 h1 => by
    cases (show d1 = v1 from r1)
    cases v1 with
    | true => exact tofS_in w1 (rs.ext e1) h1 (k.ext e1)
    | false => exact tofS_in w1 (rs.ext e1) h1 (k.ext e1)
end
inductive Tgt where
  | nm (i : Nat) | tp (ts : List Tgt)
mutual
def Tgt.bind : Tgt → D → Env_ → Option Env_
  | .nm i, d, ρ => some (ρ.set i (some d))
  | .tp ts, .tup ds, ρ => Tgt.binds ts ds ρ
  | .tp _, _, _ => none
def Tgt.binds : List Tgt → List D → Env_ → Option Env_
  | [], [], ρ => some ρ
  | t :: ts, d :: ds, ρ => (Tgt.bind t d ρ).bind fun ρ' => Tgt.binds ts ds ρ'
  | _, _, _ => none
end
mutual
def Tgt.gof (K : PySem.W.Frag) : Tgt → TG
  | .nm i => gName i
  | .tp ts => L2.gTup K ts.length (Tgt.gofs K ts)
def Tgt.gofs (K : PySem.W.Frag) : List Tgt → TGs
  | [] => L2.gNil
  | t :: ts => L2.gCons (Tgt.gof K t) (Tgt.gofs K ts)
end
mutual
def Tgt.slots : Tgt → List Nat
  | .nm i => [i]
  | .tp ts => Tgt.slotss ts
def Tgt.slotss : List Tgt → List Nat
  | [] => []
  | t :: ts => Tgt.slots t ++ Tgt.slotss ts
end
theorem wipe_swap (σ : St) (v : Nat) : ∀ vs : List Nat, wipe (σ.set v none) vs = (wipe σ vs).set v none
  | [] => rfl
  | u :: us => by
    show (wipe (σ.set v none) us).set u none = ((wipe σ us).set u none).set v none
    rw [wipe_swap σ v us]
    by_cases h : u = v
    · subst h; rfl
    · exact List.set_comm _ _ (fun z => h z.symm)
theorem wipe_set {σ : St} {i : Nat} {x : Option V} : ∀ {vs : List Nat}, i ∈ vs → wipe (σ.set i x) vs = wipe σ vs
  | [], h => by cases h
  | v :: vs, h => by
    show (wipe (σ.set i x) vs).set v none = (wipe σ vs).set v none
    by_cases hv : i = v
    · subst hv
      rw [← wipe_swap, ← wipe_swap, List.set_set]
    · rcases List.mem_cons.mp h with e | h
      · exact absurd e hv
      · rw [wipe_set h]
theorem wipe_wipe {σ : St} : ∀ {vs : List Nat} (ws : List Nat), (∀ v ∈ vs, v ∈ ws) → wipe (wipe σ vs) ws = wipe σ ws
  | [], ws, _ => rfl
  | v :: vs, ws, h => by
    show wipe ((wipe σ vs).set v none) ws = wipe σ ws
    rw [wipe_set (h v (List.mem_cons_self ..)), wipe_wipe ws fun u hu => h u (List.mem_cons_of_mem _ hu)]
section
variable {K : PySem.W.Frag} {m : Nat → Addr} {N : Nat} {Hv H : Hp} {vs : List Nat}
mutual
theorem Tgt.ok (hH : ∀ a o, Hv a = some o → H a = some o) : ∀ {t : Tgt} {d : D} {v : V} {ρ ρ' : Env_} {σ : St} {Q : St → Hp → Prop}, t.bind d ρ = some ρ' → Rep K m N Hv d v → RelS K m N Hv ρ σ →
    (∀ σ', RelS K m N Hv ρ' σ' → ((∀ i ∈ t.slots, i ∈ vs) → wipe σ' vs = wipe σ vs) → Q σ' H) → t.gof K v σ H Q
  | .nm i, d, v, ρ, ρ', σ, Q, e, r, rs, k => by
    rw [Tgt.bind] at e
    cases e
    rw [Tgt.gof]
    exact k _ (rs.set r) fun h => wipe_set (h i (by rw [Tgt.slots]; exact List.mem_singleton.mpr rfl))
  | .tp ts, .tup ds, v, ρ, ρ', σ, Q, e, r, rs, k => by
    rw [Tgt.bind] at e
    rw [Rep] at r
    obtain ⟨a, xs, ev, hs, hr⟩ := r
    rw [Tgt.gof]
    have hl : ds.length = ts.length := Tgt.binds_len e
    refine ⟨a, xs, ev, SqT.sub hH hs, by rw [Reps.len hr, hl], Tgt.oks hH e hr rs fun σ' r' hw => k σ' r' fun h => hw fun i hi => h i (by rw [Tgt.slots]; exact hi)⟩
  | .tp ts, .non, v, ρ, ρ', σ, Q, e, r, rs, k => by rw [Tgt.bind] at e <;> first | cases e | (intro _ z; cases z)
  | .tp ts, .bl _, v, ρ, ρ', σ, Q, e, r, rs, k => by rw [Tgt.bind] at e <;> first | cases e | (intro _ z; cases z)
  | .tp ts, .int _, v, ρ, ρ', σ, Q, e, r, rs, k => by rw [Tgt.bind] at e <;> first | cases e | (intro _ z; cases z)
  | .tp ts, .str _, v, ρ, ρ', σ, Q, e, r, rs, k => by rw [Tgt.bind] at e <;> first | cases e | (intro _ z; cases z)
  | .tp ts, .lst _, v, ρ, ρ', σ, Q, e, r, rs, k => by rw [Tgt.bind] at e <;> first | cases e | (intro _ z; cases z)
  | .tp ts, .ksq _, v, ρ, ρ', σ, Q, e, r, rs, k => by rw [Tgt.bind] at e <;> first | cases e | (intro _ z; cases z)
  | .tp ts, .obj _ _ _, v, ρ, ρ', σ, Q, e, r, rs, k => by rw [Tgt.bind] at e <;> first | cases e | (intro _ z; cases z)
  | .tp ts, .dic _ _, v, ρ, ρ', σ, Q, e, r, rs, k => by rw [Tgt.bind] at e <;> first | cases e | (intro _ z; cases z)
  | .tp ts, .loc _, v, ρ, ρ', σ, Q, e, r, rs, k => by rw [Tgt.bind] at e <;> first | cases e | (intro _ z; cases z)
  | .tp ts, .ref _, v, ρ, ρ', σ, Q, e, r, rs, k => by rw [Tgt.bind] at e <;> first | cases e | (intro _ z; cases z)
  | .tp ts, .ty _, v, ρ, ρ', σ, Q, e, r, rs, k => by rw [Tgt.bind] at e <;> first | cases e | (intro _ z; cases z)
  | .tp ts, .exc _ _ _, v, ρ, ρ', σ, Q, e, r, rs, k => by rw [Tgt.bind] at e <;> first | cases e | (intro _ z; cases z)
theorem Tgt.oks (hH : ∀ a o, Hv a = some o → H a = some o) : ∀ {ts : List Tgt} {ds : List D} {xs : List V} {ρ ρ' : Env_} {σ : St} {Q : St → Hp → Prop}, Tgt.binds ts ds ρ = some ρ' → Reps K m N Hv ds xs → RelS K m N Hv ρ σ →
    (∀ σ', RelS K m N Hv ρ' σ' → ((∀ i ∈ Tgt.slotss ts, i ∈ vs) → wipe σ' vs = wipe σ vs) → Q σ' H) → Tgt.gofs K ts xs σ H Q
  | [], [], xs, ρ, ρ', σ, Q, e, r, rs, k => by
    rw [Tgt.binds] at e
    cases e
    rw [Reps] at r
    rw [Tgt.gofs]
    exact ⟨r, k σ rs fun _ => rfl⟩
  | t :: ts, d :: ds, xs, ρ, ρ', σ, Q, e, r, rs, k => by
    rw [Tgt.binds] at e
    rw [Reps] at r
    obtain ⟨v, q, ev, r1, r2⟩ := r
    rw [Tgt.gofs]
    cases h1 : t.bind d ρ with
    | none => rw [h1] at e; cases e
    | some ρ1 =>
      rw [h1] at e
      refine ⟨v, q, ev, Tgt.ok hH h1 r1 rs fun σ1 rs1 hw1 => Tgt.oks hH e r2 rs1 fun σ2 rs2 hw2 => k σ2 rs2 fun h => ?_⟩
      rw [hw2 fun i hi => h i (by rw [Tgt.slotss]; exact List.mem_append_right _ hi), hw1 fun i hi => h i (by rw [Tgt.slotss]; exact List.mem_append_left _ hi)]
  | [], _ :: _, xs, ρ, ρ', σ, Q, e, r, rs, k => by rw [Tgt.binds] at e <;> first | cases e | (intros; simp_all)
  | _ :: _, [], xs, ρ, ρ', σ, Q, e, r, rs, k => by rw [Tgt.binds] at e <;> first | cases e | (intros; simp_all)
theorem Tgt.binds_len : ∀ {ts : List Tgt} {ds : List D} {ρ ρ' : Env_}, Tgt.binds ts ds ρ = some ρ' → ds.length = ts.length
  | [], [], _, _, _ => rfl
  | t :: ts, d :: ds, ρ, ρ', e => by
    rw [Tgt.binds] at e
    cases h1 : t.bind d ρ with
    | none => rw [h1] at e; cases e
    | some ρ1 =>
      rw [h1] at e
      rw [List.length_cons, List.length_cons, Tgt.binds_len e]
  | [], _ :: _, ρ, ρ', e => by rw [Tgt.binds] at e <;> first | cases e | (intros; simp_all)
  | _ :: _, [], ρ, ρ', e => by rw [Tgt.binds] at e <;> first | cases e | (intros; simp_all)
end
end
/-- name(s) = e -/
def gAsg (t : Tgt) (ge : G D) : GS := fun E ρ S => ge ρ S fun d S1 => ∃ ρ', t.bind d ρ = some ρ' ∧ E.nx ρ' S1
def gSet (i : Nat) (ge : G D) : GS := fun E ρ S => ge ρ S fun d S1 => E.nx (ρ.set i (some d)) S1
/-- name op= e -/
def gAug (i : Nat) (r : R2D) (ge : G D) : GS := fun E ρ S => ∃ x : D, ρ[i]? = some (some x) ∧ ge ρ S fun y S1 => r x y S1 fun z S2 => E.nx (ρ.set i (some z)) S2
theorem vis_le {m : Nat → Addr} {S : Sto} {Z : Addr → Prop} {H : Hp} : ∀ a o, vis m S Z H a = some o → H a = some o := fun _ _ h => vis_sub h
section
variable {X : Cx} {pos : Pos} {e tg : Expr} {ge : G D}
theorem d_asg {t : Tgt} (he : PE X e (tofE X.K U ge)) (hg : PG X tg (t.gof X.K)) (hs : swapsWithSole [tg] e pos.line X.env = pure false := by rfl) (hw : swappedStores [tg] e X.env = pure none := by rfl)
    (h1 : (assignEach [tg] X.env).map (·.2) = [assign tg X.env] := by rfl) : PS X (.Assign [tg] e pos) (tofS X.K U (gAsg t ge)) :=
  weakS (ps_asg he hg hs hw h1) fun E σ H ⟨m, S, Z, ρ, D, w, rs, h, k⟩ => tof_in w rs h fun v1 H1 m1 d1 S1 e1 w1 r1 ⟨ρ', hb, h1⟩ =>
    Tgt.ok (vs := []) vis_le hb r1 (rs.ext e1) fun σ' rs' _ => k.nx.at e1 w1 rs' h1
theorem d_set {i : Nat} {x : Str} {pos' : Pos} (hN : X.N.Nodup) (hi : X.N[i]? = some x) (hx : Loc X.env.scope x) (he : PE X e (tofE X.K U ge)) (hs : swapsWith e (some (.Name x pos')) pos.line X.env = pure false := by rfl)
    (hf : X.fn x = true ∨ X.env.scope.names.lookup x = some .local := by first | exact .inl rfl | exact .inr rfl | assumption) : PS X (.Assign [.Name x pos'] e pos) (tofS X.K U (gSet i ge)) :=
  weakS (ps_set hN hi hx he hs hf) fun E σ H ⟨m, S, Z, ρ, D, w, rs, h, k⟩ => tof_in w rs h fun v1 H1 m1 d1 S1 e1 w1 r1 h1 => k.nx.at e1 w1 ((rs.ext e1).set r1) h1
theorem d_aug {i : Nat} {x : Str} {op : Operator} {r : R2} {g : R2D} {pos' : Pos} (hN : X.N.Nodup) (hi : X.N[i]? = some x) (hx : Loc X.env.scope x) (ho : OpR X (inplaceOp op) r) (hv : VR2 X.K r g) (he : PE X e (tofE X.K U ge))
    (hf : X.fn x = true ∨ X.env.scope.names.lookup x = some .local := by first | exact .inl rfl | exact .inr rfl | assumption) : PS X (.AugAssign (.Name x pos') op e pos) (tofS X.K U (gAug i g ge)) :=
  weakS (ps_aug (ti := r) hN hi hx he ho hf) fun E σ H ⟨m, S, Z, ρ, D, w, rs, ⟨x, ex, h⟩, k⟩ => by
    obtain ⟨v, ev, rv⟩ := rs.2 i x ex
    exact ⟨v, ev, tof_in w rs h fun v1 H1 m1 d1 S1 e1 w1 r1 h1 => hv w1 (rv.ext e1) r1 h1 fun v2 H2 m2 d2 S2 e2 w2 r2 h2 => k.nx.at (e1.trans e2) w2 ((rs.ext (e1.trans e2)).set r2) h2⟩
end
structure Lt (m : Nat → Addr) (S : Sto) (Z : Addr → Prop) (H : Hp) (m' : Nat → Addr) (S' : Sto) (Z' : Addr → Prop) (H' : Hp) : Prop where
  len : S.length ≤ S'.length
  loc : ∀ i, i < S.length → m' i = m i
  vis : ∀ a o, Dl.vis m S Z H a = some o → Dl.vis m' S' Z' H' a = some o
theorem Ext.lt {m m' : Nat → Addr} {S S' : Sto} {Z : Addr → Prop} {H H' : Hp} (e : Ext m S Z H m' S' H') : Lt m S Z H m' S' Z H' := ⟨e.len, e.loc, e.vis⟩
structure Yl (K : PySem.W.Frag) (J : It) (m : Nat → Addr) (S : Sto) (Z : Addr → Prop) (H : Hp) (ds : List D) (chk : Sto → Prop) : Prop where
  go : ∀ {U : Wi} {m' : Nat → Addr} {S' : Sto} {Z' : Addr → Prop} {H' : Hp} {i : Nat}, Lt m S Z H m' S' Z' H' → Wd K U m' S' Z' H' → chk S' → i < ds.length → J.go i H' ∧ ∀ x H2, J.yld i H' x H2 → ∃ d, ds[i]? = some d ∧ Wd K U m' S' Z' H2 ∧ Ext m' S' Z' H' m' S' H2 ∧ Rep K m' S'.length (vis m' S' Z' H2) d x
  stop : ∀ {U : Wi} {m' : Nat → Addr} {S' : Sto} {Z' : Addr → Prop} {H' : Hp}, Lt m S Z H m' S' Z' H' → Wd K U m' S' Z' H' → chk S' → J.stop ds.length H'
abbrev GI := Env_ → Sto → (List D → (Sto → Prop) → Sto → Prop) → Prop
def tofI (K : PySem.W.Frag) (U : Wi) (gi : GI) : TI := fun σ H R => ∃ m S Z ρ q, Wd K U m S Z H ∧ RelS K m S.length (vis m S Z H) ρ σ ∧ gi ρ S q ∧
  ∀ J H' m' S' ds chk, Ext m S Z H m' S' H' → Wd K U m' S' Z H' → Yl K J m' S' Z H' ds chk → q ds chk S' → R J H'
def gFor (gi : GI) (t : Tgt) (gb : GS) : GS := fun E ρ S => gi ρ S fun ds chk S1 => ∃ I : Nat → Env_ → Sto → Prop, I 0 ρ S1 ∧
  (∀ i d ρ S, ds[i]? = some d → I i ρ S → chk S ∧ ∃ ρ', t.bind d ρ = some ρ' ∧ gb { nx := I (i + 1), rt := E.rt, ct := I (i + 1), bk := E.nx } ρ' S) ∧ ∀ ρ S, I ds.length ρ S → chk S ∧ E.nx ρ S
section
variable {X : Cx} {pos : Pos} {tg iter : Expr} {gi : GI} {t : Tgt} {gb : GS} {body : List Stmt}
theorem weakI {w w' : TI} (h : PI X tg iter w) (k : ∀ σ H R, w' σ H R → w σ H R) : PI X tg iter w' := ⟨fun pins s σ H R I q => h.run pins s σ H R I (k σ H R q)⟩
theorem d_for (hp : PassesOwn (model X.prog X.w) X.A X.env X.xe) (hc : X.calm = true) (hi : PI X tg iter (tofI X.K U gi)) (hg : PG X tg (t.gof X.K)) (hb : PSs X body (tofS X.K U gb)) (hs : ∀ x, foldedSetIterable iter X.env x = pure x := by intro _; rfl) :
    PS X (.For tg iter body [] pos) (tofS X.K U (gFor gi t gb)) := by
  refine weakS (ps_for hp hc hi hg hb hs) fun De σ H ⟨m, S, Z, ρ, E, w, rs, h, k⟩ => ?_
  refine ⟨m, S, Z, ρ, _, w, rs, h, fun J H1 m1 S1 ds chk e1 w1 Y ⟨I, h0, hstep, hend⟩ => ?_⟩
  refine ⟨fun i n σ' H' => n = ds.length - i ∧ i ≤ ds.length ∧ ∃ m' S' ρ', Ext m1 S1 Z H1 m' S' H' ∧ Wd X.K U m' S' Z H' ∧ RelS X.K m' S'.length (vis m' S' Z H') ρ' σ' ∧ I i ρ' S', ⟨ds.length, by simp, Nat.zero_le _, m1, S1, ρ, Ext.refl, w1, rs.ext e1, h0⟩, ?_⟩
  rintro i n σ2 H2 ⟨rfl, hi2, m2, S2, ρ2, e2, w2, rs2, I2⟩
  by_cases hlt : i < ds.length
  · right
    obtain ⟨d, hd⟩ : ∃ d, ds[i]? = some d := ⟨ds[i], by simp [hlt]⟩
    obtain ⟨hchk, ρ3, hbind, hbody⟩ := hstep i d ρ2 S2 hd I2
    obtain ⟨g1, g2⟩ := Y.go e2.lt w2 hchk hlt
    refine ⟨g1, fun σ' H' => ∃ m' S' ρ', Ext m1 S1 Z H1 m' S' H' ∧ Wd X.K U m' S' Z H' ∧ RelS X.K m' S'.length (vis m' S' Z H') ρ' σ' ∧ I (i + 1) ρ' S', fun σ' H' hN => ⟨ds.length - (i + 1), by omega, rfl, hlt, hN⟩, fun x H3 hy => ?_⟩
    obtain ⟨d', hd', w3, e3, r3⟩ := g2 x H3 hy
    rw [hd] at hd'; cases hd'
    refine Tgt.ok (vs := []) vis_le hbind r3 (rs2.ext e3) fun σ4 rs4 _ => ?_
    have e23 := e2.trans e3
    exact tofS_in w3 rs4 hbody ⟨fun σ5 H5 m5 ρ5 S5 e5 w5 r5 h5 => ⟨m5, S5, ρ5, e23.trans e5, w5, r5, h5⟩, k.rt.ext (e1.trans e23), k.nx.ext (e1.trans e23), fun σ5 H5 m5 ρ5 S5 e5 w5 r5 h5 => ⟨m5, S5, ρ5, e23.trans e5, w5, r5, h5⟩⟩
  · left
    have ei : i = ds.length := by omega
    subst ei
    obtain ⟨hchk, hnx⟩ := hend ρ2 S2 I2
    exact ⟨Y.stop e2.lt w2 hchk, k.nx.at (e1.trans e2) w2 rs2 hnx⟩
end
end Dl
namespace Dl
open PySem L2 PyProof.Rows
structure RoomG (k : Nat) (A : Around) : Prop extends Room k A where
  gd : A.guards = some []
theorem RoomG.mono {j k : Nat} {A : Around} (r : RoomG k A) (h : j ≤ k) : RoomG j A := ⟨r.toRoom.mono h, r.gd⟩
theorem RoomG.deeper {k : Nat} {A : Around} (r : RoomG (k + 1) A) (env : Env) : RoomG k (A.deeper env) := ⟨r.toRoom.deeper env, r.gd⟩
theorem RoomG.in1 {k : Nat} {A : Around} (r : RoomG (k + 1) A) : RoomG k A.in1 := ⟨r.toRoom.in1, r.gd⟩
theorem make_guards {A : Around} {C : Addr} {us : List Value} {kw : List (Str × Value)} (h : A.guards = some []) : (A.under (.builtin "type.__call__" ⟨.ref C :: us, kw⟩)).guards = some [] := by
  simp [Around.under, Code.guards, Code.isGuard, guardIds, pushGuards, h]
theorem RoomG.make {k : Nat} {A : Around} (r : RoomG (k + 1) A) (C : Addr) (us : List Value) (kw : List (Str × Value)) : RoomG k (A.under (.builtin "type.__call__" ⟨.ref C :: us, kw⟩)) := ⟨r.toRoom.make C us kw, make_guards r.gd⟩
structure SubG (X : Cx) (n : Nat) (A : Around) : Prop where
  room : RoomG n A
  fr : A.frames = X.A.frames
theorem SubG.in1 {X : Cx} {n : Nat} {A : Around} (s : SubG X (n + 1) A) : SubG X n A.in1 := ⟨s.room.in1, s.fr⟩
theorem SubG.mono {X : Cx} {n m : Nat} {A : Around} (s : SubG X n A) (h : m ≤ n) : SubG X m A := ⟨s.room.mono h, s.fr⟩
/-- a def that keeps a promise wherever no repr is under way -/
structure FnG (P : Program) (w : World) (K : PySem.W.Frag) (mg : Str → Option Value) (base : Heap) (CX : CXT) (k : Nat) (f : Addr) (fd : FuncData) (ps : List Str) (sp : Sp) : Prop where
  len : ∀ vs H Q E, sp vs H Q E → vs.length = ps.length
  run : ∀ (A : Around) (outer : List Env) (s : Shared) (H : Hp) (args : Args) (us : List Value) (vs : List V) (Q : VK) (E : XK), RoomG k A → Env0 P w K mg base A outer s H → BindsTo s fd args (ps.zip us) → Vals vs us →
    sp vs H Q E → codeAny (model P w) A (.call (.ref f) args) (CR CX outer P w H s Q E) s
section
variable {P : Program} {w : World} {K : PySem.W.Frag} {mg : Str → Option Value} {base : Heap} {CX : CXT} {k : Nat} {f : Addr} {fd : FuncData} {ps : List Str} {sp sp' : Sp}
theorem FnG.mono {j : Nat} (F : FnG P w K mg base CX j f fd ps sp) (h : j ≤ k) : FnG P w K mg base CX k f fd ps sp where
  len := F.len
  run A outer s H args us vs Q E hr := F.run A outer s H args us vs Q E (hr.mono h)
/-- by its body -/
theorem FnG.by_body {x qual : Str} {params : Arguments} {body : List Stmt} {scope : Scope} {dvs : List V} {kws : List (Str × V)} {N : List Str} (F : FunD K x qual params body scope dvs kws f fd) (S : FnScope N ps scope) (len : ∀ vs H Q E, sp vs H Q E → vs.length = ps.length)
    (go : ∀ (cdv : Value) (A : Around) (outer : List Env) (s : Shared) (H : Hp) (vs : List V) (Q : VK) (E : XK), RoomG k (A.deeper (envOfC qual scope s.heap.objs.size f cdv)) → sp vs H Q E →
      ∃ t, PSs (cxOf CX P w K mg base N qual scope f cdv A outer s H E) body t ∧ t { nx := fun _ H' => Q .non H', rt := Q } (L2.start N vs) H) : FnG P w K mg base CX (k + 1) f fd ps sp := by
  obtain ⟨oc, od, dV, kV, doc, pm, an, cdv, ct, osl, rfl, lk, hcd, _, _⟩ := F.ex
  constructor
  · exact len
  intro A outer s H args us vs Q E hr e0 hb hv hsp
  have kept : ∀ b o, base.get? b = some o → s.heap.get? b = some o := fun b o e => (e0.bs b o e).1
  have inK := e0.mod.kin.keeps kept
  refine codeAny_call_function hr.toRoom.depth (inK _ _ lk) rfl S.co S.gen rfl (PySem.W.codeRec_of inK hcd) (hb _ _ _ _ ?_)
  refine wpAny_newFunctionEnv_cells S.kind (fun y hy => ?_) fun env he s1 x => ?_
  · rcases S.par y.1 (List.of_mem_zip (a := y.1) (b := y.2) hy).1 with q | q
    · left; exact q
    · right; exact ⟨q, PySem.W.cellsFrom_some _ _ _ (.inl q)⟩
  subst he
  obtain ⟨t, ht, hq⟩ := go cdv A outer s H vs Q E (hr.deeper _) hsp
  refine ⟨(e0.mod.nolimit.keeps kept).keeps x.toInCall.keep, codeAny_func (wpAny_mono (ht.run [] s1 _ H _ (inv_start S hr.hd e0 (len _ _ _ _ hsp) hv x) hq) (fun fl s' hs => ?_) fun e s' hs => hs)⟩
  cases fl with
  | ret u => obtain ⟨v, σ', H', J, rv, q⟩ := hs; exact ⟨v, H', J.os, J.bare, J.base, J.hok, rv, q⟩
  | next => obtain ⟨σ', H', J, q⟩ := hs; exact ⟨.non, H', J.os, J.bare, J.base, J.hok, rfl, q⟩
  | brk => obtain ⟨σ', H', J, q⟩ := hs; exact q.elim
  | cont => obtain ⟨σ', H', J, q⟩ := hs; exact q.elim
end
section
variable {X : Cx} {CX : CXT} {k n : Nat} {f C : Addr} {fd : FuncData} {ps ks : List Str} {sp : Sp} {E : XK} {g : List Value → List Value → List Value} {gV : List V → List V → List V}
/-- a def's end, told to its caller -/
theorem told {pins : List (Addr × Obj)} {σ : L2.St} {H : Hp} {s : Shared} {Q : VK} (hx : PassesAt CX X σ E) (I : Inv X pins σ H s) (r : Result) (s' : Shared) (h : CR CX X.stack X.prog X.w H s Q E r s') :
    (match r with | .ok (.ret u) => EP X pins σ Q u s' | .ok _ => False | .error e => X.xe e s') := by
  cases r with
  | error e => exact hx pins H s e s' I h
  | ok fl =>
    cases fl with
    | ret u => exact I.after h
    | next => exact h
    | brk => exact h
    | cont => exact h
theorem run_fnS' {pins : List (Addr × Obj)} {σ : L2.St} {H : Hp} {s : Shared} {Q : VK} {us ws : List Value} {vs zs : List V} (F : FnG X.prog X.w X.K X.mg X.base CX k f fd ps sp) (hr : RoomG k X.A) (hb : KBn X.K fd ps n ks g gV) (hx : PassesAt CX X σ E)
    (I : Inv X pins σ H s) (r : Vals vs us) (rz : Vals zs ws) (l1 : vs.length = n) (l2 : zs.length = ks.length) (h : sp (gV vs zs) H Q E) : wpAny (model X.prog X.w) X.A (call (.ref f) us (ks.zip ws)) (EP X pins σ Q) X.xe s := by
  refine wpAny_call (codeAny_mono (F.run X.A X.stack s H ⟨us, ks.zip ws⟩ (g us ws) (gV vs zs) Q E hr I.env0 (hb.to s us ws I.kIn (r.length.symm.trans l1) (rz.length.symm.trans l2)) (hb.rel r rz) h) fun r s' q => ?_)
  have z := told hx I r s' q
  cases r with
  | error e => exact z
  | ok fl => cases fl <;> exact z
theorem passAll {σ : L2.St} (hx : Passes CX X E) : PassesAt CX X σ E := fun pins H s e s' => hx pins σ H s e s'
theorem run_fnG {pins : List (Addr × Obj)} {σ : L2.St} {H : Hp} {s : Shared} {Q : VK} {us ws : List Value} {vs zs : List V} (F : FnG X.prog X.w X.K X.mg X.base CX k f fd ps sp) (hr : RoomG k X.A) (hb : KBn X.K fd ps n ks g gV) (hx : Passes CX X E)
    (I : Inv X pins σ H s) (r : Vals vs us) (rz : Vals zs ws) (l1 : vs.length = n) (l2 : zs.length = ks.length) (h : sp (gV vs zs) H Q E) : wpAny (model X.prog X.w) X.A (call (.ref f) us (ks.zip ws)) (EP X pins σ Q) X.xe s :=
  run_fnS' F hr hb (passAll hx) I r rz l1 l2 h
/-- C(..) -/
theorem run_makeS {pins : List (Addr × Obj)} {σ : L2.St} {H : Hp} {s : Shared} {Q : VK} {us ws : List Value} {vs zs : List V} (M : Mk X.K C f) (F : FnG X.prog X.w X.K X.mg X.base CX k f fd ps sp) (hr : RoomG (k + 1) X.A) (hb : KBn X.K fd ps (n + 1) ks g gV)
    (hx : PassesAt CX X σ E) (I : Inv X pins σ H s) (r : Vals vs us) (rz : Vals zs ws) (l1 : vs.length = n) (l2 : zs.length = ks.length)
    (h : ∀ x dx, H x = none → H dx = none → dx ≠ x → sp (gV (.ref x :: vs) zs) (upd (upd H dx (.own x)) x (.ins C dx [])) (fun v H2 => v = .non ∧ Q (.ref x) H2) E) :
    wpAny (model X.prog X.w) X.A (call (.ref C) us (ks.zip ws)) (EP X pins σ Q) X.xe s := by
  let sz := s.heap.objs.size
  have hq := h (sz + 1) sz (I.hok.fresh (Nat.le_succ _)) (I.hok.fresh (Nat.le_refl _)) (Nat.ne_of_lt (Nat.lt_succ_self _))
  have I2 := Inv.made (C := C) I
  have r1 : Vals (V.ref (sz + 1) :: vs) (Value.ref (sz + 1) :: us) := .cons rfl r
  have b2 := hb.to _ (Value.ref (sz + 1) :: us) ws I2.kIn (r1.length.symm.trans (congrArg Nat.succ l1)) (rz.length.symm.trans l2)
  have run := F.run _ X.stack _ _ ⟨Value.ref (sz + 1) :: us, ks.zip ws⟩ (g (Value.ref (sz + 1) :: us) ws) _ _ E (hr.make C us (ks.zip ws)) (I2.env0.make C us (ks.zip ws)) b2 (hb.rel r1 rz) hq
  refine wpAny_call (make_map (f := f) I.kIn M.makes M.init (beq_iff_eq.mp M.fn) (codeAny_mono run fun r s' q => ?_))
  have z := told hx I2 r s' q
  cases r with
  | error e => exact z
  | ok fl =>
    cases fl with
    | ret u =>
      obtain ⟨v, H', I3, rv, ev, q3⟩ := z
      subst ev
      exact ⟨rv, ⟨V.ref (sz + 1), H', I3, rfl, q3⟩⟩
    | next => exact z
    | brk => exact z
    | cont => exact z
theorem run_makeG {pins : List (Addr × Obj)} {σ : L2.St} {H : Hp} {s : Shared} {Q : VK} {us ws : List Value} {vs zs : List V} (M : Mk X.K C f) (F : FnG X.prog X.w X.K X.mg X.base CX k f fd ps sp) (hr : RoomG (k + 1) X.A) (hb : KBn X.K fd ps (n + 1) ks g gV)
    (hx : Passes CX X E) (I : Inv X pins σ H s) (r : Vals vs us) (rz : Vals zs ws) (l1 : vs.length = n) (l2 : zs.length = ks.length)
    (h : ∀ x dx, H x = none → H dx = none → dx ≠ x → sp (gV (.ref x :: vs) zs) (upd (upd H dx (.own x)) x (.ins C dx [])) (fun v H2 => v = .non ∧ Q (.ref x) H2) E) :
    wpAny (model X.prog X.w) X.A (call (.ref C) us (ks.zip ws)) (EP X pins σ Q) X.xe s := run_makeS M F hr hb (passAll hx) I r rz l1 l2 h
end
end Dl
namespace Dl
open PySem L2
abbrev DSp := List D → Sto → (D → Sto → Prop) → Prop
theorem Outs.to0 {A B : Type} {K : PySem.W.Frag} {U : Wi} {m : Nat → Addr} {S : Sto} {Z : Addr → Prop} {H : Hp} {rel : (Nat → Addr) → Nat → Hp → A → B → Prop} {q : A → Sto → Prop} {Q : B → Hp → Prop} (w : Wd K U m S Z H) (k : Outs m S Z H K U rel q Q) : Outs m S Z H K U0 rel q Q :=
  fun b H' m' a S' e w0 r h => k b H' m' a S' e (w.on e w0.toWd0) r h
theorem Wd.w0 {K : PySem.W.Frag} {U : Wi} {m : Nat → Addr} {S : Sto} {Z : Addr → Prop} {H : Hp} (w : Wd K U m S Z H) : Wd K U0 m S Z H := w.toWd0.u0
def spOf (K : PySem.W.Frag) (dsp : DSp) : Sp := fun vs H Q _ => ∃ m S Z ds q, Wd K U0 m S Z H ∧ Reps K m S.length (vis m S Z H) ds vs ∧ dsp ds S q ∧ Outs m S Z H K U0 (rD K) q Q
def startD (N : List Str) (ds : List D) : Env_ := ds.map some ++ List.replicate (N.length - ds.length) none
theorem relS_start {K : PySem.W.Frag} {m : Nat → Addr} {n : Nat} {Hv : Hp} {N : List Str} {ds : List D} {vs : List V} (r : Reps K m n Hv ds vs) : RelS K m n Hv (startD N ds) (L2.start N vs) := by
  have hl := Reps.len r
  refine ⟨by unfold startD L2.start; simp [hl], fun i d e => ?_⟩
  unfold startD at e
  by_cases hi : i < ds.length
  · rw [List.getElem?_append_left (by simpa using hi), List.getElem?_map] at e
    cases h1 : ds[i]? with
    | none => rw [h1] at e; cases e
    | some x =>
      rw [h1] at e
      cases e
      obtain ⟨v, h2, h3⟩ := Reps.get r h1
      refine ⟨v, ?_, h3⟩
      unfold L2.start
      rw [List.getElem?_append_left (by rw [List.length_map, hl]; exact hi), List.getElem?_map, h2]
      rfl
  · rw [List.getElem?_append_right (by simpa using Nat.le_of_not_lt hi), List.getElem?_replicate] at e
    split at e <;> cases e
theorem Wd.under {K : PySem.W.Frag} {m : Nat → Addr} {S : Sto} {Z : Addr → Prop} {H : Hp} (w : Wd K U m S Z H) : Sto.under S.length S = true := by
  refine List.all_eq_true.mpr fun o ho => ?_
  cases o with
  | none => rfl
  | some x =>
    obtain ⟨i, hi⟩ := List.getElem?_of_mem ho
    have r := w.rep i x hi
    show x.under S.length = true
    cases x with
    | lst ds => obtain ⟨vs, _, r⟩ := r; exact Reps.below r
    | obj C ks ds => obtain ⟨dx, vs, _, _, r⟩ := r; exact Reps.below r
    | dic ks ds => obtain ⟨vs, _, _, r⟩ := r; exact Reps.below r
    | dicT ks ds => obtain ⟨vs, _, _, r⟩ := r; exact Reps.below r
/-- a def's end: the store cut back to what it was, a list of its own given up -/
def fin (n : Nat) (q : D → Sto → Prop) (d : D) (S' : Sto) : Prop :=
  Sto.under n (S'.take n) = true ∧ match d with
  | .loc k => if k < n then q (.loc k) (S'.take n) else match S'[k]? with
    | some (some (.lst ds)) => D.unders n ds = true ∧ q (.lst ds) (S'.take n)
    | some (some (.dic ks ds)) => D.unders n ds = true ∧ q (.dic ks ds) (S'.take n)
    | some (some (.obj C ks ds)) => D.unders n ds = true ∧ q (.obj C ks ds) (S'.take n)
    | _ => False
  | d => d.under n = true ∧ q d (S'.take n)
theorem take_setN {S : Sto} {k n : Nat} (h : n ≤ k) : (S.set k none).take n = S.take n := by
  apply List.ext_getElem?
  intro i
  by_cases hi : i < n
  · rw [List.getElem?_take_of_lt hi, List.getElem?_take_of_lt hi, List.getElem?_set_ne (by omega)]
  · rw [List.getElem?_eq_none_iff.mpr (by rw [List.length_take]; omega), List.getElem?_eq_none_iff.mpr (by rw [List.length_take]; omega)]
theorem out_fin {K : PySem.W.Frag} {m : Nat → Addr} {S : Sto} {Z : Addr → Prop} {H : Hp} {q : D → Sto → Prop} {Q : VK} (w0 : Wd K U m S Z H) (k : Outs m S Z H K U (rD K) q Q) : Outs m S Z H K U (rD K) (fin S.length q) Q := by
  intro v H' m' d S' e w r ⟨hu, h⟩
  have e2 := e.take (Nat.le_refl _) e.len
  have w2 := w0.on e2 (w.toWd0.take e.len hu)
  have len : (S'.take S.length).length = S.length := by rw [List.length_take]; have := e.len; omega
  have key : ∀ {d : D}, Rep K m' S'.length (vis m' S' Z H') d v → d.under S.length = true → Rep K m' (S'.take S.length).length (vis m' (S'.take S.length) Z H') d v := fun {d} r hb => by
    rw [len]
    exact Rep.cut e.len (Rep.mono (fun _ _ => rfl) (Nat.le_refl _) (fun a o z => vis_take z) r) hb
  have key2 : ∀ {j : Nat} {d : D}, S.length ≤ j → v = V.ref (m' j) → Rep K m' (S'.set j none).length (vis m' (S'.set j none) Z H') d (.ref (m' j)) → d.under S.length = true →
      Rep K m' (S'.take S.length).length (vis m' (S'.take S.length) Z H') d v := fun {j d} hj hv r hb => by
    rw [hv, len]
    have r2 := Rep.cut (n := S.length) (by rw [List.length_set]; exact e.len) (Rep.mono (fun _ _ => rfl) (Nat.le_refl _) (fun a o z => vis_take (n := S.length) z) r) hb
    rw [take_setN hj] at r2
    exact r2
  cases d with
  | loc j =>
    by_cases hj : j < S.length
    · have h' : q (.loc j) (S'.take S.length) := by simpa [hj] using h
      exact k.at e2 w2 (key r (by simp [D.under, hj])) h'
    · have h' : match S'[j]? with
        | some (some (.lst ds)) => D.unders S.length ds = true ∧ q (.lst ds) (S'.take S.length)
        | some (some (.dic ks ds)) => D.unders S.length ds = true ∧ q (.dic ks ds) (S'.take S.length)
        | some (some (.obj C ks ds)) => D.unders S.length ds = true ∧ q (.obj C ks ds) (S'.take S.length)
        | _ => False := by simpa [hj] using h
      have hv : v = V.ref (m' j) := by
        have r' : Rep K m' S'.length (vis m' S' Z H') (.loc j) v := r
        rw [Rep] at r'
        exact r'.1
      have hj' := Nat.le_of_not_lt hj
      cases ho : S'[j]? with
      | none => rw [ho] at h'; exact h'.elim
      | some o =>
        cases o with
        | none => rw [ho] at h'; exact h'.elim
        | some o =>
          rw [ho] at h'
          cases o with
          | lst ds => exact k.at e2 w2 (key2 hj' hv (w.frozen_lst ho) (by simpa [D.under] using h'.1)) h'.2
          | dic ks ds => exact k.at e2 w2 (key2 hj' hv (w.frozen_dic ho) (by simpa [D.under] using h'.1)) h'.2
          | obj C ks ds => exact k.at e2 w2 (key2 hj' hv (w.frozen_obj ho) (by simpa [D.under] using h'.1)) h'.2
          | dicT ks ds => exact h'.elim
  | non => exact k.at e2 w2 (key r h.1) h.2
  | bl b => exact k.at e2 w2 (key r h.1) h.2
  | int b => exact k.at e2 w2 (key r h.1) h.2
  | str b => exact k.at e2 w2 (key r h.1) h.2
  | tup b => exact k.at e2 w2 (key r h.1) h.2
  | lst b => exact k.at e2 w2 (key r h.1) h.2
  | ksq b => exact k.at e2 w2 (key r h.1) h.2
  | obj C b c => exact k.at e2 w2 (key r h.1) h.2
  | dic b c => exact k.at e2 w2 (key r h.1) h.2
  | ref b => exact k.at e2 w2 (key r h.1) h.2
  | ty b => exact k.at e2 w2 (key r h.1) h.2
  | exc a b c => exact k.at e2 w2 (key r h.1) h.2
inductive Src where
  | p (i : Nat) | d (i : Nat) | k (i : Nat)
def pick {A : Type} (us its ws : List A) : Src → Option A
  | .p i => us[i]?
  | .d i => its[i]?
  | .k i => ws[i]?
def gat {A : Type} (src : List Src) (us its ws : List A) : List A := src.filterMap (pick us its ws)
theorem paired_at {A B : Type} {F : A → B → Prop} : ∀ {l : List A} {l' : List B}, Paired F l l' → ∀ i : Nat, (l[i]? = none ∧ l'[i]? = none) ∨ ∃ (a : A) (b : B), l[i]? = some a ∧ l'[i]? = some b ∧ F a b
  | _, _, .nil, i => .inl (by simp)
  | _, _, .cons r t, 0 => .inr ⟨_, _, rfl, rfl, r⟩
  | _, _, .cons r t, i + 1 => by simpa using paired_at t i
theorem gat_pair {A B : Type} {F : A → B → Prop} {us its ws : List A} {us' its' ws' : List B} (h1 : Paired F us us') (h2 : Paired F its its') (h3 : Paired F ws ws') : ∀ src : List Src, Paired F (gat src us its ws) (gat src us' its' ws')
  | [] => .nil
  | x :: xs => by
    have ih := gat_pair h1 h2 h3 xs
    unfold gat at *
    have : (pick us its ws x = none ∧ pick us' its' ws' x = none) ∨ ∃ a b, pick us its ws x = some a ∧ pick us' its' ws' x = some b ∧ F a b := by
      cases x with
      | p i => exact paired_at h1 i
      | d i => exact paired_at h2 i
      | k i => exact paired_at h3 i
    rcases this with ⟨e1, e2⟩ | ⟨a, b, e1, e2, r⟩
    · rw [List.filterMap_cons_none e1, List.filterMap_cons_none e2]; exact ih
    · rw [List.filterMap_cons_some e1, List.filterMap_cons_some e2]; exact .cons r ih
theorem Reps.paired {K : PySem.W.Frag} {m : Nat → Addr} {N : Nat} {H : Hp} : ∀ {ds : List D} {vs : List V}, Reps K m N H ds vs → Paired (fun d v => Rep K m N H d v) ds vs
  | [], _, r => by rw [show _ = [] from r]; exact .nil
  | d :: ds, _, r => by
    obtain ⟨v, q, e, r1, r2⟩ := r
    rw [e]
    exact .cons r1 (Reps.paired r2)
theorem Reps.of_paired {K : PySem.W.Frag} {m : Nat → Addr} {N : Nat} {H : Hp} : ∀ {ds : List D} {vs : List V}, Paired (fun d v => Rep K m N H d v) ds vs → Reps K m N H ds vs
  | _, _, .nil => reps_nil
  | _, _, .cons r t => Reps.cons r (Reps.of_paired t)
/-- how a call with n values and keywords ks binds; nd defaults -/
inductive Bnd (x qual : Str) (st : Stmt) (ps : List Str) (n : Nat) (ks : List Str) (src : List Src) : Nat → Prop where
  | zero (h : ∀ (kV doc pm : Value) (an : Option Addr) (cdv ct : Value) (us ws : List Value), us.length = n → ws.length = ks.length →
      bindArgs (PySem.W.fnOf x qual (defArgs st) (defBody st) (defScope st) .none kV doc pm an cdv ct) ⟨us, ks.zip ws⟩ = pure (ps.zip (gat src us [] ws))) : Bnd x qual st ps n ks src 0
  | more (nd : Nat) (h : ∀ (T : Addr) (kV doc pm : Value) (an : Option Addr) (cdv ct : Value) (us its ws : List Value), us.length = n → its.length = nd + 1 → ws.length = ks.length →
      ∃ k, bindArgs (PySem.W.fnOf x qual (defArgs st) (defBody st) (defScope st) (.ref T) kV doc pm an cdv ct) ⟨us, ks.zip ws⟩ = seqItems? (.ref T) >>= k ∧ k (some its.toArray) = pure (ps.zip (gat src us its ws))) : Bnd x qual st ps n ks src (nd + 1)
abbrev FunS (K : PySem.W.Frag) (x qual : Str) (st : Stmt) (dvs : List V) (f : Addr) (fd : FuncData) : Prop := FunD K x qual (defArgs st) (defBody st) (defScope st) dvs [] f fd
theorem kbn_of {K : PySem.W.Frag} {x qual : Str} {st : Stmt} {dvs : List V} {f : Addr} {fd : FuncData} {ps ks : List Str} {n : Nat} {src : List Src} (F : FunS K x qual st dvs f fd) (b : Bnd x qual st ps n ks src dvs.length) :
    ∃ its : List Value, KBn K fd ps n ks (fun us ws => gat src us its ws) (fun vs zs => gat src vs dvs zs) := by
  obtain ⟨oc, od, dV, kV, doc, pm, an, cdv, ct, osl, rfl, lk, hcd, hD, hK⟩ := F.ex
  rcases hD with ⟨rfl, rfl⟩ | ⟨hne, T, o, its, mm, rfl, lT, oT, rT⟩
  · cases b with
    | zero h => exact ⟨[], ⟨fun s us ws X l1 l2 => .of_eq (h kV doc pm an cdv ct us ws l1 l2), fun r1 r2 => gat_pair r1 .nil r2 src⟩⟩
  · have hb : ∃ nd, dvs.length = nd + 1 := by
      cases dvs with
      | nil => exact absurd rfl hne
      | cons _ r => exact ⟨r.length, rfl⟩
    obtain ⟨nd, e⟩ := hb
    rw [e] at b
    cases b with
    | more _ h =>
      refine ⟨its, ⟨fun s us ws X l1 l2 => ?_, fun r1 r2 => gat_pair r1 rT r2 src⟩⟩
      obtain ⟨k, e1, e2⟩ := h T kV doc pm an cdv ct us its ws l1 (rT.length.symm.trans e) l2
      refine BindsTo.of_looks fun M => ?_
      rw [e1]
      exact looks_items X lT oT (.of_pure e2)
abbrev GA := Env_ → Sto → (List D → List D → Sto → Prop) → Prop
def gArgs (ga gk : G (List D)) : GA := fun ρ S q => ga ρ S fun as S1 => gk ρ S1 fun ks S2 => q as ks S2
abbrev TA2 := St → Hp → (List V → List V → Hp → Prop) → Prop
structure PArgs (X : Cx) (es : List Expr) (kws : List Keyword) (pos : Pos) (ks : List Str) (t : TA2) : Prop where
  run : ∀ (pins : List (Addr × Obj)) (s : Shared) (σ : St) (H : Hp) (Q : List V → List V → Hp → Prop) (f : Value) (first : List Value) (R : Value → Shared → Prop), Inv X pins σ H s → PySem.W.keepIn X.K f = true → t σ H Q →
    (∀ us ws vs zs s' H', Inv X pins σ H' s' → Vals vs us → Vals zs ws → Q vs zs H' → wpAny (model X.prog X.w) X.A (call f (first ++ us) (ks.zip ws)) R X.xe s') →
    wpAny (model X.prog X.w) X.A (callWith pos f first (backTo pos (starEach es X.env)) (backToKw pos (keywordEach kws X.env))) R X.xe s
def tof2 (K : PySem.W.Frag) (U : Wi) (g : GA) : TA2 := fun σ H Q => ∃ m S Z ρ q, Wd K U m S Z H ∧ RelS K m S.length (vis m S Z H) ρ σ ∧ g ρ S q ∧
  ∀ vs zs H' m' as ks S', Ext m S Z H m' S' H' → Wd K U m' S' Z H' → Reps K m' S'.length (vis m' S' Z H') as vs → Reps K m' S'.length (vis m' S' Z H') ks zs → q as ks S' → Q vs zs H'
section
variable {X : Cx} {pos : Pos} {e : Expr} {es : List Expr} {kws : List Keyword} {ks : List Str} {ga gk : G (List D)}
theorem dk_nil : PK X [] (tofA X.K U gNil) := ⟨fun pos pins s σ H Q I ⟨m, S, Z, ρ, q, w, rs, h, k⟩ => (pk_nil (X := X)).run pos pins s σ H Q I (k.now w reps_nil h)⟩
theorem dk_cons {nm : Option Str} {kpos : Pos} {ge : G D} (ha : PE X e (tofE X.K U ge)) (hr : PK X kws (tofA X.K U gk)) : PK X (⟨nm, e, kpos⟩ :: kws) (tofA X.K U (gCons ge gk)) :=
  ⟨fun pos pins s σ H Q I ⟨m, S, Z, ρ, q, w, rs, h, k⟩ => (pk_cons (nm := nm) (kpos := kpos) ha hr).run pos pins s σ H Q I
    (tof_in w rs h fun v1 H1 m1 d1 S1 e1 w1 r1 h1 => tof_in w1 (rs.ext e1) h1 fun v2 H2 m2 d2 S2 e2 w2 r2 h2 => k.at (e1.trans e2) w2 (Reps.cons (r1.ext e2) r2) h2)⟩
theorem da_00 : PArgs X [] [] pos [] (tof2 X.K U (gArgs gNil gNil)) := ⟨fun pins s σ H Q f first R I hk h go => by
  obtain ⟨m, S, Z, ρ, q, w, rs, h, k⟩ := h
  exact PySem.W.callWith_K0 I.kIn hk (go [] [] [] [] s H I .nil .nil (k [] [] H m [] [] S Ext.refl w reps_nil reps_nil h))⟩
theorem da_p0 (ha : PA X (e :: es) (tofA X.K U ga)) (he : starEach (e :: es) X.env = (false, eval e X.env) :: starEach es X.env := by rfl) (hpl : (backTo pos (starEach es X.env)).any (·.1) = false := by rfl) :
    PArgs X (e :: es) [] pos [] (tof2 X.K U (gArgs ga gNil)) := ⟨fun pins s σ H Q f first R I hk h go => by
  obtain ⟨m, S, Z, ρ, q, w, rs, h, k⟩ := h
  refine PySem.W.callWith_K (h₀ := X.base) I.ok.mod.kin hk (thn (ha.run pos pins s σ H (fun vs H1 => Q vs [] H1) I (tof_in w rs h fun v1 H1 m1 d1 S1 e1 w1 r1 h1 => k v1 [] H1 m1 d1 [] S1 e1 w1 r1 reps_nil h1)) fun us s1 ⟨vs, H1, I1, r, q⟩ => ⟨I1.kIn, ?_⟩) he hpl
  exact go us [] vs [] s1 H1 I1 r .nil q⟩
theorem da_0k (hkw : PK X kws (tofA X.K U gk)) (hall : (backToKw pos (keywordEach kws X.env)).all (·.1.isSome) = true := by rfl) (hks : (backToKw pos (keywordEach kws X.env)).filterMap (·.1) = ks := by rfl)
    (hpl : ((backTo pos (starEach [] X.env)).any (·.1) || (backToKw pos (keywordEach kws X.env)).any (·.1.isNone)) = false := by rfl) : PArgs X [] kws pos ks (tof2 X.K U (gArgs gNil gk)) := ⟨fun pins s σ H Q f first R I hk h go => by
  obtain ⟨m, S, Z, ρ, q, w, rs, h, k⟩ := h
  refine PySem.W.callWith_KW0 (h₀ := X.base) I.ok.mod.kin hk hall (thn (hkw.run pos pins s σ H (fun zs H1 => Q [] zs H1) I (tof_in w rs h fun v1 H1 m1 d1 S1 e1 w1 r1 h1 => k [] v1 H1 m1 [] d1 S1 e1 w1 reps_nil r1 h1)) fun ws s1 ⟨zs, H1, I1, r, q⟩ => ⟨I1.kIn, ?_⟩) hpl
  rw [hks]
  exact go [] ws [] zs s1 H1 I1 .nil r q⟩
end
/-- a def of the top with its promise -/
structure Fnc (P : Program) (w : World) (K : PySem.W.Frag) (mg : Str → Option Value) (base : Heap) (x : Str) (st : Stmt) (dvs : List V) (k : Nat) (ps : List Str) (dsp : DSp) : Prop where
  ex : ∃ f fd, FunS K x x st dvs f fd ∧ mg x = some (.ref f) ∧ FnG P w K mg base CX0 k f fd ps (spOf K dsp)
def DfV (dds : List D) (dvs : List V) : Prop := ∀ K m N Hv, Reps K m N Hv dds dvs
theorem dfv_nil : DfV [] [] := fun _ _ _ _ => reps_nil
/-- f(..): n values, keywords -/
def gCall (n nk : Nat) (src : List Src) (dds : List D) (dsp : DSp) (ga : GA) : G D := fun ρ S q => ga ρ S fun as ks S1 => as.length = n ∧ ks.length = nk ∧ dsp (gat src as dds ks) S1 q
section
variable {X : Cx} {pos p apos : Pos} {x m qual : Str} {st : Stmt} {dvs : List V} {dds : List D} {k n : Nat} {ps ks : List Str} {dsp : DSp} {es : List Expr} {kws : List Keyword} {src : List Src} {ga : GA}
theorem gat_reps {K : PySem.W.Frag} {mm : Nat → Addr} {N : Nat} {Hv : Hp} {as zs : List D} {vs ws : List V} (r1 : Reps K mm N Hv as vs) (hd : DfV dds dvs) (r2 : Reps K mm N Hv zs ws) : Reps K mm N Hv (gat src as dds zs) (gat src vs dvs ws) :=
  Reps.of_paired (gat_pair (Reps.paired r1) (Reps.paired (hd K mm N Hv)) (Reps.paired r2) src)
theorem d_call (F : Fnc X.prog X.w X.K X.mg X.base x st dvs k ps dsp) (hr : RoomG k X.A) (hg : Gl X x) (b : Bnd x x st ps n ks src dvs.length) (hd : DfV dds dvs) (ha : PArgs X es kws pos ks (tof2 X.K U ga)) (hdb : (x == ("__debug__" : Str)) = false := by decide) :
    PE X (.Call (.Name x p) es kws pos) (tofE X.K U (gCall n ks.length src dds dsp ga)) := by
  refine ⟨fun pins s σ H Q I ⟨mm, S, Z, ρ, q, w, rs, h, kk⟩ => ?_⟩
  obtain ⟨f, fd, FS, hm, FO⟩ := F.ex
  obtain ⟨its, KB⟩ := kbn_of FS b
  refine wpAny_Call_Name_kw (ld_glob I hg hm ?_ hdb)
  refine ha.run pins s σ H (fun vs zs H1 => vs.length = n ∧ zs.length = ks.length ∧ spOf X.K dsp (gat src vs dvs zs) H1 Q fun _ _ _ => False) (.ref f) [] _ I FS.kp ⟨mm, S, Z, ρ, _, w, rs, h, fun vs zs H1 m1 as zd S1 e1 w1 r1 r2 h1 => ?_⟩ fun us ws vs zs s1 H1 I1 rv rz ⟨l1, l2, hs⟩ => ?_
  · exact ⟨by rw [Reps.len r1]; exact h1.1, by rw [Reps.len r2]; exact h1.2.1, m1, S1, Z, gat src as dds zd, q, w1.w0, gat_reps r1 hd r2, h1.2.2, (kk.ext e1).to0 w1⟩
  · exact run_fnG FO hr KB pass0 I1 rv rz l1 l2 hs
end
end Dl
namespace Dl
open PySem L2
def putK (f : Str) : List Str → List Str
  | [] => [f]
  | g :: ks => if g = f then g :: ks else g :: putK f ks
def putX {A : Type} (f : Str) (y : A) : List Str → List A → List A
  | [], _ => [y]
  | g :: ks, x :: xs => if g = f then y :: xs else x :: putX f y ks xs
  | _ :: _, [] => []
theorem putF_zip (f : Str) (v : V) : ∀ (ks : List Str) (vs : List V), ks.length = vs.length → putF f v (ks.zip vs) = (putK f ks).zip (putX f v ks vs) ∧ (putK f ks).length = (putX f v ks vs).length
  | [], [], _ => ⟨rfl, rfl⟩
  | g :: ks, x :: vs, h => by
    have ih := putF_zip f v ks vs (by simpa using h)
    rw [List.zip_cons_cons, putF, putK, putX]
    by_cases e : g = f
    · rw [if_pos e, if_pos e, if_pos e, List.zip_cons_cons]
      exact ⟨rfl, by simpa using h⟩
    · rw [if_neg e, if_neg e, if_neg e, List.zip_cons_cons, ih.1]
      exact ⟨rfl, by simp [ih.2]⟩
  | [], _ :: _, h => by simp at h
  | _ :: _, [], h => by simp at h
def fget (f : Str) (ks : List Str) (ds : List D) : Option D := (ks.zip ds).lookup f
section
variable {K : PySem.W.Frag} {m : Nat → Addr} {N : Nat} {Hv : Hp}
theorem reps_putX {f : Str} {d : D} {v : V} (r : Rep K m N Hv d v) : ∀ {ks : List Str} {ds : List D} {vs : List V}, ks.length = vs.length → Reps K m N Hv ds vs → Reps K m N Hv (putX f d ks ds) (putX f v ks vs)
  | [], _, _, _, _ => Reps.one r
  | g :: ks, [], _, h, q => by rw [show _ = [] from q] at h; simp at h
  | g :: ks, x :: ds, _, h, q => by
    obtain ⟨u, us, e, r1, r2⟩ := q
    rw [e] at h ⊢
    rw [putX, putX]
    by_cases e1 : g = f
    · rw [if_pos e1, if_pos e1]; exact Reps.cons r r2
    · rw [if_neg e1, if_neg e1]; exact Reps.cons r1 (reps_putX r (by simpa using h) r2)
theorem reps_fget {f : Str} : ∀ {ks : List Str} {ds : List D} {vs : List V} {d : D}, Reps K m N Hv ds vs → fget f ks ds = some d → ∃ v, (ks.zip vs).lookup f = some v ∧ Rep K m N Hv d v
  | [], _, _, _, _, h => by simp [fget] at h
  | _ :: _, [], _, _, _, h => by simp [fget] at h
  | g :: ks, x :: ds, _, d, q, h => by
    obtain ⟨u, us, e, r1, r2⟩ := q
    rw [e]
    unfold fget at h
    rw [List.zip_cons_cons, List.lookup_cons] at h ⊢
    by_cases e1 : f == g
    · rw [e1] at h ⊢
      cases h
      exact ⟨u, rfl, r1⟩
    · rw [Bool.eq_false_iff.mpr e1] at h ⊢
      exact reps_fget r2 h
theorem zip_lookup_none {f : Str} : ∀ {ks : List Str} {vs : List V}, ks.contains f = false → (ks.zip vs).lookup f = none
  | [], _, _ => rfl
  | _ :: _, [], _ => rfl
  | g :: ks, x :: vs, h => by
    rw [List.contains_cons] at h
    have h1 : (f == g) = false := by cases q : f == g <;> simp_all
    have h2 : ks.contains f = false := by cases q : ks.contains f <;> simp_all
    rw [List.zip_cons_cons, List.lookup_cons, h1]
    exact zip_lookup_none h2
end
def objOf (S : Sto) : D → Option (Addr × List Str × List D)
  | .obj C ks ds => some (C, ks, ds)
  | .loc n => match S[n]? with
    | some (some (.obj C ks ds)) => some (C, ks, ds)
    | _ => none
  | _ => none
theorem objOf_rep {K : PySem.W.Frag} {m : Nat → Addr} {S : Sto} {Z : Addr → Prop} {H : Hp} {d : D} {v : V} {C : Addr} {ks : List Str} {ds : List D} (w : Wd K U m S Z H) (r : Rep K m S.length (vis m S Z H) d v) (h : objOf S d = some (C, ks, ds)) :
    ∃ a dx vs, v = .ref a ∧ H a = some (.ins C dx (ks.zip vs)) ∧ ks.length = vs.length ∧ Reps K m S.length (vis m S Z H) ds vs := by
  cases d with
  | obj C' ks' ds' =>
    cases h
    rw [Rep] at r
    obtain ⟨a, dx, vs, e, h1, h2, h3⟩ := r
    exact ⟨a, dx, vs, e, vis_sub h1, h2, h3⟩
  | loc n =>
    rw [Rep] at r
    rw [objOf] at h
    cases hS : S[n]? with
    | none => rw [hS] at h; cases h
    | some o =>
      cases o with
      | none => rw [hS] at h; cases h
      | some o =>
        cases o with
        | obj C' ks' ds' =>
          rw [hS] at h
          cases h
          obtain ⟨dx, vs, h1, h2, h3⟩ := w.rep n _ hS
          exact ⟨m n, dx, vs, r.1, h1, h2, h3⟩
        | lst _ => rw [hS] at h; cases h
        | dic _ _ => rw [hS] at h; cases h
        | dicT _ _ => rw [hS] at h; cases h
  | non => cases h
  | bl _ => cases h
  | int _ => cases h
  | str _ => cases h
  | tup _ => cases h
  | lst _ => cases h
  | ksq _ => cases h
  | dic _ _ => cases h
  | ref _ => cases h
  | ty _ => cases h
  | exc _ _ _ => cases h
structure FldOk (K : PySem.W.Frag) (C : Addr) (f : Str) : Prop where
  cl : Cls K C
  no : NoAttr K C f
def gFld (K : PySem.W.Frag) (f : Str) (go : G D) : G D := fun ρ S q => go ρ S fun o S1 => ∃ C ks ds d, objOf S1 o = some (C, ks, ds) ∧ FldOk K C f ∧ fget f ks ds = some d ∧ q d S1
def gFldSet (K : PySem.W.Frag) (f : Str) (go gv : G D) : GS := fun E ρ S => gv ρ S fun y S1 => go ρ S1 fun o S2 => ∃ n C ks ds, o = .loc n ∧ S2[n]? = some (some (.obj C ks ds)) ∧ FldOk K C f ∧ ks.length < 1000 ∧
  E.nx ρ (S2.set n (some (.obj C (putK f ks) (putX f y ks ds))))
section
variable {X : Cx} {pos pos' : Pos} {e o value : Expr} {f : Str} {go gv : G D}
theorem d_fld (he : PE X e (tofE X.K U go)) (hb : attributeBase e f X.env (eval e X.env) = eval e X.env := by rfl) : PE X (.Attribute e f pos) (tofE X.K U (gFld X.K f go)) :=
  weakE (pe_fld he hb) fun σ H Q ⟨m, S, Z, ρ, q, w, rs, h, k⟩ => tof_in w rs h fun v1 H1 m1 d1 S1 e1 w1 r1 ⟨C, ks, ds, d, h1, h2, h3, h4⟩ => by
    obtain ⟨a, dx, vs, ev, ha, hl, hr⟩ := objOf_rep w1 r1 h1
    obtain ⟨v, hv, rv⟩ := reps_fget hr h3
    exact ⟨a, C, dx, _, v, ev, ha, h2.cl, h2.no, hv, k.at e1 w1 rv h4⟩
theorem d_fldset (ho : PE X o (tofE X.K U go)) (hv : PE X value (tofE X.K U gv)) (hs : swapsWith value (some (.Attribute o f pos')) pos.line X.env = pure false := by rfl) : PS X (.Assign [.Attribute o f pos'] value pos) (tofS X.K U (gFldSet X.K f go gv)) :=
  weakS (ps_fld ho hv hs) fun De σ H ⟨m, S, Z, ρ, E, w, rs, h, k⟩ => tof_in w rs h fun v1 H1 m1 d1 S1 e1 w1 r1 h1 => tof_in w1 (rs.ext e1) h1 fun v2 H2 m2 d2 S2 e2 w2 r2 ⟨n, C, ks, ds, ed, hS, h2, hl, h3⟩ => by
    subst ed
    obtain ⟨dx, vs, ha, hlen, hr⟩ := w2.rep n _ hS
    have r2' : Rep X.K m2 S2.length (vis m2 S2 Z H2) (.loc n) v2 := r2
    rw [Rep] at r2'
    refine ⟨m2 n, C, dx, _, r2'.1, ha, h2.cl, h2.no, by rw [List.length_zip, ← hlen, Nat.min_self]; exact hl, ?_⟩
    obtain ⟨z1, z2⟩ := putF_zip f v1 ks vs hlen
    rw [z1]
    obtain ⟨w3, e3, hv3⟩ := w2.upd (o := .ins C dx ((putK f ks).zip (putX f v1 ks vs))) (mo := .obj C (putK f ks) (putX f d1 ks ds)) ⟨_, hS⟩ ⟨dx, _, upd_same, z2, reps_putX (r1.ext e2) hlen hr⟩
    exact k.nx.at ((e1.trans e2).trans e3) w3 (rs.ext ((e1.trans e2).trans e3)) h3
end
structure MFn (P : Program) (w : World) (K : PySem.W.Frag) (mg : Str → Option Value) (base : Heap) (C : Addr) (m qual : Str) (st : Stmt) (dvs : List V) (k : Nat) (ps : List Str) (dsp : DSp) : Prop where
  cl : Cls K C
  ex : ∃ f fd, FunS K m qual st dvs f fd ∧ Meth K C m f ∧ FnG P w K mg base CX0 k f fd ps (spOf K dsp)
structure CFn (P : Program) (w : World) (K : PySem.W.Frag) (mg : Str → Option Value) (base : Heap) (x : Str) (C : Addr) (qual : Str) (st : Stmt) (dvs : List V) (k : Nat) (ps : List Str) (dsp : DSp) : Prop where
  mC : mg x = some (.ref C)
  ex : ∃ f fd, FunS K "__init__" qual st dvs f fd ∧ Mk K C f ∧ FnG P w K mg base CX0 k f fd ps (spOf K dsp)
def gMeth (C : Addr) (m : Str) (n nk : Nat) (src : List Src) (dds : List D) (dsp : DSp) (go : G D) (ga : GA) : G D := fun ρ S q => go ρ S fun o S1 => ∃ ks ds, objOf S1 o = some (C, ks, ds) ∧ ks.contains m = false ∧
  ga ρ S1 fun as zs S2 => as.length = n ∧ zs.length = nk ∧ dsp (gat src (o :: as) dds zs) S2 q
/-- C(..), the new instance of the store -/
def gMake (C : Addr) (n nk : Nat) (src : List Src) (dds : List D) (dsp : DSp) (ga : GA) : G D := fun ρ S q => ga ρ S fun as zs S1 => as.length = n ∧ zs.length = nk ∧
  dsp (gat src (.loc S1.length :: as) dds zs) (S1 ++ [some (.obj C [] [])]) fun v S2 => v = .non ∧ q (.loc S1.length) S2
/-- C(..), the new instance given up at once -/
def gMakeF (C : Addr) (n nk : Nat) (src : List Src) (dds : List D) (dsp : DSp) (ga : GA) : G D := fun ρ S q => ga ρ S fun as zs S1 => as.length = n ∧ zs.length = nk ∧ (D.unders S1.length as = true → D.unders S1.length zs = true →
  dsp (gat src (.loc S1.length :: as) dds zs) (S1 ++ [some (.obj C [] [])]) fun v S2 => v = .non ∧ ∃ ks ds, S2 = S1 ++ [some (.obj C ks ds)] ∧ D.unders S1.length ds = true ∧ q (.obj C ks ds) S1)
section
variable {X : Cx} {pos p apos : Pos} {x m qual : Str} {st : Stmt} {dvs : List V} {dds : List D} {k n : Nat} {ps ks : List Str} {dsp : DSp} {es : List Expr} {kws : List Keyword} {src : List Src} {ga : GA} {o : Expr} {go : G D} {C : Addr}
theorem d_meth {pl : Sem Bool} (F : MFn X.prog X.w X.K X.mg X.base C m qual st dvs k ps dsp) (hr : RoomG k X.A) (b : Bnd m qual st ps (n + 1) ks src dvs.length) (hd : DfV dds dvs) (ho : PE X o (tofE X.K U go)) (ha : PArgs X es kws pos ks (tof2 X.K U ga))
    (ht : eval (.Call (.Attribute o m apos) es kws pos) X.env = (do
      let ov ← eval o X.env
      standAt apos.atName
      let (f, first) ← holding [ov] (getMethod ov m pl)
      callWith pos f first (backTo pos (starEach es X.env)) (backToKw pos (keywordEach kws X.env))) := by rfl) :
    PE X (.Call (.Attribute o m apos) es kws pos) (tofE X.K U (gMeth C m n ks.length src dds dsp go ga)) := by
  refine ⟨fun pins s σ H Q I ⟨mm, S, Z, ρ, q, w, rs, h, kk⟩ => ?_⟩
  obtain ⟨f, fd, FS, hm, FO⟩ := F.ex
  obtain ⟨its, KB⟩ := kbn_of FS b
  refine PySem.W.methodCall_KW (pl := pl) (thn (ho.run pins s σ H (fun x H1 => ∃ a dx fs, x = .ref a ∧ H1 a = some (.ins C dx fs) ∧ fs.lookup m = none ∧ tof2 X.K U ga σ H1 fun vs zs H2 => vs.length = n ∧ zs.length = ks.length ∧ spOf X.K dsp (gat src (x :: vs) dvs zs) H2 Q fun _ _ _ => False) I
    (tof_in w rs h fun v1 H1 m1 d1 S1 e1 w1 r1 ⟨kf, df, h1, h2, h3⟩ => ?_)) fun u s1 ⟨x, H1, I1, rx, a, dx, fs, ex, ea, l, q⟩ => ?_) ht
  · obtain ⟨a, dx, vs, ev, hha, hlen, hrr⟩ := objOf_rep w1 r1 h1
    refine ⟨a, dx, _, ev, hha, zip_lookup_none h2, m1, S1, Z, ρ, _, w1, rs.ext e1, h3, fun vs zs H2 m2 as zd S2 e2 w2 r2 r3 h4 => ?_⟩
    exact ⟨by rw [Reps.len r2]; exact h4.1, by rw [Reps.len r3]; exact h4.2.1, m2, S2, Z, gat src (d1 :: as) dds zd, _, w2.w0, gat_reps (Reps.cons (r1.ext e2) r2) hd r3, h4.2.2, (kk.ext (e1.trans e2)).to0 w2⟩
  · subst ex
    obtain rfl : u = Value.ref a := rx
    refine getmeth_ok I1 ea F.cl hm l ?_
    refine ha.run pins s1 σ H1 _ (.ref f) [.ref a] _ I1 hm.kp q fun us ws vs zs s2 H2 I2 rv rz ⟨l1, l2, hs⟩ => ?_
    exact run_fnG FO hr KB pass0 I2 (us := .ref a :: us) (vs := .ref a :: vs) (.cons rfl rv) rz (congrArg Nat.succ l1) l2 hs
theorem spOf_len {K : PySem.W.Frag} (hl : ∀ ds S q, dsp ds S q → ds.length = ps.length) : ∀ vs H Q E, spOf K dsp vs H Q E → vs.length = ps.length := fun vs H Q E ⟨m, S, Z, ds, q, w, r, h, k⟩ => by rw [Reps.len r]; exact hl ds S q h
theorem run_makeD {P : Program} {wo : World} (M : ∃ f fd, FunS X.K "__init__" qual st dvs f fd ∧ Mk X.K C f ∧ FnG X.prog X.w X.K X.mg X.base CX0 k f fd ps (spOf X.K dsp)) (hm : X.mg x = some (.ref C)) (hr : RoomG (k + 1) X.A) (hg : Gl X x) (b : Bnd "__init__" qual st ps (n + 1) ks src dvs.length)
    (ha : PArgs X es kws pos ks (tof2 X.K U ga)) (hdb : (x == ("__debug__" : Str)) = false) {g : G D}
    (hgo : ∀ σ H Q, tofE X.K U g σ H Q → tof2 X.K U ga σ H fun vs zs H2 => vs.length = n ∧ zs.length = ks.length ∧ ∀ x dx, H2 x = none → H2 dx = none → dx ≠ x → spOf X.K dsp (gat src (.ref x :: vs) dvs zs) (upd (upd H2 dx (.own x)) x (.ins C dx [])) (fun v H3 => v = .non ∧ Q (.ref x) H3) fun _ _ _ => False) :
    PE X (.Call (.Name x p) es kws pos) (tofE X.K U g) := by
  refine ⟨fun pins s σ H Q I h => ?_⟩
  obtain ⟨f, fd, FS, MK, FO⟩ := M
  obtain ⟨its, KB⟩ := kbn_of FS b
  refine wpAny_Call_Name_kw (ld_glob I hg hm ?_ hdb)
  refine ha.run pins s σ H _ (.ref C) [] _ I MK.kp (hgo σ H Q h) fun us ws vs zs s1 H1 I1 rv rz ⟨l1, l2, hs⟩ => ?_
  exact run_makeG MK FO hr KB pass0 I1 rv rz l1 l2 hs
theorem made_in {K : PySem.W.Frag} {mm : Nat → Addr} {S : Sto} {Z : Addr → Prop} {H : Hp} {a dx : Addr} (w : Wd K U mm S Z H) (ha : H a = none) (hdx : H dx = none) (hne : dx ≠ a) :
    ∃ m', m' S.length = a ∧ Wd K U m' (S ++ [some (.obj C [] [])]) Z (upd (upd H dx (.own a)) a (.ins C dx [])) ∧ Ext mm S Z H m' (S ++ [some (.obj C [] [])]) (upd (upd H dx (.own a)) a (.ins C dx [])) := by
  obtain ⟨w1, e1, _⟩ := w.new (o := .own a) hdx
  obtain ⟨m', e0, w2, e2⟩ := w1.add (p := a) (o := .ins C dx []) (mo := .obj C [] []) (by rw [upd_ne hne.symm]; exact ha) fun m1 N1 Hv1 h1 h2 h3 => ⟨dx, [], upd_same, rfl, reps_nil⟩
  exact ⟨m', e0, w2, e1.trans e2⟩
theorem d_make (F : CFn X.prog X.w X.K X.mg X.base x C qual st dvs k ps dsp) (hr : RoomG (k + 1) X.A) (hg : Gl X x) (b : Bnd "__init__" qual st ps (n + 1) ks src dvs.length) (hd : DfV dds dvs) (ha : PArgs X es kws pos ks (tof2 X.K U ga)) (hdb : (x == ("__debug__" : Str)) = false := by decide) :
    PE X (.Call (.Name x p) es kws pos) (tofE X.K U (gMake C n ks.length src dds dsp ga)) :=
  run_makeD (P := X.prog) (wo := X.w) F.ex F.mC hr hg b ha hdb fun σ H Q ⟨mm, S, Z, ρ, q, w, rs, h, kk⟩ => ⟨mm, S, Z, ρ, _, w, rs, h, fun vs zs H2 m2 as zd S2 e2 w2 r2 r3 h4 => by
    refine ⟨by rw [Reps.len r2]; exact h4.1, by rw [Reps.len r3]; exact h4.2.1, fun a dx ha hdx hne => ?_⟩
    obtain ⟨m', e0, w3, e3⟩ := made_in (C := C) w2 ha hdx hne
    refine ⟨m', _, Z, gat src (.loc S2.length :: as) dds zd, _, w3.w0, gat_reps (Reps.cons (rep_loc e0 (by simp)) (r2.ext e3)) hd (r3.ext e3), h4.2.2, fun v H5 m5 d5 S5 e5 w5 r5 ⟨hv, h5⟩ => ?_⟩
    subst hv
    refine ⟨r5, kk.at ((e2.trans e3).trans e5) (w3.on e5 w5.toWd0) (rep_loc ?_ ?_) h5⟩
    · rw [e5.loc _ (by simp), e0]
    · exact Nat.lt_of_lt_of_le (by simp) e5.len⟩
end
section
variable {P : Program} {w : World} {K : PySem.W.Frag} {mg : Str → Option Value} {base : Heap} {x qual : Str} {st : Stmt} {dvs : List V} {f : Addr} {fd : FuncData} {N ps : List Str} {k : Nat} {dsp : DSp}
theorem fn_body (F : FunS K x qual st dvs f fd) (S : FnScope N ps (defScope st)) (len : ∀ ds S q, dsp ds S q → ds.length = ps.length) (g : GS)
    (hbody : ∀ (cdv : Value) (A : Around) (outer : List Env) (s : Shared) (H : Hp) (E : XK), RoomG k (A.deeper (PyProof.Rows.envOfC qual (defScope st) s.heap.objs.size f cdv)) →
      PSs (cxOf CX0 P w K mg base N qual (defScope st) f cdv A outer s H E).nox (defBody st) (tofS K U0 g))
    (hread : ∀ ds S q, D.unders S.length ds = true → Sto.under S.length S = true → dsp ds S q → g { nx := fun _ S' => fin S.length q .non S', rt := fin S.length q } (startD N ds) S) : FnG P w K mg base CX0 (k + 1) f fd ps (spOf K dsp) := by
  refine FnG.by_body F S (spOf_len len) fun cdv A outer s H vs Q E hr ⟨m, St', Z, ds, q, wd, rd, hd, kk⟩ => ?_
  refine ⟨_, (hbody cdv A outer s H E hr).nox, m, St', Z, startD N ds, _, wd, relS_start rd, hread ds St' q (Reps.below rd) wd.under hd, ⟨?_, out_fin wd kk, ?_, ?_⟩⟩
  · exact fun σ' H' m' ρ' S' e' w' _ h' => out_fin wd kk .non H' m' .non S' e' w' rep_non h'
  · exact fun _ _ _ _ _ _ _ _ h => h.elim
  · exact fun _ _ _ _ _ _ _ _ h => h.elim
end
end Dl
namespace Dl
open PySem L2
def seqOf (S : Sto) : D → Option (List D)
  | .lst ds => some ds
  | .ksq ds => some ds
  | .tup ds => some ds
  | .loc n => match S[n]? with
    | some (some (.lst ds)) => some ds
    | _ => none
  | _ => none
def D.isTup : D → Bool
  | .tup _ => true
  | _ => false
theorem loc_lst {S : Sto} {n : Nat} {ds : List D} (h : seqOf S (.loc n) = some ds) : S[n]? = some (some (.lst ds)) := by
  rw [seqOf] at h
  cases hS : S[n]? with
  | none => rw [hS] at h; cases h
  | some o =>
    cases o with
    | none => rw [hS] at h; cases h
    | some o =>
      cases o with
      | lst _ => rw [hS] at h; cases h; rfl
      | obj _ _ _ => rw [hS] at h; cases h
      | dic _ _ => rw [hS] at h; cases h
      | dicT _ _ => rw [hS] at h; cases h
theorem seqOf_rep {K : PySem.W.Frag} {m : Nat → Addr} {S : Sto} {Z : Addr → Prop} {H : Hp} {d : D} {v : V} {ds : List D} (w : Wd K U m S Z H) (r : Rep K m S.length (vis m S Z H) d v) (h : seqOf S d = some ds) :
    ∃ a vs, v = .ref a ∧ Reps K m S.length (vis m S Z H) ds vs ∧ (d.isTup = true → SqT K H a vs) ∧ (d.isTup = false → SqL K H a vs) := by
  cases d with
  | lst ds' => cases h; rw [Rep] at r; obtain ⟨a, vs, e, h1, h2⟩ := r; exact ⟨a, vs, e, h2, fun z => (by cases z), fun _ => SqL.of (vis_sub h1)⟩
  | ksq ds' => cases h; rw [Rep] at r; obtain ⟨a, vs, e, h1, h2⟩ := r; exact ⟨a, vs, e, h2, fun z => (by cases z), fun _ => SqL.sub vis_le h1⟩
  | tup ds' => cases h; rw [Rep] at r; obtain ⟨a, vs, e, h1, h2⟩ := r; exact ⟨a, vs, e, h2, fun _ => SqT.sub vis_le h1, fun z => (by cases z)⟩
  | loc n =>
    rw [Rep] at r
    obtain ⟨vs, h1, h2⟩ := w.rep n _ (loc_lst h)
    exact ⟨m n, vs, r.1, h2, fun z => (by cases z), fun _ => SqL.of h1⟩
  | non => cases h
  | bl _ => cases h
  | int _ => cases h
  | str _ => cases h
  | obj _ _ _ => cases h
  | dic _ _ => cases h
  | ref _ => cases h
  | ty _ => cases h
  | exc _ _ _ => cases h
theorem Rep.lt {K : PySem.W.Frag} {m m' : Nat → Addr} {S S' : Sto} {Z Z' : Addr → Prop} {H H' : Hp} {d : D} {v : V} (e : Lt m S Z H m' S' Z' H') (r : Rep K m S.length (vis m S Z H) d v) : Rep K m' S'.length (vis m' S' Z' H') d v := Rep.mono e.loc e.len e.vis r
theorem Reps.lt {K : PySem.W.Frag} {m m' : Nat → Addr} {S S' : Sto} {Z Z' : Addr → Prop} {H H' : Hp} {d : List D} {v : List V} (e : Lt m S Z H m' S' Z' H') (r : Reps K m S.length (vis m S Z H) d v) : Reps K m' S'.length (vis m' S' Z' H') d v := Reps.mono e.loc e.len e.vis r
def rngD (lo : Int) (n : Nat) : List D := (List.range n).map fun i => .int (lo + ((i : Nat) : Int))
def gRng1 (ga : G (List D)) : GI := fun ρ S q => ga ρ S fun as S1 => ∃ j : Int, as = [.int j] ∧ -(2 ^ 62) ≤ j ∧ j < 2 ^ 62 ∧ q (rngD 0 j.toNat) (fun _ => True) S1
def gRng2 (ga : G (List D)) : GI := fun ρ S q => ga ρ S fun as S1 => ∃ i j : Int, as = [.int i, .int j] ∧ (-(2 ^ 62) ≤ i ∧ i < 2 ^ 62 ∧ -(2 ^ 62) ≤ j ∧ j < 2 ^ 62) ∧ q (rngD i (j - i).toNat) (fun _ => True) S1
def signsD (x : Str) : List D := x.cps.toList.map fun c => .str ⟨#[c]⟩
def enumD (ds : List D) : List D := ds.zipIdx.map fun p => .tup [.int (p.2 : Nat), p.1]
def gEnum (ga : G (List D)) : GI := fun ρ S q => ga ρ S fun as S1 => ∃ d ds, as = [d] ∧ d.isTup = false ∧ seqOf S1 d = some ds ∧ q (enumD ds) (fun S' => seqOf S' d = some ds) S1
def zipD (ds es : List D) : List D := List.zipWith (fun a b => .tup [a, b]) ds es
def gZip (ga : G (List D)) : GI := fun ρ S q => ga ρ S fun as S1 => ∃ d e ds es, as = [d, e] ∧ d.isTup = false ∧ e.isTup = false ∧ seqOf S1 d = some ds ∧ seqOf S1 e = some es ∧ q (zipD ds es) (fun S' => seqOf S' d = some ds ∧ seqOf S' e = some es) S1
section
variable {X : Cx} {pos p tpos : Pos} {tg e e2 : Expr} {ge : G D} {ga : G (List D)}
theorem yl_list {K : PySem.W.Frag} {m : Nat → Addr} {S : Sto} {Z : Addr → Prop} {H : Hp} {d : D} {a : Addr} {ds : List D} (ht : d.isTup = false) (r : Rep K m S.length (vis m S Z H) d (.ref a)) : Yl K (Itl K a) m S Z H ds (fun S' => seqOf S' d = some ds) := by
  refine ⟨fun {_ m' S' Z' H' i} l w hc hi => ?_, fun {_ m' S' Z' H'} l w hc => ?_⟩
  · obtain ⟨a', vs, e, hr, _, hs⟩ := seqOf_rep w (r.lt l) hc
    cases e
    obtain ⟨d', hd⟩ : ∃ d', ds[i]? = some d' := ⟨ds[i], by simp [hi]⟩
    obtain ⟨v, hv, rv⟩ := Reps.get hr hd
    refine ⟨⟨vs, v, hs ht, hv⟩, fun x H2 ⟨e2, hx⟩ => ?_⟩
    subst e2
    have := hx vs (hs ht)
    rw [hv] at this; cases this
    exact ⟨d', hd, w, Ext.refl, rv⟩
  · obtain ⟨a', vs, e, hr, _, hs⟩ := seqOf_rep w (r.lt l) hc
    cases e
    exact ⟨vs, hs ht, by rw [Reps.len hr]; exact Nat.le_refl _⟩
theorem yl_tup {K : PySem.W.Frag} {m : Nat → Addr} {S : Sto} {Z : Addr → Prop} {H : Hp} {d : D} {a : Addr} {ds : List D} (ht : d.isTup = true) (r : Rep K m S.length (vis m S Z H) d (.ref a)) : Yl K (Itt K a) m S Z H ds (fun S' => seqOf S' d = some ds) := by
  refine ⟨fun {_ m' S' Z' H' i} l w hc hi => ?_, fun {_ m' S' Z' H'} l w hc => ?_⟩
  · obtain ⟨a', vs, e, hr, hs, _⟩ := seqOf_rep w (r.lt l) hc
    cases e
    obtain ⟨d', hd⟩ : ∃ d', ds[i]? = some d' := ⟨ds[i], by simp [hi]⟩
    obtain ⟨v, hv, rv⟩ := Reps.get hr hd
    refine ⟨⟨vs, v, hs ht, hv⟩, fun x H2 ⟨e2, hx⟩ => ?_⟩
    subst e2
    have := hx vs (hs ht)
    rw [hv] at this; cases this
    exact ⟨d', hd, w, Ext.refl, rv⟩
  · obtain ⟨a', vs, e, hr, hs, _⟩ := seqOf_rep w (r.lt l) hc
    cases e
    exact ⟨vs, hs ht, by rw [Reps.len hr]; exact Nat.le_refl _⟩
/-- what a for walks: a list, a tuple, a text -/
theorem pi_seq {tl : TE} (hl : PE X e tl) : PI X tg e (fun σ H R => tl σ H fun x H1 => (∃ a, x = .ref a ∧ (∃ xs, SqL X.K H1 a xs) ∧ R (Itl X.K a) H1) ∨ (∃ a, x = .ref a ∧ (∃ xs, SqT X.K H1 a xs) ∧ R (Itt X.K a) H1) ∨ ∃ z, x = .str z ∧ R (Its z) H1) := by
  refine ⟨fun pins s σ H R I h => ?_⟩
  refine thn (hl.run pins s σ H _ I h) fun v s1 ⟨x, H1, I1, r1, q1⟩ => ?_
  rcases q1 with ⟨a, e, ⟨xs, hq⟩, q⟩ | ⟨a, e, ⟨xs, hq⟩, q⟩ | ⟨z, e, q⟩
  · subst e
    cases r1
    obtain ⟨its, rv, p, hz⟩ := I1.list hq
    refine wpAny_pyIter_list p.isList ?_
    refine ⟨s1.heap.objs.size, [s1.heap.objs.size], _, _, H1, rfl, I1.kept (t' := s1.toks) fun b o e => Heap.get?_push_of_some _ e, turn_list a _, ⟨_, Heap.get?_push_size _ rfl, rfl, rfl⟩, fun b hb => ?_, q⟩
    have e : b = s1.heap.objs.size := by simpa using hb
    subst e
    exact I1.fpOk (Nat.le_refl _) (I1.hok.fresh (Nat.le_refl _))
  · subst e
    cases r1
    obtain ⟨its, rv, p, hz⟩ := I1.tuple hq
    refine wpAny_pyIter_tuple (show s1.heap.IsTuple a its.toArray from p) ?_
    refine ⟨s1.heap.objs.size, [s1.heap.objs.size], _, _, H1, rfl, I1.kept (t' := s1.toks) fun b o e => Heap.get?_push_of_some _ e, turn_tuple a _, ⟨_, Heap.get?_push_size _ rfl, rfl, rfl⟩, fun b hb => ?_, q⟩
    have e : b = s1.heap.objs.size := by simpa using hb
    subst e
    exact I1.fpOk (Nat.le_refl _) (I1.hok.fresh (Nat.le_refl _))
  · subst e
    obtain ⟨t, rfl⟩ := r1
    cases ha : z.cps.all (· < 128)
    · exact wpAny_pyIter_wide ha (pi_one (tk := s1.toks) I1 _ (turn_str _ z t "str_iterator" (.inr rfl)) ⟨_, Heap.get?_push_size _ rfl, rfl, rfl⟩ q)
    · exact wpAny_pyIter_ascii ha (pi_one (tk := s1.toks) I1 _ (turn_str _ z t "str_ascii_iterator" (.inl rfl)) ⟨_, Heap.get?_push_size _ rfl, rfl, rfl⟩ q)
def gIt (ge : G D) : GI := fun ρ S q => ge ρ S fun d S1 => match d with
  | .str x => q (signsD x) (fun _ => True) S1
  | d => ∃ ds, seqOf S1 d = some ds ∧ q ds (fun S' => seqOf S' d = some ds) S1
theorem di_seq (h : PE X e (tofE X.K U ge)) : PI X tg e (tofI X.K U (gIt ge)) :=
  weakI (pi_seq h) fun σ H R ⟨m, S, Z, ρ, q, w, rs, h, k⟩ => tof_in w rs h fun v1 H1 m1 d1 S1 e1 w1 r1 h1 => by
    have go : ∀ ds, seqOf S1 d1 = some ds → q ds (fun S' => seqOf S' d1 = some ds) S1 → (∃ a, v1 = .ref a ∧ (∃ xs, SqL X.K H1 a xs) ∧ R (Itl X.K a) H1) ∨ (∃ a, v1 = .ref a ∧ (∃ xs, SqT X.K H1 a xs) ∧ R (Itt X.K a) H1) ∨ ∃ z, v1 = .str z ∧ R (Its z) H1 := fun ds hq hk => by
      obtain ⟨a, vs, e, hr, ht, hl⟩ := seqOf_rep w1 r1 hq
      subst e
      cases hd : d1.isTup with
      | false => exact .inl ⟨a, rfl, ⟨vs, hl hd⟩, k _ _ _ _ _ _ e1 w1 (yl_list hd r1) hk⟩
      | true => exact .inr (.inl ⟨a, rfl, ⟨vs, ht hd⟩, k _ _ _ _ _ _ e1 w1 (yl_tup hd r1) hk⟩)
    cases d1 with
    | str x =>
      have r1' : Rep X.K m1 S1.length (vis m1 S1 Z H1) (.str x) v1 := r1
      rw [Rep] at r1'
      refine .inr (.inr ⟨x, r1', k _ _ _ _ _ _ e1 w1 ⟨fun {_ m' S' Z' H' i} l w hc hi => ?_, fun {_ m' S' Z' H'} l w hc => ?_⟩ h1⟩)
      · have hi' : i < x.cps.size := by simpa [signsD] using hi
        refine ⟨hi', fun y H2 ⟨e2, c, hc, ey⟩ => ?_⟩
        subst e2 ey
        refine ⟨.str ⟨#[c]⟩, ?_, w, Ext.refl, rep_str⟩
        unfold signsD
        rw [List.getElem?_map, Array.getElem?_toList, hc]
        rfl
      · show x.cps.size ≤ (signsD x).length
        simp [signsD]
    | lst _ => obtain ⟨ds, hq, hk⟩ := h1; exact go ds hq hk
    | ksq _ => obtain ⟨ds, hq, hk⟩ := h1; exact go ds hq hk
    | tup _ => obtain ⟨ds, hq, hk⟩ := h1; exact go ds hq hk
    | loc _ => obtain ⟨ds, hq, hk⟩ := h1; exact go ds hq hk
    | non => obtain ⟨ds, hq, hk⟩ := h1; cases hq
    | bl _ => obtain ⟨ds, hq, hk⟩ := h1; cases hq
    | int _ => obtain ⟨ds, hq, hk⟩ := h1; cases hq
    | obj _ _ _ => obtain ⟨ds, hq, hk⟩ := h1; cases hq
    | dic _ _ => obtain ⟨ds, hq, hk⟩ := h1; cases hq
    | ref _ => obtain ⟨ds, hq, hk⟩ := h1; cases hq
    | ty _ => obtain ⟨ds, hq, hk⟩ := h1; cases hq
    | exc _ _ _ => obtain ⟨ds, hq, hk⟩ := h1; cases hq
theorem yl_rng {K : PySem.W.Frag} {m : Nat → Addr} {S : Sto} {Z : Addr → Prop} {H : Hp} {lo : Int} {n : Nat} : Yl K (Itr lo n) m S Z H (rngD lo n) (fun _ => True) := by
  have len : (rngD lo n).length = n := by simp [rngD]
  refine ⟨fun {_ m' S' Z' H' i} l w hc hi => ?_, fun {_ m' S' Z' H'} l w hc => ?_⟩
  · rw [len] at hi
    refine ⟨hi, fun y H2 ⟨e2, ey⟩ => ?_⟩
    subst e2 ey
    exact ⟨.int (lo + (i : Int)), by unfold rngD; rw [List.getElem?_map, List.getElem?_range hi]; rfl, w, Ext.refl, rep_int⟩
  · show n ≤ (rngD lo n).length
    rw [len]
    exact Nat.le_refl _
theorem reps1 {K : PySem.W.Frag} {m : Nat → Addr} {N : Nat} {Hv : Hp} {d : D} {vs : List V} (r : Reps K m N Hv [d] vs) : ∃ v, vs = [v] ∧ Rep K m N Hv d v := by
  obtain ⟨v, q, e, r1, r2⟩ := r
  exact ⟨v, by rw [e, show q = [] from r2], r1⟩
theorem reps2 {K : PySem.W.Frag} {m : Nat → Addr} {N : Nat} {Hv : Hp} {d d' : D} {vs : List V} (r : Reps K m N Hv [d, d'] vs) : ∃ v v', vs = [v, v'] ∧ Rep K m N Hv d v ∧ Rep K m N Hv d' v' := by
  obtain ⟨v, q, e, r1, r2⟩ := r
  obtain ⟨v', e', r'⟩ := reps1 r2
  exact ⟨v, v', by rw [e, e'], r1, r'⟩
theorem di_rng1 {a : Expr} (hg : Gl X "range") (hm : X.mg "range" = none) (ha : PA X [a] (tofA X.K U ga)) (hs : starEach [a] X.env = [(false, eval a X.env)] := by rfl) : PI X tg (.Call (.Name "range" p) [a] [] pos) (tofI X.K U (gRng1 ga)) :=
  weakI (pi_range1 hg hm ha hs) fun σ H R ⟨m, S, Z, ρ, q, w, rs, h, k⟩ => tof_in w rs h fun v1 H1 m1 d1 S1 e1 w1 r1 ⟨j, ed, h1, h2, h3⟩ => by
    subst ed
    obtain ⟨v, ev, rv⟩ := reps1 r1
    rw [Rep] at rv
    exact ⟨j, by rw [ev, rv], h1, h2, k _ _ _ _ _ _ e1 w1 yl_rng h3⟩
end
def wipeD (ρ : Env_) : List Nat → Env_
  | [] => ρ
  | v :: vs => (wipeD ρ vs).set v none
theorem relS_wipe {K : PySem.W.Frag} {m : Nat → Addr} {N : Nat} {Hv : Hp} {ρ : Env_} {σ : L2.St} (r : RelS K m N Hv ρ σ) : ∀ vs : List Nat, RelS K m N Hv (wipeD ρ vs) (wipe σ vs)
  | [] => r
  | v :: vs => by
    have ih := relS_wipe r vs
    refine ⟨by unfold wipeD wipe; rw [List.length_set, List.length_set]; exact ih.1, fun i d e => ?_⟩
    unfold wipeD at e
    by_cases h : v = i
    · subst h
      by_cases hl : v < (wipeD ρ vs).length
      · rw [List.getElem?_set_self hl] at e; cases e
      · rw [List.getElem?_eq_none_iff.mpr (by rw [List.length_set]; omega)] at e; cases e
    · rw [List.getElem?_set_ne h] at e
      obtain ⟨u, h1, h2⟩ := ih.2 i d e
      exact ⟨u, by unfold wipe; rw [List.getElem?_set_ne h]; exact h1, h2⟩
def gYes : G Bool := fun _ S q => q true S
def gLc (fz : Bool) (gi : GI) (t : Tgt) (gt : G Bool) (ge : G D) (vs : List Nat) : G D := fun ρ S q => gi ρ S fun ds chk S1 => ∃ I : Nat → List D → Sto → Prop, I 0 [] S1 ∧
  (∀ i d acc S, ds[i]? = some d → I i acc S → chk S ∧ ∃ ρ', t.bind d (wipeD ρ vs) = some ρ' ∧ gt ρ' S fun b S2 => if b = true then ge ρ' S2 fun y S3 => acc.length < sizeLine ∧ I (i + 1) (acc ++ [y]) S3 else I (i + 1) acc S2) ∧
  ∀ acc S, I ds.length acc S → chk S ∧ newL fz acc S q
theorem Wd0.hide {K : PySem.W.Frag} {m : Nat → Addr} {S : Sto} {Z : Addr → Prop} {H : Hp} (w : Wd0 K m S Z H) {p : Addr} {o : HO} (hp : H p = none) : Wd0 K m S (fun a => Z a ∨ a = p) (L2.upd H p o) ∧ Lt m S Z H m S (fun a => Z a ∨ a = p) (L2.upd H p o) := by
  obtain ⟨nz, nl⟩ := w.fresh hp
  have hv : ∀ a u, vis m S Z H a = some u → vis m S (fun a => Z a ∨ a = p) (L2.upd H p o) a = some u := fun a u h => by
    obtain ⟨z1, z2⟩ := vis_not h
    have nap : a ≠ p := ne_of_none (vis_sub h) hp
    exact vis_of (by rw [L2.upd_ne nap]; exact vis_sub h) (fun z => z.elim z1 nap) z2
  refine ⟨⟨w.inj, fun i l => ?_, fun a z => ?_, fun i x e => ?_⟩, ⟨Nat.le_refl _, fun _ _ => rfl, hv⟩⟩
  · rintro (z | z)
    · exact w.zz i l z
    · exact nl i l z
  · by_cases e : a = p
    · rw [e, L2.upd_same]; exact ⟨_, rfl⟩
    · rcases z with z | z
      · rw [L2.upd_ne e]; exact w.zh a z
      · exact absurd z e
  · exact (w.rep i x e).mono (fun _ _ => rfl) (Nat.le_refl _) hv (L2.upd_ne (nl i ⟨x, e⟩))
/-- a hidden object changes -/
theorem Wd0.hid {K : PySem.W.Frag} {m : Nat → Addr} {S : Sto} {Z : Addr → Prop} {H : Hp} (w : Wd0 K m S Z H) {p : Addr} {o : HO} (hz : Z p) : Wd0 K m S Z (L2.upd H p o) ∧ vis m S Z (L2.upd H p o) = vis m S Z H := by
  have hv : vis m S Z (L2.upd H p o) = vis m S Z H := by
    funext a
    unfold vis
    by_cases c : Z a ∨ ∃ k, Live S k ∧ m k = a
    · rw [if_pos c, if_pos c]
    · rw [if_neg c, if_neg c]
      exact upd_ne (fun q => c (.inl (q ▸ hz)))
  refine ⟨⟨w.inj, w.zz, fun a z => ?_, fun i x e => ?_⟩, hv⟩
  · by_cases e : a = p
    · rw [e, upd_same]; exact ⟨_, rfl⟩
    · rw [upd_ne e]; exact w.zh a z
  · rw [hv]
    exact (w.rep i x e).mono (fun _ _ => rfl) (Nat.le_refl _) (fun _ _ q => q) (upd_ne (fun q => w.zz i ⟨x, e⟩ (q ▸ hz)))
theorem vis_unhide {m : Nat → Addr} {S : Sto} {Z Z' : Addr → Prop} {H : Hp} (hz : ∀ a, Z a → Z' a) {a : Addr} {o : HO} (h : vis m S Z' H a = some o) : vis m S Z H a = some o := by
  obtain ⟨z1, z2⟩ := vis_not h
  exact vis_of (vis_sub h) (fun z => z1 (hz a z)) z2
theorem Wd0.unhide {K : PySem.W.Frag} {m : Nat → Addr} {S : Sto} {Z Z' : Addr → Prop} {H : Hp} (hz : ∀ a, Z a → Z' a) (w : Wd0 K m S Z' H) : Wd0 K m S Z H :=
  ⟨w.inj, fun i l z => w.zz i l (hz _ z), fun a z => w.zh a (hz a z), fun i x e => (w.rep i x e).mono (fun _ _ => rfl) (Nat.le_refl _) (fun _ _ q => vis_unhide hz q) rfl⟩
theorem Wd0.adopt {K : PySem.W.Frag} {m : Nat → Addr} {S : Sto} {Z : Addr → Prop} {H : Hp} {p : Addr} {ds : List D} {vs : List V} (nz : ¬ Z p) (w : Wd0 K m S (fun a => Z a ∨ a = p) H) (hp : H p = some (.lst vs)) (r : Reps K m S.length (vis m S (fun a => Z a ∨ a = p) H) ds vs) :
    ∃ m', m' S.length = p ∧ Wd0 K m' (S ++ [some (.lst ds)]) Z H ∧ (∀ i, i < S.length → m' i = m i) ∧ ∀ a u, vis m S (fun a => Z a ∨ a = p) H a = some u → vis m' (S ++ [some (.lst ds)]) Z H a = some u := by
  let m' : Nat → Addr := fun i => if i = S.length then p else m i
  have e0 : m' S.length = p := if_pos rfl
  have e1 : ∀ i, i < S.length → m' i = m i := fun i h => if_neg (Nat.ne_of_lt h)
  have lv : ∀ i, Live (S ++ [some (MO.lst ds)]) i → (i < S.length ∧ Live S i) ∨ i = S.length := fun i ⟨x, e⟩ => by
    by_cases h : i < S.length
    · exact .inl ⟨h, x, by rw [List.getElem?_append_left h] at e; exact e⟩
    · right
      have := (List.getElem?_eq_some_iff.mp e).1
      rw [List.length_append, List.length_singleton] at this
      omega
  have nl : ∀ i, Live S i → m i ≠ p := fun i l e => w.zz i l (.inr e)
  have hv : ∀ a u, vis m S (fun a => Z a ∨ a = p) H a = some u → vis m' (S ++ [some (.lst ds)]) Z H a = some u := fun a u h => by
    obtain ⟨z1, z2⟩ := vis_not h
    refine vis_of (vis_sub h) (fun z => z1 (.inl z)) fun n l => ?_
    rcases lv n l with ⟨hn, l⟩ | rfl
    · rw [e1 n hn]; exact z2 n l
    · rw [e0]; exact fun q => z1 (.inr q.symm)
  have len : (S ++ [some (MO.lst ds)]).length = S.length + 1 := by simp
  refine ⟨m', e0, ⟨fun i j li lj e => ?_, fun i li => ?_, fun a z => w.zh a (.inl z), fun i x e => ?_⟩, e1, hv⟩
  · rcases lv i li with ⟨hi, li⟩ | rfl <;> rcases lv j lj with ⟨hj, lj⟩ | rfl
    · rw [e1 i hi, e1 j hj] at e; exact w.inj i j li lj e
    · rw [e1 i hi, e0] at e; exact absurd e (nl i li)
    · rw [e0, e1 j hj] at e; exact absurd e.symm (nl j lj)
    · rfl
  · rcases lv i li with ⟨hi, li⟩ | rfl
    · rw [e1 i hi]; exact fun z => w.zz i li (.inl z)
    · rw [e0]; exact nz
  · rw [len]
    rcases lv i ⟨x, e⟩ with ⟨hi, li⟩ | rfl
    · rw [List.getElem?_append_left hi] at e
      exact (w.rep i x e).mono e1 (Nat.le_succ _) hv (by rw [e1 i hi])
    · rw [List.getElem?_append_right (Nat.le_refl _), Nat.sub_self, List.getElem?_cons_zero] at e
      cases e
      exact ⟨vs, by rw [e0]; exact hp, Reps.mono e1 (Nat.le_succ _) hv r⟩
section
variable {K : PySem.W.Frag} {gi : GI} {t : Tgt} {gt : G Bool} {ge : G D} {vs : List Nat} {fz : Bool}
theorem lc_in (hsub : ∀ i ∈ t.slots, i ∈ vs) {σ : L2.St} {H : Hp} {Q : VK} (h : tofE K U (gLc fz gi t gt ge vs) σ H Q) : tLc (tofI K U gi) (t.gof K) (tofB K U0 gt) (tofE K U0 ge) vs σ H Q := by
  obtain ⟨m, S, Z, ρ, q, w, rs, h, k⟩ := h
  refine ⟨m, S, Z, ρ, _, w, rs, h, fun J H1 m1 S1 ds chk e1 w1 Y ⟨I, h0, hstep, hend⟩ p hp => ?_⟩
  obtain ⟨nz, nl⟩ := w1.fresh hp
  obtain ⟨w1', l1⟩ := w1.toWd0.hide (o := .lst []) hp
  let Z' : Addr → Prop := fun a => Z a ∨ a = p
  have hzp : Z' p := .inr rfl
  have hz1 : ∀ a, Z a → upd H1 p (.lst []) a = H1 a := fun a z => upd_ne (fun e => nz (e ▸ z))
  refine ⟨fun i n H' => n = ds.length - i ∧ i ≤ ds.length ∧ ∃ m' S' acc av, Lt m1 S1 Z H1 m' S' Z' H' ∧ (∀ a, Z a → H' a = H1 a) ∧ Wd K U0 m' S' Z' H' ∧ H' p = some (.lst av) ∧ Reps K m' S'.length (vis m' S' Z' H') acc av ∧ I i acc S',
    ⟨ds.length, by simp, Nat.zero_le _, m1, S1, [], [], l1, hz1, w1'.u0, upd_same, reps_nil, h0⟩, ?_⟩
  rintro i n H2 ⟨rfl, hi2, m2, S2, acc, av, l2, z2, w2, hp2, ra, I2⟩
  by_cases hlt : i < ds.length
  · right
    obtain ⟨d, hd⟩ : ∃ d, ds[i]? = some d := ⟨ds[i], by simp [hlt]⟩
    obtain ⟨hchk, ρ3, hbind, hbody⟩ := hstep i d acc S2 hd I2
    obtain ⟨g1, g2⟩ := Y.go l2 w2 hchk hlt
    refine ⟨g1, fun H' => ∃ m' S' acc av, Lt m1 S1 Z H1 m' S' Z' H' ∧ (∀ a, Z a → H' a = H1 a) ∧ Wd K U0 m' S' Z' H' ∧ H' p = some (.lst av) ∧ Reps K m' S'.length (vis m' S' Z' H') acc av ∧ I (i + 1) acc S', fun H' hN => ⟨ds.length - (i + 1), by omega, rfl, hlt, hN⟩, fun x H3 hy => ?_⟩
    obtain ⟨d', hd', w3, e3, r3⟩ := g2 x H3 hy
    rw [hd] at hd'; cases hd'
    have rs2 : RelS K m2 S2.length (vis m2 S2 Z' H2) ρ σ := by
      have z := rs.ext e1
      exact ⟨z.1, fun i d h => let ⟨v, h1, h2⟩ := z.2 i d h; ⟨v, h1, h2.lt l2⟩⟩
    refine Tgt.ok (vs := vs) vis_le hbind r3 (relS_wipe (rs2.ext e3) vs) fun σ4 rs4 hw4 => ⟨?_, ?_⟩
    · rw [hw4 hsub, wipe_wipe vs fun v hv => hv]
    · have lt_of : ∀ {m' S' H'}, Ext m2 S2 Z' H2 m' S' H' → Lt m1 S1 Z H1 m' S' Z' H' ∧ (∀ a, Z a → H' a = H1 a) := fun {m' S' H'} e => ⟨⟨Nat.le_trans l2.len e.len, fun i hi => (e.loc i (Nat.lt_of_lt_of_le hi l2.len)).trans (l2.loc i hi), fun a o q => e.vis a o (l2.vis a o q)⟩, fun a z => (e.zed a (.inl z)).trans (z2 a z)⟩
      refine tof_in w3 rs4 hbody fun b H4 m4 b' S4 e4 w4 hb h4 => ?_
      cases (show b' = b from hb)
      cases b with
      | true =>
        refine tof_in w4 (rs4.ext e4) h4 fun y H5 m5 dy S5 e5 w5 ry h5 => ?_
        have e25 := (e3.trans e4).trans e5
        have hp5 : H5 p = some (.lst av) := (e25.zed p hzp).trans hp2
        obtain ⟨w6, hv6⟩ := w5.toWd0.hid (o := .lst (av ++ [y])) hzp
        obtain ⟨l5, z5⟩ := lt_of e25
        refine ⟨av, hp5, by rw [Reps.len ra]; exact h5.1, m5, S5, acc ++ [dy], av ++ [y], ⟨l5.len, l5.loc, fun a o q => by rw [hv6]; exact l5.vis a o q⟩, fun a z => (upd_ne (show a ≠ p from fun e => nz (e ▸ z))).trans (z5 a z), w6.u0, upd_same, ?_, h5.2⟩
        rw [hv6]
        exact (ra.ext e25).append (Reps.one ry)
      | false =>
        have e24 := e3.trans e4
        obtain ⟨l4, z4⟩ := lt_of e24
        exact ⟨m4, S4, acc, av, l4, z4, w4, (e24.zed p hzp).trans hp2, ra.ext e24, h4⟩
  · left
    have ei : i = ds.length := by omega
    subst ei
    obtain ⟨hchk, hnew⟩ := hend acc S2 I2
    refine ⟨Y.stop l2 w2 hchk, ?_⟩
    cases fz with
    | true =>
      have wu : Wd0 K m2 S2 Z H2 := Wd0.unhide (fun a z => .inl z) w2.toWd0
      have eu : Ext m1 S1 Z H1 m2 S2 H2 := ⟨l2.len, l2.loc, fun a o q => vis_unhide (fun a z => .inl z) (l2.vis a o q), z2⟩
      refine k.at (e1.trans eu) (w1.on eu wu) (rep_lst (vis_of hp2 nz fun n l e => w2.zz n l (.inr e)) (Reps.mono (fun _ _ => rfl) (Nat.le_refl _) (fun a o q => vis_unhide (fun a z => .inl z) q) ra)) hnew
    | false =>
      obtain ⟨m3, e0, w3, em, hv3⟩ := Wd0.adopt nz w2.toWd0 hp2 ra
      have eu : Ext m1 S1 Z H1 m3 (S2 ++ [some (.lst acc)]) H2 := ⟨by rw [List.length_append]; exact Nat.le_trans l2.len (Nat.le_add_right _ _), fun i hi => (em i (Nat.lt_of_lt_of_le hi l2.len)).trans (l2.loc i hi), fun a o q => hv3 a o (l2.vis a o q), z2⟩
      exact k.at (e1.trans eu) (w1.on eu w3) (rep_loc e0 (by simp)) hnew
end
section
variable {X : Cx} {elt tg iter c : Expr} {ifs : List Expr} {scope : Scope} {own : List (Str × Nat)} {pos spos : Pos} {gi : GI} {t : Tgt} {gt : G Bool} {ge : G D}
theorem dt_nil : PTs X [] (tofB X.K U gYes) := ⟨fun pins s σ H Q I ⟨m, S, Z, ρ, q, w, rs, h, k⟩ => (pts_nil (X := X)).run pins s σ H Q I (k.now w rfl h)⟩
theorem dt_one (h : PT X c (tofB X.K U gt)) : PTs X [c] (tofB X.K U gt) := pts_one h
theorem d_lc (fz : Bool) (hc : X.calm = true) (hN : X.N.Nodup) (hi : PI X tg iter (tofI X.K U gi)) (ok : BlkOk X.N X.env.scope scope own) (hsub : ∀ i ∈ t.slots, i ∈ own.map (·.2))
    (hg : ∀ (s : Shared) (H : Hp) (C : Addr) (cl : List (Str × Addr)) (fp : List Addr), PG (X.blk s H scope (compEnvC scope cl C X.env) fp) tg (t.gof X.K)) (ht : ∀ (s : Shared) (H : Hp) (C : Addr) (cl : List (Str × Addr)) (fp : List Addr), PTs (X.blk s H scope (compEnvC scope cl C X.env) fp) ifs (tofB X.K U0 gt))
    (he : ∀ (s : Shared) (H : Hp) (C : Addr) (cl : List (Str × Addr)) (fp : List Addr), PE (X.blk s H scope (compEnvC scope cl C X.env) fp) elt (tofE X.K U0 ge)) (hs : ∀ x, foldedSetIterable iter X.env x = pure x := by intro _; rfl) :
    PE X (.ListComp elt [⟨tg, iter, ifs, 0⟩] scope pos) (tofE X.K U (gLc fz gi t gt ge (own.map (·.2)))) :=
  weakE (pe_lc hc hN hi ok hg ht he hs) fun _ _ _ h => lc_in hsub h
/-- name = [..] -/
theorem d_setLc (fz : Bool) {i : Nat} {y : Str} {py : Pos} (hc : X.calm = true) (hN : X.N.Nodup) (hy : X.N[i]? = some y) (hyl : X.env.scope.names.lookup y = some .local)
    (hsw : swapsWith (.ListComp elt [⟨tg, iter, ifs, 0⟩] scope pos) (some (.Name y py)) spos.line X.env = pure true) (hi : PI X tg iter (tofI X.K U gi)) (ok : BlkOk X.N X.env.scope scope own) (hsub : ∀ i ∈ t.slots, i ∈ own.map (·.2))
    (hg : ∀ (s : Shared) (H : Hp) (C : Addr) (cl : List (Str × Addr)) (fp : List Addr), PG (X.blk s H scope (compEnvC scope cl C X.env) fp) tg (t.gof X.K)) (ht : ∀ (s : Shared) (H : Hp) (C : Addr) (cl : List (Str × Addr)) (fp : List Addr), PTs (X.blk s H scope (compEnvC scope cl C X.env) fp) ifs (tofB X.K U0 gt))
    (he : ∀ (s : Shared) (H : Hp) (C : Addr) (cl : List (Str × Addr)) (fp : List Addr), PE (X.blk s H scope (compEnvC scope cl C X.env) fp) elt (tofE X.K U0 ge)) (hs : ∀ x, foldedSetIterable iter X.env x = pure x := by intro _; rfl) :
    PS X (.Assign [.Name y py] (.ListComp elt [⟨tg, iter, ifs, 0⟩] scope pos) spos) (tofS X.K U (gSet i (gLc fz gi t gt ge (own.map (·.2))))) :=
  weakS (ps_setLc hc hN hy hyl hsw hi ok hg ht he hs) fun E σ H ⟨m, S, Z, ρ, D, w, rs, h, k⟩ => lc_in hsub (tof_in w rs h fun v1 H1 m1 d1 S1 e1 w1 r1 h1 => k.nx.at e1 w1 ((rs.ext e1).set r1) h1)
end
end Dl
namespace Dl
open PySem L2
abbrev rStrI : List V → Hp → VK → Prop := fun xs H Q => ∃ i, xs = [.int i] ∧ i.natAbs.log2 < 1920 ∧ Q (.str (toString i)) H
abbrev rIntA : List V → Hp → VK → Prop := fun xs H Q => (∃ a n, xs = [.str a] ∧ PySem.intText? a = some n ∧ a.length ≤ 640 ∧ Q (.int n) H) ∨ ((∃ i, xs = [.int i] ∧ Q (.int i) H) ∨ ∃ k, xs = [.bl k] ∧ Q (.int (if k then 1 else 0)) H)
abbrev rDvm : List V → Hp → VK → Prop := fun xs H Q => ∃ i j, xs = [.int i, .int j] ∧ CDiv i j ∧ ∀ p, H p = none → Q (.ref p) (upd H p (.tup [.int (i / j), .int (i % j)]))
abbrev rMx2 : List V → Hp → VK → Prop := fun xs H Q => ∃ i j, xs = [.int i, .int j] ∧ Q (.int (if j > i then j else i)) H
abbrev rLstOf (K : PySem.W.Frag) : List V → Hp → VK → Prop := fun xs H Q => ∃ p ys, xs = [.ref p] ∧ (SqL K H p ys ∨ SqT K H p ys) ∧ ∀ l, H l = none → Q (.ref l) (upd H l (.lst ys))
abbrev showI (i : Int) : Str := ((toString i : String) : Str)
section
variable {K : PySem.W.Frag}
def aI2 (C : Int → Int → Prop) (f : Int → Int → D) : R2D := fun a b S q => ∃ i j, a = .int i ∧ b = .int j ∧ C i j ∧ q (f i j) S
theorem vr_I2 {C : Int → Int → Prop} {g : Int → Int → V} {f : Int → Int → D} (hf : ∀ m N Hv i j, Rep K m N Hv (f i j) (g i j)) : VR2 K (rI C g) (aI2 C f) := fun w r1 r2 ⟨i, j, e1, e2, h1, h2⟩ k => by
  subst e1 e2
  rw [Rep] at r1 r2
  exact ⟨i, j, r1, r2, h1, k.now w (hf _ _ _ _ _) h2⟩
theorem vr_I20 {g : Int → Int → V} {f : Int → Int → D} (hf : ∀ m N Hv i j, Rep K m N Hv (f i j) (g i j)) : VR2 K (rI0 g) (aI2 (fun _ _ => True) f) := fun w r1 r2 ⟨i, j, e1, e2, h1, h2⟩ k => by
  subst e1 e2
  rw [Rep] at r1 r2
  exact ⟨i, j, r1, r2, k.now w (hf _ _ _ _ _) h2⟩
def listOf (S : Sto) : D → Option (List D)
  | .lst ds => some ds
  | .loc n => match S[n]? with
    | some (some (.lst ds)) => some ds
    | _ => none
  | _ => none
theorem listOf_rep {m : Nat → Addr} {S : Sto} {Z : Addr → Prop} {H : Hp} {d : D} {v : V} {ds : List D} (w : Wd K U m S Z H) (r : Rep K m S.length (vis m S Z H) d v) (h : listOf S d = some ds) :
    ∃ a vs, v = .ref a ∧ H a = some (.lst vs) ∧ Reps K m S.length (vis m S Z H) ds vs := by
  cases d with
  | lst ds' => cases h; rw [Rep] at r; obtain ⟨a, vs, e, h1, h2⟩ := r; exact ⟨a, vs, e, vis_sub h1, h2⟩
  | loc n =>
    rw [Rep] at r
    obtain ⟨vs, h1, h2⟩ := w.rep n _ (loc_lst h)
    exact ⟨m n, vs, r.1, h1, h2⟩
  | non => cases h
  | bl _ => cases h
  | int _ => cases h
  | str _ => cases h
  | tup _ => cases h
  | ksq _ => cases h
  | obj _ _ _ => cases h
  | dic _ _ => cases h
  | ref _ => cases h
  | ty _ => cases h
  | exc _ _ _ => cases h
def aAdd (fz : Bool) : R2D := fun a b S q => match a, b with
  | .int i, .int j => q (.int (i + j)) S
  | .str x, .str y => x.length + y.length ≤ sizeLine ∧ q (.str (x ++ y)) S
  | .tup xs, .tup ys => xs.length + ys.length ≤ sizeLine ∧ q (.tup (xs ++ ys)) S
  | a, b => ∃ xs ys, listOf S a = some xs ∧ listOf S b = some ys ∧ xs.length + ys.length ≤ sizeLine ∧ newL fz (xs ++ ys) S q
abbrev rAddA (K : PySem.W.Frag) : R2 := fun x y H Q => rI0 (fun i j => .int (i + j)) x y H Q ∨ (∃ i j, x = .str i ∧ y = .str j ∧ i.length + j.length ≤ sizeLine ∧ Q (.str (i ++ j)) H) ∨ rCatA K x y H Q ∨ rCat x y H Q
theorem or_add {X : Cx} : OpR X (binaryOp .Add) (rAddA X.K) := op_add.or (op_add_str.or (op_catA.or op_cat))
theorem vr_add {fz : Bool} : VR2 K (rAddA K) (aAdd fz) := fun {_ m S Z H a b v u q Q} w r1 r2 h k => by
  have lists : (∃ xs ys, listOf S a = some xs ∧ listOf S b = some ys ∧ xs.length + ys.length ≤ sizeLine ∧ newL fz (xs ++ ys) S q) → rAddA K v u H Q := fun ⟨xs, ys, h1, h2, h3, h4⟩ => by
    obtain ⟨a1, vs, e1, hh1, q1⟩ := listOf_rep w r1 h1
    obtain ⟨a2, us, e2, hh2, q2⟩ := listOf_rep w r2 h2
    exact .inr (.inr (.inr ⟨a1, a2, vs, us, e1, e2, hh1, hh2, by rw [Reps.len q1, Reps.len q2]; exact h3, fun p hp => out_newL w (q1.append q2) h4 k hp⟩))
  cases a <;> cases b <;> first
    | (rw [Rep] at r1 r2; exact .inl ⟨_, _, r1, r2, k.now w rep_int h⟩)
    | (rw [Rep] at r1 r2; exact .inr (.inl ⟨_, _, r1, r2, h.1, k.now w rep_str h.2⟩))
    | exact lists h
    | skip
  case tup.tup xs ys =>
    rw [Rep] at r1 r2
    obtain ⟨a1, vs, e1, s1, q1⟩ := r1
    obtain ⟨a2, us, e2, s2, q2⟩ := r2
    subst e1 e2
    have l1 := Reps.len q1
    have l2 := Reps.len q2
    refine .inr (.inr (.inl ⟨a1, a2, vs, us, rfl, rfl, SqT.sub vis_le s1, SqT.sub vis_le s2, by rw [l1, l2]; exact h.1, fun e => ?_, fun _ e => ?_, fun _ _ p hp => ?_⟩))
    · subst e
      have e' : xs = [] := List.eq_nil_of_length_eq_zero (by simpa using l1.symm)
      subst e'
      exact k.now w (rep_tup s2 q2) h.2
    · subst e
      have e' : ys = [] := List.eq_nil_of_length_eq_zero (by simpa using l2.symm)
      subst e'
      have h2 := h.2
      rw [List.append_nil] at h2
      exact k.now w (rep_tup s1 q1) h2
    · exact out_newT w (q1.append q2) h.2 k hp
def aSub : R2D := aI2 (fun _ _ => True) fun i j => .int (i - j)
theorem vr_sub : VR2 K (rI0 fun i j => .int (i - j)) aSub := vr_I20 fun _ _ _ _ _ => rep_int
def mulOk (i j : Int) : Prop := CMul i j ∨ CMulW i j
abbrev rMulA : R2 := fun x y H Q => rI CMul (fun i j => .int (i * j)) x y H Q ∨ rI CMulW (fun i j => .int (i * j)) x y H Q ∨ rRep x y H Q
theorem or_mul {X : Cx} : OpR X (binaryOp .Mult) rMulA := op_mul.or (op_mulW.or op_rep)
def aMul (fz : Bool) : R2D := fun a b S q => match a, b with
  | .int i, .int j => mulOk i j ∧ q (.int (i * j)) S
  | a, .int k => ∃ xs, listOf S a = some xs ∧ -(2 ^ 63) ≤ k ∧ k < 2 ^ 63 ∧ xs.length * k.toNat ≤ sizeLine ∧ newL fz (List.replicate k.toNat xs).flatten S q
  | _, _ => False
theorem reps_rep {m : Nat → Addr} {N : Nat} {Hv : Hp} {ds : List D} {vs : List V} (r : Reps K m N Hv ds vs) : ∀ n : Nat, Reps K m N Hv (List.replicate n ds).flatten (List.replicate n vs).flatten
  | 0 => reps_nil
  | n + 1 => by rw [List.replicate_succ, List.replicate_succ, List.flatten_cons, List.flatten_cons]; exact r.append (reps_rep r n)
theorem vr_mul {fz : Bool} : VR2 K rMulA (aMul fz) := fun {_ m S Z H a b v u q Q} w r1 r2 h k => by
  cases b with
  | int j =>
    rw [Rep] at r2
    have lists : (∃ xs, listOf S a = some xs ∧ -(2 ^ 63) ≤ j ∧ j < 2 ^ 63 ∧ xs.length * j.toNat ≤ sizeLine ∧ newL fz (List.replicate j.toNat xs).flatten S q) → rMulA v u H Q := fun ⟨xs, h1, h2, h3, h4, h5⟩ => by
      obtain ⟨a1, vs, e1, hh1, q1⟩ := listOf_rep w r1 h1
      exact .inr (.inr ⟨a1, j, vs, e1, r2, hh1, h2, h3, by rw [Reps.len q1]; exact h4, fun p hp => out_newL w (reps_rep q1 _) h5 k hp⟩)
    cases a <;> first
      | (rw [Rep] at r1
         rcases h.1 with h1 | h1
         · exact .inl ⟨_, _, r1, r2, h1, k.now w rep_int h.2⟩
         · exact .inr (.inl ⟨_, _, r1, r2, h1, k.now w rep_int h.2⟩))
      | exact lists h
  | non => cases a <;> exact False.elim h
  | bl _ => cases a <;> exact False.elim h
  | str _ => cases a <;> exact False.elim h
  | tup _ => cases a <;> exact False.elim h
  | lst _ => cases a <;> exact False.elim h
  | ksq _ => cases a <;> exact False.elim h
  | obj _ _ _ => cases a <;> exact False.elim h
  | dic _ _ => cases a <;> exact False.elim h
  | loc _ => cases a <;> exact False.elim h
  | ref _ => cases a <;> exact False.elim h
  | ty _ => cases a <;> exact False.elim h
  | exc _ _ _ => cases a <;> exact False.elim h
def divOk (i j : Int) : Prop := CDiv i j ∨ CDivW i j
def aFdiv : R2D := aI2 divOk fun i j => .int (i / j)
abbrev rDivA : R2 := fun x y H Q => rI CDiv (fun i j => .int (i / j)) x y H Q ∨ rI CDivW (fun i j => .int (i / j)) x y H Q
theorem or_fdiv {X : Cx} : OpR X (binaryOp .FloorDiv) rDivA := op_fdiv.or op_fdivW
theorem vr_fdiv : VR2 K rDivA aFdiv := fun w r1 r2 ⟨i, j, e1, e2, h1, h2⟩ k => by
  subst e1 e2
  rw [Rep] at r1 r2
  rcases h1 with h1 | h1
  · exact .inl ⟨i, j, r1, r2, h1, k.now w rep_int h2⟩
  · exact .inr ⟨i, j, r1, r2, h1, k.now w rep_int h2⟩
def aMod : R2D := aI2 (fun _ j => 0 < j) fun i j => .int (i % j)
theorem vr_mod : VR2 K (rI (fun _ j => 0 < j) fun i j => .int (i % j)) aMod := vr_I2 fun _ _ _ _ _ => rep_int
def aPow : R2D := aI2 CPow fun i j => .int (i ^ j.toNat)
theorem vr_pow : VR2 K (rI CPow fun i j => .int (i ^ j.toNat)) aPow := vr_I2 fun _ _ _ _ _ => rep_int
def aShr : R2D := aI2 (fun _ j => 0 ≤ j) fun i j => .int (i / 2 ^ j.toNat)
def aLt : R2D := aI2 (fun _ _ => True) fun i j => .bl (decide (i < j))
def aLe : R2D := aI2 (fun _ _ => True) fun i j => .bl (decide (i ≤ j))
def aGt : R2D := aI2 (fun _ _ => True) fun i j => .bl (decide (j < i))
def aGe : R2D := aI2 (fun _ _ => True) fun i j => .bl (decide (j ≤ i))
theorem vr_lt : VR2 K (rI0 fun i j => .bl (decide (i < j))) aLt := vr_I20 fun _ _ _ _ _ => rep_bl
theorem vr_gt : VR2 K (rI0 fun i j => .bl (decide (j < i))) aGt := vr_I20 fun _ _ _ _ _ => rep_bl
theorem vr_ge : VR2 K (rI0 fun i j => .bl (decide (j ≤ i))) aGe := vr_I20 fun _ _ _ _ _ => rep_bl
/-- - of one int -/
def aNeg : R1D := fun a S q => ∃ i, a = .int i ∧ q (.int (-i)) S
theorem vr_neg : VR1 K (rU fun i => .int (-i)) aNeg := fun w r1 ⟨i, e1, h⟩ k => by
  subst e1
  rw [Rep] at r1
  exact ⟨i, r1, k.now w rep_int h⟩
end
mutual
def toPy : D → Option PyData
  | .non => some .none
  | .bl b => some (.bool b)
  | .int i => some (.int i)
  | .str x => some (.str x)
  | .tup ds => (toPys ds).map .tuple
  | .lst ds => (toPys ds).map .list
  | .ksq ds => (toPys ds).map .list
  | .obj _ _ _ => none
  | .dic _ _ => none
  | .loc _ => none
  | .ref _ => none
  | .ty _ => none
  | .exc _ _ _ => none
def toPys : List D → Option (List PyData)
  | [] => some []
  | d :: ds => match toPy d, toPys ds with
    | some p, some ps => some (p :: ps)
    | _, _ => none
end
def toPyS (S : Sto) : D → Option PyData
  | .loc n => match S[n]? with
    | some (some (.lst ds)) => (toPys ds).map .list
    | _ => none
  | d => toPy d
section
variable {K : PySem.W.Frag} {m : Nat → Addr} {N : Nat} {Hv : Hp}
mutual
theorem dp_of : ∀ {d : D} {v : V} {p : PyData}, Rep K m N Hv d v → toPy d = some p → Dp K Hv v p
  | .non, _, _, r, e => by rw [Rep] at r; rw [toPy] at e; cases e; rw [r]; exact .non
  | .bl _, _, _, r, e => by rw [Rep] at r; rw [toPy] at e; cases e; rw [r]; exact .bl _
  | .int _, _, _, r, e => by rw [Rep] at r; rw [toPy] at e; cases e; rw [r]; exact .int _
  | .str _, _, _, r, e => by rw [Rep] at r; rw [toPy] at e; cases e; rw [r]; exact .str _
  | .tup ds, _, _, r, e => by
    rw [Rep] at r
    rw [toPy] at e
    obtain ⟨a, vs, ev, h1, h2⟩ := r
    obtain ⟨ps, hp, rfl⟩ := Option.map_eq_some_iff.mp e
    rw [ev]
    exact .tup h1 (dps_of h2 hp)
  | .lst ds, _, _, r, e => by
    rw [Rep] at r
    rw [toPy] at e
    obtain ⟨a, vs, ev, h1, h2⟩ := r
    obtain ⟨ps, hp, rfl⟩ := Option.map_eq_some_iff.mp e
    rw [ev]
    exact .lst (SqL.of h1) (dps_of h2 hp)
  | .ksq ds, _, _, r, e => by
    rw [Rep] at r
    rw [toPy] at e
    obtain ⟨a, vs, ev, h1, h2⟩ := r
    obtain ⟨ps, hp, rfl⟩ := Option.map_eq_some_iff.mp e
    rw [ev]
    exact .lst h1 (dps_of h2 hp)
  | .obj _ _ _, _, _, _, e => by rw [toPy] at e; cases e
  | .dic _ _, _, _, _, e => by rw [toPy] at e; cases e
  | .loc _, _, _, _, e => by rw [toPy] at e; cases e
  | .ref _, _, _, _, e => by rw [toPy] at e; cases e
  | .ty _, _, _, _, e => by rw [toPy] at e; cases e
  | .exc _ _ _, _, _, _, e => by rw [toPy] at e; cases e
theorem dps_of : ∀ {ds : List D} {vs : List V} {ps : List PyData}, Reps K m N Hv ds vs → toPys ds = some ps → DpAll K Hv vs ps
  | [], _, _, r, e => by rw [Reps] at r; rw [toPys] at e; cases e; rw [r]; exact .nil
  | d :: ds, _, _, r, e => by
    rw [Reps] at r
    obtain ⟨v, q, ev, r1, r2⟩ := r
    rw [toPys] at e
    cases h1 : toPy d with
    | none => rw [h1] at e; cases e
    | some p =>
      cases h2 : toPys ds with
      | none => rw [h1, h2] at e; cases e
      | some ps =>
        rw [h1, h2] at e
        cases e
        rw [ev]
        exact .cons (dp_of r1 h1) (dps_of r2 h2)
end
mutual
theorem Dp.sub {H H' : Hp} (hh : ∀ a o, H a = some o → H' a = some o) : ∀ {v : V} {p : PyData}, Dp K H v p → Dp K H' v p
  | _, _, .non => .non
  | _, _, .bl b => .bl b
  | _, _, .int b => .int b
  | _, _, .str b => .str b
  | _, _, .lst h r => .lst (SqL.sub hh h) (DpAll.sub hh r)
  | _, _, .tup h r => .tup (SqT.sub hh h) (DpAll.sub hh r)
theorem DpAll.sub {H H' : Hp} (hh : ∀ a o, H a = some o → H' a = some o) : ∀ {v : List V} {p : List PyData}, DpAll K H v p → DpAll K H' v p
  | _, _, .nil => .nil
  | _, _, .cons h r => .cons (Dp.sub hh h) (DpAll.sub hh r)
end
theorem dpS_of {S : Sto} {Z : Addr → Prop} {H : Hp} {d : D} {v : V} {p : PyData} (w : Wd K U m S Z H) (r : Rep K m S.length (vis m S Z H) d v) (e : toPyS S d = some p) : Dp K H v p := by
  cases d with
  | loc n =>
    rw [toPyS] at e
    rw [Rep] at r
    cases hS : S[n]? with
    | none => rw [hS] at e; cases e
    | some o =>
      cases o with
      | none => rw [hS] at e; cases e
      | some o =>
        cases o with
        | lst ds =>
          rw [hS] at e
          obtain ⟨ps, hp, rfl⟩ := Option.map_eq_some_iff.mp e
          obtain ⟨vs, h1, h2⟩ := w.rep n _ hS
          rw [r.1]
          exact .lst (SqL.of h1) (DpAll.sub vis_le (dps_of h2 hp))
        | obj _ _ _ => rw [hS] at e; cases e
        | dic _ _ => rw [hS] at e; cases e
        | dicT _ _ => rw [hS] at e; cases e
  | non => exact Dp.sub vis_le (dp_of r e)
  | bl _ => exact Dp.sub vis_le (dp_of r e)
  | int _ => exact Dp.sub vis_le (dp_of r e)
  | str _ => exact Dp.sub vis_le (dp_of r e)
  | tup _ => exact Dp.sub vis_le (dp_of r e)
  | lst _ => exact Dp.sub vis_le (dp_of r e)
  | ksq _ => exact Dp.sub vis_le (dp_of r e)
  | obj _ _ _ => exact Dp.sub vis_le (dp_of r e)
  | dic _ _ => exact Dp.sub vis_le (dp_of r e)
  | ref _ => exact Dp.sub vis_le (dp_of r e)
  | ty _ => exact Dp.sub vis_le (dp_of r e)
  | exc _ _ _ => exact Dp.sub vis_le (dp_of r e)
end
def aEq : R2D := fun a b S q => ∃ p p', toPyS S a = some p ∧ toPyS S b = some p' ∧ SeqAt.shaped p = true ∧ SeqAt.shaped p' = true ∧ q (.bl (PyData.eqv p p')) S
def aNe : R2D := fun a b S q => ∃ p p', toPyS S a = some p ∧ toPyS S b = some p' ∧ SeqAt.shaped p = true ∧ SeqAt.shaped p' = true ∧ q (.bl (!PyData.eqv p p')) S
section
variable {K : PySem.W.Frag}
theorem vr_eq : VR2 K (rEqD K) aEq := fun w r1 r2 ⟨p, p', h1, h2, h3, h4, h5⟩ k => ⟨p, p', dpS_of w r1 h1, dpS_of w r2 h2, h3, h4, k.now w rep_bl h5⟩
theorem vr_ne : VR2 K (rNeD K) aNe := fun w r1 r2 ⟨p, p', h1, h2, h3, h4, h5⟩ k => ⟨p, p', dpS_of w r1 h1, dpS_of w r2 h2, h3, h4, k.now w rep_bl h5⟩
def aInS : R2D := fun a b S q => ∃ (c : Nat) (z : Str), a = .str ⟨#[c]⟩ ∧ b = .str z ∧ q (.bl (decide (c ∈ z.cps.toList))) S
theorem vrn_of1 {r : List V → Hp → VK → Prop} {g : RND} (P : D → Sto → (D → Sto → Prop) → Prop) (hg : ∀ as S q, g as S q → ∃ d, as = [d] ∧ P d S q)
    (h : ∀ {U : Wi} {m : Nat → Addr} {S : Sto} {Z : Addr → Prop} {H : Hp} {d : D} {v : V} {q : D → Sto → Prop} {Q : VK}, Wd K U m S Z H → Rep K m S.length (vis m S Z H) d v → P d S q → Outs m S Z H K U (rD K) q Q → r [v] H Q) : VRN K r g := fun w rs hh k => by
  obtain ⟨d, e, hp⟩ := hg _ _ _ hh
  subst e
  obtain ⟨v, ev, rv⟩ := reps1 rs
  rw [ev]
  exact h w rv hp k
def a1 (P : D → Sto → (D → Sto → Prop) → Prop) : RND := fun as S q => ∃ d, as = [d] ∧ P d S q
def a2 (P : D → D → Sto → (D → Sto → Prop) → Prop) : RND := fun as S q => ∃ d e, as = [d, e] ∧ P d e S q
theorem vrn1 {r : List V → Hp → VK → Prop} {P : R1D} (h : ∀ {U : Wi} {m : Nat → Addr} {S : Sto} {Z : Addr → Prop} {H : Hp} {d : D} {v : V} {q : D → Sto → Prop} {Q : VK}, Wd K U m S Z H → Rep K m S.length (vis m S Z H) d v → P d S q → Outs m S Z H K U (rD K) q Q → r [v] H Q) : VRN K r (a1 P) :=
  vrn_of1 P (fun _ _ _ h => h) h
theorem vrn2 {r : List V → Hp → VK → Prop} {P : R2D} (h : ∀ {U : Wi} {m : Nat → Addr} {S : Sto} {Z : Addr → Prop} {H : Hp} {d e : D} {v u : V} {q : D → Sto → Prop} {Q : VK}, Wd K U m S Z H → Rep K m S.length (vis m S Z H) d v → Rep K m S.length (vis m S Z H) e u → P d e S q → Outs m S Z H K U (rD K) q Q → r [v, u] H Q) : VRN K r (a2 P) := fun w rs ⟨d, e, ed, hh⟩ k => by
  subst ed
  obtain ⟨v, u, ev, rv, ru⟩ := reps2 rs
  rw [ev]
  exact h w rv ru hh k
def aLen : R1D := fun d S q => match d with
  | .str x => x.length ≤ sizeLine ∧ q (.int x.length) S
  | d => ∃ ds, seqOf S d = some ds ∧ q (.int ds.length) S
abbrev rLenA (K : PySem.W.Frag) : List V → Hp → VK → Prop := fun xs H Q => (∃ p ys, xs = [.ref p] ∧ (SqL K H p ys ∨ SqT K H p ys) ∧ Q (.int ys.length) H) ∨ (∃ z, xs = [.str z] ∧ z.length ≤ sizeLine ∧ Q (.int z.length) H)
theorem or_len {X : Cx} : CallR X (.builtin "len") (rLenA X.K) := call_len_seq.or call_len_str
theorem seq_any {m : Nat → Addr} {S : Sto} {Z : Addr → Prop} {H : Hp} {d : D} {v : V} {ds : List D} (w : Wd K U m S Z H) (r : Rep K m S.length (vis m S Z H) d v) (h : seqOf S d = some ds) :
    ∃ a vs, v = .ref a ∧ Reps K m S.length (vis m S Z H) ds vs ∧ (SqL K H a vs ∨ SqT K H a vs) := by
  obtain ⟨a, vs, e, hr, ht, hl⟩ := seqOf_rep w r h
  refine ⟨a, vs, e, hr, ?_⟩
  cases hd : d.isTup with
  | true => exact .inr (ht hd)
  | false => exact .inl (hl hd)
theorem vr_len : VRN K (rLenA K) (a1 aLen) := vrn1 fun {_ m S Z H d v q Q} w r h k => by
  have go : (∃ ds, seqOf S d = some ds ∧ q (.int ds.length) S) → rLenA K [v] H Q := fun ⟨ds, h1, h2⟩ => by
    obtain ⟨a, vs, e, hr, hs⟩ := seq_any w r h1
    exact .inl ⟨a, vs, by rw [e], hs, k.now w (by rw [Reps.len hr]; exact rep_int) h2⟩
  cases d <;> first
    | (rw [Rep] at r; exact .inr ⟨_, by rw [r], h.1, k.now w rep_int h.2⟩)
    | exact go h
/-- str(int), int(text), int(bool), abs -/
def aStr : R1D := fun d S q => ∃ i, d = .int i ∧ i.natAbs.log2 < 1920 ∧ q (.str (showI i)) S
theorem vr_str : VRN K rStrI (a1 aStr) := vrn1 fun w r ⟨i, e, h1, h2⟩ k => by
  subst e; rw [Rep] at r
  exact ⟨i, by rw [r], h1, k.now w rep_str h2⟩
def aInt : R1D := fun d S q => match d with
  | .str x => ∃ n, PySem.intText? x = some n ∧ x.length ≤ 640 ∧ q (.int n) S
  | .int i => q (.int i) S
  | .bl b => q (.int (if b then 1 else 0)) S
  | _ => False
theorem vr_int : VRN K rIntA (a1 aInt) := vrn1 fun {_ m S Z H d v q Q} w r h k => by
  cases d <;> first
    | exact False.elim h
    | (rw [Rep] at r; obtain ⟨n, h1, h2, h3⟩ := h; exact .inl ⟨_, n, by rw [r], h1, h2, k.now w rep_int h3⟩)
    | (rename_i i; rw [Rep] at r; subst r; exact .inr (.inl ⟨i, rfl, k.now w rep_int h⟩))
    | (rename_i b; rw [Rep] at r; subst r; exact .inr (.inr ⟨b, rfl, k.now w rep_int h⟩))
theorem or_int {X : Cx} : CallR X (.type "int") rIntA := call_int_str.or call_int1
/-- divmod -/
def aDivmod : R2D := fun a b S q => ∃ i j, a = .int i ∧ b = .int j ∧ CDiv i j ∧ q (.tup [.int (i / j), .int (i % j)]) S
theorem vr_divmod : VRN K rDvm (a2 aDivmod) := vrn2 fun w r1 r2 ⟨i, j, e1, e2, h1, h2⟩ k => by
  subst e1 e2; rw [Rep] at r1 r2
  exact ⟨i, j, by rw [r1, r2], h1, fun p hp => out_newT w (Reps.cons rep_int (Reps.one rep_int)) h2 k hp⟩
/-- max, min of two ints; of a list of ints -/
def aMax2 : R2D := fun a b S q => ∃ i j, a = .int i ∧ b = .int j ∧ q (.int (max i j)) S
def aMin2 : R2D := fun a b S q => ∃ i j, a = .int i ∧ b = .int j ∧ q (.int (min i j)) S
theorem vr_max2 : VRN K rMx2 (a2 aMax2) := vrn2 fun w r1 r2 ⟨i, j, e1, e2, h2⟩ k => by
  subst e1 e2; rw [Rep] at r1 r2
  refine ⟨i, j, by rw [r1, r2], k.now w ?_ h2⟩
  have e : (if j > i then j else i) = max i j := by by_cases h : j > i <;> simp [h] <;> omega
  rw [e]; exact rep_int
theorem ints_seq {m : Nat → Addr} {S : Sto} {Z : Addr → Prop} {H : Hp} {d : D} {v : V} {ns : List Int} (w : Wd K U m S Z H) (r : Rep K m S.length (vis m S Z H) d v) (ht : d.isTup = false) (h : seqOf S d = some (ns.map D.int)) : ∃ a, v = .ref a ∧ SqL K H a (ns.map V.int) := by
  obtain ⟨a, vs, e, hr, _, hl⟩ := seqOf_rep w r h
  have q := hl ht
  rw [Reps.ints hr] at q
  exact ⟨a, e, q⟩
def aMaxL : R1D := fun d S q => ∃ ns : List Int, d.isTup = false ∧ seqOf S d = some (ns.map D.int) ∧ 0 < ns.length ∧ ∀ m, m ∈ ns → (∀ y, y ∈ ns → y ≤ m) → q (.int m) S
theorem vr_maxL : VRN K (rMax K) (a1 aMaxL) := vrn1 fun w r ⟨ns, ht, h1, h2, h3⟩ k => by
  obtain ⟨a, e, hs⟩ := ints_seq w r ht h1
  exact ⟨a, ns, by rw [e], hs, h2, fun m h4 h5 => k.now w rep_int (h3 m h4 h5)⟩
/-- list(x), tuple(x) -/
def aList (fz : Bool) : R1D := fun d S q => ∃ ds, seqOf S d = some ds ∧ newL fz ds S q
theorem vr_list {fz : Bool} : VRN K (rLstOf K) (a1 (aList fz)) := vrn1 fun w r ⟨ds, h1, h2⟩ k => by
  obtain ⟨a, vs, e, hr, hs⟩ := seq_any w r h1
  exact ⟨a, vs, by rw [e], hs, fun p hp => out_newL w hr h2 k hp⟩
/-- isinstance of a built-in class -/
def tyN (S : Sto) : D → Option String
  | .non => some "NoneType"
  | .bl _ => some "bool"
  | .int _ => some "int"
  | .str _ => some "str"
  | .tup _ => some "tuple"
  | .lst _ => some "list"
  | .loc n => match S[n]? with
    | some (some (.lst _)) => some "list"
    | some (some (.dic _ _)) => some "dict"
    | some (some (.dicT _ _)) => some "dict"
    | _ => none
  | .dic _ _ => some "dict"
  | _ => none
def isiB (a b : String) : Bool := a == b || (a == "bool" && b == "int")
def basicT : List String := ["bool", "int", "str", "tuple", "list", "dict"]
def aIsi : R2D := fun d c S q => ∃ a b, tyN S d = some a ∧ c = .ty b ∧ basicT.contains b = true ∧ q (.bl (isiB a b)) S
theorem tyX_of {m : Nat → Addr} {S : Sto} {Z : Addr → Prop} {H : Hp} {d : D} {v : V} {a : String} (w : Wd K U m S Z H) (r : Rep K m S.length (vis m S Z H) d v) (h : tyN S d = some a) : TyX K H v (.type a) ∧ a ∈ "NoneType" :: basicT := by
  cases d with
  | non => cases h; rw [Rep] at r; rw [r]; exact ⟨.base .non, by decide⟩
  | bl _ => cases h; rw [Rep] at r; rw [r]; exact ⟨.base (.bl _), by decide⟩
  | int _ => cases h; rw [Rep] at r; rw [r]; exact ⟨.base (.int _), by decide⟩
  | str _ => cases h; rw [Rep] at r; rw [r]; exact ⟨.base (.str _), by decide⟩
  | tup _ =>
    cases h
    rw [Rep] at r
    obtain ⟨p, vs, e, h1, _⟩ := r
    rw [e]
    refine ⟨?_, by decide⟩
    rcases h1 with (h1 | ⟨o, h1⟩) | ⟨o, its, n, h1, h2, _⟩
    · exact .base (.tup (vis_sub h1))
    · exact .fTuple (vis_sub h1)
    · exact .kTuple h1 h2
  | lst _ =>
    cases h
    rw [Rep] at r
    obtain ⟨p, vs, e, h1, _⟩ := r
    rw [e]
    exact ⟨.base (.lst (vis_sub h1)), by decide⟩
  | dic _ _ =>
    cases h
    rw [Rep] at r
    obtain ⟨p, vs, e, h1, _⟩ := r
    rw [e]
    exact ⟨.base (.dK (vis_sub h1)), by decide⟩
  | loc n =>
    rw [Rep] at r
    rw [tyN] at h
    rw [r.1]
    cases hS : S[n]? with
    | none => rw [hS] at h; cases h
    | some o =>
      cases o with
      | none => rw [hS] at h; cases h
      | some o =>
        rw [hS] at h
        cases o with
        | lst ds => cases h; obtain ⟨vs, h1, _⟩ := w.rep n _ hS; exact ⟨.base (.lst h1), by decide⟩
        | obj _ _ _ => cases h
        | dic _ _ => cases h; obtain ⟨vs, h1, _⟩ := w.rep n _ hS; exact ⟨.base (.dK h1), by decide⟩
        | dicT _ _ => cases h; obtain ⟨vs, h1, _⟩ := w.rep n _ hS; exact ⟨.base (.dT h1), by decide⟩
  | ksq _ => cases h
  | obj _ _ _ => cases h
  | ref _ => cases h
  | ty _ => cases h
  | exc _ _ _ => cases h
def aIx : R2D := fun a b S q => ∃ i, b = .int i ∧ match a with
  | .str z => z.length ≤ sizeLine ∧ ∃ c, atI z.cps.toList i = some c ∧ q (.str ⟨#[c]⟩) S
  | a => ∃ ds d, seqOf S a = some ds ∧ atI ds i = some d ∧ q d S
theorem atI_reps {m : Nat → Addr} {N : Nat} {Hv : Hp} {ds : List D} {vs : List V} {i : Int} {d : D} (r : Reps K m N Hv ds vs) (h : atI ds i = some d) : ∃ v, atI vs i = some v ∧ Rep K m N Hv d v := by
  unfold atI at h ⊢
  rw [Reps.len r]
  cases hx : ixN ds.length i with
  | none => rw [hx] at h; cases h
  | some j =>
    rw [hx] at h
    exact Reps.get r h
theorem vr_ix : VR2 K (rIx K) aIx := fun {_ m S Z H a b v u q Q} w r1 r2 ⟨i, e2, h⟩ k => by
  subst e2
  rw [Rep] at r2
  have go : (∃ ds d, seqOf S a = some ds ∧ atI ds i = some d ∧ q d S) → rIx K v u H Q := fun ⟨ds, d, h1, h2, h3⟩ => by
    obtain ⟨p, vs, e, hr, hs⟩ := seq_any w r1 h1
    obtain ⟨x, hx, rx⟩ := atI_reps hr h2
    rcases hs with hs | hs
    · exact .inl ⟨p, vs, i, x, e, r2, hs, hx, k.now w rx h3⟩
    · exact .inr (.inl ⟨p, vs, i, x, e, r2, hs, hx, k.now w rx h3⟩)
  cases a <;> first
    | (rw [Rep] at r1; obtain ⟨h1, c, h2, h3⟩ := h; exact .inr (.inr ⟨_, i, c, r1, r2, h1, h2, k.now w rep_str h3⟩))
    | exact go h
def cutD (ds : List D) (lo hi : Option Int) : List D := (ds.drop (HT.sIx ds.length 0 lo)).take (HT.sIx ds.length ds.length hi - HT.sIx ds.length 0 lo)
def aSl (fz : Bool) (a : D) (lo hi : Option Int) (S : Sto) (q : D → Sto → Prop) : Prop := match a with
  | .str z => z.length ≤ sizeLine ∧ q (.str (cutS z lo hi)) S
  | .tup ds => q (.tup (cutD ds lo hi)) S
  | a => ∃ ds, seqOf S a = some ds ∧ newL fz (cutD ds lo hi) S q
abbrev rSlAll (K : PySem.W.Frag) : V → Option Int → Option Int → Hp → VK → Prop := fun x lo hi H Q => rSlL K x lo hi H Q ∨ rSlS x lo hi H Q ∨ rSlA K x lo hi H Q
theorem or_sl {X : Cx} : SlR X (rSlAll X.K) := sl_list.or (sl_str.or sl_tupA)
theorem reps_cut {m : Nat → Addr} {N : Nat} {Hv : Hp} {ds : List D} {vs : List V} {lo hi : Option Int} (r : Reps K m N Hv ds vs) : Reps K m N Hv (cutD ds lo hi) (cutV vs lo hi) := by
  unfold cutD cutV
  rw [← Reps.len r]
  exact (r.drop _).take _
theorem vr_sl {fz : Bool} {m : Nat → Addr} {S : Sto} {Z : Addr → Prop} {H : Hp} {a : D} {v : V} {lo hi : Option Int} {q : D → Sto → Prop} {Q : VK} (w : Wd K U m S Z H) (r1 : Rep K m S.length (vis m S Z H) a v) (h : aSl fz a lo hi S q) (k : Outs m S Z H K U (rD K) q Q) : rSlAll K v lo hi H Q := by
  have go : a.isTup = false → (∃ ds, seqOf S a = some ds ∧ newL fz (cutD ds lo hi) S q) → rSlAll K v lo hi H Q := fun ht ⟨ds, h1, h2⟩ => by
    obtain ⟨p, vs, e, hr, _, hl⟩ := seqOf_rep w r1 h1
    exact .inl ⟨p, vs, e, hl ht, fun p hp => out_newL w (reps_cut hr) h2 k hp⟩
  cases a with
  | str z => rw [Rep] at r1; exact .inr (.inl ⟨z, r1, h.1, k.now w rep_str h.2⟩)
  | tup ds =>
    obtain ⟨p, vs, e, hr, ht, _⟩ := seqOf_rep (ds := ds) w r1 rfl
    refine .inr (.inr ⟨p, vs, e, ht rfl, fun hw => ?_, fun _ p hp => out_newT w (reps_cut hr) h k hp⟩)
    have e2 : cutD ds lo hi = ds := by
      unfold cutD
      rw [← Reps.len hr, hw.1, hw.2, List.drop_zero, Nat.sub_zero, Reps.len hr, List.take_length]
    have h' : q (.tup (cutD ds lo hi)) S := h
    rw [e2] at h'
    rw [← e]
    exact k.now w r1 h'
  | lst _ => exact go rfl h
  | ksq _ => exact go rfl h
  | loc _ => exact go rfl h
  | non => exact go rfl h
  | bl _ => exact go rfl h
  | int _ => exact go rfl h
  | obj _ _ _ => exact go rfl h
  | dic _ _ => exact go rfl h
  | ref _ => exact go rfl h
  | ty _ => exact go rfl h
  | exc _ _ _ => exact go rfl h
end
abbrev GO := G (Option Int)
def gNoP : GO := fun _ S q => q none S
def gPart (ge : G D) : GO := fun ρ S q => ge ρ S fun d S1 => ∃ i, d = .int i ∧ q (some i) S1
def gIx (ga gb : G D) : G D := gB2 aIx ga gb
def gSl (fz : Bool) (ga : G D) (gl gh : GO) : G D := fun ρ S q => ga ρ S fun a S1 => gl ρ S1 fun lo S2 => gh ρ S2 fun hi S3 => aSl fz a lo hi S3 q
section
variable {X : Cx} {pos p2 : Pos} {a b e : Expr} {ga gb ge : G D} {gl gh : GO} {lo hi : Option Expr}
theorem d_ix (ha : PE X a (tofE X.K U ga)) (hb : PE X b (tofE X.K U gb)) (hs : PlainIx b := by intro _ _; rfl) : PE X (.Subscript a b pos) (tofE X.K U (gIx ga gb)) :=
  weakE (pe_ix ix_seq ha hb hs) fun _ _ _ h => two_in vr_ix h
theorem do_none : PO X none (tofO X.K U gNoP) := weakO po_none fun σ H Q ⟨m, S, Z, ρ, q, w, rs, h, k⟩ => k.now w rfl h
theorem do_some (h : PE X e (tofE X.K U ge)) : PO X (some e) (tofO X.K U (gPart ge)) := weakO (po_some h) fun σ H Q ⟨m, S, Z, ρ, q, w, rs, h, k⟩ => tof_in w rs h fun v1 H1 m1 d1 S1 e1 w1 r1 ⟨i, ed, h1⟩ => by
  subst ed
  have r1' : Rep X.K m1 S1.length (vis m1 S1 Z H1) (.int i) v1 := r1
  rw [Rep] at r1'
  exact ⟨i, r1', k.at e1 w1 rfl h1⟩
theorem d_sl (fz : Bool) (ha : PE X a (tofE X.K U ga)) (hl : PO X lo (tofO X.K U gl)) (hh : PO X hi (tofO X.K U gh)) : PE X (.Subscript a (.Slice lo hi none p2) pos) (tofE X.K U (gSl fz ga gl gh)) :=
  weakE (pe_slice or_sl ha hl hh) fun σ H Q ⟨m, S, Z, ρ, q, w, rs, h, k⟩ => tof_in w rs h fun v1 H1 m1 d1 S1 e1 w1 r1 h1 => tof_in w1 (rs.ext e1) h1 fun v2 H2 m2 d2 S2 e2 w2 r2 h2 => tof_in w2 (rs.ext (e1.trans e2)) h2 fun v3 H3 m3 d3 S3 e3 w3 r3 h3 => by
    cases (show d2 = v2 from r2)
    cases (show d3 = v3 from r3)
    exact vr_sl w3 (r1.ext (e2.trans e3)) h3 (k.ext ((e1.trans e2).trans e3))
/-- a built-in class as a value -/
theorem d_gty {x : Str} {T : String} (hg : Gl X x) (hm : X.mg x = none) (hb : bootBuiltins x = some (.type T)) (hn : x ≠ "__name__" := by decide) (hd : (x == ("__debug__" : Str)) = false := by decide) : PE X (.Name x pos) (tofE X.K U (gC (.ty T))) :=
  ofC (pe_bltn (v := .ty T) hg hm hb rfl hn hd) fun _ _ _ _ => by simp [Rep]
end
def gFmt (ge : G D) : G D := fun ρ S q => ge ρ S fun d S1 => match d with
  | .str y => y.length ≤ sizeLine ∧ q (.str y) S1
  | .int i => i.natAbs.log2 < 1920 ∧ q (.str (showI i)) S1
  | _ => False
def gJs : List (G D) → Str → Env_ → Sto → (Str → Sto → Prop) → Prop
  | [], acc, _, S, q => q acc S
  | g :: gs, acc, ρ, S, q => g ρ S fun d S1 => ∃ y, d = .str y ∧ (acc ++ y).length ≤ sizeLine ∧ gJs gs (acc ++ y) ρ S1 q
def gJoined (gs : List (G D)) : G D := fun ρ S q => gJs gs Str.empty ρ S fun out S1 => q (.str out) S1
inductive DJ (X : Cx) (U : Wi) : List Expr → List (G D) → Prop where
  | nil : DJ X U [] []
  | cons {e : Expr} {g : G D} {es : List Expr} {gs : List (G D)} (h : PE X e (tofE X.K U g)) (r : DJ X U es gs) : DJ X U (e :: es) (g :: gs)
theorem DJ.pj {X : Cx} {es : List Expr} {gs : List (G D)} (h : DJ X U es gs) : PJ X es (gs.map (tofE X.K U)) := by
  induction h with
  | nil => exact .nil
  | cons h _ ih => exact .cons h ih
theorem js_in {K : PySem.W.Frag} {ρ : Env_} {σ : L2.St} : ∀ {gs : List (G D)} {acc : Str} {m : Nat → Addr} {S : Sto} {Z : Addr → Prop} {H : Hp} {q : D → Sto → Prop} {Q : VK}, Wd K U m S Z H → RelS K m S.length (vis m S Z H) ρ σ →
    gJs gs acc ρ S (fun out S1 => q (.str out) S1) → Outs m S Z H K U (rD K) q Q → tJs (gs.map (tofE K U)) acc σ H fun out H1 => Q (.str out) H1
  | [], _, _, _, _, _, _, _, w, rs, h, k => k.now w rep_str h
  | g :: gs, _, _, _, _, _, _, _, w, rs, h, k => tof_in w rs h fun v1 H1 m1 d1 S1 e1 w1 r1 ⟨y, ed, h1, h2⟩ => by
    subst ed
    rw [rD, Rep] at r1
    exact ⟨y, r1, h1, js_in w1 (rs.ext e1) h2 (k.ext e1)⟩
section
variable {X : Cx} {pos : Pos} {e v1 v2 : Expr} {rest : List Expr} {ge : G D} {gs : List (G D)}
theorem d_fmt (he : PE X e (tofE X.K U ge)) : PE X (.FormattedValue e (-1) none pos) (tofE X.K U (gFmt ge)) :=
  weakE (pe_fmt he) fun σ H Q ⟨m, S, Z, ρ, q, w, rs, h, k⟩ => tof_in w rs h fun u1 H1 m1 d1 S1 e1 w1 r1 h1 => by
    cases d1 <;> first
      | exact False.elim h1
      | (rw [rD, Rep] at r1; exact .inl ⟨_, r1, h1.1, k.at e1 w1 rep_str h1.2⟩)
      | (rw [rD, Rep] at r1; exact .inr ⟨_, r1, h1.1, k.at e1 w1 rep_str h1.2⟩)
theorem d_joined (h : DJ X U (v1 :: v2 :: rest) gs) : PE X (.JoinedStr (v1 :: v2 :: rest) pos) (tofE X.K U (gJoined gs)) :=
  weakE (pe_joined h.pj) fun σ H Q ⟨m, S, Z, ρ, q, w, rs, h, k⟩ => js_in w rs h k
end
section
variable {K : PySem.W.Frag}
theorem tyV_of {m : Nat → Addr} {S : Sto} {Z : Addr → Prop} {H : Hp} {T : String} {d : D} {v : V} (w : Wd K U m S Z H) (r : Rep K m S.length (vis m S Z H) d v) (hT : T ≠ "tuple") (h : isTy T S d = true) : tyV K T v H := by
  cases d with
  | str _ => rw [Rep] at r; rw [r]; exact beq_iff_eq.mp h
  | int _ => rw [Rep] at r; rw [r]; exact beq_iff_eq.mp h
  | lst _ => rw [Rep] at r; obtain ⟨a, vs, e, h1, _⟩ := r; rw [e]; exact .inl ⟨beq_iff_eq.mp h, vs, SqL.of (vis_sub h1)⟩
  | ksq _ => rw [Rep] at r; obtain ⟨a, vs, e, h1, _⟩ := r; rw [e]; exact .inl ⟨beq_iff_eq.mp h, vs, SqL.sub vis_le h1⟩
  | dic _ _ => rw [Rep] at r; obtain ⟨a, vs, e, h1, _⟩ := r; rw [e]; exact .inr (.inr (.inl ⟨beq_iff_eq.mp h, .inl ⟨_, vis_sub h1⟩⟩))
  | tup _ => exact absurd (beq_iff_eq.mp h) hT
  | loc n =>
    rw [Rep] at r
    rw [isTy] at h
    rw [r.1]
    cases hS : S[n]? with
    | none => rw [hS] at h; cases h
    | some o =>
      cases o with
      | none => rw [hS] at h; cases h
      | some o =>
        rw [hS] at h
        cases o with
        | lst ds => obtain ⟨vs, h1, _⟩ := w.rep n _ hS; exact .inl ⟨beq_iff_eq.mp h, vs, SqL.of h1⟩
        | obj _ _ _ => cases h
        | dic _ _ => obtain ⟨vs, h1, _⟩ := w.rep n _ hS; exact .inr (.inr (.inl ⟨beq_iff_eq.mp h, .inl ⟨_, h1⟩⟩))
        | dicT _ _ => obtain ⟨vs, h1, _⟩ := w.rep n _ hS; exact .inr (.inr (.inl ⟨beq_iff_eq.mp h, .inr ⟨_, h1⟩⟩))
  | non => cases h
  | bl _ => cases h
  | obj _ _ _ => cases h
  | ref _ => cases h
  | ty _ => cases h
  | exc _ _ _ => cases h
end
def gMt (T : String) (r : D → RND) (go : G D) (gs : G (List D)) : G D := fun ρ S q => go ρ S fun o S1 => isTy T S1 o = true ∧ gs ρ S1 fun ds S2 => r o ds S2 q
section
variable {X : Cx} {o e : Expr} {es : List Expr} {go : G D} {gs : G (List D)} {name : Str} {apos cpos : Pos} {T id : String} {r : V → List V → Hp → VK → Prop} {g : D → RND}
theorem d_bm (hT : T ≠ "tuple") (pa : PlainAttrs T) (slot : Slot T name id) (hty : typeOf (.builtin id) = pure (.type "method_descriptor")) (hm : MtR X id r) (hv : VRM X.K T r g) (ho : PE X o (tofE X.K U go)) (ha : PA X (e :: es) (tofA X.K U gs))
    (hbase : attributeBase o name X.env (eval o X.env) = eval o X.env := by rfl)
    (hfew : ((backTo cpos (starEach (e :: es) X.env)).all (fun x => !x.1) && (backToKw cpos (keywordEach [] X.env)).all (fun x => x.1.isSome)
      && decide ((e :: es).length + ([] : List Keyword).length + (if ([] : List Keyword).isEmpty then 0 else 1) < 30)) = true := by rfl)
    (hline : (apos.endLine == cpos.line) = true := by rfl) (hs : starEach (e :: es) X.env = (false, eval e X.env) :: starEach es X.env := by rfl) (hplain : (backTo cpos (starEach es X.env)).any (·.1) = false := by rfl) :
    PE X (.Call (.Attribute o name apos) (e :: es) [] cpos) (tofE X.K U (gMt T g go gs)) :=
  weakE (pe_bm pa slot hty hm ho ha hbase hfew hline hs hplain) fun σ H Q ⟨m, S, Z, ρ, q, w, rs, h, k⟩ => tof_in w rs h fun v1 H1 m1 d1 S1 e1 w1 r1 h1 => ⟨tyV_of w1 r1 hT h1.1, tof_in w1 (rs.ext e1) h1.2 fun v2 H2 m2 d2 S2 e2 w2 r2 h2 => hv w2 (r1.ext e2) r2 h2 (k.ext (e1.trans e2))⟩
theorem d_bm0 (hT : T ≠ "tuple") (pa : PlainAttrs T) (slot : Slot T name id) (hty : typeOf (.builtin id) = pure (.type "method_descriptor")) (hm : MtR X id r) (hv : VRM X.K T r g) (ho : PE X o (tofE X.K U go))
    (hbase : attributeBase o name X.env (eval o X.env) = eval o X.env := by rfl) (hline : (apos.endLine == cpos.line) = true := by rfl) : PE X (.Call (.Attribute o name apos) [] [] cpos) (tofE X.K U (gMt T g go gNil)) :=
  weakE (pe_bm0 pa slot hty hm ho hbase hline) fun σ H Q ⟨m, S, Z, ρ, q, w, rs, h, k⟩ => tof_in w rs h fun v1 H1 m1 d1 S1 e1 w1 r1 h1 => ⟨tyV_of w1 r1 hT h1.1, hv w1 r1 reps_nil h1.2 (k.ext e1)⟩
end
section
variable {K : PySem.W.Frag}
/-- xs.append(y) -/
def aAppend : D → RND := fun o as S q => ∃ n ds y, o = .loc n ∧ as = [y] ∧ S[n]? = some (some (.lst ds)) ∧ ds.length < sizeLine ∧ q .non (S.set n (some (.lst (ds ++ [y]))))
theorem vm_append : VRM K "list" rAppend aAppend := fun {_ m S Z H o u a v q Q} w r rs ⟨n, ds, y, e1, e2, hS, hl, h⟩ k => by
  subst e1 e2
  rw [Rep] at r
  obtain ⟨x, ex, rx⟩ := reps1 rs
  obtain ⟨vs, h1, h2⟩ := w.rep n _ hS
  obtain ⟨w3, e3, hv3⟩ := w.upd (o := .lst (vs ++ [x])) (mo := .lst (ds ++ [y])) ⟨_, hS⟩ ⟨_, upd_same, h2.append (Reps.one rx)⟩
  exact ⟨m n, vs, x, r.1, ex, h1, by rw [Reps.len h2]; exact hl, k.at e3 w3 rep_non h⟩
/-- text methods with a text or an int -/
def aS1 (C : Str → Str → Prop) (f : Str → Str → D) : D → RND := fun o as S q => ∃ x y, o = .str x ∧ as = [.str y] ∧ C x y ∧ q (f x y) S
def aS0 (C : Str → Prop) (f : Str → D) : D → RND := fun o as S q => ∃ x, o = .str x ∧ as = [] ∧ C x ∧ q (f x) S
def aSI (C : Str → Int → Prop) (f : Str → Int → D) : D → RND := fun o as S q => ∃ x y, o = .str x ∧ as = [.int y] ∧ C x y ∧ q (f x y) S
theorem vm_zfill : VRM K "str" (fun x xs H Q => ∃ (a : Str) (i : Int), x = .str a ∧ xs = [.int i] ∧ PadOk i = true ∧ Q (.str (Txt.zfill a i)) H) (aSI (fun _ i => PadOk i = true) fun a i => .str (Txt.zfill a i)) := fun w r rs ⟨x, y, e1, e2, h1, h2⟩ k => by
  subst e1 e2
  rw [Rep] at r
  obtain ⟨z, ez, rz⟩ := reps1 rs
  rw [Rep] at rz
  exact ⟨x, y, r, by rw [ez, rz], h1, k.now w rep_str h2⟩
/-- sep.join(texts) -/
def aJoin : D → RND := fun o as S q => ∃ x d ys, o = .str x ∧ as = [d] ∧ seqOf S d = some (ys.map D.str) ∧ (ys.map (·.length)).sum + ys.length * x.length ≤ 16777216 ∧ q (.str (Txt.join x ys)) S
theorem vm_join : VRM K "str" (fun x xs H Q => ∃ a p, ∃ ys : List Str, x = .str a ∧ xs = [.ref p] ∧ (SqL K H p (ys.map V.str) ∨ SqT K H p (ys.map V.str)) ∧ (ys.map (·.length)).sum + ys.length * a.length ≤ 16777216 ∧ Q (.str (Txt.join a ys)) H) aJoin := fun w r rs ⟨x, d, ys, e1, e2, h1, h2, h3⟩ k => by
  subst e1 e2
  rw [Rep] at r
  obtain ⟨z, ez, rz⟩ := reps1 rs
  obtain ⟨a, vs, ea, hr, hs⟩ := seq_any w rz h1
  rw [Reps.strs hr] at hs
  exact ⟨x, a, ys, r, by rw [ez, ea], hs, h2, k.now w rep_str h3⟩
end
/-- xs[i] = v -/
def gSetIx (go gi gv : G D) : GS := fun E ρ S => gv ρ S fun v S1 => go ρ S1 fun o S2 => gi ρ S2 fun i S3 => ∃ n ds k j, o = .loc n ∧ i = .int k ∧ S3[n]? = some (some (.lst ds)) ∧ ixN ds.length k = some j ∧ E.nx ρ (S3.set n (some (.lst (ds.set j v))))
section
variable {X : Cx} {pos pos' : Pos} {o i value : Expr} {go gi gv : G D}
theorem d_setix (ho : PE X o (tofE X.K U go)) (hi : PE X i (tofE X.K U gi)) (hv : PE X value (tofE X.K U gv))
    (ha : ∀ v, assign (.Subscript o i pos') X.env v = (do
      let ov ← holding [v] (eval o X.env)
      let iv ← holding [v, ov] (eval i X.env)
      standAt pos'
      holding [v, ov, iv] (setItem ov iv v)
      release [v, ov, iv] []) := by intro _; rfl)
    (hs : swapsWithSole [.Subscript o i pos'] value pos.line X.env = pure false := by rfl) (hw : swappedStores [.Subscript o i pos'] value X.env = pure none := by rfl)
    (h1 : (assignEach [.Subscript o i pos'] X.env).map (·.2) = [assign (.Subscript o i pos') X.env] := by rfl) : PS X (.Assign [.Subscript o i pos'] value pos) (tofS X.K U (gSetIx go gi gv)) :=
  weakS (ps_asg hv (pg_sub ho hi set_list ha) hs hw h1) fun E σ H ⟨m, S, Z, ρ, D, w, rs, h, k⟩ => tof_in w rs h fun v1 H1 m1 d1 S1 e1 w1 r1 h1 => tof_in w1 (rs.ext e1) h1 fun v2 H2 m2 d2 S2 e2 w2 r2 h2 => tof_in w2 (rs.ext (e1.trans e2)) h2 fun v3 H3 m3 d3 S3 e3 w3 r3 ⟨n, ds, kk, j, eo, ei, hS, hj, h3⟩ => by
    subst eo ei
    have r2' := r2.ext e3
    rw [Rep] at r2'
    rw [rD, Rep] at r3
    obtain ⟨vs, hh, hr⟩ := w3.rep n _ hS
    obtain ⟨w4, e4, hv4⟩ := w3.upd (o := .lst (vs.set j v1)) (mo := .lst (ds.set j d1)) ⟨_, hS⟩ ⟨_, upd_same, hr.set j (r1.ext (e2.trans e3))⟩
    refine ⟨m3 n, vs, kk, j, r2'.1, r3, hh, by rw [Reps.len hr]; exact hj, k.nx.at (((e1.trans e2).trans e3).trans e4) w4 (rs.ext (((e1.trans e2).trans e3).trans e4)) h3⟩
end
end Dl
namespace Dl
open PySem L2
structure FnB (K : PySem.W.Frag) (mg : Str → Option Value) (x : Str) (st : Stmt) (dvs : List V) : Prop where
  ex : ∃ f fd, FunS K x x st dvs f fd ∧ mg x = some (.ref f)
structure MtB (K : PySem.W.Frag) (C : Addr) (m qual : Str) (st : Stmt) (dvs : List V) : Prop where
  ex : ∃ f fd, FunS K m qual st dvs f fd ∧ Meth K C m f
structure MkB (K : PySem.W.Frag) (C : Addr) (qual : Str) (st : Stmt) (dvs : List V) : Prop where
  ex : ∃ f fd, FunS K "__init__" qual st dvs f fd ∧ Mk K C f
section
variable {P : Program} {w : World} {K : PySem.W.Frag} {mg : Str → Option Value} {base : Heap} {x m qual : Str} {st : Stmt} {dvs : List V} {N ps : List Str} {k : Nat} {dsp : DSp} {C : Addr}
theorem fn_body0 {f : Addr} {fd : FuncData} (F : FunS K x qual st dvs f fd) (S : FnScope N ps (defScope st)) (len : ∀ ds S q, dsp ds S q → ds.length = ps.length) (g : GS)
    (hbody : ∀ (cdv : Value) (A : Around) (outer : List Env) (s : Shared) (H : Hp) (E : XK), RoomG k (A.deeper (PyProof.Rows.envOfC qual (defScope st) s.heap.objs.size f cdv)) →
      PSs (cxOf CX0 P w K mg base N qual (defScope st) f cdv A outer s H E).nox (defBody st) (tofS K U0 g))
    (hread : ∀ ds S q, D.unders S.length ds = true → Sto.under S.length S = true → dsp ds S q → g { nx := fun _ S' => q .non S', rt := q } (startD N ds) S) : FnG P w K mg base CX0 (k + 1) f fd ps (spOf K dsp) := by
  refine FnG.by_body F S (spOf_len len) fun cdv A outer s H vs Q E hr ⟨m, St', Z, ds, q, wd, rd, hd, kk⟩ => ?_
  refine ⟨_, (hbody cdv A outer s H E hr).nox, m, St', Z, startD N ds, _, wd, relS_start rd, hread ds St' q (Reps.below rd) wd.under hd, ⟨?_, kk, ?_, ?_⟩⟩
  · exact fun σ' H' m' ρ' S' e' w' _ h' => kk .non H' m' .non S' e' w' rep_non h'
  · exact fun _ _ _ _ _ _ _ _ h => h.elim
  · exact fun _ _ _ _ _ _ _ _ h => h.elim
theorem fnc_of (B : FnB K mg x st dvs) (S : FnScope N ps (defScope st)) (len : ∀ ds S q, dsp ds S q → ds.length = ps.length) (g : GS)
    (hbody : ∀ (f : Addr) (cdv : Value) (A : Around) (outer : List Env) (s : Shared) (H : Hp) (E : XK), RoomG k (A.deeper (PyProof.Rows.envOfC x (defScope st) s.heap.objs.size f cdv)) →
      PSs (cxOf CX0 P w K mg base N x (defScope st) f cdv A outer s H E).nox (defBody st) (tofS K U0 g))
    (hread : ∀ ds S q, D.unders S.length ds = true → Sto.under S.length S = true → dsp ds S q → g { nx := fun _ S' => fin S.length q .non S', rt := fin S.length q } (startD N ds) S) : Fnc P w K mg base x st dvs (k + 1) ps dsp := by
  obtain ⟨f, fd, F, hm⟩ := B.ex
  exact ⟨f, fd, F, hm, fn_body F S len g (hbody f) hread⟩
theorem fnc_of0 (B : FnB K mg x st dvs) (S : FnScope N ps (defScope st)) (len : ∀ ds S q, dsp ds S q → ds.length = ps.length) (g : GS)
    (hbody : ∀ (f : Addr) (cdv : Value) (A : Around) (outer : List Env) (s : Shared) (H : Hp) (E : XK), RoomG k (A.deeper (PyProof.Rows.envOfC x (defScope st) s.heap.objs.size f cdv)) →
      PSs (cxOf CX0 P w K mg base N x (defScope st) f cdv A outer s H E).nox (defBody st) (tofS K U0 g))
    (hread : ∀ ds S q, D.unders S.length ds = true → Sto.under S.length S = true → dsp ds S q → g { nx := fun _ S' => q .non S', rt := q } (startD N ds) S) : Fnc P w K mg base x st dvs (k + 1) ps dsp := by
  obtain ⟨f, fd, F, hm⟩ := B.ex
  exact ⟨f, fd, F, hm, fn_body0 F S len g (hbody f) hread⟩
theorem mfn_of (c : Cls K C) (B : MtB K C m qual st dvs) (S : FnScope N ps (defScope st)) (len : ∀ ds S q, dsp ds S q → ds.length = ps.length) (g : GS)
    (hbody : ∀ (f : Addr) (cdv : Value) (A : Around) (outer : List Env) (s : Shared) (H : Hp) (E : XK), RoomG k (A.deeper (PyProof.Rows.envOfC qual (defScope st) s.heap.objs.size f cdv)) →
      PSs (cxOf CX0 P w K mg base N qual (defScope st) f cdv A outer s H E).nox (defBody st) (tofS K U0 g))
    (hread : ∀ ds S q, D.unders S.length ds = true → Sto.under S.length S = true → dsp ds S q → g { nx := fun _ S' => fin S.length q .non S', rt := fin S.length q } (startD N ds) S) : MFn P w K mg base C m qual st dvs (k + 1) ps dsp := by
  obtain ⟨f, fd, F, hm⟩ := B.ex
  exact ⟨c, f, fd, F, hm, fn_body F S len g (hbody f) hread⟩
theorem mfn_of0 (c : Cls K C) (B : MtB K C m qual st dvs) (S : FnScope N ps (defScope st)) (len : ∀ ds S q, dsp ds S q → ds.length = ps.length) (g : GS)
    (hbody : ∀ (f : Addr) (cdv : Value) (A : Around) (outer : List Env) (s : Shared) (H : Hp) (E : XK), RoomG k (A.deeper (PyProof.Rows.envOfC qual (defScope st) s.heap.objs.size f cdv)) →
      PSs (cxOf CX0 P w K mg base N qual (defScope st) f cdv A outer s H E).nox (defBody st) (tofS K U0 g))
    (hread : ∀ ds S q, D.unders S.length ds = true → Sto.under S.length S = true → dsp ds S q → g { nx := fun _ S' => q .non S', rt := q } (startD N ds) S) : MFn P w K mg base C m qual st dvs (k + 1) ps dsp := by
  obtain ⟨f, fd, F, hm⟩ := B.ex
  exact ⟨c, f, fd, F, hm, fn_body0 F S len g (hbody f) hread⟩
theorem cfn_of0 (mC : mg x = some (.ref C)) (B : MkB K C qual st dvs) (S : FnScope N ps (defScope st)) (len : ∀ ds S q, dsp ds S q → ds.length = ps.length) (g : GS)
    (hbody : ∀ (f : Addr) (cdv : Value) (A : Around) (outer : List Env) (s : Shared) (H : Hp) (E : XK), RoomG k (A.deeper (PyProof.Rows.envOfC qual (defScope st) s.heap.objs.size f cdv)) →
      PSs (cxOf CX0 P w K mg base N qual (defScope st) f cdv A outer s H E).nox (defBody st) (tofS K U0 g))
    (hread : ∀ ds S q, D.unders S.length ds = true → Sto.under S.length S = true → dsp ds S q → g { nx := fun _ S' => q .non S', rt := q } (startD N ds) S) : CFn P w K mg base x C qual st dvs (k + 1) ps dsp := by
  obtain ⟨f, fd, F, hm⟩ := B.ex
  exact ⟨mC, f, fd, F, hm, fn_body0 F S len g (hbody f) hread⟩
end
def gPar (i j : Nat) (ga : G (List D)) : GS := fun E ρ S => ga ρ S fun as S1 => ∃ v u, as = [v, u] ∧ E.nx ((ρ.set i (some v)).set j (some u)) S1
def gPar3 (i j l : Nat) (ga : G (List D)) : GS := fun E ρ S => ga ρ S fun as S1 => ∃ v u z, as = [v, u, z] ∧ E.nx (((ρ.set i (some v)).set j (some u)).set l (some z)) S1
section
variable {X : Cx} {pos : Pos} {ga : G (List D)}
theorem d_par {i j : Nat} {x y : Str} {a b : Expr} {px py pt : Pos} {kt k2 pt2} (hN : X.N.Nodup) (ha : PA X [a, b] (tofA X.K U ga)) (hc : X.calm = true := by rfl) (hi : X.N[i]? = some x := by rfl) (hj : X.N[j]? = some y := by rfl) (hij : i ≠ j := by decide)
    (hx : X.env.scope.names.lookup x = some .local := by rfl) (hy : X.env.scope.names.lookup y = some .local := by rfl)
    (hw : swappedStores [.Tuple [.Name x px, .Name y py] kt pt] (.Tuple [a, b] k2 pt2) X.env = pure (some [x, y]) := by rfl)
    (hs : swapsWithSole [.Tuple [.Name x px, .Name y py] kt pt] (.Tuple [a, b] k2 pt2) pos.line X.env = pure false := by rfl) :
    PS X (.Assign [.Tuple [.Name x px, .Name y py] kt pt] (.Tuple [a, b] k2 pt2) pos) (tofS X.K U (gPar i j ga)) :=
  weakS (ps_par hc hN hi hj hij hx hy ha hw hs) fun E σ H ⟨m, S, Z, ρ, D, w, rs, h, k⟩ => tof_in w rs h fun v1 H1 m1 d1 S1 e1 w1 r1 ⟨v, u, ed, h1⟩ => by
    subst ed
    obtain ⟨v', u', ev, rv, ru⟩ := reps2 r1
    exact ⟨v', u', ev, k.nx.at e1 w1 (((rs.ext e1).set rv).set ru) h1⟩
end
section
variable {X : Cx}
def rpartS (x y : Str) : Str × Str × Str := match Builtin.Str.lastOccurrence x y 0 x.length with
  | some i => (Builtin.Str.strSub x 0 i, y, Builtin.Str.strSub x (i + y.length) x.length)
  | none => (Str.empty, Str.empty, x)
end
section
variable {K : PySem.W.Frag}
def aRpart : D → RND := fun o as S q => ∃ x y, o = .str x ∧ as = [.str y] ∧ (y.length == 0) = false ∧ x.length ≤ sizeLine ∧ q (.tup [.str (rpartS x y).1, .str (rpartS x y).2.1, .str (rpartS x y).2.2]) S
def aPart : D → RND := fun o as S q => ∃ x y, o = .str x ∧ as = [.str y] ∧ (y.length == 0) = false ∧ x.length ≤ sizeLine ∧ q (.tup [.str (Txt.partition x y).1, .str (Txt.partition x y).2.1, .str (Txt.partition x y).2.2]) S
/-- += of ints and texts -/
abbrev rIadd : R2 := fun x y H Q => rI0 (fun i j => .int (i + j)) x y H Q ∨ (∃ i j, x = .str i ∧ y = .str j ∧ i.length + j.length ≤ sizeLine ∧ Q (.str (i ++ j)) H)
theorem or_iadd {X : Cx} : OpR X (inplaceOp .Add) rIadd := iop_add.or iop_add_str
def aIadd : R2D := fun a b S q => match a, b with
  | .int i, .int j => q (.int (i + j)) S
  | .str x, .str y => x.length + y.length ≤ sizeLine ∧ q (.str (x ++ y)) S
  | _, _ => False
theorem vr_iadd : VR2 K rIadd aIadd := fun {_ m S Z H a b v u q Q} w r1 r2 h k => by
  cases a <;> cases b <;> first
    | exact False.elim h
    | (rw [Rep] at r1 r2; exact .inl ⟨_, _, r1, r2, k.now w rep_int h⟩)
    | (rw [Rep] at r1 r2; exact .inr ⟨_, _, r1, r2, h.1, k.now w rep_str h.2⟩)
theorem Reps.dropLast {m : Nat → Addr} {N : Nat} {Hv : Hp} {ds : List D} {vs : List V} (r : Reps K m N Hv ds vs) : Reps K m N Hv ds.dropLast vs.dropLast := by
  rw [List.dropLast_eq_take, List.dropLast_eq_take, Reps.len r]
  exact r.take _
def aReverse : D → RND := fun o as S q => ∃ n ds, o = .loc n ∧ as = [] ∧ S[n]? = some (some (.lst ds)) ∧ q .non (S.set n (some (.lst ds.reverse)))
theorem vm_reverse : VRM K "list" rReverse aReverse := fun {_ m S Z H o u a v q Q} w r rs ⟨n, ds, e1, e2, hS, h⟩ k => by
  subst e1 e2
  rw [Rep] at r
  rw [Reps] at rs
  obtain ⟨vs, h1, h2⟩ := w.rep n _ hS
  obtain ⟨w3, e3, hv3⟩ := w.upd (o := .lst vs.reverse) (mo := .lst ds.reverse) ⟨_, hS⟩ ⟨_, upd_same, h2.rev⟩
  exact ⟨m n, vs, r.1, rs, h1, k.at e3 w3 rep_non h⟩
structure IsC (K : PySem.W.Frag) (C : Addr) : Prop where
  cl : Cls K C
  ha : PySem.W.findIn K (.ref C) "__class__" = some (some (.builtin "object.__class__"))
  hn : PySem.W.specialIn K (.builtin "object.__class__") "__get__" = some (some (.builtin "getset_descriptor.__get__"))
  htk : PySem.W.takesIn K (.builtin "object.__class__") = some true
  hm : PySem.W.mroIn K C (.type "object") = some true
/-- which of two classes -/
structure KitC (K : PySem.W.Frag) (C C' : Addr) (b : Bool) : Prop where
  is : PySem.W.kitOne K (.ref C) (.ref C') = some b
structure KitB (K : PySem.W.Frag) (C' : Addr) : Prop where
  no : ∀ a ∈ "NoneType" :: basicT, PySem.W.kitOne K (.type a) (.ref C') = some false
def aIsiC (K : PySem.W.Frag) : R2D := fun d c S q => ∃ C', c = .ref C' ∧ ((∃ C ks ds b, objOf S d = some (C, ks, ds) ∧ IsC K C ∧ KitC K C C' b ∧ q (.bl b) S) ∨ (∃ a, tyN S d = some a ∧ KitB K C' ∧ q (.bl false) S))
theorem vr_isiC : VRN K (rIsi K) (a2 (aIsiC K)) := vrn2 fun {_ m S Z H d e v u q Q} w r1 r2 ⟨C', e2, h⟩ k => by
  subst e2
  rw [Rep] at r2
  subst r2
  rcases h with ⟨C, ks, ds, b, h1, ic, kc, h4⟩ | ⟨a, h1, kb, h4⟩
  · obtain ⟨x, dx, vs, ev, hx, _, _⟩ := objOf_rep w r1 h1
    subst ev
    exact ⟨.ref x, .ref C', .ref C, .ref C', b, rfl, .own C', .base (.ins hx ic.cl ic.ha ic.hn ic.htk ic.hm), kc.is, k.now w rep_bl h4⟩
  · obtain ⟨h5, h6⟩ := tyX_of w r1 h1
    exact ⟨v, .ref C', .type a, .ref C', false, rfl, .own C', h5, kb.no a h6, k.now w rep_bl h4⟩
end
def aOwn (C : Addr) (dsp : DSp) : R2D := fun a b S q => (∃ ks ds, objOf S a = some (C, ks, ds)) ∧ (∃ ks ds, objOf S b = some (C, ks, ds)) ∧ dsp [a, b] S fun d S' => (∃ k, d = .bl k) ∧ q d S'
end Dl
namespace Dl
open PySem L2
def aFmt : R1D := fun d S1 q => match d with
  | .str y => y.length ≤ sizeLine ∧ q (.str y) S1
  | .int i => i.natAbs.log2 < 1920 ∧ q (.str (showI i)) S1
  | _ => False
section
variable {S : Sto} {q : D → Sto → Prop} {fz : Bool} {i j : Int} {x y : Str} {C : Int → Int → Prop} {f : Int → Int → D} {ds : List D} {n : Nat} {d e : D} {bs : List Bool} {ns : List Int} {a b : Bool}
theorem x_i2 : aI2 C f (.int i) (.int j) S q ↔ C i j ∧ q (f i j) S := by
  unfold aI2
  constructor
  · rintro ⟨i', j', e1, e2, h⟩; cases e1; cases e2; exact h
  · exact fun h => ⟨i, j, rfl, rfl, h⟩
theorem x_addI : aAdd fz (.int i) (.int j) S q ↔ q (.int (i + j)) S := Iff.rfl
theorem x_addS : aAdd fz (.str x) (.str y) S q ↔ x.length + y.length ≤ sizeLine ∧ q (.str (x ++ y)) S := Iff.rfl
theorem x_mulI : aMul fz (.int i) (.int j) S q ↔ mulOk i j ∧ q (.int (i * j)) S := Iff.rfl
theorem x_iaddS : aIadd (.str x) (.str y) S q ↔ x.length + y.length ≤ sizeLine ∧ q (.str (x ++ y)) S := Iff.rfl
theorem x_iaddI : aIadd (.int i) (.int j) S q ↔ q (.int (i + j)) S := Iff.rfl
theorem x_neg : aNeg (.int i) S q ↔ q (.int (-i)) S := ⟨fun ⟨_, e, h⟩ => by cases e; exact h, fun h => ⟨_, rfl, h⟩⟩
theorem sh_int : SeqAt.shaped (.int i) = true := rfl
theorem sh_non : SeqAt.shaped .none = true := by decide
theorem sh_bool : SeqAt.shaped (.bool a) = true := by cases a <;> decide
theorem x_eq {p p' : PyData} (h1 : toPyS S d = some p) (h2 : toPyS S e = some p') : aEq d e S q ↔ SeqAt.shaped p = true ∧ SeqAt.shaped p' = true ∧ q (.bl (PyData.eqv p p')) S := by
  unfold aEq
  rw [h1, h2]
  constructor
  · rintro ⟨_, _, e1, e2, h⟩; cases e1; cases e2; exact h
  · exact fun h => ⟨_, _, rfl, rfl, h⟩
theorem x_ne {p p' : PyData} (h1 : toPyS S d = some p) (h2 : toPyS S e = some p') : aNe d e S q ↔ SeqAt.shaped p = true ∧ SeqAt.shaped p' = true ∧ q (.bl (!PyData.eqv p p')) S := by
  unfold aNe
  rw [h1, h2]
  constructor
  · rintro ⟨_, _, e1, e2, h⟩; cases e1; cases e2; exact h
  · exact fun h => ⟨_, _, rfl, rfl, h⟩
theorem x_eqI : aEq (.int i) (.int j) S q ↔ q (.bl (decide (i = j))) S := by
  rw [x_eq rfl rfl]
  simp only [sh_int, true_and, PyData.eqv]
  rw [show (i == j) = decide (i = j) from rfl]
theorem x_neI : aNe (.int i) (.int j) S q ↔ q (.bl (decide (i ≠ j))) S := by
  rw [x_ne rfl rfl]
  simp only [sh_int, true_and, PyData.eqv]
  rw [show (!(i == j)) = decide (i ≠ j) by rw [decide_not]; rfl]
theorem x_eqS : aEq (.str x) (.str y) S q ↔ PyData.strOk x = true ∧ PyData.strOk y = true ∧ q (.bl (decide (x = y))) S := by
  rw [x_eq rfl rfl]
  have h : ∀ z, SeqAt.shaped (.str z) = PyData.strOk z := fun z => by unfold SeqAt.shaped PyData.canLay0; exact Bool.and_true _
  rw [h, h, show PyData.eqv (.str x) (.str y) = decide (x = y) by unfold PyData.eqv; rfl]
theorem x_neS : aNe (.str x) (.str y) S q ↔ PyData.strOk x = true ∧ PyData.strOk y = true ∧ q (.bl (decide (x ≠ y))) S := by
  rw [x_ne rfl rfl]
  have h : ∀ z, SeqAt.shaped (.str z) = PyData.strOk z := fun z => by unfold SeqAt.shaped PyData.canLay0; exact Bool.and_true _
  rw [h, h, show (!PyData.eqv (.str x) (.str y)) = decide (x ≠ y) by unfold PyData.eqv; rw [decide_not]; rfl]
theorem x_eqB : aEq (.bl a) (.bl b) S q ↔ q (.bl (a == b)) S := by
  rw [x_eq rfl rfl]
  simp only [sh_bool, true_and, PyData.eqv]
theorem x_neB : aNe (.bl a) (.bl b) S q ↔ q (.bl (!(a == b))) S := by
  rw [x_ne rfl rfl]
  simp only [sh_bool, true_and, PyData.eqv]
theorem x_eqNI : aEq .non (.int j) S q ↔ q (.bl false) S := by
  rw [x_eq rfl rfl]; simp only [sh_non, sh_int, true_and, PyData.eqv]
theorem x_neNI : aNe .non (.int j) S q ↔ q (.bl true) S := by
  rw [x_ne rfl rfl]; simp only [sh_non, sh_int, true_and, PyData.eqv, Bool.not_false]
theorem x_lenS : aLen (.str x) S q ↔ x.length ≤ sizeLine ∧ q (.int x.length) S := Iff.rfl
theorem x_lenL (h : seqOf S d = some ds) : aLen d S q ↔ q (.int ds.length) S := by
  have go : (∃ es, seqOf S d = some es ∧ q (.int es.length) S) ↔ q (.int ds.length) S := by
    rw [h]
    exact ⟨fun ⟨_, e, k⟩ => by cases e; exact k, fun k => ⟨_, rfl, k⟩⟩
  cases d <;> first
    | exact go
    | (cases h; done)
theorem x_str : aStr (.int i) S q ↔ i.natAbs.log2 < 1920 ∧ q (.str (showI i)) S := ⟨fun ⟨_, e, h⟩ => by cases e; exact h, fun h => ⟨_, rfl, h⟩⟩
theorem x_intI : aInt (.int i) S q ↔ q (.int i) S := Iff.rfl
theorem x_intB : aInt (.bl a) S q ↔ q (.int (if a then 1 else 0)) S := Iff.rfl
theorem x_divmod : aDivmod (.int i) (.int j) S q ↔ CDiv i j ∧ q (.tup [.int (i / j), .int (i % j)]) S := ⟨fun ⟨_, _, e1, e2, h⟩ => by cases e1; cases e2; exact h, fun h => ⟨_, _, rfl, rfl, h⟩⟩
theorem x_max2 : aMax2 (.int i) (.int j) S q ↔ q (.int (max i j)) S := ⟨fun ⟨_, _, e1, e2, h⟩ => by cases e1; cases e2; exact h, fun h => ⟨_, _, rfl, rfl, h⟩⟩
theorem x_min2 : aMin2 (.int i) (.int j) S q ↔ q (.int (min i j)) S := ⟨fun ⟨_, _, e1, e2, h⟩ => by cases e1; cases e2; exact h, fun h => ⟨_, _, rfl, rfl, h⟩⟩
theorem x_isi {t u : String} (h : tyN S d = some t) (hb : basicT.contains u = true) : aIsi d (.ty u) S q ↔ q (.bl (isiB t u)) S := by
  constructor
  · rintro ⟨_, _, e1, e2, _, k⟩; rw [h] at e1; cases e1; cases e2; exact k
  · exact fun k => ⟨_, _, h, rfl, hb, k⟩
theorem x_ixS : aIx (.str x) (.int i) S q ↔ x.length ≤ sizeLine ∧ ∃ c, atI x.cps.toList i = some c ∧ q (.str ⟨#[c]⟩) S := by
  unfold aIx
  exact ⟨fun ⟨_, e, h⟩ => by cases e; exact h, fun h => ⟨_, rfl, h⟩⟩
theorem x_ix (h : seqOf S d = some ds) (h2 : atI ds i = some e) : aIx d (.int i) S q ↔ q e S := by
  have go : (∃ k, D.int i = D.int k ∧ ∃ xs z, seqOf S d = some xs ∧ atI xs k = some z ∧ q z S) ↔ q e S := by
    constructor
    · rintro ⟨_, e1, xs, z, e2, e3, k⟩; cases e1; rw [h] at e2; cases e2; rw [h2] at e3; cases e3; exact k
    · exact fun k => ⟨_, rfl, _, _, h, h2, k⟩
  unfold aIx
  cases d <;> first
    | exact go
    | (cases h; done)
theorem x_slS {lo hi : Option Int} : aSl fz (.str x) lo hi S q ↔ x.length ≤ sizeLine ∧ q (.str (cutS x lo hi)) S := Iff.rfl
theorem x_slT {lo hi : Option Int} : aSl fz (.tup ds) lo hi S q ↔ q (.tup (cutD ds lo hi)) S := Iff.rfl
theorem x_slL {lo hi : Option Int} (h0 : d.isTup = false) (h : seqOf S d = some ds) : aSl fz d lo hi S q ↔ newL fz (cutD ds lo hi) S q := by
  have go : (∃ es, seqOf S d = some es ∧ newL fz (cutD es lo hi) S q) ↔ newL fz (cutD ds lo hi) S q := by
    rw [h]
    exact ⟨fun ⟨_, e, k⟩ => by cases e; exact k, fun k => ⟨_, rfl, k⟩⟩
  unfold aSl
  cases d <;> first
    | exact go
    | (cases h0; done)
    | (cases h; done)
theorem x_inS {c : Nat} : aInS (.str ⟨#[c]⟩) (.str y) S q ↔ q (.bl (decide (c ∈ y.cps.toList))) S := by
  unfold aInS
  constructor
  · rintro ⟨_, _, e1, e2, k⟩; cases e1; cases e2; exact k
  · exact fun k => ⟨_, _, rfl, rfl, k⟩
theorem x_newT : newL true ds S q ↔ q (.lst ds) S := Iff.rfl
theorem x_newF : newL false ds S q ↔ q (.loc S.length) (S ++ [some (.lst ds)]) := Iff.rfl
theorem x_si {P : Str → Int → Prop} {g : Str → Int → D} : aSI P g (.str x) [.int i] S q ↔ P x i ∧ q (g x i) S := by
  unfold aSI
  constructor
  · rintro ⟨_, _, e1, e2, k⟩; cases e1; cases e2; exact k
  · exact fun k => ⟨_, _, rfl, rfl, k⟩
theorem x_s1 {P : Str → Str → Prop} {g : Str → Str → D} : aS1 P g (.str x) [.str y] S q ↔ P x y ∧ q (g x y) S := by
  unfold aS1
  constructor
  · rintro ⟨_, _, e1, e2, k⟩; cases e1; cases e2; exact k
  · exact fun k => ⟨_, _, rfl, rfl, k⟩
theorem x_s0 {P : Str → Prop} {g : Str → D} : aS0 P g (.str x) [] S q ↔ P x ∧ q (g x) S := by
  unfold aS0
  constructor
  · rintro ⟨_, e1, e2, k⟩; cases e1; exact k
  · exact fun k => ⟨_, rfl, rfl, k⟩
theorem x_rpart : aRpart (.str x) [.str y] S q ↔ (y.length == 0) = false ∧ x.length ≤ sizeLine ∧ q (.tup [.str (rpartS x y).1, .str (rpartS x y).2.1, .str (rpartS x y).2.2]) S := by
  unfold aRpart
  constructor
  · rintro ⟨_, _, e1, e2, k⟩; cases e1; cases e2; exact k
  · exact fun k => ⟨_, _, rfl, rfl, k⟩
theorem x_part : aPart (.str x) [.str y] S q ↔ (y.length == 0) = false ∧ x.length ≤ sizeLine ∧ q (.tup [.str (Txt.partition x y).1, .str (Txt.partition x y).2.1, .str (Txt.partition x y).2.2]) S := by
  unfold aPart
  constructor
  · rintro ⟨_, _, e1, e2, k⟩; cases e1; cases e2; exact k
  · exact fun k => ⟨_, _, rfl, rfl, k⟩
theorem x_a1 {P : D → Sto → (D → Sto → Prop) → Prop} : a1 P [d] S q ↔ P d S q := by
  unfold a1
  exact ⟨fun ⟨_, e, k⟩ => by cases e; exact k, fun k => ⟨_, rfl, k⟩⟩
theorem x_a2 {P : D → D → Sto → (D → Sto → Prop) → Prop} : a2 P [d, e] S q ↔ P d e S q := by
  unfold a2
  exact ⟨fun ⟨_, _, e, k⟩ => by cases e; exact k, fun k => ⟨_, _, rfl, k⟩⟩
theorem x_app (h : S[n]? = some (some (.lst ds))) : aAppend (.loc n) [d] S q ↔ ds.length < sizeLine ∧ q .non (S.set n (some (.lst (ds ++ [d])))) := by
  unfold aAppend
  constructor
  · rintro ⟨_, _, _, e1, e2, e3, k⟩; cases e1; cases e2; rw [h] at e3; cases e3; exact k
  · exact fun k => ⟨_, _, _, rfl, rfl, h, k⟩
theorem x_slL_l {lo hi : Option Int} : aSl fz (.lst ds) lo hi S q ↔ newL fz (cutD ds lo hi) S q := x_slL rfl rfl
theorem x_slL_k {lo hi : Option Int} : aSl fz (.ksq ds) lo hi S q ↔ newL fz (cutD ds lo hi) S q := x_slL rfl rfl
theorem x_lenL_l : aLen (.lst ds) S q ↔ q (.int ds.length) S := x_lenL rfl
theorem x_lenL_k : aLen (.ksq ds) S q ↔ q (.int ds.length) S := x_lenL rfl
theorem x_lenL_t : aLen (.tup ds) S q ↔ q (.int ds.length) S := x_lenL rfl
theorem x_isiStr : aIsi (.str x) (.ty "str") S q ↔ q (.bl true) S := x_isi (t := "str") rfl (by decide)
theorem x_isiInt : aIsi (.int i) (.ty "int") S q ↔ q (.bl true) S := x_isi (t := "int") rfl (by decide)
theorem x_isiIntB : aIsi (.int i) (.ty "bool") S q ↔ q (.bl false) S := x_isi (t := "int") rfl (by decide)
theorem x_isiIntS : aIsi (.int i) (.ty "str") S q ↔ q (.bl false) S := x_isi (t := "int") rfl (by decide)
theorem x_isiBB : aIsi (.bl a) (.ty "bool") S q ↔ q (.bl true) S := x_isi (t := "bool") rfl (by decide)
theorem x_isiBI : aIsi (.bl a) (.ty "int") S q ↔ q (.bl true) S := x_isi (t := "bool") rfl (by decide)
theorem x_isiStrI : aIsi (.str x) (.ty "int") S q ↔ q (.bl false) S := x_isi (t := "str") rfl (by decide)
theorem x_isiNonI : aIsi .non (.ty "int") S q ↔ q (.bl false) S := x_isi (t := "NoneType") rfl (by decide)
theorem x_isiNonS : aIsi .non (.ty "str") S q ↔ q (.bl false) S := x_isi (t := "NoneType") rfl (by decide)
theorem x_isiT : aIsi (.tup ds) (.ty "tuple") S q ↔ q (.bl true) S := x_isi (t := "tuple") rfl (by decide)
theorem x_isiL : aIsi (.lst ds) (.ty "list") S q ↔ q (.bl true) S := x_isi (t := "list") rfl (by decide)
theorem x_ex {A : Type} {a : A} {P : A → Prop} : (∃ z, a = z ∧ P z) ↔ P a := ⟨fun ⟨_, e, h⟩ => by cases e; exact h, fun h => ⟨_, rfl, h⟩⟩
theorem x_var0 {ρ : Env_} {S : Sto} {q : D → Sto → Prop} {d : D} : gVar 0 (some d :: ρ) S q ↔ q d S := by
  unfold gVar
  simp only [List.getElem?_cons_zero, Option.some.injEq, x_ex]
theorem x_varS {ρ : Env_} {S : Sto} {q : D → Sto → Prop} {o : Option D} {i : Nat} : gVar (i + 1) (o :: ρ) S q ↔ gVar i ρ S q := by
  unfold gVar
  simp only [List.getElem?_cons_succ]
theorem x_bnm {ρ : Env_} {i : Nat} {d : D} : Tgt.bind (.nm i) d ρ = some (ρ.set i (some d)) := by rw [Tgt.bind]
theorem x_btp {ρ : Env_} {ts : List Tgt} {ds : List D} : Tgt.bind (.tp ts) (.tup ds) ρ = Tgt.binds ts ds ρ := by rw [Tgt.bind]
theorem x_bn {ρ : Env_} : Tgt.binds [] [] ρ = some ρ := by rw [Tgt.binds]
theorem x_bc {ρ : Env_} {t : Tgt} {ts : List Tgt} {d : D} {ds : List D} : Tgt.binds (t :: ts) (d :: ds) ρ = (Tgt.bind t d ρ).bind fun ρ' => Tgt.binds ts ds ρ' := by rw [Tgt.binds]
theorem x_tyS {S : Sto} {x : Str} : isTy "str" S (.str x) = true := rfl
theorem x_tyL {S : Sto} {x : List D} : isTy "list" S (.lst x) = true := rfl
theorem x_tyO {S : Sto} {n : Nat} {ds : List D} (h : S[n]? = some (some (.lst ds))) : isTy "list" S (.loc n) = true := by simp only [isTy, h]; rfl
theorem x_nnN : D.isNon .non = true := rfl
theorem x_nnI {i : Int} : D.isNon (.int i) = false := rfl
theorem x_nnS {x : Str} : D.isNon (.str x) = false := rfl
theorem x_nnB {x : Bool} : D.isNon (.bl x) = false := rfl
theorem x_nnT {x : List D} : D.isNon (.tup x) = false := rfl
theorem x_nnL {x : List D} : D.isNon (.lst x) = false := rfl
theorem x_nnO {C : Addr} {ks : List Str} {x : List D} : D.isNon (.obj C ks x) = false := rfl
theorem x_nnl {n : Nat} : D.isNon (.loc n) = false := rfl
theorem x_fmtS {ge : G D} {ρ : Env_} {S : Sto} {q : D → Sto → Prop} : gFmt ge ρ S q = ge ρ S fun d S1 => aFmt d S1 q := rfl
theorem x_afS {x : Str} {S : Sto} {q : D → Sto → Prop} : aFmt (.str x) S q ↔ x.length ≤ sizeLine ∧ q (.str x) S := Iff.rfl
theorem x_afI {i : Int} {S : Sto} {q : D → Sto → Prop} : aFmt (.int i) S q ↔ i.natAbs.log2 < 1920 ∧ q (.str (showI i)) S := Iff.rfl
theorem x_aug0 {ρ : Env_} {S : Sto} {d : D} {r : R2D} {ge : G D} {E : DE} : gAug 0 r ge E (some d :: ρ) S ↔ ge (some d :: ρ) S fun y S1 => r d y S1 fun z S2 => E.nx (some z :: ρ) S2 := by
  unfold gAug
  simp only [List.getElem?_cons_zero, Option.some.injEq, x_ex, List.set_cons_zero]
theorem x_aug {i : Nat} {ρ : Env_} {S : Sto} {d : D} {r : R2D} {ge : G D} {E : DE} (h : ρ[i]? = some (some d)) : gAug i r ge E ρ S ↔ ge ρ S fun y S1 => r d y S1 fun z S2 => E.nx (ρ.set i (some z)) S2 := by
  unfold gAug
  rw [h]
  simp only [Option.some.injEq, x_ex]
theorem x_js0 {acc : Str} {ρ : Env_} {S : Sto} {q : Str → Sto → Prop} : gJs [] acc ρ S q ↔ q acc S := by rw [gJs]
theorem x_jsc {g : G D} {gs : List (G D)} {acc : Str} {ρ : Env_} {S : Sto} {q : Str → Sto → Prop} : gJs (g :: gs) acc ρ S q ↔ g ρ S fun d S1 => ∃ y, d = .str y ∧ (acc ++ y).length ≤ sizeLine ∧ gJs gs (acc ++ y) ρ S1 q := by rw [gJs]
theorem x_rng (i k : Nat) (lo : Int) : (rngD lo k)[i]? = if i < k then some (.int (lo + ((i : Nat) : Int))) else none := by
  unfold rngD
  rw [List.getElem?_map]
  by_cases h : i < k
  · rw [if_pos h, List.getElem?_range h]; rfl
  · rw [if_neg h, List.getElem?_eq_none_iff.mpr (by simp; omega)]; rfl
theorem x_rngL (k : Nat) (lo : Int) : (rngD lo k).length = k := by unfold rngD; simp
end
def aSetIx (o i v : D) (S3 : Sto) (c : Sto → Prop) : Prop := ∃ n ds k j, o = .loc n ∧ i = .int k ∧ S3[n]? = some (some (.lst ds)) ∧ ixN ds.length k = some j ∧ c (S3.set n (some (.lst (ds.set j v))))
abbrev QI := List D → (Sto → Prop) → Sto → Prop
def aIt (d : D) (S1 : Sto) (q : QI) : Prop := match d with
  | .str x => q (signsD x) (fun _ => True) S1
  | d => ∃ ds, seqOf S1 d = some ds ∧ q ds (fun S' => seqOf S' d = some ds) S1
def aRng1 (as : List D) (S1 : Sto) (q : QI) : Prop := ∃ j : Int, as = [.int j] ∧ -(2 ^ 62) ≤ j ∧ j < 2 ^ 62 ∧ q (rngD 0 j.toNat) (fun _ => True) S1
def aRng2 (as : List D) (S1 : Sto) (q : QI) : Prop := ∃ i j : Int, as = [.int i, .int j] ∧ (-(2 ^ 62) ≤ i ∧ i < 2 ^ 62 ∧ -(2 ^ 62) ≤ j ∧ j < 2 ^ 62) ∧ q (rngD i (j - i).toNat) (fun _ => True) S1
def aEnum (as : List D) (S1 : Sto) (q : QI) : Prop := ∃ d ds, as = [d] ∧ d.isTup = false ∧ seqOf S1 d = some ds ∧ q (enumD ds) (fun S' => seqOf S' d = some ds) S1
def aZip (as : List D) (S1 : Sto) (q : QI) : Prop := ∃ d e ds es, as = [d, e] ∧ d.isTup = false ∧ e.isTup = false ∧ seqOf S1 d = some ds ∧ seqOf S1 e = some es ∧ q (zipD ds es) (fun S' => seqOf S' d = some ds ∧ seqOf S' e = some es) S1
def aLc (fz : Bool) (t : Tgt) (gt : G Bool) (ge : G D) (vs : List Nat) (ρ : Env_) (ds : List D) (chk : Sto → Prop) (S1 : Sto) (q : D → Sto → Prop) : Prop := ∃ I : Nat → List D → Sto → Prop, I 0 [] S1 ∧
  (∀ i d acc S, ds[i]? = some d → I i acc S → chk S ∧ ∃ ρ', t.bind d (wipeD ρ vs) = some ρ' ∧ gt ρ' S fun b S2 => if b = true then ge ρ' S2 fun y S3 => acc.length < sizeLine ∧ I (i + 1) (acc ++ [y]) S3 else I (i + 1) acc S2) ∧
  ∀ acc S, I ds.length acc S → chk S ∧ newL fz acc S q
def aFor (t : Tgt) (gb : GS) (E : DE) (ρ : Env_) (ds : List D) (chk : Sto → Prop) (S1 : Sto) : Prop := ∃ I : Nat → Env_ → Sto → Prop, I 0 ρ S1 ∧
  (∀ i d ρ S, ds[i]? = some d → I i ρ S → chk S ∧ ∃ ρ', t.bind d ρ = some ρ' ∧ gb { nx := I (i + 1), rt := E.rt, ct := I (i + 1), bk := E.nx } ρ' S) ∧ ∀ ρ S, I ds.length ρ S → chk S ∧ E.nx ρ S
section
variable {S R : Sto} {q : D → Sto → Prop} {ρ : Env_} {go gi' gv ge : G D} {ga : G (List D)} {gi : GI} {E : DE} {t : Tgt} {gt : G Bool} {gb : GS} {vs : List Nat} {fz : Bool} {ds es : List D} {d e a b c : D} {i j : Int} {k : QI} {cc : Sto → Prop} {x : Str}
theorem x_gset : gSetIx go gi' gv E ρ S = gv ρ S fun v S1 => go ρ S1 fun o S2 => gi' ρ S2 fun i S3 => aSetIx o i v S3 (E.nx ρ) := rfl
theorem x_lc : gLc fz gi t gt ge vs ρ S q = gi ρ S fun ds chk S1 => aLc fz t gt ge vs ρ ds chk S1 q := rfl
theorem x_for : gFor gi t gb E ρ S = gi ρ S fun ds chk S1 => aFor t gb E ρ ds chk S1 := rfl
theorem x_it : gIt ge ρ S k = ge ρ S fun d S1 => aIt d S1 k := rfl
theorem x_rn1 : gRng1 ga ρ S k = ga ρ S fun as S1 => aRng1 as S1 k := rfl
theorem x_rn2 : gRng2 ga ρ S k = ga ρ S fun as S1 => aRng2 as S1 k := rfl
theorem x_enu : gEnum ga ρ S k = ga ρ S fun as S1 => aEnum as S1 k := rfl
theorem x_zip : gZip ga ρ S k = ga ρ S fun as S1 => aZip as S1 k := rfl
theorem x_itS : aIt (.str x) S k ↔ k (signsD x) (fun _ => True) S := Iff.rfl
theorem x_itL : aIt (.lst ds) S k ↔ k ds (fun _ => True) S := by
  have h : (fun S' : Sto => seqOf S' (.lst ds) = some ds) = fun _ => True := funext fun S' => propext ⟨fun _ => trivial, fun _ => rfl⟩
  show (∃ es, seqOf S (.lst ds) = some es ∧ k es (fun S' => seqOf S' (.lst ds) = some es) S) ↔ _
  constructor
  · rintro ⟨es, e, h1⟩; cases e; rw [h] at h1; exact h1
  · exact fun h1 => ⟨ds, rfl, by rw [h]; exact h1⟩
theorem x_itK : aIt (.ksq ds) S k ↔ k ds (fun _ => True) S := by
  have h : (fun S' : Sto => seqOf S' (.ksq ds) = some ds) = fun _ => True := funext fun S' => propext ⟨fun _ => trivial, fun _ => rfl⟩
  show (∃ es, seqOf S (.ksq ds) = some es ∧ k es (fun S' => seqOf S' (.ksq ds) = some es) S) ↔ _
  constructor
  · rintro ⟨es, e, h1⟩; cases e; rw [h] at h1; exact h1
  · exact fun h1 => ⟨ds, rfl, by rw [h]; exact h1⟩
theorem x_itT : aIt (.tup ds) S k ↔ k ds (fun _ => True) S := by
  have h : (fun S' : Sto => seqOf S' (.tup ds) = some ds) = fun _ => True := funext fun S' => propext ⟨fun _ => trivial, fun _ => rfl⟩
  show (∃ es, seqOf S (.tup ds) = some es ∧ k es (fun S' => seqOf S' (.tup ds) = some es) S) ↔ _
  constructor
  · rintro ⟨es, e, h1⟩; cases e; rw [h] at h1; exact h1
  · exact fun h1 => ⟨ds, rfl, by rw [h]; exact h1⟩
theorem x_itO {n : Nat} (h : seqOf S (.loc n) = some ds) : aIt (.loc n) S k ↔ k ds (fun S' => seqOf S' (.loc n) = some ds) S := by
  show (∃ es, seqOf S (.loc n) = some es ∧ k es (fun S' => seqOf S' (.loc n) = some es) S) ↔ _
  constructor
  · rintro ⟨es, e, h1⟩; rw [h] at e; cases e; exact h1
  · exact fun h1 => ⟨ds, h, h1⟩
theorem x_rn1I : aRng1 [.int j] S k ↔ -(2 ^ 62) ≤ j ∧ j < 2 ^ 62 ∧ k (rngD 0 j.toNat) (fun _ => True) S := by
  constructor
  · rintro ⟨_, e, h⟩; cases e; exact h
  · exact fun h => ⟨j, rfl, h⟩
theorem x_rn2I : aRng2 [.int i, .int j] S k ↔ (-(2 ^ 62) ≤ i ∧ i < 2 ^ 62 ∧ -(2 ^ 62) ≤ j ∧ j < 2 ^ 62) ∧ k (rngD i (j - i).toNat) (fun _ => True) S := by
  constructor
  · rintro ⟨_, _, e, h⟩; cases e; exact h
  · exact fun h => ⟨i, j, rfl, h⟩
theorem x_enuL : aEnum [.lst ds] S k ↔ k (enumD ds) (fun _ => True) S := by
  have h : (fun S' : Sto => seqOf S' (.lst ds) = some ds) = fun _ => True := funext fun S' => propext ⟨fun _ => trivial, fun _ => rfl⟩
  constructor
  · rintro ⟨d, es, e1, _, e2, h1⟩; cases e1; cases e2; rw [h] at h1; exact h1
  · exact fun h1 => ⟨_, ds, rfl, rfl, rfl, by rw [h]; exact h1⟩
theorem x_enuK : aEnum [.ksq ds] S k ↔ k (enumD ds) (fun _ => True) S := by
  have h : (fun S' : Sto => seqOf S' (.ksq ds) = some ds) = fun _ => True := funext fun S' => propext ⟨fun _ => trivial, fun _ => rfl⟩
  constructor
  · rintro ⟨d, es, e1, _, e2, h1⟩; cases e1; cases e2; rw [h] at h1; exact h1
  · exact fun h1 => ⟨_, ds, rfl, rfl, rfl, by rw [h]; exact h1⟩
theorem x_zipL : aZip [.lst ds, .lst es] S k ↔ k (zipD ds es) (fun _ => True) S := by
  have h : (fun S' : Sto => seqOf S' (.lst ds) = some ds ∧ seqOf S' (.lst es) = some es) = fun _ => True := funext fun S' => propext ⟨fun _ => trivial, fun _ => ⟨rfl, rfl⟩⟩
  constructor
  · rintro ⟨_, _, _, _, e1, _, _, e2, e3, h1⟩; cases e1; cases e2; cases e3; rw [h] at h1; exact h1
  · exact fun h1 => ⟨_, _, ds, es, rfl, rfl, rfl, rfl, rfl, by rw [h]; exact h1⟩
theorem x_ixS0 : aIx (.loc 0) (.int i) (some (.lst ds) :: R) q ↔ ∃ e, atI ds i = some e ∧ q e (some (.lst ds) :: R) := by
  unfold aIx
  constructor
  · rintro ⟨_, e1, xs, z, e2, e3, h⟩; cases e1; cases e2; exact ⟨z, e3, h⟩
  · rintro ⟨z, e3, h⟩; exact ⟨_, rfl, ds, z, rfl, e3, h⟩
theorem x_ixL : aIx (.lst ds) (.int i) S q ↔ ∃ e, atI ds i = some e ∧ q e S := by
  unfold aIx
  constructor
  · rintro ⟨_, e1, xs, z, e2, e3, h⟩; cases e1; cases e2; exact ⟨z, e3, h⟩
  · rintro ⟨z, e3, h⟩; exact ⟨_, rfl, ds, z, rfl, e3, h⟩
theorem x_ixT : aIx (.tup ds) (.int i) S q ↔ ∃ e, atI ds i = some e ∧ q e S := by
  unfold aIx
  constructor
  · rintro ⟨_, e1, xs, z, e2, e3, h⟩; cases e1; cases e2; exact ⟨z, e3, h⟩
  · rintro ⟨z, e3, h⟩; exact ⟨_, rfl, ds, z, rfl, e3, h⟩
theorem x_ixK : aIx (.ksq ds) (.int i) S q ↔ ∃ e, atI ds i = some e ∧ q e S := by
  unfold aIx
  constructor
  · rintro ⟨_, e1, xs, z, e2, e3, h⟩; cases e1; cases e2; exact ⟨z, e3, h⟩
  · rintro ⟨z, e3, h⟩; exact ⟨_, rfl, ds, z, rfl, e3, h⟩
theorem ixN_lit {n k : Nat} (h : k < n) : ixN n (k : Int) = some k := by
  unfold ixN
  rw [if_pos (by omega), if_pos (by omega)]
  rfl
theorem atI_lit {A : Type} {xs : List A} {k : Nat} {v : A} (h : xs[k]? = some v) : atI xs (k : Int) = some v := by
  unfold atI
  rw [ixN_lit (List.getElem?_eq_some_iff.mp h).1]
  exact h
theorem x_at0 {A : Type} {a : A} {l : List A} : atI (a :: l) 0 = some a := atI_lit (k := 0) rfl
theorem x_at1 {A : Type} {a b : A} {l : List A} : atI (a :: b :: l) 1 = some b := atI_lit (k := 1) rfl
theorem x_at2 {A : Type} {a b c : A} {l : List A} : atI (a :: b :: c :: l) 2 = some c := atI_lit (k := 2) rfl
theorem x_at3 {A : Type} {a b c d : A} {l : List A} : atI (a :: b :: c :: d :: l) 3 = some d := atI_lit (k := 3) rfl
theorem x_at4 {A : Type} {a b c d e : A} {l : List A} : atI (a :: b :: c :: d :: e :: l) 4 = some e := atI_lit (k := 4) rfl
theorem x_set0 {k : Nat} {v : D} (h : k < ds.length) : aSetIx (.loc 0) (.int (k : Int)) v (some (.lst ds) :: R) cc ↔ cc (some (.lst (ds.set k v)) :: R) := by
  constructor
  · rintro ⟨n, xs, kk, j, e1, e2, e3, e4, h1⟩
    cases e1; cases e2; cases e3
    rw [ixN_lit h] at e4; cases e4
    exact h1
  · exact fun h1 => ⟨0, ds, k, k, rfl, rfl, rfl, ixN_lit h, h1⟩
theorem x_set00 {v : D} : aSetIx (.loc 0) (.int 0) v (some (.lst (a :: es)) :: R) cc ↔ cc (some (.lst (v :: es)) :: R) := x_set0 (k := 0) (by simp)
theorem x_set01 {v : D} : aSetIx (.loc 0) (.int 1) v (some (.lst (a :: b :: es)) :: R) cc ↔ cc (some (.lst (a :: v :: es)) :: R) := x_set0 (k := 1) (by simp)
theorem x_set02 {v : D} : aSetIx (.loc 0) (.int 2) v (some (.lst (a :: b :: c :: es)) :: R) cc ↔ cc (some (.lst (a :: b :: v :: es)) :: R) := x_set0 (k := 2) (by simp)
end
def aPar (i j : Nat) (ρ : Env_) (k : Env_ → Sto → Prop) (as : List D) (S1 : Sto) : Prop := ∃ v u, as = [v, u] ∧ k ((ρ.set i (some v)).set j (some u)) S1
theorem x_par {i j : Nat} {ga : G (List D)} {E : DE} {ρ : Env_} {S : Sto} : gPar i j ga E ρ S = ga ρ S fun as S1 => aPar i j ρ E.nx as S1 := rfl
theorem x_par2 {i j : Nat} {k : Env_ → Sto → Prop} {ρ : Env_} {S : Sto} {v u : D} : aPar i j ρ k [v, u] S ↔ k ((ρ.set i (some v)).set j (some u)) S := by
  constructor
  · rintro ⟨_, _, e, h⟩; cases e; exact h
  · exact fun h => ⟨v, u, rfl, h⟩
theorem toPys_int : ∀ ns : List Int, toPys (ns.map D.int) = some (ns.map PyData.int)
  | [] => by simp [toPys]
  | n :: ns => by simp [toPys, toPy, toPys_int ns]
theorem can_int : ∀ ns : List Int, PyData.canLayAll0 (ns.map PyData.int) = true
  | [] => by simp [PyData.canLayAll0]
  | n :: ns => by simp [PyData.canLayAll0, PyData.canLay0, can_int ns]
theorem dep_int : ∀ ns : List Int, PyData.depthAll (ns.map PyData.int) = 0
  | [] => by simp [PyData.depthAll]
  | n :: ns => by simp [PyData.depthAll, PyData.depth, dep_int ns]
theorem sh_ints (ns : List Int) : SeqAt.shaped (.list (ns.map PyData.int)) = true := by
  simp [SeqAt.shaped, PyData.canLay0, PyData.depth, can_int, dep_int]
theorem x_neNil {ns : List Int} {S : Sto} {q : D → Sto → Prop} : aNe (.lst (ns.map D.int)) (.lst []) S q ↔ q (.bl (decide (ns ≠ []))) S := by
  rw [x_ne (p := .list (ns.map PyData.int)) (p' := .list ([].map PyData.int)) (by simp [toPyS, toPy, toPys_int]) (by simp [toPyS, toPy, toPys])]
  simp only [sh_ints, true_and]
  cases ns with
  | nil => simp [PyData.eqv, PyData.eqvAll]
  | cons n ns => simp [PyData.eqv, PyData.eqvAll]
section
variable {S : Sto} {r : R2D} {ge : G D} {E : DE} {d : D} {ρ : Env_}
theorem x_aug1 {o0 : Option D} : gAug 1 r ge E (o0 :: some d :: ρ) S ↔ ge (o0 :: some d :: ρ) S fun y S1 => r d y S1 fun z S2 => E.nx (o0 :: some z :: ρ) S2 := x_aug rfl
theorem x_aug2 {o0 o1 : Option D} : gAug 2 r ge E (o0 :: o1 :: some d :: ρ) S ↔ ge (o0 :: o1 :: some d :: ρ) S fun y S1 => r d y S1 fun z S2 => E.nx (o0 :: o1 :: some z :: ρ) S2 := x_aug rfl
theorem x_aug3 {o0 o1 o2 : Option D} : gAug 3 r ge E (o0 :: o1 :: o2 :: some d :: ρ) S ↔ ge (o0 :: o1 :: o2 :: some d :: ρ) S fun y S1 => r d y S1 fun z S2 => E.nx (o0 :: o1 :: o2 :: some z :: ρ) S2 := x_aug rfl
theorem x_aug4 {o0 o1 o2 o3 : Option D} : gAug 4 r ge E (o0 :: o1 :: o2 :: o3 :: some d :: ρ) S ↔ ge (o0 :: o1 :: o2 :: o3 :: some d :: ρ) S fun y S1 => r d y S1 fun z S2 => E.nx (o0 :: o1 :: o2 :: o3 :: some z :: ρ) S2 := x_aug rfl
theorem x_aug5 {o0 o1 o2 o3 o4 : Option D} : gAug 5 r ge E (o0 :: o1 :: o2 :: o3 :: o4 :: some d :: ρ) S ↔ ge (o0 :: o1 :: o2 :: o3 :: o4 :: some d :: ρ) S fun y S1 => r d y S1 fun z S2 => E.nx (o0 :: o1 :: o2 :: o3 :: o4 :: some z :: ρ) S2 := x_aug rfl
theorem x_aug6 {o0 o1 o2 o3 o4 o5 : Option D} : gAug 6 r ge E (o0 :: o1 :: o2 :: o3 :: o4 :: o5 :: some d :: ρ) S ↔ ge (o0 :: o1 :: o2 :: o3 :: o4 :: o5 :: some d :: ρ) S fun y S1 => r d y S1 fun z S2 => E.nx (o0 :: o1 :: o2 :: o3 :: o4 :: o5 :: some z :: ρ) S2 := x_aug rfl
theorem x_aug7 {o0 o1 o2 o3 o4 o5 o6 : Option D} : gAug 7 r ge E (o0 :: o1 :: o2 :: o3 :: o4 :: o5 :: o6 :: some d :: ρ) S ↔ ge (o0 :: o1 :: o2 :: o3 :: o4 :: o5 :: o6 :: some d :: ρ) S fun y S1 => r d y S1 fun z S2 => E.nx (o0 :: o1 :: o2 :: o3 :: o4 :: o5 :: o6 :: some z :: ρ) S2 := x_aug rfl
theorem x_aug8 {o0 o1 o2 o3 o4 o5 o6 o7 : Option D} : gAug 8 r ge E (o0 :: o1 :: o2 :: o3 :: o4 :: o5 :: o6 :: o7 :: some d :: ρ) S ↔ ge (o0 :: o1 :: o2 :: o3 :: o4 :: o5 :: o6 :: o7 :: some d :: ρ) S fun y S1 => r d y S1 fun z S2 => E.nx (o0 :: o1 :: o2 :: o3 :: o4 :: o5 :: o6 :: o7 :: some z :: ρ) S2 := x_aug rfl
theorem x_aug9 {o0 o1 o2 o3 o4 o5 o6 o7 o8 : Option D} : gAug 9 r ge E (o0 :: o1 :: o2 :: o3 :: o4 :: o5 :: o6 :: o7 :: o8 :: some d :: ρ) S ↔ ge (o0 :: o1 :: o2 :: o3 :: o4 :: o5 :: o6 :: o7 :: o8 :: some d :: ρ) S fun y S1 => r d y S1 fun z S2 => E.nx (o0 :: o1 :: o2 :: o3 :: o4 :: o5 :: o6 :: o7 :: o8 :: some z :: ρ) S2 := x_aug rfl
theorem x_aug10 {o0 o1 o2 o3 o4 o5 o6 o7 o8 o9 : Option D} : gAug 10 r ge E (o0 :: o1 :: o2 :: o3 :: o4 :: o5 :: o6 :: o7 :: o8 :: o9 :: some d :: ρ) S ↔ ge (o0 :: o1 :: o2 :: o3 :: o4 :: o5 :: o6 :: o7 :: o8 :: o9 :: some d :: ρ) S fun y S1 => r d y S1 fun z S2 => E.nx (o0 :: o1 :: o2 :: o3 :: o4 :: o5 :: o6 :: o7 :: o8 :: o9 :: some z :: ρ) S2 := x_aug rfl
theorem x_aug11 {o0 o1 o2 o3 o4 o5 o6 o7 o8 o9 o10 : Option D} : gAug 11 r ge E (o0 :: o1 :: o2 :: o3 :: o4 :: o5 :: o6 :: o7 :: o8 :: o9 :: o10 :: some d :: ρ) S ↔ ge (o0 :: o1 :: o2 :: o3 :: o4 :: o5 :: o6 :: o7 :: o8 :: o9 :: o10 :: some d :: ρ) S fun y S1 => r d y S1 fun z S2 => E.nx (o0 :: o1 :: o2 :: o3 :: o4 :: o5 :: o6 :: o7 :: o8 :: o9 :: o10 :: some z :: ρ) S2 := x_aug rfl
theorem x_aug12 {o0 o1 o2 o3 o4 o5 o6 o7 o8 o9 o10 o11 : Option D} : gAug 12 r ge E (o0 :: o1 :: o2 :: o3 :: o4 :: o5 :: o6 :: o7 :: o8 :: o9 :: o10 :: o11 :: some d :: ρ) S ↔ ge (o0 :: o1 :: o2 :: o3 :: o4 :: o5 :: o6 :: o7 :: o8 :: o9 :: o10 :: o11 :: some d :: ρ) S fun y S1 => r d y S1 fun z S2 => E.nx (o0 :: o1 :: o2 :: o3 :: o4 :: o5 :: o6 :: o7 :: o8 :: o9 :: o10 :: o11 :: some z :: ρ) S2 := x_aug rfl
theorem x_aug13 {o0 o1 o2 o3 o4 o5 o6 o7 o8 o9 o10 o11 o12 : Option D} : gAug 13 r ge E (o0 :: o1 :: o2 :: o3 :: o4 :: o5 :: o6 :: o7 :: o8 :: o9 :: o10 :: o11 :: o12 :: some d :: ρ) S ↔ ge (o0 :: o1 :: o2 :: o3 :: o4 :: o5 :: o6 :: o7 :: o8 :: o9 :: o10 :: o11 :: o12 :: some d :: ρ) S fun y S1 => r d y S1 fun z S2 => E.nx (o0 :: o1 :: o2 :: o3 :: o4 :: o5 :: o6 :: o7 :: o8 :: o9 :: o10 :: o11 :: o12 :: some z :: ρ) S2 := x_aug rfl
theorem x_aug14 {o0 o1 o2 o3 o4 o5 o6 o7 o8 o9 o10 o11 o12 o13 : Option D} : gAug 14 r ge E (o0 :: o1 :: o2 :: o3 :: o4 :: o5 :: o6 :: o7 :: o8 :: o9 :: o10 :: o11 :: o12 :: o13 :: some d :: ρ) S ↔ ge (o0 :: o1 :: o2 :: o3 :: o4 :: o5 :: o6 :: o7 :: o8 :: o9 :: o10 :: o11 :: o12 :: o13 :: some d :: ρ) S fun y S1 => r d y S1 fun z S2 => E.nx (o0 :: o1 :: o2 :: o3 :: o4 :: o5 :: o6 :: o7 :: o8 :: o9 :: o10 :: o11 :: o12 :: o13 :: some z :: ρ) S2 := x_aug rfl
theorem x_aug15 {o0 o1 o2 o3 o4 o5 o6 o7 o8 o9 o10 o11 o12 o13 o14 : Option D} : gAug 15 r ge E (o0 :: o1 :: o2 :: o3 :: o4 :: o5 :: o6 :: o7 :: o8 :: o9 :: o10 :: o11 :: o12 :: o13 :: o14 :: some d :: ρ) S ↔ ge (o0 :: o1 :: o2 :: o3 :: o4 :: o5 :: o6 :: o7 :: o8 :: o9 :: o10 :: o11 :: o12 :: o13 :: o14 :: some d :: ρ) S fun y S1 => r d y S1 fun z S2 => E.nx (o0 :: o1 :: o2 :: o3 :: o4 :: o5 :: o6 :: o7 :: o8 :: o9 :: o10 :: o11 :: o12 :: o13 :: o14 :: some z :: ρ) S2 := x_aug rfl
theorem x_aug16 {o0 o1 o2 o3 o4 o5 o6 o7 o8 o9 o10 o11 o12 o13 o14 o15 : Option D} : gAug 16 r ge E (o0 :: o1 :: o2 :: o3 :: o4 :: o5 :: o6 :: o7 :: o8 :: o9 :: o10 :: o11 :: o12 :: o13 :: o14 :: o15 :: some d :: ρ) S ↔ ge (o0 :: o1 :: o2 :: o3 :: o4 :: o5 :: o6 :: o7 :: o8 :: o9 :: o10 :: o11 :: o12 :: o13 :: o14 :: o15 :: some d :: ρ) S fun y S1 => r d y S1 fun z S2 => E.nx (o0 :: o1 :: o2 :: o3 :: o4 :: o5 :: o6 :: o7 :: o8 :: o9 :: o10 :: o11 :: o12 :: o13 :: o14 :: o15 :: some z :: ρ) S2 := x_aug rfl
theorem x_aug17 {o0 o1 o2 o3 o4 o5 o6 o7 o8 o9 o10 o11 o12 o13 o14 o15 o16 : Option D} : gAug 17 r ge E (o0 :: o1 :: o2 :: o3 :: o4 :: o5 :: o6 :: o7 :: o8 :: o9 :: o10 :: o11 :: o12 :: o13 :: o14 :: o15 :: o16 :: some d :: ρ) S ↔ ge (o0 :: o1 :: o2 :: o3 :: o4 :: o5 :: o6 :: o7 :: o8 :: o9 :: o10 :: o11 :: o12 :: o13 :: o14 :: o15 :: o16 :: some d :: ρ) S fun y S1 => r d y S1 fun z S2 => E.nx (o0 :: o1 :: o2 :: o3 :: o4 :: o5 :: o6 :: o7 :: o8 :: o9 :: o10 :: o11 :: o12 :: o13 :: o14 :: o15 :: o16 :: some z :: ρ) S2 := x_aug rfl
theorem x_aug18 {o0 o1 o2 o3 o4 o5 o6 o7 o8 o9 o10 o11 o12 o13 o14 o15 o16 o17 : Option D} : gAug 18 r ge E (o0 :: o1 :: o2 :: o3 :: o4 :: o5 :: o6 :: o7 :: o8 :: o9 :: o10 :: o11 :: o12 :: o13 :: o14 :: o15 :: o16 :: o17 :: some d :: ρ) S ↔ ge (o0 :: o1 :: o2 :: o3 :: o4 :: o5 :: o6 :: o7 :: o8 :: o9 :: o10 :: o11 :: o12 :: o13 :: o14 :: o15 :: o16 :: o17 :: some d :: ρ) S fun y S1 => r d y S1 fun z S2 => E.nx (o0 :: o1 :: o2 :: o3 :: o4 :: o5 :: o6 :: o7 :: o8 :: o9 :: o10 :: o11 :: o12 :: o13 :: o14 :: o15 :: o16 :: o17 :: some z :: ρ) S2 := x_aug rfl
theorem x_aug19 {o0 o1 o2 o3 o4 o5 o6 o7 o8 o9 o10 o11 o12 o13 o14 o15 o16 o17 o18 : Option D} : gAug 19 r ge E (o0 :: o1 :: o2 :: o3 :: o4 :: o5 :: o6 :: o7 :: o8 :: o9 :: o10 :: o11 :: o12 :: o13 :: o14 :: o15 :: o16 :: o17 :: o18 :: some d :: ρ) S ↔ ge (o0 :: o1 :: o2 :: o3 :: o4 :: o5 :: o6 :: o7 :: o8 :: o9 :: o10 :: o11 :: o12 :: o13 :: o14 :: o15 :: o16 :: o17 :: o18 :: some d :: ρ) S fun y S1 => r d y S1 fun z S2 => E.nx (o0 :: o1 :: o2 :: o3 :: o4 :: o5 :: o6 :: o7 :: o8 :: o9 :: o10 :: o11 :: o12 :: o13 :: o14 :: o15 :: o16 :: o17 :: o18 :: some z :: ρ) S2 := x_aug rfl
theorem x_aug20 {o0 o1 o2 o3 o4 o5 o6 o7 o8 o9 o10 o11 o12 o13 o14 o15 o16 o17 o18 o19 : Option D} : gAug 20 r ge E (o0 :: o1 :: o2 :: o3 :: o4 :: o5 :: o6 :: o7 :: o8 :: o9 :: o10 :: o11 :: o12 :: o13 :: o14 :: o15 :: o16 :: o17 :: o18 :: o19 :: some d :: ρ) S ↔ ge (o0 :: o1 :: o2 :: o3 :: o4 :: o5 :: o6 :: o7 :: o8 :: o9 :: o10 :: o11 :: o12 :: o13 :: o14 :: o15 :: o16 :: o17 :: o18 :: o19 :: some d :: ρ) S fun y S1 => r d y S1 fun z S2 => E.nx (o0 :: o1 :: o2 :: o3 :: o4 :: o5 :: o6 :: o7 :: o8 :: o9 :: o10 :: o11 :: o12 :: o13 :: o14 :: o15 :: o16 :: o17 :: o18 :: o19 :: some z :: ρ) S2 := x_aug rfl
theorem x_aug21 {o0 o1 o2 o3 o4 o5 o6 o7 o8 o9 o10 o11 o12 o13 o14 o15 o16 o17 o18 o19 o20 : Option D} : gAug 21 r ge E (o0 :: o1 :: o2 :: o3 :: o4 :: o5 :: o6 :: o7 :: o8 :: o9 :: o10 :: o11 :: o12 :: o13 :: o14 :: o15 :: o16 :: o17 :: o18 :: o19 :: o20 :: some d :: ρ) S ↔ ge (o0 :: o1 :: o2 :: o3 :: o4 :: o5 :: o6 :: o7 :: o8 :: o9 :: o10 :: o11 :: o12 :: o13 :: o14 :: o15 :: o16 :: o17 :: o18 :: o19 :: o20 :: some d :: ρ) S fun y S1 => r d y S1 fun z S2 => E.nx (o0 :: o1 :: o2 :: o3 :: o4 :: o5 :: o6 :: o7 :: o8 :: o9 :: o10 :: o11 :: o12 :: o13 :: o14 :: o15 :: o16 :: o17 :: o18 :: o19 :: o20 :: some z :: ρ) S2 := x_aug rfl
theorem x_aug22 {o0 o1 o2 o3 o4 o5 o6 o7 o8 o9 o10 o11 o12 o13 o14 o15 o16 o17 o18 o19 o20 o21 : Option D} : gAug 22 r ge E (o0 :: o1 :: o2 :: o3 :: o4 :: o5 :: o6 :: o7 :: o8 :: o9 :: o10 :: o11 :: o12 :: o13 :: o14 :: o15 :: o16 :: o17 :: o18 :: o19 :: o20 :: o21 :: some d :: ρ) S ↔ ge (o0 :: o1 :: o2 :: o3 :: o4 :: o5 :: o6 :: o7 :: o8 :: o9 :: o10 :: o11 :: o12 :: o13 :: o14 :: o15 :: o16 :: o17 :: o18 :: o19 :: o20 :: o21 :: some d :: ρ) S fun y S1 => r d y S1 fun z S2 => E.nx (o0 :: o1 :: o2 :: o3 :: o4 :: o5 :: o6 :: o7 :: o8 :: o9 :: o10 :: o11 :: o12 :: o13 :: o14 :: o15 :: o16 :: o17 :: o18 :: o19 :: o20 :: o21 :: some z :: ρ) S2 := x_aug rfl
theorem x_aug23 {o0 o1 o2 o3 o4 o5 o6 o7 o8 o9 o10 o11 o12 o13 o14 o15 o16 o17 o18 o19 o20 o21 o22 : Option D} : gAug 23 r ge E (o0 :: o1 :: o2 :: o3 :: o4 :: o5 :: o6 :: o7 :: o8 :: o9 :: o10 :: o11 :: o12 :: o13 :: o14 :: o15 :: o16 :: o17 :: o18 :: o19 :: o20 :: o21 :: o22 :: some d :: ρ) S ↔ ge (o0 :: o1 :: o2 :: o3 :: o4 :: o5 :: o6 :: o7 :: o8 :: o9 :: o10 :: o11 :: o12 :: o13 :: o14 :: o15 :: o16 :: o17 :: o18 :: o19 :: o20 :: o21 :: o22 :: some d :: ρ) S fun y S1 => r d y S1 fun z S2 => E.nx (o0 :: o1 :: o2 :: o3 :: o4 :: o5 :: o6 :: o7 :: o8 :: o9 :: o10 :: o11 :: o12 :: o13 :: o14 :: o15 :: o16 :: o17 :: o18 :: o19 :: o20 :: o21 :: o22 :: some z :: ρ) S2 := x_aug rfl
end
def aFld (K : PySem.W.Frag) (f : Str) (o : D) (S1 : Sto) (q : D → Sto → Prop) : Prop := ∃ C ks ds d, objOf S1 o = some (C, ks, ds) ∧ FldOk K C f ∧ fget f ks ds = some d ∧ q d S1
def aFset (K : PySem.W.Frag) (f : Str) (o y : D) (S2 : Sto) (c : Sto → Prop) : Prop := ∃ n C ks ds, o = .loc n ∧ S2[n]? = some (some (.obj C ks ds)) ∧ FldOk K C f ∧ ks.length < 1000 ∧ c (S2.set n (some (.obj C (putK f ks) (putX f y ks ds))))
def aMakeF (C : Addr) (n nk : Nat) (src : List Src) (dds : List D) (dsp : DSp) (as zs : List D) (S1 : Sto) (q : D → Sto → Prop) : Prop := as.length = n ∧ zs.length = nk ∧ (D.unders S1.length as = true → D.unders S1.length zs = true →
  dsp (gat src (.loc S1.length :: as) dds zs) (S1 ++ [some (.obj C [] [])]) fun v S2 => v = .non ∧ ∃ ks ds, S2 = S1 ++ [some (.obj C ks ds)] ∧ D.unders S1.length ds = true ∧ q (.obj C ks ds) S1)
def aMake (C : Addr) (n nk : Nat) (src : List Src) (dds : List D) (dsp : DSp) (as zs : List D) (S1 : Sto) (q : D → Sto → Prop) : Prop := as.length = n ∧ zs.length = nk ∧
  dsp (gat src (.loc S1.length :: as) dds zs) (S1 ++ [some (.obj C [] [])]) fun v S2 => v = .non ∧ q (.loc S1.length) S2
def aMeth (C : Addr) (m : Str) (o : D) (S1 : Sto) (c : Prop) : Prop := ∃ ks ds, objOf S1 o = some (C, ks, ds) ∧ ks.contains m = false ∧ c
section
variable {K : PySem.W.Frag} {f m : Str} {C C' : Addr} {go gv : G D} {ga : GA} {ρ : Env_} {S S0 : Sto} {q : D → Sto → Prop} {E : DE} {n nk : Nat} {src : List Src} {dds ds as zs : List D} {dsp : DSp} {ks : List Str} {d y : D} {cc : Sto → Prop} {c : Prop} {b : Bool}
theorem x_fld : gFld K f go ρ S q = go ρ S fun o S1 => aFld K f o S1 q := rfl
theorem x_fset : gFldSet K f go gv E ρ S = gv ρ S fun y S1 => go ρ S1 fun o S2 => aFset K f o y S2 (E.nx ρ) := rfl
theorem x_mkF : gMakeF C n nk src dds dsp ga ρ S q = ga ρ S fun as zs S1 => aMakeF C n nk src dds dsp as zs S1 q := rfl
theorem x_mk : gMake C n nk src dds dsp ga ρ S q = ga ρ S fun as zs S1 => aMake C n nk src dds dsp as zs S1 q := rfl
theorem x_meth : gMeth C m n nk src dds dsp go ga ρ S q = go ρ S fun o S1 => aMeth C m o S1 (ga ρ S1 fun as zs S2 => as.length = n ∧ zs.length = nk ∧ dsp (gat src (o :: as) dds zs) S2 q) := by
  unfold gMeth aMeth
  refine congrArg _ (funext fun o => funext fun S1 => propext ⟨fun ⟨ks, ds, h1, h2, h3⟩ => ⟨ks, ds, h1, h2, h3⟩, fun ⟨ks, ds, h1, h2, h3⟩ => ⟨ks, ds, h1, h2, h3⟩⟩)
theorem x_fldO (hf : FldOk K C f) : aFld K f (.obj C ks ds) S q ↔ ∃ d, fget f ks ds = some d ∧ q d S := by
  constructor
  · rintro ⟨_, _, _, d, e, _, h1, h2⟩; cases e; exact ⟨d, h1, h2⟩
  · rintro ⟨d, h1, h2⟩; exact ⟨C, ks, ds, d, rfl, hf, h1, h2⟩
theorem x_fldL {k : Nat} (hf : FldOk K C f) (hS : S[k]? = some (some (.obj C ks ds))) : aFld K f (.loc k) S q ↔ ∃ d, fget f ks ds = some d ∧ q d S := by
  have e0 : objOf S (.loc k) = some (C, ks, ds) := by simp only [objOf, hS]
  constructor
  · rintro ⟨_, _, _, d, e, _, h1, h2⟩; rw [e0] at e; cases e; exact ⟨d, h1, h2⟩
  · rintro ⟨d, h1, h2⟩; exact ⟨C, ks, ds, d, e0, hf, h1, h2⟩
theorem snoc_get {o : Option MO} : (S0 ++ [o])[S0.length]? = some o := by simp
theorem snoc_set {o p : Option MO} : (S0 ++ [o]).set S0.length p = S0 ++ [p] := by simp
theorem x_fsetE (hf : FldOk K C f) : aFset K f (.loc S0.length) y (S0 ++ [some (.obj C ks ds)]) cc ↔ ks.length < 1000 ∧ cc (S0 ++ [some (.obj C (putK f ks) (putX f y ks ds))]) := by
  constructor
  · rintro ⟨_, _, _, _, e, e1, _, hl, h2⟩; cases e; rw [snoc_get] at e1; cases e1; rw [snoc_set] at h2; exact ⟨hl, h2⟩
  · rintro ⟨hl, h2⟩; exact ⟨S0.length, C, ks, ds, rfl, snoc_get, hf, hl, by rw [snoc_set]; exact h2⟩
theorem x_fldE (hf : FldOk K C f) : aFld K f (.loc S0.length) (S0 ++ [some (.obj C ks ds)]) q ↔ ∃ d, fget f ks ds = some d ∧ q d (S0 ++ [some (.obj C ks ds)]) := x_fldL hf snoc_get
theorem x_methO (h : ks.contains m = false) : aMeth C m (.obj C ks ds) S c ↔ c := by
  constructor
  · rintro ⟨_, _, _, _, h1⟩; exact h1
  · exact fun h1 => ⟨ks, ds, rfl, h, h1⟩
theorem x_methL {k : Nat} (hS : S[k]? = some (some (.obj C ks ds))) (h : ks.contains m = false) : aMeth C m (.loc k) S c ↔ c := by
  constructor
  · rintro ⟨_, _, _, _, h1⟩; exact h1
  · exact fun h1 => ⟨ks, ds, by simp only [objOf, hS], h, h1⟩
theorem x_isiCO (hi : IsC K C) (hk : KitC K C C' b) : aIsiC K (.obj C ks ds) (.ref C') S q ↔ q (.bl b) S := by
  constructor
  · rintro ⟨_, e, ⟨_, _, _, b', e1, _, hk', h1⟩ | ⟨_, e1, _⟩⟩
    · cases e; cases e1
      have := hk.is.symm.trans hk'.is
      cases this
      exact h1
    · cases e1
  · exact fun h1 => ⟨C', rfl, .inl ⟨C, ks, ds, b, rfl, hi, hk, h1⟩⟩
theorem x_isiCt {t : String} (h : tyN S d = some t) (hk : KitB K C') (hn : objOf S d = none) : aIsiC K d (.ref C') S q ↔ q (.bl false) S := by
  constructor
  · rintro ⟨_, e, ⟨_, _, _, _, e1, _⟩ | ⟨_, _, _, h1⟩⟩
    · rw [hn] at e1; cases e1
    · exact h1
  · exact fun h1 => ⟨C', rfl, .inr ⟨t, h, hk, h1⟩⟩
theorem x_isiCN (hk : KitB K C') : aIsiC K .non (.ref C') S q ↔ q (.bl false) S := x_isiCt (t := "NoneType") rfl hk rfl
theorem x_isiCT (hk : KitB K C') : aIsiC K (.tup ds) (.ref C') S q ↔ q (.bl false) S := x_isiCt (t := "tuple") rfl hk rfl
theorem x_isiCLi (hk : KitB K C') : aIsiC K (.lst ds) (.ref C') S q ↔ q (.bl false) S := x_isiCt (t := "list") rfl hk rfl
theorem x_isiCS {x : Str} (hk : KitB K C') : aIsiC K (.str x) (.ref C') S q ↔ q (.bl false) S := x_isiCt (t := "str") rfl hk rfl
theorem x_isiCI {i : Int} (hk : KitB K C') : aIsiC K (.int i) (.ref C') S q ↔ q (.bl false) S := x_isiCt (t := "int") rfl hk rfl
theorem x_own {ks' : List Str} {es : List D} : aOwn C dsp (.obj C ks ds) (.obj C ks' es) S q ↔ dsp [.obj C ks ds, .obj C ks' es] S fun d S' => (∃ k, d = .bl k) ∧ q d S' := by
  unfold aOwn
  exact ⟨fun ⟨_, _, h⟩ => h, fun h => ⟨⟨_, _, rfl⟩, ⟨_, _, rfl⟩, h⟩⟩
end
theorem eqv_ints : ∀ ns ms : List Int, PyData.eqvAll (ns.map PyData.int) (ms.map PyData.int) = decide (ns = ms)
  | [], [] => by simp [PyData.eqvAll]
  | [], m :: ms => by simp [PyData.eqvAll]
  | n :: ns, [] => by simp [PyData.eqvAll]
  | n :: ns, m :: ms => by
    simp only [List.map_cons, PyData.eqvAll, PyData.eqv, eqv_ints ns ms, List.cons.injEq]
    rw [show (n == m) = decide (n = m) from rfl, Bool.decide_and]
theorem sh_intT (ns : List Int) : SeqAt.shaped (.tuple (ns.map PyData.int)) = true := by
  simp [SeqAt.shaped, PyData.canLay0, PyData.depth, can_int, dep_int]
section
variable {S : Sto} {q : D → Sto → Prop} {ns ms : List Int} {a b c d e f g h : Int}
theorem x_eqLi : aEq (.lst (ns.map D.int)) (.lst (ms.map D.int)) S q ↔ q (.bl (decide (ns = ms))) S := by
  rw [x_eq (p := .list (ns.map PyData.int)) (p' := .list (ms.map PyData.int)) (by simp [toPyS, toPy, toPys_int]) (by simp [toPyS, toPy, toPys_int])]
  simp only [sh_ints, true_and, PyData.eqv, eqv_ints]
theorem x_neLi : aNe (.lst (ns.map D.int)) (.lst (ms.map D.int)) S q ↔ q (.bl (decide (ns ≠ ms))) S := by
  rw [x_ne (p := .list (ns.map PyData.int)) (p' := .list (ms.map PyData.int)) (by simp [toPyS, toPy, toPys_int]) (by simp [toPyS, toPy, toPys_int])]
  simp only [sh_ints, true_and, PyData.eqv, eqv_ints, ← decide_not, ne_eq]
theorem x_eqTi : aEq (.tup (ns.map D.int)) (.tup (ms.map D.int)) S q ↔ q (.bl (decide (ns = ms))) S := by
  rw [x_eq (p := .tuple (ns.map PyData.int)) (p' := .tuple (ms.map PyData.int)) (by simp [toPyS, toPy, toPys_int]) (by simp [toPyS, toPy, toPys_int])]
  simp only [sh_intT, true_and, PyData.eqv, eqv_ints]
theorem x_neTi : aNe (.tup (ns.map D.int)) (.tup (ms.map D.int)) S q ↔ q (.bl (decide (ns ≠ ms))) S := by
  rw [x_ne (p := .tuple (ns.map PyData.int)) (p' := .tuple (ms.map PyData.int)) (by simp [toPyS, toPy, toPys_int]) (by simp [toPyS, toPy, toPys_int])]
  simp only [sh_intT, true_and, PyData.eqv, eqv_ints, ← decide_not, ne_eq]
theorem x_eqT2 : aEq (.tup [.int a, .int b]) (.tup [.int c, .int d]) S q ↔ q (.bl (decide ([a, b] = [c, d]))) S := x_eqTi (ns := [a, b]) (ms := [c, d])
theorem x_neT2 : aNe (.tup [.int a, .int b]) (.tup [.int c, .int d]) S q ↔ q (.bl (decide ([a, b] ≠ [c, d]))) S := x_neTi (ns := [a, b]) (ms := [c, d])
theorem x_neL4 : aNe (.lst [.int a, .int b, .int c, .int d]) (.lst [.int e, .int f, .int g, .int h]) S q ↔ q (.bl (decide ([a, b, c, d] ≠ [e, f, g, h]))) S := x_neLi (ns := [a, b, c, d]) (ms := [e, f, g, h])
theorem x_eqLN : aEq (.lst (ns.map D.int)) (.lst []) S q ↔ q (.bl (decide (ns = []))) S := x_eqLi (ms := [])
end
theorem kit_same {K : PySem.W.Frag} {C : Addr} : PySem.W.kitOne K (.ref C) (.ref C) = some true := by
  unfold PySem.W.kitOne
  rw [if_pos]
  simp
theorem kit_mk {K : PySem.W.Frag} {C : Addr} {t : Value} {b : Bool} (h1 : PySem.W.isClsIn K C = true) (h2 : PySem.W.typeIn K (.ref C) = some (.type "type")) (h3 : PySem.W.subIn K t (.ref C) = some b) (h4 : (t == Value.ref C) = false) : PySem.W.kitOne K t (.ref C) = some b := by
  unfold PySem.W.kitOne PySem.W.kitCls
  rw [h4, if_neg Bool.false_ne_true]
  unfold PySem.W.isClsIn at h1
  dsimp only
  rw [h1, h2, if_pos, h3]
  decide
end Dl
namespace Dl
open PySem L2
theorem vals_each : ∀ {xs : List V} {us : List Value}, Vals xs us → ∀ (i : Nat) (x : V) (u : Value), xs[i]? = some x → us[i]? = some u → RelV x u
  | _, _, .nil, i, x, u, h1, _ => by simp at h1
  | _, _, .cons r rs, 0, x, u, h1, h2 => by
    rw [List.getElem?_cons_zero] at h1 h2
    cases h1; cases h2
    exact r
  | _, _, .cons r rs, i + 1, x, u, h1, h2 => by
    rw [List.getElem?_cons_succ] at h1 h2
    exact vals_each rs i x u h1 h2
def aSorted (fz : Bool) : R1D := fun d S q => ∃ ds ps, seqOf S d = some ds ∧ d.isTup = false ∧ toPys ds = some ps ∧ PySem.W.AllAlike ps ∧ PySem.W.Sortable ps ∧ (∀ p ∈ ps, p.depth ≤ 60) ∧ newL fz (((ds.zip ps).mergeSort (PySem.W.dataLe false Prod.snd)).map Prod.fst) S q
end Dl
namespace Dl
open PySem L2 PySem.W
section
variable {X : Cx} {C : Addr} {m qual : Str} {st : Stmt} {dvs : List V} {k : Nat} {ps : List Str} {dsp : DSp} {sp : Sp}
/-- a def run somewhere below the running body -/
theorem run_at {A : Around} {f : Addr} {fd : FuncData} {n : Nat} {g : List Value → List Value → List Value} {gV : List V → List V → List V} {pins : List (Addr × Obj)} {σ : L2.St} {H : Hp} {s : Shared} {Q : VK} {us : List Value} {vs : List V} (F : FnG X.prog X.w X.K X.mg X.base CX0 k f fd ps sp) (sb : SubG X k A) (hb : KBn X.K fd ps n [] g gV)
    (I : L2.Inv X pins σ H s) (r : Vals vs us) (l1 : vs.length = n) (h : sp (gV vs []) H Q fun _ _ _ => False) : wpAny (model X.prog X.w) A (call (.ref f) us) (EP X pins σ Q) X.xe s := by
  have e0 : Env0 X.prog X.w X.K X.mg X.base A X.stack s H := by
    have e := I.env0
    exact ⟨by rw [sb.fr]; exact e.frames, e.mod, e.bs, e.bsz, e.funs, e.frf, e.hok, e.bare⟩
  have r2 := hb.rel r .nil
  refine wpAny_call (codeAny_mono (F.run A X.stack s H ⟨us, []⟩ (g us []) (gV vs []) Q _ sb.room e0 (hb.to s us [] I.kIn (r.length.symm.trans l1) rfl) r2 h) fun r s' hq => ?_)
  cases r with
  | error e => exact pass0 pins σ H s e s' I hq
  | ok fl =>
    cases fl with
    | ret u => exact I.after hq
    | next => exact False.elim hq
    | brk => exact False.elim hq
    | cont => exact False.elim hq
def rLenO (C : Addr) (sp : Sp) : List V → Hp → VK → Prop := fun vs H Q => ∃ a dx fs, vs = [.ref a] ∧ H a = some (.ins C dx fs) ∧ sp [.ref a] H (fun v H' => ∃ n : Int, v = .int n ∧ 0 ≤ n ∧ n < 2 ^ 63 ∧ Q (.int n) H') fun _ _ _ => False
def aLenO (C : Addr) (dsp : DSp) : R1D := fun a S q => (∃ ks ds, objOf S a = some (C, ks, ds)) ∧ dsp [a] S fun d S' => ∃ n : Int, d = .int n ∧ 0 ≤ n ∧ n < 2 ^ 63 ∧ q (.int n) S'
theorem or_lenO (F : MFn X.prog X.w X.K X.mg X.base C "__len__" qual st dvs k ps dsp) (hr : RoomG (k + 1) X.A) (b : Bnd "__len__" qual st ps 1 [] [.p 0] dvs.length) : CallR X (.builtin "len") (rLenO C (spOf X.K dsp)) := by
  intro pins s σ H vs us Q I r h
  obtain ⟨a, dx, fs, rfl, ha, hsp⟩ := h
  obtain ⟨u, rfl, ru⟩ := vals1 r
  obtain rfl : u = Value.ref a := ru
  obtain ⟨f, fd, FS, hm, FO⟩ := F.ex
  obtain ⟨its, KB⟩ := kbn_of FS b
  obtain ⟨mA, J, _⟩ := ins_get I.hok ha
  obtain ⟨od, J, _⟩ := J.look
  obtain ⟨mm, hF⟩ := I.fr
  refine PySem.W.len_K hF I.ok.mod.kin J hm.at_ hm.fn ?_
  have r2 : Vals [V.ref a] [Value.ref a] := .cons rfl .nil
  refine wpAny_mono (run_at FO ⟨hr.in1, rfl⟩ KB I r2 rfl (Q := fun v H' => ∃ n : Int, v = .int n ∧ 0 ≤ n ∧ n < 2 ^ 63 ∧ Q (.int n) H') (by simpa [gat, pick] using hsp)) (fun w' s' hq => ?_) fun _ _ z => z
  obtain ⟨z, H', I', rz, n, ez, h0, h1, q⟩ := hq
  subst ez
  obtain ⟨t, rfl⟩ := rz
  exact ⟨⟨h0, h1⟩, .int n, H', I'.tok _, ⟨_, rfl⟩, q⟩
theorem vr_lenO {K : PySem.W.Frag} : VRN K (rLenO C (spOf K dsp)) (a1 (aLenO C dsp)) := vrn1 fun {_ m S Z H d v q Q} w r ⟨⟨ks, ds, h1⟩, h2⟩ kk => by
  obtain ⟨x, dx, vs, ev, hx, _, _⟩ := objOf_rep w r h1
  subst ev
  refine ⟨x, dx, _, rfl, hx, m, S, Z, [d], _, w.w0, Reps.one r, h2, fun v1 H1 m1 d1 S1 e1 w1 rr ⟨n, en, h3, h4, hq⟩ => ?_⟩
  subst en
  have rr' := rr
  rw [rD, Rep] at rr'
  exact ⟨n, rr', h3, h4, kk.at e1 (w.on e1 w1.toWd0) rep_int hq⟩
theorem ifBound_B {M : Model} {A : Around} {E : Value → Shared → Prop} {s : Shared} {self : Value} {name : Str} {id : String} {args : List Value} {Q : Option Value → Shared → Prop} (sp : Looks M s.heap (specialOf self name) (some (.builtin id))) (hb : bindSpecial (.builtin id) self = pure (.builtin id, [self]))
    (hc : wpAny M A (call (.builtin id) (self :: args)) (fun v => Q (some v)) E s) : wpAny M A (callSpecialIfBound? self name args) Q E s := by
  simp only [callSpecialIfBound?, bindSpecialIfBound?]
  refine wpAny_holding (wpAny_bind (wpAny_bind (sp.here ?_)))
  simp only [hb]
  refine wpAny_bind (wpAny_askSetting (wpAny_ite ?_))
  have fin : wpAny M A (call (.builtin id) ([self] ++ args) >>= fun v => pure (some v)) Q E s := wpAny_bind (wpAny_mono hc (fun v s' h' => wpAny_pure h') fun _ _ h' => h')
  split
  · exact wpAny_bind (wpAny_pure (wpAny_pure fin))
  · exact wpAny_tryCatch (wpAny_bind (wpAny_pure (wpAny_pure fin)))
theorem rich_one {prog : Program} {w : World} {A : Around} {E : Value → Shared → Prop} {s : Shared} {K : PySem.W.Frag} {x C : Addr} {ox : Obj} {od : Option Obj} {b tb : Value} {op : CmpOp} {Q : Value → Shared → Prop} (hu : A.units < cLine) (X : K.In s.heap) (I : InstAt s.heap x ox C od) (hb : Looks (model prog w) s.heap (typeOf b) tb) (hn : notFirst K C tb = true)
    (one : wpAny (model prog w) A (tryCompare (.ref x) (cmpInfo op).2.1 b) (fun r s' => ∃ v, r = some v ∧ Q v s') E s) : wpAny (model prog w) A (richCompare op (.ref x) b) Q E s := by
  unfold richCompare
  simp only [oneThing_ref]
  refine wpAny_holding (wpAny_bind (wpAny_cRoomFor hu ?_))
  refine wpAny_bind (I.type.here (wpAny_bind (hb.here ?_)))
  split
  · rename_i q
    have e : subIn K tb (.ref C) = some false := by
      rcases Bool.or_eq_true_iff.mp hn with e | e
      · rw [beq_iff_eq.mp e] at q; simp at q
      · exact beq_iff_eq.mp e
    refine wpAny_bind ((looks_subIn X e).here ?_)
    simp only [Bool.false_eq_true, if_false]
    refine wpAny_bind (wpAny_mono one (fun r s' z => ?_) fun _ _ e => e)
    obtain ⟨v, rfl, hq⟩ := z
    exact wpAny_pure hq
  · refine wpAny_bind (wpAny_pure ?_)
    simp only [Bool.false_eq_true, if_false]
    refine wpAny_bind (wpAny_mono one (fun r s' z => ?_) fun _ _ e => e)
    obtain ⟨v, rfl, hq⟩ := z
    exact wpAny_pure hq
structure NoNe (K : PySem.W.Frag) (C : Addr) : Prop where
  ne : findIn K (.ref C) "__ne__" = some (some (.builtin "object.__ne__"))
  ob : mroIn K C (.type "object") = some true
end
end Dl
namespace GB
open PySem PySem.Calls PySem.Spec PyProof.Rows GQ
open PySem.SeqAt
open AutoSeq1 (wpAny_loadPart')
open MeetsSeq MeetsSeq2 MeetsSeq3 SeqRoads2
section
variable {prog : Program} {w : World} {A : Around} {R : Result → Shared → Prop}
/-- at each turn the two lists are read anew: N items each, the i-th two compared say rs i -/
def ListB (prog : Program) (w : World) (A : Around) (E : Value → Shared → Prop) (l b : Addr) (N : Nat) (rs : Nat → Bool) (I : Nat → Shared → Prop) : Prop :=
  ∀ i s, I i s → ∃ (items items2 : Array Value) (n n2 : Nat), s.heap.get? l = some { cls := .type "list", data := .seq items n } ∧ s.heap.get? b = some { cls := .type "list", data := .seq items2 n2 } ∧ items.size = N ∧ items2.size = N ∧
    ∀ (h1 : i < items.size) (h2 : i < items2.size), wpAny (model prog w) A.in1 (eqBool items[i] items2[i]) (fun r s' => r = rs i ∧ I (i + 1) s') E s
/-- code 2: ==; code 3: != -/
def okOf (c : Int) : Bool := c == 2
theorem loopB (c : Int) (hc : c = 2 ∨ c = 3) (l b : Addr) (N : Nat) (rs : Nat → Bool) (out : Bool) (h1 : (∀ j, j < N → rs j = true) → out = okOf c) (h2 : ∀ j, j < N → rs j = false → out = !okOf c) (I : Nat → Shared → Prop) (hl : ListB prog w A (fun e s' => R (.error e) s') l b N rs I)
    (fin : ∀ j s, I j s → R (.ok (.ret (.bool out))) s) (k : Nat) :
    ∀ i : Nat, N - i = k → i ≤ N → (∀ j, j < i → rs j = true) → ∀ s, I i s →
      wpAny (model prog w) A.in1 (Builtin.«list.__eq__.loop» ⟨[.ref l, .ref b, rawInt i, rawInt c], []⟩) (FinOf prog w A R) (fun e s' => R (.error e) s') s := by
  induction k with
  | zero =>
    intro i hk hi hall s h
    obtain ⟨items, items2, n, n2, hl1, hb1, hs1, hs2, _⟩ := hl _ _ h
    have hi' : i = N := by omega
    have hR : R (.ok (.ret (.bool out))) s := fin i s h
    rw [h1 (fun j hj => hall j (by omega))] at hR
    obtain ⟨hp, g, d, tk, os⟩ := s
    rcases hc with rfl | rfl
    · wp_walk using wpAny_loadPart' hl1, wpAny_loadPart' hb1
      have hi1 : items[((i : Nat) : Int).toNat]? = none := by simp; omega
      have hi2 : items2[((i : Nat) : Int).toNat]? = none := by simp; omega
      rw [hi1, hi2]
      wp_walk using wpAny_loadPart' hl1, wpAny_loadPart' hb1
      show R (.ok (.ret (.bool (items.size == items2.size)))) _
      rw [hs1, hs2]
      simpa [okOf] using hR
    · wp_walk using wpAny_loadPart' hl1, wpAny_loadPart' hb1
      have hi1 : items[((i : Nat) : Int).toNat]? = none := by simp; omega
      have hi2 : items2[((i : Nat) : Int).toNat]? = none := by simp; omega
      rw [hi1, hi2]
      wp_walk using wpAny_loadPart' hl1, wpAny_loadPart' hb1
      show R (.ok (.ret (.bool (items.size != items2.size)))) _
      rw [hs1, hs2]
      simpa [okOf] using hR
  | succ k ih =>
    intro i hk hi hall s h
    obtain ⟨items, items2, n, n2, hl1, hb1, hs1, hs2, turn⟩ := hl _ _ h
    have hlt : i < items.size := by omega
    have hlt2 : i < items2.size := by omega
    have ht := turn hlt hlt2
    have hi1 : items[((i : Nat) : Int).toNat]? = some items[i] := by simp [hlt]
    have hi2 : items2[((i : Nat) : Int).toNat]? = some items2[i] := by simp [hlt2]
    have hcc : ((i : Int) + 1) = ((i + 1 : Nat) : Int) := by omega
    cases hr : rs i with
    | true =>
      have step : ∀ s2, I (i + 1) s2 → wpAny (model prog w) A.in1 (Builtin.«list.__eq__.loop» ⟨[.ref l, .ref b, rawInt ((i + 1 : Nat) : Int), rawInt c], []⟩) (FinOf prog w A R) (fun e s' => R (.error e) s') s2 := fun s2 h2' => ih (i + 1) (by omega) (by omega) (fun j hj => by
        rcases Nat.lt_or_ge j i with q | q
        · exact hall j q
        · rw [show j = i by omega]; exact hr) s2 h2'
      obtain ⟨hp, g, d, tk, os⟩ := s
      rcases hc with rfl | rfl
      all_goals
        wp_walk using wpAny_loadPart' hl1, wpAny_loadPart' hb1
        rw [hi1, hi2]
        refine wpAny_bind (wpAny_mono ht (fun r s2 h2' => ?_) fun _ _ x => x)
        obtain ⟨hr', h2'⟩ := h2'
        rw [hr] at hr'
        subst hr'
        have hrec := step s2 h2'
        obtain ⟨hp2, g2, d2, tk2, os2⟩ := s2
        wp_walk
        rw [hcc]
        exact ⟨plainId_quiet plain_eq_loop _, codeAny_builtin entry_eq_loop (by
          rw [Around.under_plainId plain_eq_loop _]
          exact hrec)⟩
    | false =>
      have ho := h2 i (by omega) hr
      have last : ∀ s2, I (i + 1) s2 → ∃ (items items2 : Array Value) (n n2 : Nat), s2.heap.get? l = some { cls := .type "list", data := .seq items n } ∧ s2.heap.get? b = some { cls := .type "list", data := .seq items2 n2 } ∧ i < items.size ∧ i < items2.size ∧ R (.ok (.ret (.bool (!okOf c)))) s2 := fun s2 q => by
        obtain ⟨x1, x2, y1, y2, e1, e2, e3, e4, _⟩ := hl _ _ q
        exact ⟨x1, x2, y1, y2, e1, e2, by omega, by omega, ho ▸ fin _ s2 q⟩
      obtain ⟨hp, g, d, tk, os⟩ := s
      rcases hc with rfl | rfl
      all_goals
        wp_walk using wpAny_loadPart' hl1, wpAny_loadPart' hb1
        rw [hi1, hi2]
        refine wpAny_bind (wpAny_mono ht (fun r s2 h2' => ?_) fun _ _ x => x)
        obtain ⟨hr', h2'⟩ := h2'
        rw [hr] at hr'
        subst hr'
        obtain ⟨x1, x2, y1, y2, e1, e2, e3, e4, hR⟩ := last s2 h2'
        obtain ⟨hp2, g2, d2, tk2, os2⟩ := s2
        wp_walk using wpAny_loadPart' e1, wpAny_loadPart' e2
        have hj1 : x1[((i : Nat) : Int).toNat]? = some x1[i] := by simp [e3]
        have hj2 : x2[((i : Nat) : Int).toNat]? = some x2[i] := by simp [e4]
        rw [hj1, hj2]
        wp_walk
        simpa [okOf] using hR
theorem list_eqB (l b : Addr) (N : Nat) (rs : Nat → Bool) (out : Bool) (h1 : (∀ j, j < N → rs j = true) → out = true) (h2 : ∀ j, j < N → rs j = false → out = false) (I : Nat → Shared → Prop) (hl : ListB prog w A (fun e s' => R (.error e) s') l b N rs I)
    (fin : ∀ j s, I j s → R (.ok (.ret (.bool out))) s) {s : Shared} (h : I 0 s) :
    wpAny (model prog w) A.in1 (Builtin.«list.__eq__» ⟨[.ref l, .ref b], []⟩) (FinOf prog w A R) (fun e s' => R (.error e) s') s := by
  obtain ⟨items, items2, n, n2, hl1, hb1, hs1, hs2, _⟩ := hl _ _ h
  have hrec := loopB (A := A) (R := R) 2 (.inl rfl) l b N rs out h1 h2 I hl fin _ 0 rfl (Nat.zero_le _) (fun j hj => absurd hj (by omega)) s h
  obtain ⟨hp, g, d, tk, os⟩ := s
  have f3 := AutoSeq1.sub_list_list
  have hne : ¬ (items.size != items2.size) = true := by simp [hs1, hs2]
  wp_walk using wpAny_loadPart' hl1, wpAny_loadPart' hb1
  exact ⟨plainId_quiet plain_eq_loop _, codeAny_builtin entry_eq_loop (by
    rw [Around.under_plainId plain_eq_loop _]
    exact hrec)⟩
theorem list_neB (l b : Addr) (N : Nat) (rs : Nat → Bool) (out : Bool) (h1 : (∀ j, j < N → rs j = true) → out = false) (h2 : ∀ j, j < N → rs j = false → out = true) (I : Nat → Shared → Prop) (hl : ListB prog w A (fun e s' => R (.error e) s') l b N rs I)
    (fin : ∀ j s, I j s → R (.ok (.ret (.bool out))) s) {s : Shared} (h : I 0 s) :
    wpAny (model prog w) A.in1 (Builtin.«list.__ne__» ⟨[.ref l, .ref b], []⟩) (FinOf prog w A R) (fun e s' => R (.error e) s') s := by
  obtain ⟨items, items2, n, n2, hl1, hb1, hs1, hs2, _⟩ := hl _ _ h
  have hrec := loopB (A := A) (R := R) 3 (.inr rfl) l b N rs out h1 h2 I hl fin _ 0 rfl (Nat.zero_le _) (fun j hj => absurd hj (by omega)) s h
  obtain ⟨hp, g, d, tk, os⟩ := s
  have f3 := AutoSeq1.sub_list_list
  have hne : ¬ (items.size != items2.size) = true := by simp [hs1, hs2]
  wp_walk using wpAny_loadPart' hl1, wpAny_loadPart' hb1
  exact ⟨plainId_quiet plain_eq_loop _, codeAny_builtin entry_eq_loop (by
    rw [Around.under_plainId plain_eq_loop _]
    exact hrec)⟩
theorem list_eqD (l b : Addr) {items items2 : Array Value} {n n2 : Nat} {s : Shared} (hl1 : s.heap.get? l = some { cls := .type "list", data := .seq items n }) (hb1 : s.heap.get? b = some { cls := .type "list", data := .seq items2 n2 }) (hsz : items.size ≠ items2.size) (fin : R (.ok (.ret (.bool false))) s) :
    wpAny (model prog w) A.in1 (Builtin.«list.__eq__» ⟨[.ref l, .ref b], []⟩) (FinOf prog w A R) (fun e s' => R (.error e) s') s := by
  obtain ⟨hp, g, d, tk, os⟩ := s
  have f3 := AutoSeq1.sub_list_list
  have hne : (items.size != items2.size) = true := by simp [hsz]
  wp_walk using wpAny_loadPart' hl1, wpAny_loadPart' hb1
  exact fin
theorem list_neD (l b : Addr) {items items2 : Array Value} {n n2 : Nat} {s : Shared} (hl1 : s.heap.get? l = some { cls := .type "list", data := .seq items n }) (hb1 : s.heap.get? b = some { cls := .type "list", data := .seq items2 n2 }) (hsz : items.size ≠ items2.size) (fin : R (.ok (.ret (.bool true))) s) :
    wpAny (model prog w) A.in1 (Builtin.«list.__ne__» ⟨[.ref l, .ref b], []⟩) (FinOf prog w A R) (fun e s' => R (.error e) s') s := by
  obtain ⟨hp, g, d, tk, os⟩ := s
  have f3 := AutoSeq1.sub_list_list
  have hne : (items.size != items2.size) = true := by simp [hsz]
  wp_walk using wpAny_loadPart' hl1, wpAny_loadPart' hb1
  exact fin
end
section
variable {prog : Program} {w : World} {A : Around} {E : Value → Shared → Prop} {s : Shared}
theorem rc_eqB {l b : Addr} {N : Nat} {rs : Nat → Bool} {out : Bool} {Q : Value → Shared → Prop} (hu : A.units < cLine) (h1 : (∀ j, j < N → rs j = true) → out = true) (h2 : ∀ j, j < N → rs j = false → out = false) (I : Nat → Shared → Prop) (hl : ListB prog w A E l b N rs I)
    (fin : ∀ j s, I j s → Q (.bool out) s) (h : I 0 s) : wpAny (model prog w) A (richCompare .Eq (.ref l) (.ref b)) Q E s := by
  obtain ⟨items, items2, n, n2, hl1, hb1, _, _, _⟩ := hl _ _ h
  refine wpAny_richCompare_same_room (op := .Eq) ⟨_, hl1, rfl⟩ ⟨_, hb1, rfl⟩ F.slot_list_eq (call_here F.slot_list_eq ⟨_, hl1, rfl⟩ F.entry_list_eq (F.args_list_eq_2 _ _) ?_) hu
  exact list_eqB (R := wants (fun v s' => v ≠ .notImplemented ∧ Q v s') E) l b N rs out h1 h2 I hl (fun j s' q => ⟨(fun x => nomatch x), fin j s' q⟩) h
theorem rc_neB {l b : Addr} {N : Nat} {rs : Nat → Bool} {out : Bool} {Q : Value → Shared → Prop} (hu : A.units < cLine) (h1 : (∀ j, j < N → rs j = true) → out = false) (h2 : ∀ j, j < N → rs j = false → out = true) (I : Nat → Shared → Prop) (hl : ListB prog w A E l b N rs I)
    (fin : ∀ j s, I j s → Q (.bool out) s) (h : I 0 s) : wpAny (model prog w) A (richCompare .NotEq (.ref l) (.ref b)) Q E s := by
  obtain ⟨items, items2, n, n2, hl1, hb1, _, _, _⟩ := hl _ _ h
  refine wpAny_richCompare_same_room (op := .NotEq) ⟨_, hl1, rfl⟩ ⟨_, hb1, rfl⟩ F.slot_list_ne (call_here F.slot_list_ne ⟨_, hl1, rfl⟩ F.entry_list_ne (F.args_list_ne_2 _ _) ?_) hu
  exact list_neB (R := wants (fun v s' => v ≠ .notImplemented ∧ Q v s') E) l b N rs out h1 h2 I hl (fun j s' q => ⟨(fun x => nomatch x), fin j s' q⟩) h
theorem rc_eqD {l b : Addr} {items items2 : Array Value} {n n2 : Nat} {Q : Value → Shared → Prop} (hu : A.units < cLine) (hl1 : s.heap.get? l = some { cls := .type "list", data := .seq items n }) (hb1 : s.heap.get? b = some { cls := .type "list", data := .seq items2 n2 }) (hsz : items.size ≠ items2.size) (fin : Q (.bool false) s) :
    wpAny (model prog w) A (richCompare .Eq (.ref l) (.ref b)) Q E s := by
  refine wpAny_richCompare_same_room (op := .Eq) ⟨_, hl1, rfl⟩ ⟨_, hb1, rfl⟩ F.slot_list_eq (call_here F.slot_list_eq ⟨_, hl1, rfl⟩ F.entry_list_eq (F.args_list_eq_2 _ _) ?_) hu
  exact list_eqD (R := wants (fun v s' => v ≠ .notImplemented ∧ Q v s') E) l b hl1 hb1 hsz ⟨(fun x => nomatch x), fin⟩
theorem rc_neD {l b : Addr} {items items2 : Array Value} {n n2 : Nat} {Q : Value → Shared → Prop} (hu : A.units < cLine) (hl1 : s.heap.get? l = some { cls := .type "list", data := .seq items n }) (hb1 : s.heap.get? b = some { cls := .type "list", data := .seq items2 n2 }) (hsz : items.size ≠ items2.size) (fin : Q (.bool true) s) :
    wpAny (model prog w) A (richCompare .NotEq (.ref l) (.ref b)) Q E s := by
  refine wpAny_richCompare_same_room (op := .NotEq) ⟨_, hl1, rfl⟩ ⟨_, hb1, rfl⟩ F.slot_list_ne (call_here F.slot_list_ne ⟨_, hl1, rfl⟩ F.entry_list_ne (F.args_list_ne_2 _ _) ?_) hu
  exact list_neD (R := wants (fun v s' => v ≠ .notImplemented ∧ Q v s') E) l b hl1 hb1 hsz ⟨(fun x => nomatch x), fin⟩
end
end GB
namespace Dl
open PySem L2
section
variable {K : PySem.W.Frag} {m : Nat → Addr} {S : Sto} {Z : Addr → Prop} {H H' : Hp}
theorem vis_grow (e : L2.Ext H H') : ∀ a o, vis m S Z H a = some o → vis m S Z H' a = some o := fun a o h => by
  obtain ⟨h1, h2⟩ := vis_not h
  exact vis_of (e _ _ (vis_sub h)) h1 h2
theorem Wd0.grow (w : Wd0 K m S Z H) (e : L2.Ext H H') : Wd0 K m S Z H' ∧ Ext m S Z H m S H' := by
  have hz : ∀ a, Z a → H' a = H a := fun a z => by
    obtain ⟨o, h⟩ := w.zh a z
    rw [h, e a o h]
  refine ⟨⟨w.inj, w.zz, fun a z => ?_, fun i o h => ?_⟩, ⟨Nat.le_refl _, fun _ _ => rfl, vis_grow e, hz⟩⟩
  · rw [hz a z]; exact w.zh a z
  · obtain ⟨u, hu⟩ := w.live ⟨o, h⟩
    exact (w.rep i o h).mono (fun _ _ => rfl) (Nat.le_refl _) (vis_grow e) (by rw [hu, e _ _ hu])
theorem Wd.grow (w : Wd K U m S Z H) (e : L2.Ext H H') : Wd K U m S Z H' ∧ Ext m S Z H m S H' := by
  obtain ⟨a, b⟩ := w.toWd0.grow e
  exact ⟨w.on b a, b⟩
/-- the whole store put out of sight -/
theorem Wd0.dark (w : Wd0 K m S Z H) : Wd0 K m (List.replicate S.length none) (fun a => Z a ∨ ∃ n, Live S n ∧ m n = a) H ∧ vis m (List.replicate S.length none) (fun a => Z a ∨ ∃ n, Live S n ∧ m n = a) H = vis m S Z H := by
  have nl : ∀ i, ¬ Live (List.replicate S.length none) i := fun i ⟨o, h⟩ => by
    rw [List.getElem?_replicate] at h
    split at h <;> cases h
  refine ⟨⟨fun i j l => absurd l (nl i), fun i l => absurd l (nl i), fun a z => ?_, fun i o h => absurd ⟨o, h⟩ (nl i)⟩, ?_⟩
  · rcases z with z | ⟨n, l, rfl⟩
    · exact w.zh a z
    · exact w.live l
  · funext a
    unfold vis
    by_cases q : Z a ∨ ∃ n, Live S n ∧ m n = a
    · rw [if_pos q, if_pos (.inl q)]
    · rw [if_neg q, if_neg]
      rintro (z | ⟨n, l, _⟩)
      · exact q z
      · exact nl n l
theorem Ext.all {m' : Nat → Addr} {n : Nat} {Zd : Addr → Prop} {S1 : Sto} (hS : S1 = List.replicate n none) (e : Ext m (List.replicate n none) Zd H m' S1 H') : L2.Ext H H' := fun a o h => by
  by_cases z : Zd a
  · rw [e.zed a z]; exact h
  · refine vis_sub (e.vis a o (vis_of h z fun i l => ?_))
    obtain ⟨u, hu⟩ := l
    rw [List.getElem?_replicate] at hu
    split at hu <;> cases hu
end
def D.flat : D → Bool
  | .non | .bl _ | .int _ | .str _ => true
  | _ => false
theorem flat_inj {K : PySem.W.Frag} {m : Nat → Addr} {N : Nat} {Hv : Hp} {d e : D} {v : V} (r : Rep K m N Hv d v) (r' : Rep K m N Hv e v) (hd : d.flat = true) (he : e.flat = true) : d = e := by
  cases d <;> cases e <;> first
    | (cases hd; done)
    | (cases he; done)
    | rfl
    | (simp only [Rep] at r r'; rw [r] at r'; cases r'; rfl)
    | (simp only [Rep] at r r'; rw [r] at r'; cases r'; done)
theorem flats_inj {K : PySem.W.Frag} {m : Nat → Addr} {N : Nat} {Hv : Hp} : ∀ {ds es : List D} {vs : List V}, Reps K m N Hv ds vs → Reps K m N Hv es vs → ds.all D.flat = true → es.all D.flat = true → ds = es
  | [], [], _, _, _, _, _ => rfl
  | [], e :: es, _, r, r', _, _ => by obtain ⟨v, q, h, _⟩ := r'; rw [show _ = [] from r] at h; cases h
  | d :: ds, [], _, r, r', _, _ => by obtain ⟨v, q, h, _⟩ := r; rw [show _ = [] from r'] at h; cases h
  | d :: ds, e :: es, _, r, r', hd, he => by
    obtain ⟨v, q, h, r1, r2⟩ := r
    obtain ⟨v', q', h', r1', r2'⟩ := r'
    rw [h] at h'
    cases h'
    rw [List.all_cons, Bool.and_eq_true] at hd he
    rw [flat_inj r1 r1' hd.1 he.1, flats_inj r2 r2' hd.2 he.2]
section
variable {X : Cx} {C : Addr} {qual : Str} {st : Stmt} {dvs : List V} {k : Nat} {ps : List Str} {dsp : DSp}
theorem zip_inj {ks ks' : List Str} {vs vs' : List V} (h : ks.zip vs = ks'.zip vs') (h1 : ks.length = vs.length) (h2 : ks'.length = vs'.length) : ks = ks' ∧ vs = vs' := by
  have a := congrArg (List.map Prod.fst) h
  have b := congrArg (List.map Prod.snd) h
  rw [List.map_fst_zip (by omega), List.map_fst_zip (by omega)] at a
  rw [List.map_snd_zip (by omega), List.map_snd_zip (by omega)] at b
  exact ⟨a, b⟩
def lstOf (S : Sto) : D → Option (List D)
  | .lst ds => some ds
  | .loc n => match S[n]? with
    | some (some (.lst ds)) => some ds
    | _ => none
  | _ => none
theorem lstOf_rep {K : PySem.W.Frag} {m : Nat → Addr} {S : Sto} {Z : Addr → Prop} {H : Hp} {d : D} {v : V} {ds : List D} (w : Wd K U m S Z H) (r : Rep K m S.length (vis m S Z H) d v) (h : lstOf S d = some ds) : ∃ a vs, v = .ref a ∧ H a = some (.lst vs) ∧ Reps K m S.length (vis m S Z H) ds vs := by
  cases d with
  | lst ds' => cases h; rw [Rep] at r; obtain ⟨a, vs, e, h1, h2⟩ := r; exact ⟨a, vs, e, vis_sub h1, h2⟩
  | loc n =>
    rw [Rep] at r
    rw [lstOf] at h
    split at h
    · rename_i q; cases h; obtain ⟨vs, h1, h2⟩ := w.rep n _ q; exact ⟨m n, vs, r.1, h1, h2⟩
    · cases h
  | non => cases h
  | bl _ => cases h
  | int _ => cases h
  | str _ => cases h
  | tup _ => cases h
  | ksq _ => cases h
  | obj _ _ _ => cases h
  | dic _ _ => cases h
  | ref _ => cases h
  | ty _ => cases h
  | exc _ _ _ => cases h
end
def aRev (fz : Bool) : R1D := fun d S q => ∃ ds, seqOf S d = some ds ∧ d.isTup = false ∧ newL fz ds.reverse S q
def gRev (fz : Bool) (ge : G D) : G D := fun ρ S q => ge ρ S fun d S1 => aRev fz d S1 q
section
variable {X : Cx} {ge : G D} {e : Expr} {ga : G (List D)}
theorem d_revL {k : Nat} {p1 p2 p3 pos : Pos} (fz : Bool) (he : PE X e (tofE X.K U ge)) : PE X (.Subscript e (.Slice none none (some (.UnaryOp .USub (.Constant (.int 1) k p1) p2)) p3) pos) (tofE X.K U (gRev fz ge)) :=
  weakE (pe_revL he) fun σ H Q ⟨m, S, Z, ρ, q, w, rs, h, k⟩ => tof_in w rs h fun v1 H1 m1 d1 S1 e1 w1 r1 ⟨ds, h1, h2, h3⟩ => by
    obtain ⟨a, vs, ev, hr, ht, hl⟩ := seqOf_rep w1 r1 h1
    exact ⟨a, vs, ev, hl h2, fun p hp => out_newL w1 hr.rev h3 (k.ext e1) hp⟩
end
def aPar3 (i j l : Nat) (ρ : Env_) (k : Env_ → Sto → Prop) (as : List D) (S1 : Sto) : Prop := ∃ v u z, as = [v, u, z] ∧ k (((ρ.set i (some v)).set j (some u)).set l (some z)) S1
theorem x_par3 {i j l : Nat} {ga : G (List D)} {E : DE} {ρ : Env_} {S : Sto} : gPar3 i j l ga E ρ S = ga ρ S fun as S1 => aPar3 i j l ρ E.nx as S1 := rfl
theorem x_par33 {i j l : Nat} {k : Env_ → Sto → Prop} {ρ : Env_} {S : Sto} {v u z : D} : aPar3 i j l ρ k [v, u, z] S ↔ k (((ρ.set i (some v)).set j (some u)).set l (some z)) S := by
  constructor
  · rintro ⟨_, _, _, e, h⟩; cases e; exact h
  · exact fun h => ⟨v, u, z, rfl, h⟩
section
variable {X : Cx} {ga : G (List D)} {a b : Expr}
def aLenR : RND := fun as S1 q => ∃ i j : Int, as = [.int i, .int j] ∧ j - i < 2 ^ 62 ∧ q (.int (max 0 (j - i))) S1
def gLenR (ga : G (List D)) : G D := fun ρ S q => ga ρ S fun as S1 => ∃ i j : Int, as = [.int i, .int j] ∧ j - i < 2 ^ 62 ∧ q (.int (max 0 (j - i))) S1
theorem x_lenrI {S : Sto} {q : D → Sto → Prop} {i j : Int} : aLenR [.int i, .int j] S q ↔ j - i < 2 ^ 62 ∧ q (.int (max 0 (j - i))) S := by
  constructor
  · rintro ⟨_, _, e, h⟩; cases e; exact h
  · exact fun h => ⟨i, j, rfl, h⟩
theorem x_lenr {ρ : Env_} {S : Sto} {q : D → Sto → Prop} : gLenR ga ρ S q = ga ρ S fun as S1 => aLenR as S1 q := rfl
end
end Dl
namespace Dl
open PySem L2
section
variable {S0 S T : Sto} {ds : List D} {q : D → Sto → Prop} {c : Sto → Prop} {d v : D} {k : QI} {i : Int} {n : Nat}
theorem x_ixE : aIx (.loc S0.length) (.int i) (S0 ++ [some (.lst ds)]) q ↔ ∃ e, atI ds i = some e ∧ q e (S0 ++ [some (.lst ds)]) := by
  unfold aIx
  have e0 : seqOf (S0 ++ [some (.lst ds)]) (.loc S0.length) = some ds := by simp [seqOf]
  constructor
  · rintro ⟨_, e1, xs, z, e2, e3, h⟩; cases e1; rw [e0] at e2; cases e2; exact ⟨z, e3, h⟩
  · rintro ⟨z, e3, h⟩; exact ⟨_, rfl, ds, z, e0, e3, h⟩
theorem ixN_last {n : Nat} (h : 0 < n) : ixN n (-1) = some (n - 1) := by
  unfold ixN
  rw [if_neg (by omega), if_pos (by omega)]
  exact congrArg some (by omega)
theorem at_last {A : Type} {xs : List A} : atI xs (-1) = xs.getLast? := by
  unfold atI
  rw [List.getLast?_eq_getElem?]
  by_cases h : 0 < xs.length
  · rw [ixN_last h]; rfl
  · have : xs = [] := List.eq_nil_of_length_eq_zero (by omega)
    subst this
    rfl
theorem x_setE (h : ixN ds.length i = some n) : aSetIx (.loc S0.length) (.int i) v (S0 ++ [some (.lst ds)]) c ↔ c (S0 ++ [some (.lst (ds.set n v))]) := by
  constructor
  · rintro ⟨_, _, _, _, e1, e2, e3, e4, h1⟩
    cases e1; cases e2
    rw [snoc_get] at e3
    cases e3
    rw [h] at e4
    cases e4
    rw [snoc_set] at h1
    exact h1
  · exact fun h1 => ⟨_, ds, i, n, rfl, rfl, snoc_get, h, by rw [snoc_set]; exact h1⟩
theorem x_appE : aAppend (.loc S0.length) [d] (S0 ++ [some (.lst ds)]) q ↔ ds.length < sizeLine ∧ q .non (S0 ++ [some (.lst (ds ++ [d]))]) := by
  rw [x_app snoc_get, snoc_set]
theorem x_tyE : isTy "list" (S0 ++ [some (.lst ds)]) (.loc S0.length) = true := x_tyO snoc_get
theorem x_itE : aIt (.loc S0.length) (S0 ++ [some (.lst ds)]) k ↔ k ds (fun S' => seqOf S' (.loc S0.length) = some ds) (S0 ++ [some (.lst ds)]) := x_itO (by simp [seqOf])
theorem x_lenE : aLen (.loc S0.length) (S0 ++ [some (.lst ds)]) q ↔ q (.int ds.length) (S0 ++ [some (.lst ds)]) := x_lenL (by simp [seqOf])
theorem take_snoc : (S0 ++ T).take S0.length = S0 := by simp
/-- what a def gives back -/
theorem x_finE (hS : Sto.under S0.length S0 = true) : fin S0.length q (.loc S0.length) (S0 ++ [some (.lst ds)]) ↔ D.unders S0.length ds = true ∧ q (.lst ds) S0 := by
  unfold fin
  rw [take_snoc]
  simp [hS]
theorem x_finB (hS : Sto.under S0.length S0 = true) {b : Bool} : fin S0.length q (.bl b) (S0 ++ T) ↔ q (.bl b) S0 := by
  unfold fin
  rw [take_snoc]
  simp [hS, D.under]
theorem x_finS (hS : Sto.under S0.length S0 = true) {x : Str} : fin S0.length q (.str x) (S0 ++ T) ↔ q (.str x) S0 := by
  unfold fin
  rw [take_snoc]
  simp [hS, D.under]
end
abbrev Pr := Int × Int
abbrev pD (p : Pr) : D := .tup [.int p.1, .int p.2]
abbrev pY (p : Pr) : PyData := .tuple [.int p.1, .int p.2]
theorem toPys_pr : ∀ P : List Pr, toPys (P.map pD) = some (P.map pY)
  | [] => by simp [toPys]
  | p :: P => by simp [toPys, toPy, toPys_pr P]
theorem toPy_pr (P : List Pr) : toPy (.lst (P.map pD)) = some (.list (P.map pY)) := by rw [toPy, toPys_pr]; rfl
theorem can_pr : ∀ P : List Pr, PyData.canLayAll0 (P.map pY) = true
  | [] => by simp [PyData.canLayAll0]
  | p :: P => by simp [PyData.canLayAll0, PyData.canLay0, can_pr P]
theorem dep_pr : ∀ P : List Pr, PyData.depthAll (P.map pY) ≤ 1
  | [] => by simp [PyData.depthAll]
  | p :: P => by
    have := dep_pr P
    simp [PyData.depthAll, PyData.depth]
    omega
theorem sh_pr (P : List Pr) : SeqAt.shaped (.list (P.map pY)) = true := by
  have := dep_pr P
  simp [SeqAt.shaped, PyData.canLay0, PyData.depth, can_pr]
  omega
theorem eqv_pr : ∀ P R : List Pr, PyData.eqvAll (P.map pY) (R.map pY) = decide (P = R)
  | [], [] => by simp [PyData.eqvAll]
  | [], m :: ms => by simp [PyData.eqvAll]
  | n :: ns, [] => by simp [PyData.eqvAll]
  | n :: ns, m :: ms => by
    obtain ⟨a, b⟩ := n
    obtain ⟨c, d⟩ := m
    simp only [List.map_cons, PyData.eqvAll, PyData.eqv, eqv_pr ns ms, List.cons.injEq, Prod.mk.injEq, Bool.and_true]
    rw [show (a == c) = decide (a = c) from rfl, show (b == d) = decide (b = d) from rfl, ← Bool.decide_and, ← Bool.decide_and]
section
variable {S S0 : Sto} {q : D → Sto → Prop} {P R : List Pr}
theorem x_nePr : aNe (.lst (P.map pD)) (.lst (R.map pD)) S q ↔ q (.bl (decide (P ≠ R))) S := by
  rw [x_ne (p := .list (P.map pY)) (p' := .list (R.map pY)) (show toPyS S (.lst (P.map pD)) = _ from toPy_pr P) (show toPyS S (.lst (R.map pD)) = _ from toPy_pr R)]
  simp only [sh_pr, true_and, PyData.eqv, eqv_pr, ← decide_not, ne_eq]
theorem x_eqPr : aEq (.lst (P.map pD)) (.lst (R.map pD)) S q ↔ q (.bl (decide (P = R))) S := by
  rw [x_eq (p := .list (P.map pY)) (p' := .list (R.map pY)) (show toPyS S (.lst (P.map pD)) = _ from toPy_pr P) (show toPyS S (.lst (R.map pD)) = _ from toPy_pr R)]
  simp only [sh_pr, true_and, PyData.eqv, eqv_pr]
theorem x_neE : aNe (.loc S0.length) (.lst []) (S0 ++ [some (.lst (P.map pD))]) q ↔ q (.bl (decide (P ≠ []))) (S0 ++ [some (.lst (P.map pD))]) := by
  rw [x_ne (p := .list (P.map pY)) (p' := .list (([] : List Pr).map pY)) (by simp [toPyS, toPys_pr]) (by simp [toPyS, toPy, toPys])]
  simp only [sh_pr, true_and, PyData.eqv, eqv_pr, ← decide_not, ne_eq]
end
/-- a comprehension over a list known as a map -/
theorem lc_on {A : Type} {F : A → D} (g1 : A → Option D) {L : List A} {S : Sto} {chk : Sto → Prop} {ρ : Env_} {t : Tgt} {gt : G Bool} {ge : G D} {vs : List Nat} {fz : Bool} {q : D → Sto → Prop} (hchk : chk S) (hlen : L.length ≤ sizeLine)
    (step : ∀ x ∈ L, ∀ (acc : List D) (R : List D → Sto → Prop), acc.length < sizeLine → R (acc ++ (g1 x).toList) S →
      ∃ ρ', t.bind (F x) (wipeD ρ vs) = some ρ' ∧ gt ρ' S fun b S2 => if b = true then ge ρ' S2 fun y S3 => acc.length < sizeLine ∧ R (acc ++ [y]) S3 else R acc S2)
    (h : newL fz (L.filterMap g1) S q) : aLc fz t gt ge vs ρ (L.map F) chk S q := by
  refine ⟨fun i acc S' => S' = S ∧ acc = (L.take i).filterMap g1, ⟨rfl, by simp⟩, ?_, ?_⟩
  · rintro i d acc S' hd ⟨rfl, rfl⟩
    rw [List.getElem?_map] at hd
    obtain ⟨x, hx, rfl⟩ := Option.map_eq_some_iff.mp hd
    have hi : i < L.length := (List.getElem?_eq_some_iff.mp hx).1
    have htake : L.take (i + 1) = L.take i ++ [x] := by rw [List.take_add_one, hx]; rfl
    refine ⟨hchk, step x (List.mem_of_getElem? hx) _ (fun acc S'' => S'' = S' ∧ acc = (L.take (i + 1)).filterMap g1) ?_ ⟨rfl, ?_⟩⟩
    · have := List.length_filterMap_le g1 (L.take i)
      rw [List.length_take] at this
      omega
    · rw [htake, List.filterMap_append, List.filterMap_cons]
      cases g1 x <;> simp
  · rintro acc S' ⟨rfl, rfl⟩
    rw [List.length_map, List.take_length]
    exact ⟨hchk, h⟩
theorem fm_some {A B : Type} {g : A → B} {L : List A} : L.filterMap (fun a => some (g a)) = L.map g := by rw [List.filterMap_eq_map']
theorem fm_none {A B : Type} {L : List A} : L.filterMap (fun _ : A => (none : Option B)) = [] := by simp
theorem x_b2 {ρ : Env_} {i j : Nat} {d e : D} : Tgt.bind (.tp [.nm i, .nm j]) (.tup [d, e]) ρ = some ((ρ.set i (some d)).set j (some e)) := by
  rw [x_btp, x_bc, x_bnm]
  show Tgt.binds [.nm j] [e] _ = _
  rw [x_bc, x_bnm]
  show Tgt.binds [] [] _ = _
  rw [x_bn]
theorem x_addLL {fz : Bool} {S : Sto} {q : D → Sto → Prop} {xs ys : List D} : aAdd fz (.lst xs) (.lst ys) S q ↔ xs.length + ys.length ≤ sizeLine ∧ newL fz (xs ++ ys) S q := by
  constructor
  · rintro ⟨_, _, e1, e2, h⟩; cases e1; cases e2; exact h
  · exact fun h => ⟨xs, ys, rfl, rfl, h⟩
end Dl
namespace Dl
open PySem L2 PyProof.Rows
theorem roomCaller {k : Nat} (h : Room k callerA) : RoomG k callerA := ⟨h, rfl⟩
section
variable {P : Program} {w : World} {K : PySem.W.Frag} {mg mb : Str → Option Value} {CX : CXT} {k : Nat} {fa a : Addr} {fd : FuncData} {x : Str} {sp : Sp} {s : Shared} {vs : List Value} {ns : List Int}
/-- the call of the law over an abstract heap that tracks at most the script -/
theorem law_over {H : Hp} (KX : K.In s.heap) (gl : s.heap.Ns mainGlobals mg) (bl : s.heap.Ns builtinsNs mb) (bb : ∀ y : Str, y ≠ "__name__" → mb y = bootBuiltins y) (lim : s.heap.NoLimit) (g0 : s.gens = #[])
    (ha : s.heap.get? a = some { cls := .type "list", data := .seq vs.toArray }) (room : Room k callerA) (F : ∀ base : Heap, K.In base → base.Ns mainGlobals mg → FnG P w K mg base CX k fa fd [x] sp) (bind : ∀ (s' : Shared) (u : Value), BindsTo s' fd ⟨[u], []⟩ [(x, u)])
    (hsp : sp [.ref a] H (fun v _ => v = .bl true) fun _ _ _ => False) (out : ∀ e s', CX [] H s (fun _ _ _ => False) e s' → False) (only : Only H) (ok : HOk P w H s.heap) (at_a : ∀ b, H b ≠ none → b = a) (own : H a ≠ none → K.lookup a = none) :
    codeAny (model P w) callerA (.call (.ref fa) ⟨[.ref a], []⟩) (fun r s' => r = .ok (.ret (.bool true)) ∧ OldK s.heap s'.heap ∧ s'.os = s.os ∧ AllBare s'.gens) s := by
  have free : ∀ {b : Addr} {o : Obj}, s.heap.get? b = some o → (∀ t, o ≠ { cls := .type "list", data := .seq t }) → H b = none := fun {b o} e n => by
    by_cases z : H b = none
    · exact z
    · rw [at_a b z, ha] at e
      exact absurd (Option.some.inj e).symm (n _)
  have ns_of : ∀ {b : Addr} {m : Str → Option Value}, s.heap.Ns b m → (hidT s.heap H).Ns b m := by
    rintro b m ⟨o, es, ep, e, d, r⟩
    refine ⟨o, es, ep, hidT_get e (free e fun t z => ?_), d, r⟩
    rw [z] at d
    cases d
  have kin : K.In (hidT s.heap H) := fun b o e => hidT_get (KX b o e) (by
    by_cases z : H b = none
    · exact z
    · have eb := at_a b z
      subst eb
      rw [own z] at e
      cases e)
  have lim' : (hidT s.heap H).NoLimit := by
    obtain ⟨mc, h1, h2⟩ := lim
    exact ⟨mc, ns_of h1, h2⟩
  have env : Env0 P w K mg (hidT s.heap H) callerA [] s H := {
    frames := rfl
    mod := ⟨kin, ns_of gl, ⟨mb, ns_of bl, bb⟩, lim'⟩
    bs := fun b o e => of_hidT e
    bsz := Nat.le_of_eq (hidT_size _ _)
    funs := trivial
    frf := fun b hb => by simp [frs] at hb
    hok := ok
    bare := .of_eq g0 }
  have run := (F _ kin (ns_of gl)).run callerA [] s H ⟨[.ref a], []⟩ [.ref a] [.ref a] _ _ (roomCaller room) env (bind s (.ref a)) (.cons rfl .nil) hsp
  refine codeAny_mono run fun r s' h => ?_
  match r, h with
  | .error e, h => exact (out e s' h).elim
  | .ok .next, h => exact h.elim
  | .ok .brk, h => exact h.elim
  | .ok .cont, h => exact h.elim
  | .ok (.ret u), ⟨v, H', os, bare, un, ok', rv, q⟩ =>
    have ev : v = .bl true := q
    subst ev
    have eu : u = Value.bool true := rv
    subst eu
    refine ⟨rfl, OldK.of_keep fun b o e => ?_, os, bare⟩
    rcases only b with z | ⟨ob, xs, z⟩
    · exact un.keep b o e z (by simp [frs]) (by simp)
    · obtain ⟨e1, _⟩ := ok b _ z
      obtain ⟨e2, _⟩ := ok' b _ (un.frzs b ob _ z)
      rw [e1] at e
      rw [e2, e]
theorem law_callG (KX : K.In s.heap) (gl : s.heap.Ns mainGlobals mg) (bl : s.heap.Ns builtinsNs mb) (bb : ∀ y : Str, y ≠ "__name__" → mb y = bootBuiltins y) (lim : s.heap.NoLimit) (g0 : s.gens = #[])
    (ha : s.heap.get? a = some { cls := .type "list", data := .seq vs.toArray }) (hi : IntsAre vs ns) (hl : ns.length ≤ sizeLine) (room : Room k callerA) (F : ∀ base : Heap, K.In base → base.Ns mainGlobals mg → FnG P w K mg base CX k fa fd [x] sp)
    (bind : ∀ (s' : Shared) (u : Value), BindsTo s' fd ⟨[u], []⟩ [(x, u)]) (hsp : ∀ H : Hp, Only H → SqL K H a (ns.map V.int) → sp [.ref a] H (fun v _ => v = .bl true) fun _ _ _ => False) (out : ∀ H e s', CX [] H s (fun _ _ _ => False) e s' → False) :
    codeAny (model P w) callerA (.call (.ref fa) ⟨[.ref a], []⟩) (fun r s' => r = .ok (.ret (.bool true)) ∧ OldK s.heap s'.heap ∧ s'.os = s.os ∧ AllBare s'.gens) s := by
  have rv := vals_ints hi
  have go := fun (H : Hp) (o : Only H) (q : SqL K H a (ns.map V.int)) => law_over (H := H) KX gl bl bb lim g0 ha room F bind (hsp H o q) (out H) o
  by_cases kn : K.lookup a = none
  · let Ha : Hp := fun b => if b = a then some (.frz { cls := .type "list", data := .seq vs.toArray } (.lst (ns.map V.int))) else none
    have h1 : Ha a = some (.frz { cls := .type "list", data := .seq vs.toArray } (.lst (ns.map V.int))) := if_pos rfl
    have h2 : ∀ b, b ≠ a → Ha b = none := fun b hb => if_neg hb
    refine go Ha (fun b => ?_) (.inl (.inr ⟨_, h1⟩)) (fun b u z => ?_) (fun b z => ?_) fun _ => kn
    · by_cases hb : b = a
      · rw [hb]; exact .inr ⟨_, _, h1⟩
      · exact .inl (h2 b hb)
    · by_cases hb : b = a
      · subst hb
        rw [h1] at z
        cases z
        exact ⟨ha, by rw [List.length_map]; exact hl, vs, _, rv, ha⟩
      · rw [h2 b hb] at z; cases z
    · by_cases hb : b = a
      · exact hb
      · exact absurd (h2 b hb) z
  · obtain ⟨o, hk⟩ := Option.ne_none_iff_exists'.mp kn
    have e := KX a o hk
    rw [ha] at e
    cases e
    refine go (fun _ => none) (fun _ => .inl rfl) (.inr ⟨_, vs.toArray, _, hk, rfl, rfl, rfl, ?_, ?_⟩) (fun b u z => by cases z) (fun b z => absurd rfl z) fun z => absurd rfl z
    · rw [List.size_toArray, hi.length]; exact hl
    · simpa using rv
end
end Dl
namespace Dl
open PySem L2
/-- a depth that fits -/
def rRepr (K : PySem.W.Frag) : List V → Hp → VK → Prop := fun vs H Q => ∃ (x : V) (p : PyData), vs = [x] ∧ Dp K H x p ∧ p.showable = true ∧ p.hasDict = false ∧ p.depth ≤ 60 ∧ p.shown.length ≤ sizeLine ∧ Q (.str p.shown) H
theorem cr_repr {X : Cx} {k : Nat} (hr : RoomG k X.A) : CallR X (.builtin "repr") (rRepr X.K) := by
  intro pins s σ H vs us Q I r h
  obtain ⟨x, p, rfl, hp, hs, hd, hdep, hz, q⟩ := h
  obtain ⟨u, rfl, ru⟩ := vals1 r
  have un := hr.units
  cases hp with
  | non =>
    obtain rfl : u = Value.none := ru
    rw [PyData.shown] at q
    exact PySem.P.repr_of_none ⟨.str _, H, I.tok _, ⟨_, rfl⟩, q⟩
  | bl b =>
    obtain rfl : u = Value.bool b := ru
    rw [PyData.shown] at q
    exact PySem.P.repr_of_bool ⟨.str _, H, I.tok _, ⟨_, rfl⟩, q⟩
  | int i =>
    obtain ⟨t, rfl⟩ := ru
    rw [PyData.shown] at q
    rw [PyData.showable, decide_eq_true_eq] at hs
    exact PySem.P.repr_of_int hs ⟨.str _, H, I.tok _, ⟨_, rfl⟩, q⟩
  | str z =>
    obtain ⟨t, rfl⟩ := ru
    rw [PyData.shown] at q hz
    exact PySem.P.repr_of_str ⟨.str _, H, I.tok _, ⟨_, rfl⟩, q⟩ hz
  | lst h1 h2 =>
    rename_i a xs ps
    obtain ⟨as, rd⟩ := Dp.reads I _ _ _ (Dp.lst h1 h2) ru
    obtain rfl : u = Value.ref a := ru
    exact PySem.repr_of_reads' rd hs (PySem.PyData.noDict_hsm hd) hr.gd (by omega) (fun _ _ e => e) (fun h' u tk hk => ⟨.str _, H, I.kept hk, ⟨_, rfl⟩, q⟩) hz
  | tup h1 h2 =>
    rename_i a xs ps
    obtain ⟨as, rd⟩ := Dp.reads I _ _ _ (Dp.tup h1 h2) ru
    obtain rfl : u = Value.ref a := ru
    exact PySem.repr_of_reads' rd hs (PySem.PyData.noDict_hsm hd) hr.gd (by omega) (fun _ _ e => e) (fun h' u tk hk => ⟨.str _, H, I.kept hk, ⟨_, rfl⟩, q⟩) hz
def aRepr : R1D := fun d S q => ∃ p, toPyS S d = some p ∧ p.showable = true ∧ p.hasDict = false ∧ p.depth ≤ 60 ∧ p.shown.length ≤ sizeLine ∧ q (.str p.shown) S
theorem vr_repr {K : PySem.W.Frag} : VRN K (rRepr K) (a1 aRepr) := vrn1 fun {_ m S Z H d v q Q} w r ⟨p, h1, h2, h3, h4, h5, h6⟩ k => ⟨v, p, rfl, dpS_of w r h1, h2, h3, h4, h5, k.now w rep_str h6⟩
theorem x_repr {S : Sto} {q : D → Sto → Prop} {d : D} {p : PyData} (h : toPyS S d = some p) : aRepr d S q ↔ p.showable = true ∧ p.hasDict = false ∧ p.depth ≤ 60 ∧ p.shown.length ≤ sizeLine ∧ q (.str p.shown) S := by
  unfold aRepr
  rw [h]
  constructor
  · rintro ⟨_, e, r⟩; cases e; exact r
  · exact fun r => ⟨_, rfl, r⟩
theorem piled_le {M : Nat} : ∀ {ts : List Str}, (∀ t ∈ ts, t.length ≤ M) → piled ts ≤ (M + 2) * ts.length
  | [], _ => Nat.zero_le _
  | t :: r, h => by
    have h1 := h t (List.mem_cons_self ..)
    have h2 := piled_le (M := M) (ts := r) fun u hu => h u (List.mem_cons_of_mem _ hu)
    rw [piled_cons, List.length_cons, Nat.mul_add]
    omega
theorem listText_le (ts : List Str) : (listText ts).length ≤ piled ts + 2 := by
  cases ts with
  | nil => exact Nat.le_of_eq rfl
  | cons t r =>
    have h := textFrom_length_pos r 1 (("[" : Str) ++ (if (0 : Nat) > 0 then ", " else "" : String) ++ t) (Nat.succ_pos 0)
    have e1 : (listText (t :: r)).length = (textFrom 1 (("[" : Str) ++ (if (0 : Nat) > 0 then ", " else "" : String) ++ t) r).length + 1 := strLen_append _ _
    have e2 : ((("[" : Str) ++ (if (0 : Nat) > 0 then ", " else "" : String) ++ t)).length = 1 + t.length := by
      rw [strLen_append, strLen_append]
      exact congrArg (· + t.length) (show 1 + 0 = 1 from rfl)
    rw [e1, h, e2, piled_cons]
    omega
theorem tupleText_le (ts : List Str) : (tupleText ts).length ≤ piled ts + 3 := by
  unfold tupleText
  rw [strLen_append, strLen_append]
  have e1 : ((("(" : String) : Str)).length = 1 := rfl
  have e2 : (((if ts.length == 1 then ",)" else ")" : String) : Str)).length ≤ 2 := by split <;> decide
  rw [e1]
  by_cases h : ts = []
  · subst h
    have : (Str.join ", " []).length = 0 := rfl
    rw [this, piled_nil]
    omega
  · have := join_length_add ts h
    omega
theorem shownAll_map : ∀ ps : List PyData, PyData.shownAll ps = ps.map PyData.shown
  | [] => by rw [PyData.shownAll]; rfl
  | p :: ps => by rw [PyData.shownAll, shownAll_map ps]; rfl
theorem shown_list {ps : List PyData} {M : Nat} (h : ∀ p ∈ ps, p.shown.length ≤ M) : (PyData.list ps).shown.length ≤ (M + 2) * ps.length + 2 := by
  rw [PyData.shown, shownAll_map]
  refine Nat.le_trans (listText_le _) (Nat.add_le_add_right ?_ 2)
  have := piled_le (M := M) (ts := ps.map PyData.shown) fun t ht => by
    obtain ⟨p, hp, rfl⟩ := List.mem_map.mp ht
    exact h p hp
  rwa [List.length_map] at this
theorem shown_tuple {ps : List PyData} {M : Nat} (h : ∀ p ∈ ps, p.shown.length ≤ M) : (PyData.tuple ps).shown.length ≤ (M + 2) * ps.length + 3 := by
  rw [PyData.shown, shownAll_map]
  refine Nat.le_trans (tupleText_le _) (Nat.add_le_add_right ?_ 3)
  have := piled_le (M := M) (ts := ps.map PyData.shown) fun t ht => by
    obtain ⟨p, hp, rfl⟩ := List.mem_map.mp ht
    exact h p hp
  rwa [List.length_map] at this
theorem shown_str {x : Str} {M : Nat} (h : PyData.strOk x = true) (hl : x.length ≤ M) : (PyData.str x).shown.length ≤ 10 * M + 2 := by
  rw [PyData.shown]
  refine Nat.le_trans (StrLaws.reprText_len x fun c hc => ?_) (by omega)
  unfold PyData.strOk at h
  rw [← Array.all_toList, List.all_eq_true] at h
  have h1 := h c hc
  simp only [decide_eq_true_eq] at h1
  exact Nat.lt_of_lt_of_le h1 (by decide)
end Dl
namespace Dl
open PySem L2
def kget : List (Str × Str) → Str → D
  | [], _ => .non
  | p :: r, z => if z = p.1 then .str p.2 else kget r z
def aKGet (a : Addr) (kvs : List (Str × Str)) : D → RND := fun o as S q => ∃ z, o = .ref a ∧ as = [.str z] ∧ q (kget kvs z) S
def gKGet (a : Addr) (kvs : List (Str × Str)) (gs : G (List D)) : G D := fun ρ S q => gs ρ S fun as S1 => aKGet a kvs (.ref a) as S1 q
theorem x_kget {a : Addr} {kvs : List (Str × Str)} {z : Str} {S : Sto} {q : D → Sto → Prop} : aKGet a kvs (.ref a) [.str z] S q ↔ q (kget kvs z) S := ⟨fun ⟨_, _, e, h⟩ => by cases e; exact h, fun h => ⟨z, rfl, rfl, h⟩⟩
def aEqS : R2D := fun a b S q => ∃ x y, a = .str x ∧ b = .str y ∧ q (.bl (decide (x = y))) S
def aNeS : R2D := fun a b S q => ∃ x y, a = .str x ∧ b = .str y ∧ q (.bl (decide (x ≠ y))) S
theorem dec_str {x y : Str} : decide (V.str x = V.str y) = decide (x = y) := decide_eq_decide.mpr ⟨fun h => V.str.inj h, fun h => by rw [h]⟩
theorem vr_eqSS {K : PySem.W.Frag} : VR2 K L2.rEq aEqS := fun {_ m S Z H a b v u q Q} w r1 r2 ⟨x, y, e1, e2, h⟩ k => by
  subst e1 e2
  rw [Rep] at r1 r2
  subst r1 r2
  exact ⟨rfl, by rw [dec_str]; exact k.now w rep_bl h⟩
theorem vr_neSS {K : PySem.W.Frag} : VR2 K L2.rNe aNeS := fun {_ m S Z H a b v u q Q} w r1 r2 ⟨x, y, e1, e2, h⟩ k => by
  subst e1 e2
  rw [Rep] at r1 r2
  subst r1 r2
  refine ⟨rfl, ?_⟩
  have e : (!decide (V.str x = V.str y)) = decide (x ≠ y) := by rw [dec_str, decide_not]
  first
    | (rw [e]; exact k.now w rep_bl h)
    | (rw [decide_not, dec_str, ← decide_not]; exact k.now w rep_bl h)
theorem x_eqSS {x y : Str} {S : Sto} {q : D → Sto → Prop} : aEqS (.str x) (.str y) S q ↔ q (.bl (decide (x = y))) S := ⟨fun ⟨_, _, e1, e2, h⟩ => by cases e1; cases e2; exact h, fun h => ⟨_, _, rfl, rfl, h⟩⟩
theorem x_neSS {x y : Str} {S : Sto} {q : D → Sto → Prop} : aNeS (.str x) (.str y) S q ↔ q (.bl (decide (x ≠ y))) S := ⟨fun ⟨_, _, e1, e2, h⟩ => by cases e1; cases e2; exact h, fun h => ⟨_, _, rfl, rfl, h⟩⟩
end Dl
namespace Dl
open PySem L2 PyProof.Rows
def toKey : D → Option Key
  | .int i => some (.inl i)
  | .str x => some (.inr x)
  | _ => none
def kD : Key → D
  | .inl i => .int i
  | .inr x => .str x
/-- keys and values, one put -/
def kput (k : Key) (ks : List Key) : List Key := if (ks.any fun j => decide (j = k)) = true then ks else ks ++ [k]
def dput {A : Type} (k : Key) (y : A) (ks : List Key) (ds : List A) : List A := if (ks.any fun j => decide (j = k)) = true then List.zipWith (fun j d => if j = k then y else d) ks ds else ds ++ [y]
def dget {A : Type} (k : Key) (ks : List Key) (ds : List A) : Option A := ((ks.zip ds).find? fun kv => decide (kv.1 = k)).map (·.2)
def dicOf (S : Sto) : D → Option (List Key × List D)
  | .dic ks ds => some (ks, ds)
  | .loc n => match S[n]? with
    | some (some (.dic ks ds)) => some (ks, ds)
    | _ => none
  | _ => none
section
variable {X : Cx} {pos p' : Pos} {U : Wi}
/-- {} -/
def gDNew (fz : Bool) : G D := fun _ S q => if fz = true then q (.dic [] []) S else q (.loc S.length) (S ++ [some (.dic [] [])])
/-- o[k] = v -/
def gDSet (go gi gv : G D) : GS := fun E ρ S => gv ρ S fun y S1 => go ρ S1 fun o S2 => gi ρ S2 fun x S3 => ∃ n ks ds k, o = .loc n ∧ S3[n]? = some (some (.dic ks ds)) ∧ toKey x = some k ∧ ks.length < sizeLine ∧ E.nx ρ (S3.set n (some (.dic (kput k ks) (dput k y ks ds))))
end
section
open PyProof.Rows
variable {X : Cx} {e : Expr} {te : TE} {p apos cpos pos : Pos} {U : Wi}
/-- sorted(o.items()) -/
def gSItems (go : G D) : G D := fun ρ S q => go ρ S fun o S1 => ∃ ks ds, dicOf S1 o = some (ks, ds) ∧ aSorted true (.lst (List.zipWith (fun k d => D.tup [kD k, d]) ks ds)) S1 q
end
/-- max(xs, default=d), min(..) -/
def aMMDef (b : Bool) : D → D → Sto → (D → Sto → Prop) → Prop := fun o d S q => ∃ ds ps, seqOf S o = some ds ∧ o.isTup = false ∧ toPys ds = some ps ∧ PySem.W.AlikeAll ps ∧ PyData.depthAll ps ≤ 60 ∧ (ds = [] → q d S) ∧
  ∀ (y : PyData) (ys : List PyData) (i : Nat) (x : D), ps = y :: ys → ds[i]? = some x → ps[i]? = some (if b = true then PySem.W.maxD y ys else PySem.W.minD y ys) → q x S
def gMMDef (b : Bool) (ga gk : G (List D)) : G D := fun ρ S q => ga ρ S fun as S1 => gk ρ S1 fun ks S2 => ∃ o d, as = [o] ∧ ks = [d] ∧ aMMDef b o d S2 q
def gAsgL (ts : List Tgt) (ge : G D) : GS := fun E ρ S => ge ρ S fun d S1 => ∃ ds ρ', seqOf S1 d = some ds ∧ d.isTup = false ∧ Tgt.binds ts ds ρ = some ρ' ∧ E.nx ρ' S1
theorem x_b3 {ρ : Env_} {i j l : Nat} {d e f : D} : Tgt.bind (.tp [.nm i, .nm j, .nm l]) (.tup [d, e, f]) ρ = some (((ρ.set i (some d)).set j (some e)).set l (some f)) := by
  simp [Tgt.bind, Tgt.binds]
section
variable {X : Cx} {ρ : Env_} {S : Sto} {q : D → Sto → Prop}
theorem x_dnT : gDNew true ρ S q ↔ q (.dic [] []) S := by simp [gDNew]
theorem x_dnF : gDNew false ρ S q ↔ q (.loc S.length) (S ++ [some (.dic [] [])]) := by simp [gDNew]
end
end Dl
namespace Dl
open PySem L2
end Dl
namespace Dl
open PySem L2
/-- a comprehension with an invariant over the store, its results known by a relation -/
theorem lc_inv {ds : List D} {S : Sto} {chk : Sto → Prop} {ρ : Env_} {t : Tgt} {gt : G Bool} {ge : G D} {vs : List Nat} {fz : Bool} {q : D → Sto → Prop} (I : Nat → List D → Sto → Prop) (h0 : I 0 [] S)
    (step : ∀ i d acc S, ds[i]? = some d → I i acc S → chk S ∧ ∃ ρ', t.bind d (wipeD ρ vs) = some ρ' ∧ gt ρ' S fun b S2 => if b = true then ge ρ' S2 fun y S3 => acc.length < sizeLine ∧ I (i + 1) (acc ++ [y]) S3 else I (i + 1) acc S2)
    (h : ∀ acc S, I ds.length acc S → chk S ∧ newL fz acc S q) : aLc fz t gt ge vs ρ ds chk S q := ⟨I, h0, step, h⟩
theorem cut_to {x : Str} (k : Int) (j : Nat) (hk : k = (j : Int)) : (cutS x none (some k)).cps.toList = x.cps.toList.take j := by
  subst hk
  have hl : x.cps.toList.length = x.length := Array.length_toList
  unfold cutS
  rw [List.toList_toArray, HT.sIx_nat, HT.sIx_none, List.drop_zero, Nat.sub_zero]
  by_cases h : j ≤ x.length
  · rw [Nat.min_eq_left h]
  · rw [Nat.min_eq_right (by omega), List.take_of_length_le (by omega), List.take_of_length_le (by omega)]
end Dl
namespace Dl
open PySem L2
theorem cutD_from {ds : List D} (k : Int) (i : Nat) (hk : k = (i : Int)) : cutD ds (some k) none = ds.drop i := by
  subst hk
  unfold cutD
  rw [HT.sIx_nat, HT.sIx_none]
  by_cases h : i ≤ ds.length
  · rw [Nat.min_eq_left h, List.take_of_length_le (by rw [List.length_drop]; omega)]
  · rw [Nat.min_eq_right (by omega), List.drop_eq_nil_of_le (by omega), List.drop_eq_nil_of_le (by omega)]; simp
theorem cutD_to {ds : List D} (k : Int) (j : Nat) (hk : k = (j : Int)) : cutD ds none (some k) = ds.take j := by
  subst hk
  unfold cutD
  rw [HT.sIx_nat, HT.sIx_none, List.drop_zero, Nat.sub_zero]
  by_cases h : j ≤ ds.length
  · rw [Nat.min_eq_left h]
  · rw [Nat.min_eq_right (by omega), List.take_of_length_le (by omega), List.take_of_length_le (by omega)]
/-- a loop over data told by a list -/
theorem for_on {A : Type} {F : A → D} {L : List A} {t : Tgt} {gb : GS} {E : DE} {ρ : Env_} {S : Sto} {chk : Sto → Prop} (I : Nat → Env_ → Sto → Prop) (h0 : I 0 ρ S)
    (step : ∀ i x ρ S, L[i]? = some x → I i ρ S → chk S ∧ ∃ ρ', t.bind (F x) ρ = some ρ' ∧ gb { nx := I (i + 1), rt := E.rt, ct := I (i + 1), bk := E.nx } ρ' S) (h : ∀ ρ S, I L.length ρ S → chk S ∧ E.nx ρ S) : aFor t gb E ρ (L.map F) chk S := by
  refine ⟨I, h0, fun i d ρ S hd hi => ?_, by rw [List.length_map]; exact h⟩
  rw [List.getElem?_map] at hd
  obtain ⟨x, hx, rfl⟩ := Option.map_eq_some_iff.mp hd
  exact step i x ρ S hx hi
end Dl
namespace Dl
open PySem L2 PySem.Spec PyProof.Rows
def rNil (neg : Bool) : R2 := fun x y H Q => ∃ (a b : Addr) (vs : List V), x = .ref a ∧ y = .ref b ∧ H a = some (.lst vs) ∧ H b = some (.lst []) ∧ Q (.bl (xor neg vs.isEmpty)) H
theorem or_eqNil {X : Cx} {k : Nat} (hr : RoomG k X.A) : OpR X (compareOp .Eq) (rNil false) := by
  intro pins s σ H x y v u Q I rx ry ⟨a, b, vs, ex, ey, h1, h2, q⟩
  subst ex ey
  cases rx
  cases ry
  show wpAny (model X.prog X.w) X.A (richCompare .Eq (.ref a) (.ref b)) (EP X pins σ Q) X.xe s
  obtain ⟨z1, its, n, rv, ra, hla⟩ := I.lstM h1
  obtain ⟨z2, its2, n2, rv2, rb, hlb⟩ := I.lstM h2
  cases rv2
  cases vs with
  | nil =>
    cases rv
    exact GB.rc_eqB (N := 0) (rs := fun _ => true) (out := true) hr.units0 (fun _ => rfl) (fun j hj => by omega) (fun _ s' => s' = s) (fun i s' e => by subst e; exact ⟨#[], #[], n, n2, hla, hlb, rfl, rfl, fun h => by simp at h⟩) (fun _ s' e => by subst e; exact ⟨.bl true, H, I, rfl, q⟩) rfl
  | cons w vs =>
    refine GB.rc_eqD hr.units0 hla hlb ?_ ⟨.bl false, H, I, rfl, q⟩
    rw [List.size_toArray, ← rv.length]; simp
theorem or_neNil {X : Cx} {k : Nat} (hr : RoomG k X.A) : OpR X (compareOp .NotEq) (rNil true) := by
  intro pins s σ H x y v u Q I rx ry ⟨a, b, vs, ex, ey, h1, h2, q⟩
  subst ex ey
  cases rx
  cases ry
  show wpAny (model X.prog X.w) X.A (richCompare .NotEq (.ref a) (.ref b)) (EP X pins σ Q) X.xe s
  obtain ⟨z1, its, n, rv, ra, hla⟩ := I.lstM h1
  obtain ⟨z2, its2, n2, rv2, rb, hlb⟩ := I.lstM h2
  cases rv2
  cases vs with
  | nil =>
    cases rv
    exact GB.rc_neB (N := 0) (rs := fun _ => true) (out := false) hr.units0 (fun _ => rfl) (fun j hj => by omega) (fun _ s' => s' = s) (fun i s' e => by subst e; exact ⟨#[], #[], n, n2, hla, hlb, rfl, rfl, fun h => by simp at h⟩) (fun _ s' e => by subst e; exact ⟨.bl false, H, I, rfl, q⟩) rfl
  | cons w vs =>
    refine GB.rc_neD hr.units0 hla hlb ?_ ⟨.bl true, H, I, rfl, q⟩
    rw [List.size_toArray, ← rv.length]; simp
def aNil (neg : Bool) : R2D := fun x y S q => ∃ ds, lstOf S x = some ds ∧ y = .lst [] ∧ q (.bl (xor neg ds.isEmpty)) S
theorem vr_nil {K : PySem.W.Frag} {neg : Bool} : VR2 K (rNil neg) (aNil neg) := fun {_ m S Z H a b v u q Q} w r1 r2 ⟨ds, h1, h2, h3⟩ kk => by
  subst h2
  obtain ⟨a1, vs, e1, hh1, q1⟩ := lstOf_rep w r1 h1
  obtain ⟨b1, us, e2, hh2, q2⟩ := lstOf_rep w r2 rfl
  rw [Reps] at q2
  subst q2
  refine ⟨a1, b1, vs, e1, e2, hh1, hh2, kk.now w ?_ h3⟩
  have : vs.isEmpty = ds.isEmpty := by
    have := Reps.len q1
    cases vs <;> cases ds <;> simp at this ⊢
  rw [this]
  exact rep_bl
section
variable {S : Sto} {q : D → Sto → Prop} {ds : List D}
theorem x_nilL {neg : Bool} : aNil neg (.lst ds) (.lst []) S q ↔ q (.bl (xor neg ds.isEmpty)) S := ⟨fun ⟨_, e, _, h⟩ => by cases e; exact h, fun h => ⟨ds, rfl, rfl, h⟩⟩
theorem x_nilE {neg : Bool} : aNil neg (.loc S.length) (.lst []) (S ++ [some (.lst ds)]) q ↔ q (.bl (xor neg ds.isEmpty)) (S ++ [some (.lst ds)]) := by
  have e0 : lstOf (S ++ [some (.lst ds)]) (.loc S.length) = some ds := by simp [lstOf]
  exact ⟨fun ⟨_, e, _, h⟩ => by rw [e0] at e; cases e; exact h, fun h => ⟨ds, e0, rfl, h⟩⟩
end
end Dl
namespace Dl
open PySem L2 PySem.SeqAt PyProof.Rows PySem.Spec
/-- things in a list or a tuple -/
def inP (p : PyData) (ps : List PyData) : Bool := ps.any fun z => PyData.eqv z p
def hasT (x y : Str) : Bool := !(Builtin.Str.occurrences y x 0 y.length 1).isEmpty
def aInX (neg : Bool) : R2D := fun a b S q => (∃ (c : Nat) (z : Str), a = .str ⟨#[c]⟩ ∧ b = .str z ∧ q (.bl (neg ^^ decide (c ∈ z.cps.toList))) S) ∨ (∃ x y, a = .str x ∧ b = .str y ∧ x.length ≠ 1 ∧ q (.bl (neg ^^ hasT x y)) S) ∨
  ∃ p ps, toPyS S a = some p ∧ (toPyS S b = some (.list ps) ∨ toPyS S b = some (.tuple ps)) ∧ SeqAt.shaped p = true ∧ SeqAt.shaped (.list ps) = true ∧ q (.bl (neg ^^ inP p ps)) S
section
variable {S : Sto} {q : D → Sto → Prop} {neg : Bool}
/-- a sign in a text -/
theorem x_inX1 {c : Nat} {y : Str} (h : q (.bl (neg ^^ decide (c ∈ y.cps.toList))) S) : aInX neg (.str ⟨#[c]⟩) (.str y) S q := .inl ⟨c, y, rfl, rfl, h⟩
theorem x_inXs {c : Nat} {y : Str} : aInX neg (.str ⟨#[c]⟩) (.str y) S q ↔ q (.bl (neg ^^ decide (c ∈ y.cps.toList))) S := by
  constructor
  · rintro (⟨c', z, e1, e2, h⟩ | ⟨x, y, e1, e2, hl, h⟩ | ⟨p, ps, h1, h2 | h2, _⟩)
    · cases e1; cases e2; exact h
    · cases e1; exact absurd rfl hl
    · simp [toPyS, toPy] at h2
    · simp [toPyS, toPy] at h2
  · exact x_inX1
end
end Dl
namespace Dx
open PySem PySem.W PySem.Calls PyProof.Rows PySem.HandSPX
section
open Builtin Builtin.ObjectAttr
variable {prog : Program} {w : World} {A : Around} {R : Result → Shared → Prop} {hp : Heap} {g : Array GenState} {d : Drawn} {t : Nat} {os : OsState} {K : W.Frag} {f : Str} {tk : Tok} {v : Value} {x C : Addr} {fv : Array Value} {cd : ClassData}
/-- what a class must bear so that a field of its instance can be stored -/
structure Sto (K : W.Frag) (C : Addr) (cd : ClassData) : Prop where
  cls : W.clsIn K C = some cd
  ne : cd.mro.isEmpty = false
  ob : cd.mro.contains (.type "object") = true
  pass : ∀ self, refuseLoop self "__setattr__" cd.mro = pure ()
  dct : cd.hasDict = true
theorem sto_at {ox : Obj} {od : Option Obj} (inK : K.In hp) (at_ : W.InstAt hp x ox C od) (S : Sto K C cd) (no : W.findIn K (.ref C) f = some none)
    (go : wpAny (model prog w) A.in1 (storeInOwnDict (.ref x) (.ref C) (.str f tk) f v false)
      (fun fin s' => match fin with | .done z => R (.ok z) s' | .again c' => c'.quiet = true ∧ codeAny (model prog w) A c' R s') (fun e s' => R (.error e) s') ⟨hp, g, d, t, os⟩) :
    codeAny (model prog w) A (.call (.builtin "object.__setattr__") ⟨[.ref x, .str f tk, v], []⟩) R ⟨hp, g, d, t, os⟩ := by
  have ty := at_.type (M := model prog w)
  have isO : W.Looks (model prog w) hp (isInstance (.ref x) (.type "object")) true := by
    refine ty.andThen (W.looks_mroIn inK ?_)
    unfold W.mroIn
    rw [S.cls, Option.bind_some, if_neg (by rw [S.ne]; decide), S.ob]
  have mroL : W.Looks (model prog w) hp (mroOf (.ref C)) cd.mro := (W.looks_clsIn inK S.cls).andThen .now
  have taker : W.Looks (model prog w) hp (storeTaker? none) none := .now
  let SO := F.store_object
  refine codeAny_call_builtin SO.slot.plain SO.entry (@W.check_slot (model prog w) _ _ ⟨hp, g, d, t, os⟩ _ "object" _ (.ref x) [.str f tk, v] [] _ SO.kind SO.split isO (SO.args _ _ _) ?_)
  rw [W.osa_eq, refuse_eq]
  refine wpAny_bind (wpAny_bind (ty.at (wpAny_bind (mroL.at ?_))))
  rw [S.pass]
  exact wpAny_pure (wpAny_bind (ty.at (wpAny_bind ((W.looks_findIn inK no).at (wpAny_bind (taker.at go))))))
theorem sto_new (inK : K.In hp) (ho : hp.get? x = some { cls := .ref C, data := .fields fv }) (S : Sto K C cd) (no : W.findIn K (.ref C) f = some none)
    (q : ∀ h' tk' dx, (∀ b o, b ≠ x → hp.get? b = some o → h'.get? b = some o) → hp.objs.size ≤ dx → dx ≠ x → h'.get? x = some { cls := .ref C, dict := some dx, data := .fields fv } → h'.Ns1 dx (fun y => if y = f then some v else none) →
      R (.ok (.ret .none)) ⟨h', g, d, tk', os⟩) :
    codeAny (model prog w) A (.call (.builtin "object.__setattr__") ⟨[.ref x, .str f tk, v], []⟩) R ⟨hp, g, d, t, os⟩ := by
  have apart : x ≠ hp.objs.size := Nat.ne_of_lt (Heap.lt_size ho)
  refine sto_at inK (ox := { cls := .ref C, data := .fields fv }) (od := none) ⟨ho, rfl, rfl, trivial⟩ S no ?_
  have data : W.Looks (model prog w) hp (classData C) cd := W.looks_clsIn inK S.cls
  obtain ⟨cl, ne, ob, pass, dct⟩ := S
  obtain ⟨c1, c2, c3, c4, c5, c6, c7, c8, c9, c10, c11⟩ := cd
  dsimp only at dct
  subst dct
  unfold storeInOwnDict ownDictForStores
  repeat (first | with_reducible refine HandSPX.store_in_new ?_ ?_ | with_reducible refine wpAny_loadPart_at ho ?_ | with_reducible refine data.at ?_ | wp_step)
  · exact ⟨_, #[], _, (Heap.get?_update_ne _ _ _ _ apart.symm).trans (Heap.get?_push_at rfl rfl), rfl, (fun e he => by simp at he), fun _ => rfl⟩
  · intro h' tk' ns same
    have old : (hp.push { cls := .type "dict", data := .dict #[] }).get? x = some { cls := .ref C, data := .fields fv } := Heap.get?_push_of_some _ ho
    refine q h' tk' hp.objs.size (fun b o hb e => ?_) (Nat.le_refl _) apart.symm ((same.2 x apart).trans (Heap.get?_update_self _ old rfl)) ns
    rw [same.2 b (Nat.ne_of_lt (Heap.lt_size e)), Heap.get?_update_ne _ _ _ _ hb]
    exact Heap.get?_push_of_some _ e
theorem sto_old {dx : Addr} {m0 : Str → Option Value} {nl : List Str} (inK : K.In hp) (ho : hp.get? x = some { cls := .ref C, dict := some dx, data := .fields fv }) (ns : hp.Ns1 dx m0) (hw : Within m0 nl) (few : nl.length ≤ 1000) (S : Sto K C cd) (no : W.findIn K (.ref C) f = some none)
    (q : ∀ h' tk', (∀ b o, b ≠ dx → hp.get? b = some o → h'.get? b = some o) → h'.Ns1 dx (fun y => if y = f then some v else m0 y) → R (.ok (.ret .none)) ⟨h', g, d, tk', os⟩) :
    codeAny (model prog w) A (.call (.builtin "object.__setattr__") ⟨[.ref x, .str f tk, v], []⟩) R ⟨hp, g, d, t, os⟩ := by
  obtain ⟨oD, _, _, hoD, _, _⟩ := ns.count hw
  refine sto_at inK (ox := { cls := .ref C, dict := some dx, data := .fields fv }) (od := some oD) ⟨ho, rfl, rfl, hoD⟩ S no ?_
  have data : W.Looks (model prog w) hp (classData C) cd := W.looks_clsIn inK S.cls
  obtain ⟨cl, ne, ob, pass, dct⟩ := S
  obtain ⟨c1, c2, c3, c4, c5, c6, c7, c8, c9, c10, c11⟩ := cd
  dsimp only at dct
  subst dct
  unfold storeInOwnDict ownDictForStores
  repeat (first | with_reducible refine ESX.store_in_old ns hw few ?_ | with_reducible refine wpAny_loadPart_at ho ?_ | with_reducible refine data.at ?_ | wp_step)
  intro h' tk' ns' same
  exact q h' tk' (fun b o hb e => (same.2 b hb).trans e) ns'
end
end Dx
namespace PySem
namespace HandSPX
open Builtin Builtin.ObjectAttr
section
variable {prog : Program} {w : World} {A : Around} {E : Value → Shared → Prop} {R : Result → Shared → Prop} {h : Heap} {g : Array GenState} {d : Drawn} {t : Nat} {os : OsState}
variable {nm q : Str} {C N : Addr} {bs bm bmB : List Value} {hdct : Bool} {sn : List Str} {sub : List Value} {ab : Bool} {col : Option Bool} {dd : Option Addr} {k0 k1 k2 k3 k5 : Option Value} {B newId initId : String}
theorem new_kwU (F : ExcBaseFacts B newId initId bmB) (hB : bm.contains (.type B) = true) (hA : bm.contains (.type "AttributeError") = false) (hN : bm.contains (.type "NameError") = false) {rest : List Value} {kw : List (Str × Value)}
    (hC : h.get? C = some (excClassObj nm q C N bs bm hdct sn sub ab col dd k0 k1 k2 k3 k5 newId))
    (hq : R (.ok (.ret (.ref (h.objs.size + 1)))) ⟨(h.push { cls := .type "tuple", data := .seq rest.toArray }).push
      { cls := .ref C, data := .fields #[.ref h.objs.size, .none, .none, .none, .bool false, .none] }, g, d, t, os⟩) (hrest : rest.length ≤ sizeLine) :
    codeAny (model prog w) A (.builtin newId ⟨.ref C :: rest, kw⟩) R ⟨h, g, d, t, os⟩ := by
  have hends := F.ends
  have c1 : (Value.ref C :: bm).contains (.type B) = true := by rw [List.contains_cons, hB, Bool.or_true]
  have c2 : (Value.ref C :: bm).contains (.type "AttributeError") = false := by rw [List.contains_cons, hA]; rfl
  have c3 : (Value.ref C :: bm).contains (.type "NameError") = false := by rw [List.contains_cons, hN]; rfl
  refine codeAny_builtinAt F.entry ?_
  unfold Builtin.«BaseException.__new__»
  refine wpAt_bind ?_
  show wpAt _ _ _ (stack >>= _) _ _ _
  refine wpAt_bind (wpAt_stack fun p below => wpAt_of_wpAny ?_)
  wp_walk
  refine wpAt_of_wpAny ?_
  rw [F.owner]
  repeat (first | with_reducible refine wpAny_madeHere_exc F.canon hC ?_ | with_reducible refine wpAny_loadPart_at hC ?_ | (with_reducible refine wpAny_isSubtype_exc hC ?_; first | rw [c1] | rw [c2] | rw [c3]) | wp_step)
  show R _ _
  rw [Heap.size_push]
  exact hq
theorem check_new_kwU (F : ExcBaseFacts B newId initId bmB) (hB : bm.contains (.type B) = true) (hA : bm.contains (.type "AttributeError") = false) (hN : bm.contains (.type "NameError") = false) {M : Model} {rest : List Value} {kw : List (Str × Value)} {Q : Unit → Shared → Prop}
    (hC : h.get? C = some (excClassObj nm q C N bs bm hdct sn sub ab col dd k0 k1 k2 k3 k5 newId)) (hq : Q () ⟨h, g, d, t, os⟩) : wpAny M A (checkBuiltinCall newId ⟨.ref C :: rest, kw⟩) Q E ⟨h, g, d, t, os⟩ := by
  have c1 : (Value.ref C :: bm).contains (.type B) = true := by rw [List.contains_cons, hB, Bool.or_true]
  have hstar := F.noStar
  simp only [checkBuiltinCall, F.newKind, F.newSplit, F.newRow]
  repeat (first | refine wpAny_loadPart_at hC ?_ | (refine wpAny_isSubtype_exc hC ?_; rw [c1]) | refine wpAny_staticBase_exc hC ?_ | refine wpAny_madeBy_exc hC ?_ | simp only [bne_self_eq_false, Bool.false_eq_true, if_false] | wp_step)
  exact hq
theorem check_tc_kwU {M : Model} {rest : List Value} {kw : List (Str × Value)} {Q : Unit → Shared → Prop} (hC : h.get? C = some (excClassObj nm q C N bs bm hdct sn sub ab col dd k0 k1 k2 k3 k5 newId))
    (hq : Q () ⟨h, g, d, t, os⟩) : wpAny M A (checkBuiltinCall "type.__call__" ⟨.ref C :: rest, kw⟩) Q E ⟨h, g, d, t, os⟩ := by
  have f3 := tc_sub
  have hT : (⟨h, g, d, t, os⟩ : Shared).TypeIs (.ref C) "type" := ⟨_, hC, rfl⟩
  simp only [checkBuiltinCall, tc_kind, tc_split]
  repeat (any_goals (first | assumption | with_reducible refine wpAny_loadPart_at hC ?_ | with_reducible refine wpAny_onRaise ?_ | with_reducible refine wpAny_map ?_ | wp_step))
  done
theorem type_call_kwU (F : ExcBaseFacts B newId initId bmB) (hB : bm.contains (.type B) = true) (hA : bm.contains (.type "AttributeError") = false) (hN : bm.contains (.type "NameError") = false) {rest : List Value} {kw : List (Str × Value)} {fI : Addr} {Q : Fin → Shared → Prop}
    (hC : h.get? C = some (excClassObj nm q C N bs bm hdct sn sub ab col dd k0 k1 k2 k3 k5 newId))
    (hi : W.Looks (model prog w) h (typeLookup (.ref C) "__init__") (some (.ref fI))) (hb : ∀ self, W.Looks (model prog w) h (bindSpecial (.ref fI) self) (.ref fI, [self])) (hrest : rest.length ≤ sizeLine)
    (hq : codeAny (model prog w) A (.call (.ref fI) ⟨.ref (h.objs.size + 1) :: rest, kw⟩)
      (fun r s' => match r with | .ok (.ret v) => v = .none ∧ Q (.done (.ret (.ref (h.objs.size + 1)))) s' | .ok _ => False | .error e => E e s')
      ⟨(h.push (W.kdv_tup rest)).push (excO C h.objs.size), g, d, t, os⟩) :
    wpAny (model prog w) A (Builtin.«type.__call__» ⟨.ref C :: rest, kw⟩) Q E ⟨h, g, d, t, os⟩ := by
  repeat (first | with_reducible refine wpAny_loadPart_at hC ?_ | with_reducible refine wpAny_madeBy_exc hC ?_ | wp_step)
  refine codeAny_call_builtin_code (Code.quiet_builtin _ F.quiet) (check_new_kwU F hB hA hN hC ?_)
  refine new_kwU F hB hA hN hC ?_ hrest
  show wpAny _ _ _ _ _ _
  have k : ∀ b o, h.get? b = some o → ((h.push (W.kdv_tup rest)).push (excO C h.objs.size)).get? b = some o := fun b o e => Heap.get?_push_of_some _ (Heap.get?_push_of_some _ e)
  have c1 := k _ _ hC
  have made : ((h.push (W.kdv_tup rest)).push (excO C h.objs.size)).get? (h.objs.size + 1) = some (excO C h.objs.size) := by heap_get
  have self : (Value.ref C :: bm).contains (.ref C) = true := by simp
  unfold isInstance
  repeat (first | with_reducible refine wpAny_loadPart_at made ?_ | (with_reducible refine wpAny_isSubtype_exc c1 ?_; rw [self]) | wp_step)
  show wpAny _ _ (typeLookup (.ref C) _) _ _ _
  refine (hi.keeps k).at ?_
  refine wpAny_holding (wpAny_bind (((hb _).keeps k).at ?_))
  refine wpAny_bind (wpAny_call (codeAny_mono hq fun r s' z => ?_))
  rcases r with e | (v | _ | _ | _) <;> first | exact z | exact z.elim | skip
  obtain ⟨rfl, z⟩ := z
  first
    | exact wpAny_pure (wpAny_pure z)
    | (wp_walk; exact z)
theorem call_kwU (F : ExcBaseFacts B newId initId bmB) (hB : bm.contains (.type B) = true) (hA : bm.contains (.type "AttributeError") = false) (hN : bm.contains (.type "NameError") = false) {rest : List Value} {kw : List (Str × Value)} {fI : Addr}
    (hC : h.get? C = some (excClassObj nm q C N bs bm hdct sn sub ab col dd k0 k1 k2 k3 k5 newId))
    (hi : W.Looks (model prog w) h (typeLookup (.ref C) "__init__") (some (.ref fI))) (hb : ∀ self, W.Looks (model prog w) h (bindSpecial (.ref fI) self) (.ref fI, [self])) (hrest : rest.length ≤ sizeLine)
    (hq : codeAny (model prog w) (A.under (.builtin "type.__call__" ⟨.ref C :: rest, kw⟩)) (.call (.ref fI) ⟨.ref (h.objs.size + 1) :: rest, kw⟩) (W.InitBack (h.objs.size + 1) R)
      ⟨(h.push (W.kdv_tup rest)).push (excO C h.objs.size), g, d, t, os⟩) :
    codeAny (model prog w) A (.call (.ref C) ⟨rest, kw⟩) R ⟨h, g, d, t, os⟩ := by
  have f1 := tc_lookup
  have f2 := tc_bind (.ref C)
  have hTy : (⟨h, g, d, t, os⟩ : Shared).TypeIs (.ref C) "type" := ⟨_, hC, rfl⟩
  refine codeAny_of_tree ?_
  show wpAny _ _ (callAny (.ref C) _) _ _ _
  repeat (any_goals (first | assumption | with_reducible refine wpAny_loadPart_at hC ?_ | wp_step))
  refine ⟨rfl, ?_⟩
  refine codeAny_call_builtin_at (Code.quiet_builtin _ (by decide +kernel)) entry_typeCall (check_tc_kwU hC (type_call_kwU F hB hA hN hC hi hb hrest ?_))
  refine codeAny_mono hq fun r s' z => ?_
  rcases r with e | (v | _ | _ | _) <;> exact z
end
end HandSPX
end PySem
namespace Dl
open PySem L2 PyProof.Rows
/-- an own exception class with bm behind itself, made by __new__ of B -/
structure XBase (B newId initId : String) (bm : List Value) : Prop where
  base : ∃ bmB, ExcBaseFacts B newId initId bmB
  hB : bm.contains (.type B) = true
  hA : bm.contains (.type "AttributeError") = false
  hN : bm.contains (.type "NameError") = false
/-- an exception's class of the text, straight over a built-in class made by B -/
structure ExT (K : PySem.W.Frag) (C : Addr) (B newId initId : String) (bm : List Value) : Prop where
  F : XBase B newId initId bm
  cls : ∃ nm q N bs sn sub ab col dd k0 k1 k2 k3 k5, K.lookup C = some (excClassObj nm q C N bs bm true sn sub ab col dd k0 k1 k2 k3 k5 newId)
  pass : ∀ self, refuseLoop self "__setattr__" bm = pure ()
  ob : bm.contains (.type "object") = true
  sa : PySem.W.findIn K (.ref C) "__setattr__" = some (some (.builtin "object.__setattr__"))
  exC : PySem.W.subIn K (.ref C) (.type "BaseException") = some true
  tyC : PySem.W.typeIn K (.ref C) = some (.type "type")
  kC : PySem.W.keepIn K (.ref C) = true
section
variable {X : Cx} {pins : List (Addr × Obj)} {σ : L2.St} {H : Hp} {s : Shared} {a C dx : Addr} {f : Str} {y : V} {u : Value} {fs : List (Str × V)} {Q : Unit → Shared → Prop} {E : Value → Shared → Prop} {A : Around} {B newId initId : String} {bm : List Value}
theorem ExT.sto (T : ExT X.K C B newId initId bm) : ∃ cd, Dx.Sto X.K C cd ∧ ∀ M h, X.K.In h → PySem.W.Looks M h (classData C) cd := by
  obtain ⟨nm, q, N, bs, sn, sub, ab, col, dd, k0, k1, k2, k3, k5, hC⟩ := T.cls
  let cd : ClassData := { name := nm, bases := bs, mro := .ref C :: bm, ns := N, qualname := q, hasDict := true, slotNames := sn, subclasses := sub, abstract := ab, collection := col, hasDel := false }
  have hcl : PySem.W.clsIn X.K C = some cd := by
    unfold PySem.W.clsIn
    rw [hC]
  refine ⟨cd, ⟨hcl, rfl, ?_, fun self => ?_, rfl⟩, fun M h k => PySem.W.looks_clsIn k hcl⟩
  · show (Value.ref C :: bm).contains (.type "object") = true
    rw [List.contains_cons, T.ob, Bool.or_true]
  · show refuseLoop self "__setattr__" (.ref C :: bm) = pure ()
    rw [refuseLoop_ref]
    exact T.pass self
theorem exs_new (T : ExT X.K C B newId initId bm) (I : Inv X pins σ H s) (e : H a = some (exo a C none)) (no : PySem.W.findIn X.K (.ref C) f = some none) (ry : RelV y u)
    (h : ∀ dx s', H dx = none → dx ≠ a → Inv X pins σ (L2.upd (L2.upd H dx (exd dx [(f, y)])) a (exo a C (some dx))) s' → Q () s') : wpAny (model X.prog X.w) A (setAttr (.ref a) f u) Q E s := by
  obtain ⟨cd, S, _⟩ := T.sto
  obtain ⟨t1, ho⟩ := exo_at I.hok e
  obtain ⟨hp, g, d, t, os⟩ := s
  refine PySem.W.set_plain I.kIn (ox := { cls := .ref C, dict := none, data := .fields #[.ref t1, .none, .none, .none, .bool false, .none] }) (od := none) ⟨ho, rfl, rfl, trivial⟩ T.sa ?_
  refine Dx.sto_new I.kIn ho S no fun h' tk' dx k dn dne hx hn => ?_
  have hnd : H dx = none := I.hok.fresh dn
  have ndx : ∀ {b : Addr} {o : Obj}, hp.get? b = some o → b ≠ dx := fun e => Nat.ne_of_lt (Nat.lt_of_lt_of_le (Heap.lt_size e) dn)
  have na : ∀ {b : Addr}, H b = none → b ≠ a := by
    rintro b n rfl
    rw [e] at n
    cases n
  have out : ∀ {b : Addr} {o : HO}, b ≠ a → b ≠ dx → H b = some o → L2.upd (L2.upd H dx (exd dx [(f, y)])) a (exo a C (some dx)) b = some o := fun h1 h2 h3 => by rw [upd_ne h1, upd_ne h2]; exact h3
  refine h dx _ hnd dne (I.un (t' := tk') { keep := ?_, slot := ?_, free := ?_, there := ?_, tups := ?_, frzs := ?_, tbls := ?_ } fun b o z => ?_)
  · exact fun b o z n _ _ => k b o (na n) z
  · exact fun b o z n _ _ => ⟨o.slots, k b o (na n) z⟩
  · intro b o z n _
    rw [upd_ne (na n), upd_ne (ndx z)]
    exact n
  · intro b o z _
    by_cases hb : b = a
    · exact ⟨_, hb ▸ hx⟩
    · exact ⟨o, k b o hb z⟩
  · exact fun b xs z => out (at_ne e z exo_tup) (ne_of_none z hnd) z
  · exact fun b o v z => out (at_ne e z exo_frz) (ne_of_none z hnd) z
  · exact fun b ps z => ⟨#[], by rw [out (at_ne e z exo_tbl) (ne_of_none z hnd) z]; simp⟩
  by_cases hb : b = a
  · rw [hb, upd_same] at z
    cases z
    rw [hb]
    exact exo_ok hx
  · rw [upd_ne hb] at z
    by_cases hd : b = dx
    · rw [hd, upd_same] at z
      cases z
      rw [hd]
      exact exd_ok hn (relO_put (fs := []) ry fun _ => trivial)
    · rw [upd_ne hd] at z
      refine (I.hok b o z).stay (fun c v hc zz => k c v ?_ zz) (fun c hc => out (at_ne e hc exo_own) (ne_of_none hc hnd) hc) fun c xs hc => out (at_ne e hc exo_tup) (ne_of_none hc hnd) hc
      rcases hc with hc | hc
      · rw [hc]; exact hb
      · exact at_ne e hc exo_own
theorem exs_old (T : ExT X.K C B newId initId bm) (I : Inv X pins σ H s) (e : H a = some (exo a C (some dx))) (ed : H dx = some (exd dx fs)) (few : fs.length ≤ 900) (no : PySem.W.findIn X.K (.ref C) f = some none) (ry : RelV y u)
    (h : ∀ s', Inv X pins σ (L2.upd H dx (exd dx ((f, y) :: fs))) s' → Q () s') : wpAny (model X.prog X.w) A (setAttr (.ref a) f u) Q E s := by
  obtain ⟨cd, S, _⟩ := T.sto
  obtain ⟨t1, ho⟩ := exo_at I.hok e
  obtain ⟨mA, hns, rel⟩ := exd_at I.hok ed
  have within := within_of rel
  obtain ⟨hp, g, d, t, os⟩ := s
  obtain ⟨oD, _, _, hoD, _, _⟩ := hns.count within
  refine PySem.W.set_plain I.kIn (ox := { cls := .ref C, dict := some dx, data := .fields #[.ref t1, .none, .none, .none, .bool false, .none] }) (od := some oD) ⟨ho, rfl, rfl, hoD⟩ T.sa ?_
  refine Dx.sto_old I.kIn ho hns within (by rw [List.length_map]; omega) S no fun h' tk' k hn => h _ ?_
  have there : ∃ o, h'.get? dx = some o := by
    obtain ⟨o, _, _, e', _⟩ := hn
    exact ⟨o, e'⟩
  exact I.write (t' := tk') (x := dx) (e := dx) (o := exd dx ((f, y) :: fs)) (by rw [ed]; trivial) (.inl rfl) k there (exd_ok hn (relO_put ry rel))
end
/-- self.f = e, self an exception in the making -/
def tXst (K : PySem.W.Frag) (f : Str) (to te : TE) : TS := fun D σ H => te σ H fun y H1 => to σ H1 fun x H2 => ∃ (a C : Addr) (B newId initId : String) (bm : List Value), x = .ref a ∧ ExT K C B newId initId bm ∧ PySem.W.findIn K (.ref C) f = some none ∧
  ((H2 a = some (exo a C none) ∧ ∀ dx, H2 dx = none → dx ≠ a → D.nx σ (L2.upd (L2.upd H2 dx (exd dx [(f, y)])) a (exo a C (some dx)))) ∨
    ∃ (dx : Addr) (fs : List (Str × V)), H2 a = some (exo a C (some dx)) ∧ H2 dx = some (exd dx fs) ∧ fs.length ≤ 900 ∧ D.nx σ (L2.upd H2 dx (exd dx ((f, y) :: fs))))
section
variable {X : Cx} {o e : Expr} {to te : TE} {f : Str} {p' pos : Pos}
theorem ps_xst (ho : PE X o to) (he : PE X e te) (hs : swapsWith e (some (.Attribute o f p')) pos.line X.env = pure false := by rfl) : PS X (.Assign [.Attribute o f p'] e pos) (tXst X.K f to te) := by
  refine ⟨fun pins s σ H D I h => plainObj_wpAny_Assign_Attribute (thn (he.run pins s σ H _ I h) fun v s1 ⟨y, H1, I1, r1, q1⟩ => thn (ho.run pins s1 σ H1 _ I1 q1) fun u s2 ⟨x, H2, I2, r2, a, C, B, i1, i2, bm, ex, T, no, q⟩ => ?_) hs⟩
  subst ex
  obtain rfl : u = Value.ref a := r2
  rcases q with ⟨ea, q⟩ | ⟨dx, fs, ea, ed, few, q⟩
  · exact exs_new T I2 ea no r1 fun dx s' n ne J => ⟨σ, _, J, q dx n ne⟩
  · exact exs_old T I2 ea ed few no r1 fun s' J => ⟨σ, _, J, q⟩
end
end Dl
namespace Dl
open PySem L2 PyProof.Rows
/-- what __init__ leaves: the fields, the last stored one first -/
def spXI (K : PySem.W.Frag) (C : Addr) (flds : List Str) : Sp := fun vs H Q _ => ∃ (a : Addr) (ws : List V), vs = .ref a :: ws ∧ ws.length = flds.length ∧ H a = some (exo a C none) ∧
  ∀ d H2, H d = none → d ≠ a → H2 a = some (exo a C (some d)) → H2 d = some (exd d (flds.zip ws).reverse) → (∀ b, b ≠ a → b ≠ d → H2 b = H b) → Q .non H2
section
variable {X : Cx} {pos : Pos}
theorem xv (i : Nat) {x : Str} (hN : X.N[i]? = some x := by rfl) (hv : Vis X.env.scope x := by first | exact Or.inl rfl | exact Or.inr (Or.inl rfl) | exact Or.inr (Or.inr rfl)) (hd : (x == ("__debug__" : Str)) = false := by decide)
    (hcd : (x == ("__classdict__" : Str)) = false := by decide) : PE X (.Name x pos) (tVar i) := pe_var hN hv hd hcd
end
section
variable {P : Program} {w : World} {K : PySem.W.Frag} {mg : Str → Option Value} {base : Heap} {qual : Str} {st : Stmt} {dvs : List V} {f C : Addr} {fd : FuncData} {N ps : List Str} {B newId initId : String} {bm : List Value} {f1 f2 f3 : Str}
abbrev tI1 (K : PySem.W.Frag) (f1 : Str) : TS := tXst K f1 (tVar 0) (tVar 1)
theorem spXI_len {flds : List Str} (h : ps.length = flds.length + 1) : ∀ vs H Q E, spXI K C flds vs H Q E → vs.length = ps.length := by
  rintro vs H Q E ⟨a, ws, rfl, h1, _⟩
  rw [List.length_cons, h1, h]
theorem init1 (T : ExT K C B newId initId bm) (n1 : PySem.W.findIn K (.ref C) f1 = some none) (F : FunS K "__init__" qual st dvs f fd) (S : FnScope ps ps (defScope st)) (hp : ps.length = 2)
    (body : ∀ (cdv : Value) (A : Around) (outer : List Env) (s : Shared) (H : Hp) (E : XK), PSs (cxOf CX0 P w K mg base ps qual (defScope st) f cdv A outer s H E).nox (defBody st) (tI1 K f1)) : FnG P w K mg base CX0 1 f fd ps (spXI K C [f1]) := by
  refine FnG.by_body F S (spXI_len hp) fun cdv A outer s H vs Q E hr ⟨a, ws, ev, hl, ha, hq⟩ => ?_
  subst ev
  match ws, hl with
  | [y], _ =>
    refine ⟨_, (body cdv A outer s H E).nox, ?_⟩
    refine ⟨y, by simp [L2.start], .ref a, by simp [L2.start], a, C, B, newId, initId, bm, rfl, T, n1, .inl ⟨ha, fun dx nd ne => ?_⟩⟩
    refine hq dx _ nd ne upd_same ?_ fun b h1 h2 => by rw [upd_ne h1, upd_ne h2]
    rw [upd_ne ne, upd_same]
    rfl
end
structure XCls (P : Program) (w : World) (K : PySem.W.Frag) (mg : Str → Option Value) (base : Heap) (x : Str) (C : Addr) (st : Stmt) (qual : Str) (ps flds : List Str) : Prop where
  mC : mg x = some (.ref C)
  ex : ∃ B newId initId bm, ExT K C B newId initId bm
  nm : ps.length = flds.length + 1
  fn : ∃ f fd, FunS K "__init__" qual st [] f fd ∧ PySem.W.findIn K (.ref C) "__init__" = some (some (.ref f)) ∧ PySem.W.typeIn K (.ref f) = some (.type "function") ∧ FnG P w K mg base CX0 1 f fd ps (spXI K C flds)
section
variable {X : Cx} {C : Addr} {x qual : Str} {st : Stmt} {ps flds : List Str} {p pos pos2 : Pos} {es : List Expr} {n : Nat} {src : List Src} {ga : GA}
theorem pmk_x (M : XCls X.prog X.w X.K X.mg X.base x C st qual ps flds) (hr : RoomG 2 X.A) (hg : Gl X x) (b : Bnd "__init__" qual st ps (n + 1) [] src 0) (ha : PArgs X es [] pos [] (tof2 X.K U ga)) (hdb : (x == ("__debug__" : Str)) = false := by decide) :
    PMk X (.Call (.Name x p) es [] pos) fun σ H Q => tof2 X.K U ga σ H fun vs zs H1 => vs.length = n ∧ zs.length = 0 ∧ vs.length ≤ 1000 ∧ ∀ d, H1 d = none → ∀ a, H1 a = none → ∃ ws, gat src (.ref a :: vs) [] ([] : List V) = .ref a :: ws ∧ ws.length = flds.length ∧ Q (.ref C) (some d) (L2.upd H1 d (.xd (flds.zip ws).reverse)) := by
  intro pins s σ H Q I h
  obtain ⟨B, newId, initId, bm, T⟩ := M.ex
  obtain ⟨f, fd, FS, iC, tI, F1⟩ := M.fn
  obtain ⟨nm, q, N, bs, sn, sub, ab, col, dd, k0, k1, k2, k3, k5, hC⟩ := T.cls
  obtain ⟨its, KB⟩ := kbn_of FS b
  refine wpAny_Call_Name_kw (ld_glob I hg M.mC ?_ hdb)
  refine ha.run pins s σ H _ (.ref C) [] _ I T.kC h fun us ws' vs zs s1 H1 I1 rv rz ⟨l1, l2, lz, hq⟩ => ?_
  have ez : zs = [] := List.eq_nil_of_length_eq_zero l2
  subst ez
  cases rz
  show wpAny _ _ (call (.ref C) us) _ _ _
  obtain ⟨hp, g, dr, tk, os⟩ := s1
  let a := hp.objs.size + 1
  have hsz : hp.objs.size ≤ a := Nat.le_succ _
  have hn : H1 a = none := I1.hok.fresh hsz
  have kk : ∀ b o, hp.get? b = some o → ((hp.push (PySem.W.kdv_tup us)).push (PySem.HandSPX.excO C hp.objs.size)).get? b = some o := fun b o e => Heap.get?_push_of_some _ (Heap.get?_push_of_some _ e)
  have hget : ((hp.push (PySem.W.kdv_tup us)).push (PySem.HandSPX.excO C hp.objs.size)).get? a = some (PySem.HandSPX.excO C hp.objs.size) := by show Heap.get? _ (hp.objs.size + 1) = _; heap_get
  have I2 : Inv X pins σ (L2.upd H1 a (exo a C none)) ⟨(hp.push (PySem.W.kdv_tup us)).push (PySem.HandSPX.excO C hp.objs.size), g, dr, tk, os⟩ :=
    I1.laid (t' := tk) (a := a) (o := exo a C none) (h' := (hp.push (PySem.W.kdv_tup us)).push (PySem.HandSPX.excO C hp.objs.size)) kk hsz (exo_ok hget)
  have r1 : Vals (V.ref a :: vs) (Value.ref a :: us) := .cons rfl rv
  have r2 := KB.rel r1 (.nil : Vals [] [])
  have b2 := KB.to _ (Value.ref a :: us) [] I2.kIn (r1.length.symm.trans (congrArg Nat.succ l1)) rfl
  have hus : us.length ≤ sizeLine := by
    rw [← Paired.length rv, sizeLine_eq]
    omega
  let Q2 : VK := fun v H2 => v = .non ∧ ∃ (d : Addr) (fs : List (Str × V)), H2 a = some (exo a C (some d)) ∧ H2 d = some (exd d fs) ∧ H1 d = none ∧ Q (.ref C) (some d) (L2.upd (L2.del H2 a) d (.xd fs))
  have hsp : spXI X.K C flds (gat src (.ref a :: vs) [] []) (L2.upd H1 a (exo a C none)) Q2 fun _ _ _ => False := by
    have hfresh : H1 (hp.objs.size + 2) = none := I1.hok.fresh (by show hp.objs.size ≤ hp.objs.size + 2; omega)
    obtain ⟨ws, e1, e2, _⟩ := hq (hp.objs.size + 2) hfresh a hn
    refine ⟨a, ws, e1, e2, upd_same, fun d H2 nd ne ha2 hd2 hb2 => ⟨rfl, d, _, ha2, hd2, ?_, ?_⟩⟩
    · rwa [upd_ne ne] at nd
    · have nd' : H1 d = none := by rwa [upd_ne ne] at nd
      obtain ⟨ws', e1', _, q⟩ := hq d nd' a hn
      rw [e1] at e1'
      cases e1'
      have : L2.upd (L2.del H2 a) d (.xd (flds.zip ws).reverse) = L2.upd H1 d (.xd (flds.zip ws).reverse) := by
        funext b
        by_cases hbd : b = d
        · rw [hbd, upd_same, upd_same]
        · rw [upd_ne hbd, upd_ne hbd]
          by_cases hba : b = a
          · rw [hba, del_same, hn]
          · rw [del_ne hba, hb2 b hba hbd, upd_ne hba]
      rw [this]
      exact q
  have run := F1.run _ X.stack _ _ ⟨Value.ref a :: us, []⟩ _ _ Q2 _ (hr.make C us []) (I2.env0.make C us []) b2 r2 hsp
  obtain ⟨bmB, FB⟩ := T.F.base
  refine wpAny_call (PySem.HandSPX.call_kwU FB T.F.hB T.F.hA T.F.hN (I1.kIn _ _ hC) (PySem.W.looks_findIn I1.kIn iC) (fun self => PySem.W.bind_fn I1.kIn self tI) hus (codeAny_mono run fun r s' hq' => ?_))
  cases r with
  | error er => exact (hq' : False).elim
  | ok fl =>
    cases fl with
    | ret u =>
      obtain ⟨v, H2, os2, bare2, un2, hok2, rv2, ev, d, fs, ea, ed, hd1, q2⟩ := hq'
      subst ev
      obtain ⟨h2, g2, d2, t2, os'⟩ := s'
      exact ⟨rv2, mk_end (raises_own T.exC T.tyC) I1 hsz kk un2 hok2 os2 bare2 ea ed hd1 q2⟩
    | next => exact hq'.elim
    | brk => exact hq'.elim
    | cont => exact hq'.elim
/-- raise C(..): by data, the fields the last one first -/
def gRaise (WD : XW) (C : Addr) (flds : List Str) (n : Nat) (src : List Src) (ga : GA) : GS := fun E ρ S => ga ρ S fun as zs S1 => as.length = n ∧ zs.length = 0 ∧ as.length ≤ 1000 ∧ ∃ ds, (∀ s : D, gat src (s :: as) [] [] = s :: ds) ∧ ds.length = flds.length ∧ WD (.own C) flds.reverse ds.reverse ρ S1
theorem zip_rev {A B' : Type} : ∀ {l : List A} {l' : List B'}, l.length = l'.length → (l.zip l').reverse = l.reverse.zip l'.reverse
  | [], [], _ => rfl
  | x :: l, y :: l', h => by
    have h' : l.length = l'.length := by simpa using h
    rw [List.zip_cons_cons, List.reverse_cons, List.reverse_cons, List.reverse_cons, zip_rev h', List.zip_append (by simpa using h')]
    rfl
  | [], _ :: _, h => by simp at h
  | _ :: _, [], h => by simp at h
theorem d_raise {U : Wi} (tk : Takes X U.W) (M : XCls X.prog X.w X.K X.mg X.base x C st qual ps flds) (hr : RoomG 2 X.A) (hg : Gl X x) (b : Bnd "__init__" qual st ps (n + 1) [] src 0) (ha : PArgs X es [] pos [] (tof2 X.K U ga)) (hc : X.calm = true := by rfl)
    (hdb : (x == ("__debug__" : Str)) = false := by decide) : PS X (.Raise (some (.Call (.Name x p) es [] pos)) none pos2) (tofS X.K U (gRaise U.D C flds n src ga)) :=
  weakS (ps_raise hc tk (pmk_x (p := p) M hr hg b ha hdb)) fun De σ H ⟨m, S, Z, ρ, E, w, rs, h, k⟩ => by
    refine ⟨m, S, Z, ρ, _, w, rs, h, fun vs zs H1 m1 as zd S1 e1 w1 r1 r2 ⟨h1, h2, h3, ds, h4, h5, h6⟩ => ?_⟩
    have l1 := Reps.len r1
    have l2 := Reps.len r2
    refine ⟨by omega, by omega, by omega, fun d hd a ha => ?_⟩
    have rr : Reps X.K m1 S1.length (vis m1 S1 Z H1) (gat src (.ref a :: as) [] []) (gat src (.ref a :: vs) [] []) := gat_reps (Reps.cons rep_ref r1) dfv_nil reps_nil
    rw [h4] at rr
    obtain ⟨v, ws, ev, rv, rw'⟩ := rr
    have ev0 : v = .ref a := rv
    subst ev0
    have lw := Reps.len rw'
    refine ⟨ws, ev, by omega, ?_⟩
    obtain ⟨w2, e2, hv⟩ := w1.new (o := .xd (flds.zip ws).reverse) hd
    have rs2 := rs.ext (e1.trans e2)
    refine w2.up _ _ _ σ ρ (.own C) (some d) flds.reverse ds.reverse ws.reverse Ext.refl w2.toWd0 rs2 ?_ (by simp; omega) (Reps.rev (rw'.ext e2)) h6
    show vis _ _ _ _ d = _
    rw [hv, zip_rev (by omega)]
end
end Dl
namespace Dl
open PySem L2 PyProof.Rows
abbrev XE_ := XC → List Str → List D → Sto → Prop
/-- a promise: the arguments, the store, what is wanted of the answer, of an exception -/
abbrev XSp := List D → Sto → (D → Sto → Prop) → XE_ → Prop
def OutX (K : PySem.W.Frag) (m : Nat → Addr) (S : Sto) (Z : Addr → Prop) (H : Hp) (qx : XE_) (E : XK) : Prop :=
  ∀ (H' : Hp) (m' : Nat → Addr) (S' : Sto) (c : XC) (dd : Option Addr) (ks : List Str) (ds : List D) (vs : List V), Ext m S Z H m' S' H' → Wd0 K m' S' Z H' → Xd (vis m' S' Z H') dd (ks.zip vs) → ks.length = vs.length →
    Reps K m' S'.length (vis m' S' Z H') ds vs → qx c ks ds S' → E c.val dd H'
def spOfX (K : PySem.W.Frag) (dsp : XSp) : Sp := fun vs H Q E => ∃ m S Z ds q qx, Wd K U0 m S Z H ∧ Reps K m S.length (vis m S Z H) ds vs ∧ dsp ds S q qx ∧ Outs m S Z H K U0 (rD K) q Q ∧ OutX K m S Z H qx E
structure MFnX (P : Program) (w : World) (K : PySem.W.Frag) (mg : Str → Option Value) (base : Heap) (C : Addr) (m qual : Str) (st : Stmt) (dvs : List V) (k : Nat) (ps : List Str) (dsp : XSp) : Prop where
  cl : Cls K C
  ex : ∃ f fd, FunS K m qual st dvs f fd ∧ Meth K C m f ∧ FnG P w K mg base (CX P w) k f fd ps (spOfX K dsp)
def gCallX (WD : XW) (n nk : Nat) (src : List Src) (dds : List D) (dsp : XSp) (ga : GA) : G D := fun ρ S q => ga ρ S fun as ks S1 => as.length = n ∧ ks.length = nk ∧ dsp (gat src as dds ks) S1 q fun c fs ds S2 => WD c fs ds ρ S2
def gMethX (WD : XW) (C : Addr) (m : Str) (n nk : Nat) (src : List Src) (dds : List D) (dsp : XSp) (go : G D) (ga : GA) : G D := fun ρ S q => go ρ S fun o S1 => ∃ ks ds, objOf S1 o = some (C, ks, ds) ∧ ks.contains m = false ∧
  ga ρ S1 fun as zs S2 => as.length = n ∧ zs.length = nk ∧ dsp (gat src (o :: as) dds zs) S2 q fun c fs ds S3 => WD c fs ds ρ S3
/-- C(..), its __init__ may raise; the new instance given up at once -/
def gMakeX (WD : XW) (C : Addr) (n nk : Nat) (src : List Src) (dds : List D) (dsp : XSp) (ga : GA) : G D := fun ρ S q => ga ρ S fun as zs S1 => as.length = n ∧ zs.length = nk ∧ (D.unders S1.length as = true → D.unders S1.length zs = true →
  dsp (gat src (.loc S1.length :: as) dds zs) (S1 ++ [some (.obj C [] [])]) (fun v S2 => v = .non ∧ ∃ ks ds, S2 = S1 ++ [some (.obj C ks ds)] ∧ D.unders S1.length ds = true ∧ q (.obj C ks ds) S1) fun c fs ds S2 => WD c fs ds ρ S2)
section
variable {X : Cx} {pos p apos : Pos} {x m qual : Str} {st : Stmt} {dvs : List V} {dds : List D} {k n : Nat} {ps ks : List Str} {dsp : XSp} {es : List Expr} {kws : List Keyword} {src : List Src} {ga : GA} {o : Expr} {go : G D} {C : Addr} {U : Wi}
theorem outX_of {m1 : Nat → Addr} {S1 : Sto} {Z : Addr → Prop} {H1 : Hp} {ρ : Env_} {σ : L2.St} {K : PySem.W.Frag} (w1 : Wd K U m1 S1 Z H1) (rs : RelS K m1 S1.length (vis m1 S1 Z H1) ρ σ) :
    OutX K m1 S1 Z H1 (fun c fs ds S2 => U.D c fs ds ρ S2) (WE U.W σ) := fun H' m' S' c dd ks ds vs e w0 xd l r h => w1.up H' m' S' σ ρ c dd ks ds vs e w0 (rs.ext e) xd l r h
theorem d_methX {pl : Sem Bool} (tk : Takes X U.W) (F : MFnX X.prog X.w X.K X.mg X.base C m qual st dvs k ps dsp) (hr : RoomG k X.A) (b : Bnd m qual st ps (n + 1) ks src dvs.length) (hd : DfV dds dvs) (ho : PE X o (tofE X.K U go)) (ha : PArgs X es kws pos ks (tof2 X.K U ga))
    (ht : eval (.Call (.Attribute o m apos) es kws pos) X.env = (do
      let ov ← eval o X.env
      standAt apos.atName
      let (f, first) ← holding [ov] (getMethod ov m pl)
      callWith pos f first (backTo pos (starEach es X.env)) (backToKw pos (keywordEach kws X.env))) := by rfl) :
    PE X (.Call (.Attribute o m apos) es kws pos) (tofE X.K U (gMethX U.D C m n ks.length src dds dsp go ga)) := by
  refine ⟨fun pins s σ H Q I ⟨mm, S, Z, ρ, q, w, rs, h, kk⟩ => ?_⟩
  obtain ⟨f, fd, FS, hm, FO⟩ := F.ex
  obtain ⟨its, KB⟩ := kbn_of FS b
  refine PySem.W.methodCall_KW (pl := pl) (thn (ho.run pins s σ H (fun x H1 => ∃ a dx fs, x = .ref a ∧ H1 a = some (.ins C dx fs) ∧ fs.lookup m = none ∧ tof2 X.K U ga σ H1 fun vs zs H2 => vs.length = n ∧ zs.length = ks.length ∧ spOfX X.K dsp (gat src (x :: vs) dvs zs) H2 Q (WE U.W σ)) I
    (tof_in w rs h fun v1 H1 m1 d1 S1 e1 w1 r1 ⟨kf, df, h1, h2, h3⟩ => ?_)) fun u s1 ⟨x, H1, I1, rx, a, dx, fs, ex, ea, l, q⟩ => ?_) ht
  · obtain ⟨a, dx, vs, ev, hha, hlen, hrr⟩ := objOf_rep w1 r1 h1
    refine ⟨a, dx, _, ev, hha, zip_lookup_none h2, m1, S1, Z, ρ, _, w1, rs.ext e1, h3, fun vs zs H2 m2 as zd S2 e2 w2 r2 r3 h4 => ?_⟩
    exact ⟨by rw [Reps.len r2]; exact h4.1, by rw [Reps.len r3]; exact h4.2.1, m2, S2, Z, gat src (d1 :: as) dds zd, _, _, w2.w0, gat_reps (Reps.cons (r1.ext e2) r2) hd r3, h4.2.2, (kk.ext (e1.trans e2)).to0 w2, outX_of w2 (rs.ext (e1.trans e2))⟩
  · subst ex
    obtain rfl : u = Value.ref a := rx
    refine getmeth_ok I1 ea F.cl hm l ?_
    refine ha.run pins s1 σ H1 _ (.ref f) [.ref a] _ I1 hm.kp q fun us ws vs zs s2 H2 I2 rv rz ⟨l1, l2, hs⟩ => ?_
    exact run_fnS' FO hr KB (passAt tk σ) I2 (us := .ref a :: us) (vs := .ref a :: vs) (.cons rfl rv) rz (congrArg Nat.succ l1) l2 hs
theorem spOfX_len {K : PySem.W.Frag} (hl : ∀ ds S q qx, dsp ds S q qx → ds.length = ps.length) : ∀ vs H Q E, spOfX K dsp vs H Q E → vs.length = ps.length := fun vs H Q E ⟨m, S, Z, ds, q, qx, w, r, h, k⟩ => by rw [Reps.len r]; exact hl ds S q qx h
end
section
variable {P : Program} {w : World} {K : PySem.W.Frag} {mg : Str → Option Value} {base : Heap} {x m qual : Str} {st : Stmt} {dvs : List V} {f : Addr} {fd : FuncData} {N ps : List Str} {k : Nat} {dsp : XSp} {C : Addr}
/-- nothing is cut back -/
theorem fnx_body0 (F : FunS K x qual st dvs f fd) (S : FnScope N ps (defScope st)) (len : ∀ ds S q qx, dsp ds S q qx → ds.length = ps.length) (g : XW → GS)
    (hbody : ∀ (cdv : Value) (A : Around) (outer : List Env) (s : Shared) (H : Hp) (E : XK) (U : Wi), RoomG k (A.deeper (envOfC qual (defScope st) s.heap.objs.size f cdv)) → Takes (cxOf (CX P w) P w K mg base N qual (defScope st) f cdv A outer s H E) U.W →
      PSs (cxOf (CX P w) P w K mg base N qual (defScope st) f cdv A outer s H E) (defBody st) (tofS K U (g U.D)))
    (hread : ∀ ds S q qx, D.unders S.length ds = true → Sto.under S.length S = true → dsp ds S q qx → g (fun c fs ds _ S' => qx c fs ds S') { nx := fun _ S' => q .non S', rt := q } (startD N ds) S) : FnG P w K mg base (CX P w) (k + 1) f fd ps (spOfX K dsp) := by
  refine FnG.by_body F S (spOfX_len len) fun cdv A outer s H vs Q E hr ⟨m, St', Z, ds, q, qx, wd, rd, hd, kk, kx⟩ => ?_
  let U : Wi := ⟨fun c d _ H' => E c d H', fun c fs ds _ S' => qx c fs ds S'⟩
  have wu : Wd K U m St' Z H := ⟨wd.toWd0, fun H' m' S' σ' ρ' c dd ks ds vs e w0 rs xd l r h => kx H' m' S' c dd ks ds vs e w0 xd l r h⟩
  have k2 : Outs m St' Z H K U (rD K) q Q := fun b H' m' a S' e w1 r h => kk b H' m' a S' e w1.w0 r h
  refine ⟨_, hbody cdv A outer s H E U hr (takes_of rfl rfl rfl rfl), m, St', Z, startD N ds, _, wu, relS_start rd, hread ds St' q qx (Reps.below rd) wd.under hd, ⟨?_, k2, ?_, ?_⟩⟩
  · exact fun σ' H' m' ρ' S' e' w' _ h' => k2 .non H' m' .non S' e' w' rep_non h'
  · exact fun _ _ _ _ _ _ _ _ h => h.elim
  · exact fun _ _ _ _ _ _ _ _ h => h.elim
end
end Dl
namespace Dl
open PySem L2 PyProof.Rows
section
variable {X : Cx} {pins : List (Addr × Obj)} {σ : L2.St} {H : Hp} {s sI : Shared}
theorem excO_ok {P : Program} {w : World} {H : Hp} {h : Heap} {a : Addr} {cls : Value} {d : Option Addr} {oe : Obj} {vs : Array Value} (e : h.get? a = some oe) (z : Zc cls d oe) (hd : oe.data = .fields vs) : ObjOk P w H h a (excO cls d a) :=
  ⟨⟨oe, vs, e, z.1, z.2, hd⟩, ⟨oe, e⟩, fun _ _ ⟨o, v, q, r⟩ k => ⟨o, v, k o q, r⟩⟩
/-- an exception that came in is tracked from now on -/
theorem Inv.track (I : Inv X pins σ H s) (J : Inv X pins σ H sI) (hx : X.ex = []) {a : Addr} {φ : HO} (hn : sI.heap.get? a = none) (na : H a = none) (nL : a ≠ X.env.locals) (new : ObjOk X.prog X.w (upd H a φ) s.heap a φ) : Inv X pins σ (upd H a φ) s := by
  have n0 : X.s_0.heap.get? a = none := by
    cases e : X.s_0.heap.get? a with
    | none => rfl
    | some o =>
      obtain ⟨o', q⟩ := J.base.there a o e (by rw [hx]; exact fun z => nomatch z)
      rw [hn] at q
      cases q
  have ne0 : ∀ b o, X.s_0.heap.get? b = some o → b ≠ a := fun b o e z => by
    rw [z, n0] at e
    cases e
  have neH : ∀ {b : Addr} {o : HO}, H b = some o → b ≠ a := fun e => ne_of_none e na
  refine ⟨I.ok, I.os, I.bare, ⟨fun b o e n hb hq => I.base.keep b o e n hb hq, fun b o e n hb hq => I.base.slot b o e n hb hq, fun b o e n hq => ?_, fun b o e hq => I.base.there b o e hq, fun b xs e => ?_, fun b o u e => ?_, fun b ps e => ?_⟩, I.loc, I.cell, ?_, fun x c e => ?_, fun p hp => ?_, fun b u e => ?_, I.len⟩
  · rw [upd_ne (ne0 b o e)]
    exact I.base.free b o e n hq
  · have q := I.base.tups b xs e
    rw [upd_ne (neH q)]
    exact q
  · have q := I.base.frzs b o u e
    rw [upd_ne (neH q)]
    exact q
  · obtain ⟨m, q⟩ := I.base.tbls b ps e
    by_cases hb : b = a
    · rw [hb] at q
      rw [na] at q
      cases q
    · exact ⟨m, by rw [upd_ne hb]; exact q⟩
  · rw [upd_ne (Ne.symm nL)]
    exact I.free
  · obtain ⟨v, o, z, _⟩ := J.cell x c e
    have hc : c ≠ a := fun q => by
      rw [q, hn] at z
      cases z
    rw [upd_ne hc]
    exact I.freeC x c e
  · obtain ⟨e, n, ne, nf, d⟩ := I.pin p hp
    obtain ⟨e', _⟩ := J.pin p hp
    have hc : p.1 ≠ a := fun q => by
      rw [q, hn] at e'
      cases e'
    exact ⟨e, by rw [upd_ne hc]; exact n, ne, nf, d⟩
  · by_cases hb : b = a
    · subst hb
      rw [upd_same] at e
      cases e
      exact new
    · rw [upd_ne hb] at e
      exact (I.hok b u e).stay (fun c v _ q => q) (fun c q => by rw [upd_ne (neH q)]; exact q) fun c xs q => by rw [upd_ne (neH q)]; exact q
theorem Inv.suite0 (I : Inv X pins σ H s) (a : Addr) : Inv (X.suite a X.pn) pins σ H s := ⟨I.ok.suite _ _, I.os, I.bare, I.base, I.loc, I.cell, I.free, I.freeC, I.pin, I.hok, I.len⟩
theorem Inv.unsuite0 {a : Addr} (I : Inv (X.suite a X.pn) pins σ H s) (ok : X.Ok) : Inv X pins σ H s := ⟨ok, I.os, I.bare, I.base, I.loc, I.cell, I.free, I.freeC, I.pin, I.hok, I.len⟩
end
def wTrk (K : PySem.W.Frag) (c : Value) (i : Nat) (ts : TS) (Wout : WX) (D : Ends) : WX := fun cls d σ H =>
  ∃ b, PySem.W.exmOne K cls c = some b ∧ (b = true → ∀ a, H a = none → ts { nx := fun σ' H' => D.nx (σ'.set i none) H', rt := D.rt, bk := fun σ' H' => D.bk (σ'.set i none) H', ct := fun σ' H' => D.ct (σ'.set i none) H' } (σ.set i (some (.ref a))) (upd H a (excO cls d a))) ∧
    (b = false → Wout cls d σ H)
section
variable {X : Cx} {x n : Str} {c : Value} {i : Nat} {body suite : List Stmt} {b₀ : Stmt} {np pos pos' : Pos} {tb : WX → TS} {ts : TS} {Wout : WX}
theorem ps_try_trk (hs : X.stack = X.env :: X.outer) (hf : X.env.frame = some X.env.locals) (hx : X.ex = []) (hN : X.N.Nodup) (hi : X.N[i]? = some n) (hln : X.env.kindOf n = some .local) (hc : Names X x c) (tk : Takes X Wout)
    (hb : ∀ (W : WX) (pn : List (Addr × Obj)) (xe : Value → Shared → Prop), Takes (X.tr pn xe) W → PassesOwn (model X.prog X.w) X.A X.env xe → PSs (X.tr pn xe) body (tb W))
    (hsu : ∀ a : Addr, PSs (X.suite a X.pn) (b₀ :: suite) ts) :
    PS X (.Try body [.ExceptHandler (some (.Name x np)) (some n) (b₀ :: suite) pos'] [] [] pos) (fun D σ H => tb (wTrk X.K c i ts Wout D) D σ H) := by
  refine ⟨fun pins s σ H D I h => ?_⟩
  have ok := I.ok
  have hfr : X.A.frames = some (X.env :: X.outer) := by rw [ok.frames, hs]
  have hloc : Loc X.env.scope n := .inl hln
  refine wpAny_Try_except ?_
  refine wpAny_mono ((hb (wTrk X.K c i ts Wout D) (X.pn ++ pins) (fun e s₁ => wpAny (model X.prog X.w) X.A (noteFrame e X.env) (fun _ s₂ => wpAny (model X.prog X.w) X.A (setFlight e none) (fun _ s₃ =>
    wpAny (model X.prog X.w) X.A (handleBy e X.env [.ExceptHandler (some (.Name x np)) (some n) (b₀ :: suite) pos']) (SP X pins D) X.xe s₃) X.xe s₂) X.xe s₁) (fun u s' xx => ?_) PassesOwn.looking).run [] s σ H D (I.toTry _) h) (fun f s1 hsp => ?_) (fun e s1 he => he)
  · obtain ⟨a, B, sI, pins', σ', H', cls, d, rfl, J', nb, up, sky, na, os, ag, b, hb1, hyes, hno⟩ := xx
    have J : Inv X pins σ' H' sI := J'.ofTry ok
    have sky' : Sky B (X.env :: X.outer) a (Zc cls d) X.env.locals s'.heap := by rw [← hs]; exact sky
    show wpAny (model X.prog X.w) X.A (noteFrame (.ref a) X.env) _ _ _
    refine Sky.land Zc.steady hfr hf sky' fun h3 fl3 up3 => ?_
    have J3 : Inv X pins σ' H' { s' with heap := h3 } := J.landed nb fl3.1 (up.trans up3) os ag
    obtain ⟨oe3, vs3, he3, hz3, hd3⟩ := fl3.there
    have notFr : ∀ {h : Heap} {o : Obj} {vs : Array Value}, h.FunFrames B (X.env :: X.outer) → h.get? a = some o → o.data = .fields vs → a ∉ frs (X.env :: X.outer) := fun {h o vs} ff e dd hm => by
      obtain ⟨_, o', e', hnf⟩ := ff.mem hm
      rw [e] at e'; cases e'
      exact hnf _ dd
    have nfr := notFr fl3.2.2.1 he3 hd3
    have nL : a ≠ X.env.locals := fun z => nfr (List.mem_filterMap.mpr ⟨X.env, List.mem_cons_self, by rw [hf, z]⟩)
    have nF : a ∉ X.fs := fun hm => by
      obtain ⟨e, he, q⟩ := List.mem_filterMap.mp hm
      exact nfr (List.mem_filterMap.mpr ⟨e, List.mem_cons_of_mem _ he, q⟩)
    have hnI : sI.heap.get? a = none := by
      cases e : sI.heap.get? a with
      | none => rfl
      | some o =>
        have z := nb a o e (by rw [hs]; exact nfr)
        rw [fl3.2.1] at z
        cases z
    have S3 := J3.suite he3 hd3 na nL nF
    refine wpAny_handleBy_cons (codeAny_handlers_test ?_) (by intro q; cases q)
    have LT : PySem.W.Looks (model X.prog X.w) h3 (typeOf (.ref a)) cls := fun A Q E s k q => wpAny_typeOf_ref (k _ _ he3) (by rw [hz3.1]; exact q)
    have LM := PySem.W.exm_one (M := model X.prog X.w) (J3.kIn) LT hb1
    have test : ∀ {Q : Value → Shared → Prop} {E : Value → Shared → Prop}, Q c { s' with heap := h3 } → wpAny (model X.prog X.w) (X.A.mark (some (.ref a))) (eval (.Name x np) X.env) Q E { s' with heap := h3 } := fun {Q E} q => by
      obtain ⟨hg, hdbg, hm | ⟨hm, hv, hnn⟩⟩ := hc
      · exact ld_glob (X := X.suite a ((a, oe3) :: (X.pn ++ pins))) S3 hg hm q hdbg
      · exact ld_blt (X := X.suite a ((a, oe3) :: (X.pn ++ pins))) S3 hg hm hv q hnn hdbg
    refine test (LM.here ?_)
    cases b with
    | true =>
      refine codeAny_handlers_suite_as ?_
      refine HandSPX.lands_againZ fl3 fun h4 fl4 up4 => ?_
      have J4 : Inv X pins σ' H' { s' with heap := h4 } := J.landed nb fl4.1 ((up.trans up3).trans up4) os ag
      obtain ⟨oe4, vs4, he4, hz4, hd4⟩ := fl4.there
      have T4 : Inv X pins σ' (upd H' a (excO cls d a)) { s' with heap := h4 } := Dl.Inv.track J4 J hx hnI na nL (excO_ok he4 hz4 hd4)
      refine store_ok (X := X.suite a X.pn) (v := .ref a) (Inv.suite0 T4 a) hN hi hloc rfl (fun s5 S5 => ?_) (.inr hln)
      refine wpAny_mono ((hsu a).run pins s5 _ _ _ S5 (hyes rfl a na)) (fun f s6 hsp => ?_) (fun _ _ z => False.elim z)
      have end_ : ∀ {σ6 : L2.St} {H6 : Hp} {Q : Shared → Prop}, Inv (X.suite a X.pn) pins σ6 H6 s6 → (∀ s7, Inv X pins (σ6.set i none) H6 s7 → Q s7) →
          wpAny (model X.prog X.w) X.A (do bindName X.env n .none; unbindBehindTheSuite X.env n pos') (fun _ s7 => Q s7) X.xe s6 := fun {σ6 H6 Q} S6 hq => gone_ok (Inv.unsuite0 S6 ok) hN hi hln hq
      cases f with
      | next =>
        obtain ⟨σ6, H6, S6, q6⟩ := hsp
        exact end_ S6 fun s7 J7 => ⟨_, _, J7, q6⟩
      | brk =>
        obtain ⟨σ6, H6, S6, q6⟩ := hsp
        exact end_ S6 fun s7 J7 => ⟨_, _, J7, q6⟩
      | cont =>
        obtain ⟨σ6, H6, S6, q6⟩ := hsp
        exact end_ S6 fun s7 J7 => ⟨_, _, J7, q6⟩
      | ret u =>
        obtain ⟨v6, σ6, H6, S6, r6, q6⟩ := hsp
        exact end_ S6 fun s7 J7 => ⟨_, _, _, J7, r6, q6⟩
    | false =>
      show wpAny _ X.A (handleBy (.ref a) X.env []) _ _ _
      refine wpAny_handleBy_nil ?_
      obtain ⟨k1, k2, k3, oe, vs, T, oT, ts', he, hz, hd, h1, hr⟩ := id fl3
      unfold PySem.passOn
      refine wpAny_bind (wpAny_field he hd h1 ?_)
      rw [if_neg (show ¬ ((Value.ref T == Value.none) = true) from by simp)]
      have fin : wpAny (model X.prog X.w) X.A (setFlight (.ref a) X.env.frame) (fun _ s4 => wpAny (model X.prog X.w) X.A (throw (.ref a) : Sem Flow) (SP X pins D) X.xe s4) X.xe { s' with heap := h3 } := by
        rw [hf]
        refine HandSPX.setFlight_upZ fl3 fun h4 hh4 up4 => wpAny_throw (tk _ _ ?_)
        exact ⟨a, B, sI, pins, σ', H', cls, d, rfl, J, nb, (up.trans up3).trans up4, .inr (.inr (by rw [hs]; exact hh4)), na, os, ag, hno rfl⟩
      first
        | exact wpAny_bind (wpAny_pure (wpAny_bind fin))
        | exact wpAny_bind fin
  · cases f with
    | next =>
      obtain ⟨σ', H', J', q⟩ := hsp
      exact wpAny_execs_nil ⟨σ', H', J'.ofTry ok, q⟩
    | brk =>
      obtain ⟨σ', H', J', q⟩ := hsp
      exact ⟨σ', H', J'.ofTry ok, q⟩
    | cont =>
      obtain ⟨σ', H', J', q⟩ := hsp
      exact ⟨σ', H', J'.ofTry ok, q⟩
    | ret u =>
      obtain ⟨v, σ', H', J', r, q⟩ := hsp
      exact ⟨v, σ', H', J'.ofTry ok, r, q⟩
end
/-- which class a clause takes -/
structure Exm (K : PySem.W.Frag) (cc : Value) (c : XC) (b : Bool) : Prop where
  is : PySem.W.exmOne K c.val cc = some b
/-- try: gb / except cc as i: gs -/
def gTryAs (K : PySem.W.Frag) (WD : XW) (cc : Value) (i : Nat) (gb : XW → GS) (gs : GS) : GS := fun E ρ S =>
  gb (fun c fs ds ρ' S' => ∃ b, Exm K cc c b ∧ (b = true → gs { nx := fun ρ'' S'' => E.nx (ρ''.set i none) S'', rt := E.rt, bk := fun ρ'' S'' => E.bk (ρ''.set i none) S'', ct := fun ρ'' S'' => E.ct (ρ''.set i none) S'' } (ρ'.set i (some (.exc c fs ds))) S') ∧ (b = false → WD c fs ds ρ' S')) E ρ S
/-- try: gb / except cc: gs -/
def gTryO (K : PySem.W.Frag) (WD : XW) (cc : Value) (gb : XW → GS) (gs : GS) : GS := fun E ρ S =>
  gb (fun c fs ds ρ' S' => ∃ b, Exm K cc c b ∧ (b = true → gs E ρ' S') ∧ (b = false → WD c fs ds ρ' S')) E ρ S
section
variable {X : Cx} {x n : Str} {c : Value} {i : Nat} {body suite : List Stmt} {b₀ : Stmt} {np pos pos' : Pos} {U : Wi} {gb : XW → GS} {gs : GS}
theorem pss_ex {ι : Type} {X : Cx} {body : List Stmt} {t : ι → TS} (h : ∀ j, PSs X body (t j)) : PSs X body (fun D σ H => ∃ j, t j D σ H) := ⟨fun pins s σ H D I ⟨j, q⟩ => (h j).run pins s σ H D I q⟩
theorem RelS.setN {K : PySem.W.Frag} {m : Nat → Addr} {N : Nat} {Hv : Hp} {ρ : Env_} {σ : L2.St} {i : Nat} (r : RelS K m N Hv ρ σ) : RelS K m N Hv (ρ.set i none) (σ.set i none) := by
  refine ⟨by simpa using r.1, fun j d h => ?_⟩
  by_cases hj : j = i
  · subst hj
    by_cases hl : j < ρ.length
    · rw [List.getElem?_set_self hl] at h; cases h
    · rw [List.getElem?_eq_none (by simpa using hl)] at h; cases h
  · rw [List.getElem?_set_ne (Ne.symm hj)] at h
    obtain ⟨v, h1, h2⟩ := r.2 j d h
    exact ⟨v, by rw [List.getElem?_set_ne (Ne.symm hj)]; exact h1, h2⟩
theorem d_tryAs (tk : Takes X U.W) (hc : Names X x c) (hb : ∀ (U' : Wi) (pn : List (Addr × Obj)) (xe : Value → Shared → Prop), Takes (X.tr pn xe) U'.W → PassesOwn (model X.prog X.w) X.A X.env xe → PSs (X.tr pn xe) body (tofS X.K U' (gb U'.D)))
    (hsu : ∀ (a : Addr) (pn : List (Addr × Obj)), PSs (X.suite a pn) (b₀ :: suite) (tofS X.K U gs)) (hN : X.N.Nodup) (hs : X.stack = X.env :: X.outer := by rfl) (hf : X.env.frame = some X.env.locals := by rfl) (hx : X.ex = [] := by rfl) (hi : X.N[i]? = some n := by rfl) (hln : X.env.kindOf n = some .local := by rfl) :
    PS X (.Try body [.ExceptHandler (some (.Name x np)) (some n) (b₀ :: suite) pos'] [] [] pos) (tofS X.K U (gTryAs X.K U.D c i gb gs)) :=
  weakS (ps_try_trk (tb := fun W De σ H => ∃ WD' : XW, tofS X.K ⟨W, WD'⟩ (gb WD') De σ H) hs hf hx hN hi hln hc tk (fun W pn xe tk' pa => pss_ex fun WD' => hb ⟨W, WD'⟩ pn xe tk' pa) fun a => hsu a X.pn) fun De σ H ⟨m, S, Z, ρ, E, w, rs, h, k⟩ => by
    refine ⟨_, m, S, Z, ρ, E, ⟨w.toWd0, ?_⟩, rs, h, ⟨?_, ?_, ?_, ?_⟩⟩
    · intro H' m' S' σ' ρ' cx dd ks ds vs e w0 rs' xd l r ⟨b, h1, h2, h3⟩
      refine ⟨b, h1.is, fun hb a na => ?_, fun hb => w.up H' m' S' σ' ρ' cx dd ks ds vs e w0 rs' xd l r (h3 hb)⟩
      obtain ⟨w1, e1, hv⟩ := (w.on e w0).new (o := excO cx.val dd a) na
      refine ⟨m', S', Z, ρ'.set i (some (.exc cx ks ds)), _, w1, ?_, h2 hb, ⟨?_, ?_, ?_, ?_⟩⟩
      · refine RelS.set (rs'.ext e1) ?_
        rw [Rep]
        exact ⟨a, dd, vs, rfl, hv, Xd.sub e1.vis xd, l, r.ext e1⟩
      · exact fun σ2 H2 m2 ρ2 S2 e2 w2 r2 q => k.nx _ H2 m2 _ S2 ((e.trans e1).trans e2) w2 (RelS.setN r2) q
      · exact k.rt.ext (e.trans e1)
      · exact fun σ2 H2 m2 ρ2 S2 e2 w2 r2 q => k.bk _ H2 m2 _ S2 ((e.trans e1).trans e2) w2 (RelS.setN r2) q
      · exact fun σ2 H2 m2 ρ2 S2 e2 w2 r2 q => k.ct _ H2 m2 _ S2 ((e.trans e1).trans e2) w2 (RelS.setN r2) q
    · exact fun σ2 H2 m2 ρ2 S2 e2 w2 r2 q => k.nx _ H2 m2 _ S2 e2 (w.on e2 w2.toWd0) r2 q
    · exact fun σ2 H2 m2 ρ2 S2 e2 w2 r2 q => k.rt _ H2 m2 _ S2 e2 (w.on e2 w2.toWd0) r2 q
    · exact fun σ2 H2 m2 ρ2 S2 e2 w2 r2 q => k.bk _ H2 m2 _ S2 e2 (w.on e2 w2.toWd0) r2 q
    · exact fun σ2 H2 m2 ρ2 S2 e2 w2 r2 q => k.ct _ H2 m2 _ S2 e2 (w.on e2 w2.toWd0) r2 q
end
/-- what an exception's class must bear so that its instances are looked at -/
structure XLk (K : PySem.W.Frag) (C : Addr) : Prop where
  ga : PySem.W.findIn K (.ref C) "__getattribute__" = some (some (.builtin "BaseException.__getattribute__"))
  gg : PySem.W.findIn K (.ref C) "__getattr__" = some none
  exC : PySem.W.subIn K (.ref C) (.type "BaseException") = some true
  hdC : PySem.W.hasDictIn K C = true
  ha : PySem.W.findIn K (.ref C) "__class__" = some (some (.builtin "object.__class__"))
  hn : PySem.W.specialIn K (.builtin "object.__class__") "__get__" = some (some (.builtin "getset_descriptor.__get__"))
  ht : PySem.W.takesIn K (.builtin "object.__class__") = some true
  hm : PySem.W.mroIn K C (.type "object") = some true
structure XFd (K : PySem.W.Frag) (C : Addr) (f : Str) : Prop where
  lk : XLk K C
  no : PySem.W.findIn K (.ref C) f = some none
/-- the object of a tracked exception, as the looks ask -/
theorem exc_inst {P : Program} {w : World} {H : Hp} {h : Heap} {a C : Addr} {d : Option Addr} {fs : List (Str × V)} (hok : HOk P w H h) (ea : H a = some (excO (.ref C) d a)) (xd : Xd H d fs) :
    ∃ ox od, PySem.W.InstAt h a ox C od ∧ ∀ f v, fs.lookup f = some v → ∃ u oo, od = some oo ∧ RelV v u ∧ PySem.W.lookIn f oo = some (some u) := by
  obtain ⟨⟨oe, vs, e, h1, h2, h3⟩, _⟩ := hok a _ ea
  cases d with
  | none =>
    refine ⟨oe, none, ⟨e, h1, by unfold PySem.W.notCls; rw [h3] <;> rfl, by rw [h2]; trivial⟩, fun f v q => ?_⟩
    have z : fs = [] := xd
    rw [z] at q
    cases q
  | some dd =>
    have hx : ObjOk P w H h dd (.xd fs) := hok dd _ xd
    obtain ⟨mA, hns, hr⟩ := hx
    obtain ⟨od, ho, hl⟩ := lookIn_ns hns
    refine ⟨oe, some od, ⟨e, h1, by unfold PySem.W.notCls; rw [h3] <;> rfl, by rw [h2]; exact ho⟩, fun f v q => ?_⟩
    obtain ⟨u, hu, ru⟩ := RelO.some_of (v := v) (o := mA f) (by rw [← q]; exact hr f)
    exact ⟨u, od, rfl, ru, by rw [hl, hu]⟩
def tXfT (K : PySem.W.Frag) (f : Str) (te : TE) : TE := fun σ H Q => te σ H fun x H1 => ∃ a C d fs v, x = .ref a ∧ H1 a = some (excO (.ref C) d a) ∧ Xd H1 d fs ∧ XFd K C f ∧ fs.lookup f = some v ∧ Q v H1
theorem pe_xfT {X : Cx} {e : Expr} {te : TE} {pos : Pos} {n : Str} (he : PE X e te) (hb : attributeBase e n X.env (eval e X.env) = eval e X.env := by rfl) : PE X (.Attribute e n pos) (tXfT X.K n te) := by
  refine ⟨fun pins s σ H Q I h => ?_⟩
  refine attr_of hb (thn (he.run pins s σ H _ I h) fun u s1 hh => ?_)
  obtain ⟨x, H1, I1, rx, a, C, d, fs, v, ex, ea, xd, F, l, q⟩ := hh
  subst ex
  obtain rfl : u = Value.ref a := rx
  obtain ⟨ox, od, J, hl⟩ := exc_inst I1.hok ea xd
  obtain ⟨u, oo, rfl, ru, hu⟩ := hl _ _ l
  exact HandSPX.exc_get I1.kIn J F.lk.ga F.lk.gg F.lk.exC (PySem.W.findObj_own F.lk.hdC F.no rfl hu) (handed_of ru) ⟨v, H1, I1.tok _, ru, q⟩
def gFldX (K : PySem.W.Frag) (f : Str) (go : G D) : G D := fun ρ S q => go ρ S fun o S1 => ∃ C ks ds d, o = .exc (.own C) ks ds ∧ XFd K C f ∧ fget f ks ds = some d ∧ q d S1
theorem d_fldX {X : Cx} {e : Expr} {pos : Pos} {f : Str} {go : G D} {U : Wi} (he : PE X e (tofE X.K U go)) (hb : attributeBase e f X.env (eval e X.env) = eval e X.env := by rfl) : PE X (.Attribute e f pos) (tofE X.K U (gFldX X.K f go)) :=
  weakE (pe_xfT he hb) fun σ H Q ⟨m, S, Z, ρ, q, w, rs, h, k⟩ => tof_in w rs h fun v1 H1 m1 d1 S1 e1 w1 r1 ⟨C, ks, ds, d, h1, h2, h3, h4⟩ => by
    subst h1
    have r1' : Rep X.K m1 S1.length (vis m1 S1 Z H1) (.exc (.own C) ks ds) v1 := r1
    rw [Rep] at r1'
    obtain ⟨a, dd, vs, ev, ha, xd, hl, hr⟩ := r1'
    obtain ⟨v, hv, rv⟩ := reps_fget hr h3
    exact ⟨a, C, dd, _, v, ev, vis_sub ha, Xd.sub (fun _ _ => vis_sub) xd, h2, hv, k.at e1 w1 rv h4⟩
def rIsX (K : PySem.W.Frag) : List V → Hp → VK → Prop := fun xs H Q => ∃ (a C : Addr) (d : Option Addr) (fs : List (Str × V)) (c : V) (b : Bool), xs = [.ref a, c] ∧ H a = some (excO (.ref C) d a) ∧ Xd H d fs ∧ XLk K C ∧ Q (.bl b) H ∧
  ((∃ u, ClsV c u ∧ PySem.W.kitOne K (.ref C) u = some b) ∨ ∃ tp cs us, c = .ref tp ∧ SqT K H tp cs ∧ Paired ClsV cs us ∧ PySem.W.kitAny K (.ref C) us = some b)
theorem call_isX {X : Cx} : CallR X (.builtin "isinstance") (rIsX X.K) := by
  intro pins s σ H xs us Q I r h
  obtain ⟨a, C, d, fs, c, b, rfl, ea, xd, L, q, h⟩ := h
  obtain ⟨u1, u2, rfl, r1, r2⟩ := vals2 r
  obtain rfl : u1 = Value.ref a := r1
  obtain ⟨ox, od, J, _⟩ := exc_inst I.hok ea xd
  have hcl : (PySem.W.clsIn X.K C).isSome = true := by
    obtain ⟨cd, hc, _⟩ := PySem.W.any_some L.hdC
    rw [hc]
    rfl
  have Z := PySem.W.kitx_exc (K := X.K) (x := a) (ox := ox) (od := od) hcl L.ga L.gg L.exC L.ha L.hn L.ht L.hm
  rcases h with ⟨u, k, e⟩ | ⟨tp, cs, ws, ec, hT, k, e⟩
  · have e2 := k.eq r2
    subst e2
    exact PySem.W.kia_one Z I.kIn J e (fun z => nomatch z) fun tk => ⟨.bl b, H, I.tok tk, rfl, q⟩
  · subst ec
    cases (show u2 = Value.ref tp from r2)
    obtain ⟨its, rv, ⟨o, hget, h2, n, h3⟩, _⟩ := I.tuple hT
    have e3 := ClsV.all k rv
    subst e3
    obtain ⟨oc, od', dt, sl⟩ := o
    dsimp only at h2 h3
    subst h2
    subst h3
    exact PySem.W.kia_tup Z I.kIn J hget e (fun z => nomatch z) fun tk => ⟨.bl b, H, I.tok tk, rfl, q⟩
def clsD : D → Option Value
  | .ref C => some (.ref C)
  | .ty n => some (.type n)
  | _ => none
structure KitX (K : PySem.W.Frag) (C : Addr) (u : Value) (b : Bool) : Prop where
  is : PySem.W.kitOne K (.ref C) u = some b
def isXs (K : PySem.W.Frag) (C : Addr) : List D → (Bool → Prop) → Prop
  | [], q => q false
  | d :: r, q => ∃ u b, clsD d = some u ∧ KitX K C u b ∧ (b = true → q true) ∧ (b = false → isXs K C r q)
theorem clsD_of {K : PySem.W.Frag} {m : Nat → Addr} {N : Nat} {Hv : Hp} {d : D} {v : V} {u : Value} (r : Rep K m N Hv d v) (h : clsD d = some u) : ClsV v u := by
  cases d with
  | ref C => cases h; rw [Rep] at r; subst r; exact .own C
  | ty n => cases h; rw [Rep] at r; subst r; exact .ty n
  | _ => cases h
def aIsX (K : PySem.W.Frag) : R2D := fun d c S q => ∃ C ks ds, d = .exc (.own C) ks ds ∧ XLk K C ∧ match c with
  | .tup cs => (∀ x ∈ cs, (clsD x).isSome = true) ∧ isXs K C cs fun b => q (.bl b) S
  | c => isXs K C [c] fun b => q (.bl b) S
theorem cls_all {K : PySem.W.Frag} {m : Nat → Addr} {N : Nat} {Hv : Hp} {C : Addr} : ∀ {ds : List D} {vs : List V} {q : Bool → Prop}, Reps K m N Hv ds vs → (∀ x ∈ ds, (clsD x).isSome = true) → isXs K C ds q → (∀ x ∈ ds, ∃ u b, clsD x = some u ∧ KitX K C u b ∨ True) → ∃ us, Paired ClsV vs us ∧ us = ds.filterMap clsD
  | [], _, _, r, _, _, _ => by
    rw [Reps] at r
    subst r
    exact ⟨[], .nil, rfl⟩
  | d :: ds, _, q, r, a, h, _ => by
    rw [Reps] at r
    obtain ⟨v, vs, rfl, r1, r2⟩ := r
    obtain ⟨u, hu⟩ := Option.isSome_iff_exists.mp (a d List.mem_cons_self)
    have rest : ∀ {ds : List D} {vs : List V}, Reps K m N Hv ds vs → (∀ x ∈ ds, (clsD x).isSome = true) → Paired ClsV vs (ds.filterMap clsD) := by
      intro ds
      induction ds with
      | nil => intro vs r _; rw [Reps] at r; subst r; exact .nil
      | cons d ds ih =>
        intro vs r a
        rw [Reps] at r
        obtain ⟨v, vs, rfl, r1, r2⟩ := r
        obtain ⟨u, hu⟩ := Option.isSome_iff_exists.mp (a d List.mem_cons_self)
        rw [List.filterMap_cons, hu]
        exact .cons (clsD_of r1 hu) (ih r2 fun x hx => a x (List.mem_cons_of_mem _ hx))
    refine ⟨_, ?_, rfl⟩
    rw [List.filterMap_cons, hu]
    exact .cons (clsD_of r1 hu) (rest r2 fun x hx => a x (List.mem_cons_of_mem _ hx))
theorem isXs_any {K : PySem.W.Frag} {C : Addr} : ∀ {ds : List D} {q : Bool → Prop}, isXs K C ds q → ∃ b, PySem.W.kitAny K (.ref C) (ds.filterMap clsD) = some b ∧ q b
  | [], q, h => ⟨false, rfl, h⟩
  | d :: r, q, ⟨u, b, e, k, h1, h2⟩ => by
    rw [List.filterMap_cons, e]
    cases b with
    | true => exact ⟨true, kitAny_cons k.is (fun z => nomatch z) fun _ => rfl, h1 rfl⟩
    | false =>
      obtain ⟨b', i1, i2⟩ := isXs_any (h2 rfl)
      exact ⟨b', kitAny_cons k.is (fun _ => i1) fun z => (nomatch z), i2⟩
theorem vr_isX {K : PySem.W.Frag} : VRN K (rIsX K) (a2 (aIsX K)) := vrn2 fun {_ m S Z H d c v u q Q} w r1 r2 ⟨C, ks, ds, e1, L, h⟩ k => by
  subst e1
  rw [Rep] at r1
  obtain ⟨a, dd, vs, ev, ha, xd, hl, hr⟩ := r1
  have ha' := vis_sub ha
  have xd' := Xd.sub (fun _ _ => vis_sub) xd
  have one : ∀ {c : D}, Rep K m S.length (vis m S Z H) c u → (isXs K C [c] fun b => q (.bl b) S) → rIsX K [v, u] H Q := fun {c} r2 ⟨u', b, e, kx, h1, h2⟩ => by
    refine ⟨a, C, dd, _, u, b, by rw [ev], ha', xd', L, ?_, .inl ⟨u', clsD_of r2 e, kx.is⟩⟩
    cases b with
    | true => exact k.now w rep_bl (h1 rfl)
    | false => exact k.now w rep_bl (h2 rfl)
  cases c with
  | tup cs =>
    obtain ⟨hall, h⟩ := h
    rw [Rep] at r2
    obtain ⟨tp, ws, eu, hT, rr⟩ := r2
    obtain ⟨b, hb, hq⟩ := isXs_any h
    obtain ⟨us, hp, rfl⟩ := cls_all rr hall h fun x _ => ⟨.none, true, .inr trivial⟩
    have hT' : SqT K H tp ws := by
      rcases hT with (z | ⟨o, z⟩) | z
      · exact .inl (.inl (vis_sub z))
      · exact .inl (.inr ⟨o, vis_sub z⟩)
      · exact .inr z
    exact ⟨a, C, dd, _, u, b, by rw [ev], ha', xd', L, k.now w rep_bl hq, .inr ⟨tp, ws, _, eu, hT', hp, hb⟩⟩
  | _ => exact one r2 h
end Dl
namespace Dl
open PySem L2 PyProof.Rows
structure XIn (K : PySem.W.Frag) (C : Addr) (qual : Str) (st : Stmt) : Prop where
  ex : ∃ f fd, FunS K "__init__" qual st [] f fd ∧ PySem.W.findIn K (.ref C) "__init__" = some (some (.ref f)) ∧ PySem.W.typeIn K (.ref f) = some (.type "function")
section
variable {P : Program} {w : World} {K : PySem.W.Frag} {mg : Str → Option Value} {base : Heap} {x qual : Str} {C : Addr} {st : Stmt} {ps : List Str} {B newId initId : String} {bm : List Value} {f1 f2 f3 : Str}
theorem xcls1 (mC : mg x = some (.ref C)) (T : ExT K C B newId initId bm) (I : XIn K C qual st) (S : FnScope ps ps (defScope st)) (hp : ps.length = 2) (n1 : PySem.W.findIn K (.ref C) f1 = some none)
    (body : ∀ (f : Addr) (cdv : Value) (A : Around) (outer : List Env) (s : Shared) (H : Hp) (E : XK), PSs (cxOf CX0 P w K mg base ps qual (defScope st) f cdv A outer s H E).nox (defBody st) (tI1 K f1)) : XCls P w K mg base x C st qual ps [f1] := by
  obtain ⟨f, fd, F, h1, h2⟩ := I.ex
  exact ⟨mC, ⟨B, newId, initId, bm, T⟩, hp, f, fd, F, h1, h2, init1 T n1 F S hp (body f)⟩
end
theorem tk0 {X : Cx} : Takes X U0.W := takes0
theorem names_own {X : Cx} {x : Str} {c : Value} (hg : Gl X x) (hm : X.mg x = some c) (hd : (x == ("__debug__" : Str)) = false := by decide) : Names X x c := ⟨hg, hd, .inl hm⟩
section
variable {P : Program} {w : World} {K : PySem.W.Frag} {mg : Str → Option Value} {base : Heap} {m qual : Str} {st : Stmt} {dvs : List V} {N ps : List Str} {k : Nat} {dsp : XSp} {C : Addr}
theorem mfnX_of0 (c : Cls K C) (B : MtB K C m qual st dvs) (S : FnScope N ps (defScope st)) (len : ∀ ds S q qx, dsp ds S q qx → ds.length = ps.length) (g : XW → GS)
    (hbody : ∀ (f : Addr) (cdv : Value) (A : Around) (outer : List Env) (s : Shared) (H : Hp) (E : XK) (U : Wi), RoomG k (A.deeper (envOfC qual (defScope st) s.heap.objs.size f cdv)) → Takes (cxOf (CX P w) P w K mg base N qual (defScope st) f cdv A outer s H E) U.W →
      PSs (cxOf (CX P w) P w K mg base N qual (defScope st) f cdv A outer s H E) (defBody st) (tofS K U (g U.D)))
    (hread : ∀ ds S q qx, D.unders S.length ds = true → Sto.under S.length S = true → dsp ds S q qx → g (fun c fs ds _ S' => qx c fs ds S') { nx := fun _ S' => q .non S', rt := q } (startD N ds) S) : MFnX P w K mg base C m qual st dvs (k + 1) ps dsp := by
  obtain ⟨f, fd, F, hm⟩ := B.ex
  exact ⟨c, f, fd, F, hm, fnx_body0 F S len g (hbody f) hread⟩
end
section
variable {K : PySem.W.Frag} {S : Sto} {q : D → Sto → Prop}
theorem x_isX1 {C : Addr} {ks : List Str} {ds : List D} {c : D} {u : Value} {b : Bool} (L : XLk K C) (hc : clsD c = some u) (hk : KitX K C u b) (h : q (.bl b) S) : aIsX K (.exc (.own C) ks ds) c S q := by
  refine ⟨C, ks, ds, rfl, L, ?_⟩
  have one : isXs K C [c] fun b => q (.bl b) S := ⟨u, b, hc, hk, fun e => by rw [e] at h; exact h, fun e => by rw [e] at h; exact h⟩
  cases c with
  | tup cs => cases hc
  | _ => exact one
theorem kitt {C : Addr} {T : String} {b : Bool} (h : PySem.W.subIn K (.ref C) (.type T) = some b) (hm : PySem.W.kitMeta T = true) : PySem.W.kitOne K (.ref C) (.type T) = some b := by
  unfold PySem.W.kitOne PySem.W.kitCls
  rw [if_neg (show ¬ ((Value.ref C == Value.type T) = true) from by simp)]
  dsimp only
  rw [if_pos hm]
  exact h
end
end Dl
namespace Dl
open PySem L2
def truD : D → Option Bool
  | .non => some false
  | .bl b => some b
  | .int i => some (i != 0)
  | .str x => if x.length ≤ sizeLine then some ((x.length : Int) != 0) else none
  | _ => none
def gOrT (ga gb : G D) : G D := fun ρ S q => ga ρ S fun d S1 => ∃ k, truD d = some k ∧ if k = true then q d S1 else gb ρ S1 q
def gAndT (ga gb : G D) : G D := fun ρ S q => ga ρ S fun d S1 => ∃ k, truD d = some k ∧ if k = true then gb ρ S1 q else q d S1
end Dl
namespace Dl
open PySem L2
def truS (S : Sto) : D → Option Bool
  | .tup ds => some (!ds.isEmpty)
  | .lst ds => some (!ds.isEmpty)
  | .ksq ds => some (!ds.isEmpty)
  | .dic ks _ => some (!ks.isEmpty)
  | .loc n => match S[n]? with
    | some (some (.lst ds)) => some (!ds.isEmpty)
    | some (some (.dic ks _)) => some (!ks.isEmpty)
    | _ => none
  | d => truD d
def gOrS (ga gb : G D) : G D := fun ρ S q => ga ρ S fun d S1 => ∃ k, truS S1 d = some k ∧ if k = true then q d S1 else gb ρ S1 q
end Dl
namespace DZ
open PySem
open PySem.Sem (wp)
/-- a list's or a tuple's iterator, and what it draws from -/
def ItOn (t : Bool) (h : Heap) (i l : Addr) (k : Nat) : Prop := if t = true then h.IsTupleIter i l k else h.IsListIter i l k
def SqOn (t : Bool) (h : Heap) (l : Addr) (xs : Array Value) : Prop := if t = true then h.IsTuple l xs else h.IsList l xs
theorem ItOn.cell {t : Bool} {h : Heap} {i l : Addr} {k : Nat} (q : ItOn t h i l k) : ∃ o, h.get? i = some o ∧ ∀ v, o.data ≠ .cell v := by
  cases t
  · obtain ⟨o, e, _, d⟩ := (show h.IsListIter i l k from q)
    exact ⟨o, e, fun v z => by rw [d] at z; cases z⟩
  · obtain ⟨o, e, _, d⟩ := (show h.IsTupleIter i l k from q)
    exact ⟨o, e, fun v z => by rw [d] at z; cases z⟩
theorem ItOn.at {t : Bool} {h h' : Heap} {i l : Addr} {k : Nat} (q : ItOn t h i l k) (e : ∀ o, h.get? i = some o → h'.get? i = some o) : ItOn t h' i l k := by
  cases t
  · exact Heap.IsListIter.at (show h.IsListIter i l k from q) e
  · exact Heap.IsTupleIter.at (show h.IsTupleIter i l k from q) e
abbrev IsZipS (h : Heap) (z TI TO : Addr) (f0 : Value) (f : Bool) : Prop :=
  h.get? z = some { cls := .type "zip", dict := none, data := .fields #[f0, .bool f, .bool true, .ref TI, .ref TO], slots := #[] }
section
variable {prog : Program} {w : World} {A : Around} {E : Value → Shared → Prop} {s : Shared} {z TI TO i1 i2 : Addr} {fp1 fp2 : List Addr} {n1 n2 i : Nat} {P1 P2 : Nat → Value → Prop} {St1 St2 : Nat → Heap → Prop} {a1 a2 f0 : Value} {f : Bool}
/-- the first field of a zip: nothing, or the number of a tuple that was given out -/
def Loose (f0 : Value) : Prop := f0 = .none ∨ ∃ T : Addr, f0 = rawInt T
end
def ZSt (t1 t2 : Bool) (z TI TO i1 i2 l1 l2 : Addr) (i : Nat) (h : Heap) : Prop :=
  ∃ f0 f, Loose f0 ∧ IsZipS h z TI TO f0 f ∧ IsTupOf2 h TI (.ref i1) (.ref i2) ∧ (∃ a1 a2, IsTupOf2 h TO a1 a2) ∧ ItOn t1 h i1 l1 i ∧ ItOn t2 h i2 l2 i
section
variable {prog : Program} {w : World} {A : Around} {E : Value → Shared → Prop} {s : Shared} {t1 t2 : Bool} {z TI TO i1 i2 l1 l2 : Addr} {i : Nat} {xs ys : Array Value} {x y : Value}
theorem ZSt.keep {h h' : Heap} (st : ZSt t1 t2 z TI TO i1 i2 l1 l2 i h) (k : ∀ b ∈ [z, TI, TO, i1, i2], ∀ o, h.get? b = some o → h'.get? b = some o) : ZSt t1 t2 z TI TO i1 i2 l1 l2 i h' := by
  obtain ⟨f0, f, hl, hz, hTI, ⟨a1, a2, hTO⟩, h1, h2⟩ := st
  exact ⟨f0, f, hl, k z (by simp) _ hz, k TI (by simp) _ hTI, ⟨a1, a2, k TO (by simp) _ hTO⟩, h1.at (k i1 (by simp)), h2.at (k i2 (by simp))⟩
end
end DZ
namespace DZ
open PySem
open PySem.Sem (wp)
end DZ
namespace DZ
open PySem PySem.Spec L2
/-- a list or a tuple -/
def SqX (K : PySem.W.Frag) (t : Bool) (H : Hp) (a : Addr) (xs : List V) : Prop := if t = true then SqT K H a xs else SqL K H a xs
theorem SqX.inj {X : Cx} {pins : List (Addr × Obj)} {σ : L2.St} {H : Hp} {s : Shared} {t : Bool} {a : Addr} {xs ys : List V} (I : Inv X pins σ H s) (h : SqX X.K t H a xs) (h2 : SqX X.K t H a ys) : xs = ys := by
  cases t
  · exact I.list_inj (show SqL X.K H a xs from h) (show SqL X.K H a ys from h2)
  · exact I.tuple_inj (show SqT X.K H a xs from h) (show SqT X.K H a ys from h2)
theorem SqOn.lt {t : Bool} {h : Heap} {a : Addr} {xs : Array Value} (q : SqOn t h a xs) : a < h.objs.size := by
  cases t
  · obtain ⟨o, e, _⟩ := (show h.IsList a xs from q)
    exact Heap.lt_size e
  · obtain ⟨o, e, _⟩ := (show h.IsTuple a xs from q)
    exact Heap.lt_size e
end DZ
namespace Dl
open PySem L2 DZ
def gZipS (ga : G (List D)) : GI := fun ρ S q => ga ρ S fun as S1 => ∃ d e ds es, as = [d, e] ∧ seqOf S1 d = some ds ∧ seqOf S1 e = some es ∧ ds.length = es.length ∧ q (zipD ds es) (fun S' => seqOf S' d = some ds ∧ seqOf S' e = some es) S1
def gZipE (ga : G (List D)) : GI := fun ρ S q => ga ρ S fun as S1 => ∃ d e ds es, as = [d, e] ∧ seqOf S1 d = some ds ∧ seqOf S1 e = some es ∧ ds.length = es.length ∧ q (enumD (zipD ds es)) (fun S' => seqOf S' d = some ds ∧ seqOf S' e = some es) S1
def aZipS (as : List D) (S1 : Sto) (q : List D → (Sto → Prop) → Sto → Prop) : Prop := ∃ d e ds es, as = [d, e] ∧ seqOf S1 d = some ds ∧ seqOf S1 e = some es ∧ ds.length = es.length ∧ q (zipD ds es) (fun S' => seqOf S' d = some ds ∧ seqOf S' e = some es) S1
def aZipE (as : List D) (S1 : Sto) (q : List D → (Sto → Prop) → Sto → Prop) : Prop := aZipS as S1 fun ds c S2 => q (enumD ds) c S2
theorem x_zipS {ga : G (List D)} {ρ : Env_} {S : Sto} {k : List D → (Sto → Prop) → Sto → Prop} : gZipS ga ρ S k = ga ρ S fun as S1 => aZipS as S1 k := rfl
theorem x_zipE {ga : G (List D)} {ρ : Env_} {S : Sto} {k : List D → (Sto → Prop) → Sto → Prop} : gZipE ga ρ S k = ga ρ S fun as S1 => aZipE as S1 k := rfl
theorem x_zipSL {ds es : List D} {S : Sto} {k : List D → (Sto → Prop) → Sto → Prop} : aZipS [.lst ds, .lst es] S k ↔ ds.length = es.length ∧ k (zipD ds es) (fun _ => True) S := by
  have h : (fun S' : Sto => seqOf S' (.lst ds) = some ds ∧ seqOf S' (.lst es) = some es) = fun _ => True := funext fun S' => propext ⟨fun _ => trivial, fun _ => ⟨rfl, rfl⟩⟩
  constructor
  · rintro ⟨_, _, _, _, e1, e2, e3, e4, h1⟩; cases e1; cases e2; cases e3; rw [h] at h1; exact ⟨e4, h1⟩
  · rintro ⟨e4, h1⟩; exact ⟨_, _, _, _, rfl, rfl, rfl, e4, by rw [h]; exact h1⟩
theorem x_zipST {ds es : List D} {S : Sto} {k : List D → (Sto → Prop) → Sto → Prop} : aZipS [.tup ds, .tup es] S k ↔ ds.length = es.length ∧ k (zipD ds es) (fun _ => True) S := by
  have h : (fun S' : Sto => seqOf S' (.tup ds) = some ds ∧ seqOf S' (.tup es) = some es) = fun _ => True := funext fun S' => propext ⟨fun _ => trivial, fun _ => ⟨rfl, rfl⟩⟩
  constructor
  · rintro ⟨_, _, _, _, e1, e2, e3, e4, h1⟩; cases e1; cases e2; cases e3; rw [h] at h1; exact ⟨e4, h1⟩
  · rintro ⟨e4, h1⟩; exact ⟨_, _, _, _, rfl, rfl, rfl, e4, by rw [h]; exact h1⟩
theorem x_zipEL {ds es : List D} {S : Sto} {k : List D → (Sto → Prop) → Sto → Prop} : aZipE [.lst ds, .lst es] S k ↔ ds.length = es.length ∧ k (enumD (zipD ds es)) (fun _ => True) S := x_zipSL
end Dl
namespace Dl
open PySem L2 PyProof.Rows
def aAugIx (g : R2D) (o i : D) (S2 : Sto) (ge : (D → Sto → Prop) → Prop) (c : Sto → Prop) : Prop := ∃ n ds k j x, o = .loc n ∧ i = .int k ∧ S2[n]? = some (some (.lst ds)) ∧ ixN ds.length k = some j ∧ ds[j]? = some x ∧
  ge fun y S3 => g x y S3 fun z S4 => ∃ es j2, S4[n]? = some (some (.lst es)) ∧ ixN es.length k = some j2 ∧ c (S4.set n (some (.lst (es.set j2 z))))
def gAugIx (g : R2D) (go gi ge : G D) : GS := fun E ρ S => go ρ S fun o S1 => gi ρ S1 fun i S2 => aAugIx g o i S2 (fun q => ge ρ S2 q) (E.nx ρ)
def aIsB (neg : Bool) : R2D := fun x y S q => ∃ a b : Bool, x = .bl a ∧ y = .bl b ∧ q (.bl (neg ^^ decide (a = b))) S
theorem x_isB {a b : Bool} {S : Sto} {q : D → Sto → Prop} : aIsB false (.bl a) (.bl b) S q ↔ q (.bl (decide (a = b))) S :=
  ⟨fun ⟨_, _, e1, e2, h⟩ => by cases e1; cases e2; simpa using h, fun h => ⟨a, b, rfl, rfl, by simpa using h⟩⟩
theorem x_notB {a b : Bool} {S : Sto} {q : D → Sto → Prop} : aIsB true (.bl a) (.bl b) S q ↔ q (.bl (!decide (a = b))) S :=
  ⟨fun ⟨_, _, e1, e2, h⟩ => by cases e1; cases e2; simpa using h, fun h => ⟨a, b, rfl, rfl, by simpa using h⟩⟩
theorem x_augix {g : R2D} {go gi ge : G D} {E : DE} {ρ : Env_} {S : Sto} : gAugIx g go gi ge E ρ S = go ρ S fun o S1 => gi ρ S1 fun i S2 => aAugIx g o i S2 (fun q => ge ρ S2 q) (E.nx ρ) := rfl
end Dl
namespace Dl
open PySem L2
def gLR1 (fz : Bool) (ge : G D) : G D := fun ρ S q => ge ρ S fun d S1 => ∃ n : Int, d = .int n ∧ -(2 ^ 62) ≤ n ∧ n ≤ 2 ^ 24 ∧ newL fz (rngD 0 n.toNat) S1 q
def gLR2 (fz : Bool) (ga gb : G D) : G D := fun ρ S q => ga ρ S fun d S1 => gb ρ S1 fun e S2 => ∃ i j : Int, d = .int i ∧ e = .int j ∧ (-(2 ^ 62) ≤ i ∧ i < 2 ^ 62 ∧ -(2 ^ 62) ≤ j ∧ j < 2 ^ 62 ∧ j - i ≤ 2 ^ 24) ∧ newL fz (rngD i (j - i).toNat) S2 q
end Dl
namespace Dl
open PySem PySem.Spec PyProof.Rows L2
end Dl
namespace Dl
open PySem L2
end Dl
namespace Dl
open PySem L2
section
variable {κ : Type} [DecidableEq κ]
def kputP (k : κ) (ks : List κ) : List κ := if (ks.any fun j => decide (j = k)) = true then ks else ks ++ [k]
def dputP {A : Type} (k : κ) (y : A) (ks : List κ) (ds : List A) : List A := if (ks.any fun j => decide (j = k)) = true then List.zipWith (fun j d => if j = k then y else d) ks ds else ds ++ [y]
def dgetP {A : Type} (k : κ) (ks : List κ) (ds : List A) : Option A := ((ks.zip ds).find? fun kv => decide (kv.1 = k)).map (·.2)
variable {K : PySem.W.Frag} {m : Nat → Addr} {N : Nat} {Hv : Hp}
end
def dicTOf (S : Sto) : D → Option (List (List Key) × List D)
  | .loc n => match S[n]? with
    | some (some (.dicT ks ds)) => some (ks, ds)
    | _ => none
  | _ => none
def toKeys : List D → Option (List Key)
  | [] => some []
  | d :: ds => match toKey d, toKeys ds with
    | some k, some ks => some (k :: ks)
    | _, _ => none
section
variable {X : Cx} {pos p' p1 apos cpos : Pos} {o i e f value : Expr} {es : List Expr} {x1 : Nat} {go gi gf gv : G D} {gs : G (List D)}
/-- d[k] -/
def gDIx (go gi : G D) : G D := fun ρ S q => go ρ S fun o S1 => gi ρ S1 fun x S2 => ∃ ks ds k d, dicOf S2 o = some (ks, ds) ∧ toKey x = some k ∧ dget k ks ds = some d ∧ q d S2
end
section
variable {X : Cx} {pos p' p1 apos cpos : Pos} {o i e f value : Expr} {es : List Expr} {x1 : Nat} {go gi gf gv : G D} {gs : G (List D)}
/-- d.get(k): the dict stands while k is read -/
def gDGt1 (go gi : G D) : G D := fun ρ S q => go ρ S fun o S1 => (∃ ks' ds', dicOf S1 o = some (ks', ds')) ∧ gi ρ S1 fun x S2 => ∃ ks ds k, dicOf S2 o = some (ks, ds) ∧ toKey x = some k ∧ q ((dget k ks ds).getD .non) S2
def gDGt2 (go gi gf : G D) : G D := fun ρ S q => go ρ S fun o S1 => (∃ ks' ds', dicOf S1 o = some (ks', ds')) ∧ gi ρ S1 fun x S2 => gf ρ S2 fun z S3 => ∃ ks ds k, dicOf S3 o = some (ks, ds) ∧ toKey x = some k ∧ q ((dget k ks ds).getD z) S3
/-- k in d, k not in d -/
def gDIn (neg : Bool) (gi go : G D) : G D := fun ρ S q => gi ρ S fun x S1 => go ρ S1 fun o S2 => ∃ ks ds k, dicOf S2 o = some (ks, ds) ∧ toKey x = some k ∧ q (.bl (xor neg (dget k ks ds).isSome)) S2
/-- {} for keys that are tuples -/
def gDNewT : G D := fun _ S q => q (.loc S.length) (S ++ [some (.dicT [] [])])
def gDIxT (go : G D) (gs : G (List D)) : G D := fun ρ S q => go ρ S fun o S1 => gs ρ S1 fun xs S2 => xs.length ≤ sizeLine ∧ ∃ ks ds k d, dicTOf S2 o = some (ks, ds) ∧ toKeys xs = some k ∧ dgetP k ks ds = some d ∧ q d S2
def gDGt1T (go : G D) (gs : G (List D)) : G D := fun ρ S q => go ρ S fun o S1 => (∃ ks' ds', dicTOf S1 o = some (ks', ds')) ∧ gs ρ S1 fun xs S2 => xs.length ≤ sizeLine ∧ ∃ ks ds k, dicTOf S2 o = some (ks, ds) ∧ toKeys xs = some k ∧ q ((dgetP k ks ds).getD .non) S2
/-- d[(..)] = v -/
def gDSetT (go : G D) (gs : G (List D)) (gv : G D) : GS := fun E ρ S => gv ρ S fun y S1 => go ρ S1 fun o S2 => gs ρ S2 fun xs S3 => xs.length ≤ sizeLine ∧ ∃ n ks ds k, o = .loc n ∧ S3[n]? = some (some (.dicT ks ds)) ∧ toKeys xs = some k ∧ ks.length < sizeLine ∧ E.nx ρ (S3.set n (some (.dicT (kputP k ks) (dputP k y ks ds))))
end
end Dl
namespace Dl
open PySem L2 PySem.Spec PyProof.Rows
def kdrop (k : Key) (ks : List Key) : List Key := ks.filter fun j => decide (j ≠ k)
def ddrop {A : Type} (k : Key) (ks : List Key) (ds : List A) : List A := ((ks.zip ds).filter fun kv => decide (kv.1 ≠ k)).map (·.2)
section
variable {X : Cx} {U : Wi} {pos apos cpos : Pos} {o i f : Expr} {go gi gf : G D}
/-- d.setdefault(k, x) -/
def gDSetd (go gi gf : G D) : G D := fun ρ S q => go ρ S fun o S1 => (∃ ks' ds', dicOf S1 o = some (ks', ds')) ∧ gi ρ S1 fun x S2 => gf ρ S2 fun y S3 => ∃ n ks ds k, o = .loc n ∧ S3[n]? = some (some (.dic ks ds)) ∧ toKey x = some k ∧ ks.length < sizeLine ∧
  (∀ d, dget k ks ds = some d → q d S3) ∧ (dget k ks ds = none → q y (S3.set n (some (.dic (kput k ks) (dput k y ks ds)))))
/-- d.pop(k), d.pop(k, x) -/
def gDPop1 (go gi : G D) : G D := fun ρ S q => go ρ S fun o S1 => (∃ ks' ds', dicOf S1 o = some (ks', ds')) ∧ gi ρ S1 fun x S2 => ∃ n ks ds k d, o = .loc n ∧ S2[n]? = some (some (.dic ks ds)) ∧ toKey x = some k ∧ dget k ks ds = some d ∧ q d (S2.set n (some (.dic (kdrop k ks) (ddrop k ks ds))))
def gDPop2 (go gi gf : G D) : G D := fun ρ S q => go ρ S fun o S1 => (∃ ks' ds', dicOf S1 o = some (ks', ds')) ∧ gi ρ S1 fun x S2 => gf ρ S2 fun y S3 => ∃ n ks ds k, o = .loc n ∧ S3[n]? = some (some (.dic ks ds)) ∧ toKey x = some k ∧
  (∀ d, dget k ks ds = some d → q d (S3.set n (some (.dic (kdrop k ks) (ddrop k ks ds))))) ∧ (dget k ks ds = none → q y S3)
end
structure KTt (K : PySem.W.Frag) (a : Addr) (xs : List Str) : Prop where
  ex : ∃ (o : Obj) (its : Array Value) (n : Nat), K.lookup a = some o ∧ o.cls = .type "tuple" ∧ o.dict = none ∧ o.data = .seq its n ∧ its.size ≤ sizeLine ∧ Vals (xs.map V.str) its.toList
theorem reps_strs {K : PySem.W.Frag} {m : Nat → Addr} {N : Nat} {Hv : Hp} (xs : List Str) : Reps K m N Hv (xs.map D.str) (xs.map V.str) := Reps.ofStrs xs
theorem KTt.tup {K : PySem.W.Frag} {a : Addr} {xs : List Str} (h : KTt K a xs) : KTup K (xs.map .str) a := ⟨fun m N Hv => by
  obtain ⟨o, its, n, h1, h2, h3, h4, h5, h6⟩ := h.ex
  rw [Rep]
  exact ⟨a, xs.map V.str, rfl, .inr ⟨o, its, n, h1, h2, h4, h5, h6⟩, reps_strs xs⟩⟩
def gTIdx (xs : List Str) (gs : G (List D)) : G D := fun ρ S q => gs ρ S fun as S2 => ∃ (x : Str) (j : Nat), as = [.str x] ∧ xs[j]? = some x ∧ (∀ m, m < j → xs[m]? ≠ some x) ∧ q (.int (j : Nat)) S2
/-- {k: v, ..}, the dict live -/
def gDisp (ks : List Key) (gs : G (List D)) : G D := fun ρ S q => gs ρ (S ++ [some (.dic [] [])]) fun ds S2 => S2[S.length]? = some (some (.dic [] [])) ∧ q (.loc S.length) (S2.set S.length (some (.dic ks ds)))
def gLKeys (fz : Bool) (go : G D) : G D := fun ρ S q => go ρ S fun o S1 => ∃ ks ds, dicOf S1 o = some (ks, ds) ∧ newL fz (ks.map kD) S1 q
end Dl
namespace Dl
open PySem L2 PySem.Calls PySem.Spec PyProof.Rows
open PySem.SeqAt
open AutoSeq1 (wpAny_loadPart')
open MeetsSeq
/-- facts of a class whose == is own, against the built-in kinds -/
structure EqC0 (K : PySem.W.Frag) (C : Addr) : Prop where
  nf : ∀ t ∈ "NoneType" :: basicT, PySem.W.subIn K (.type t) (.ref C) = some false
  nb : ∀ t ∈ "NoneType" :: basicT, PySem.W.subIn K (.ref C) (.type t) = some false
theorem int_dec_b (b : Bool) (l C dx : Addr) : Meets (Builtin.«int.__eq__» ⟨[.bool b, .ref l], []⟩) (fun _ R s => s.heap.get? l = some (PySem.W.instObj C dx) ∧ R (.ok (.ret .notImplemented)) s) :=
  .of_wp fun prog w A R s h => by obtain ⟨hp, g, d, tk, os⟩ := s; obtain ⟨hl, h⟩ := h; unfold PySem.W.instObj at hl; wp_walk using wpAny_loadPart' hl, wpAny_load hl; exact ⟨_, rfl, h⟩
theorem int_dec_i (b : Int) (u : Tok) (l C dx : Addr) : Meets (Builtin.«int.__eq__» ⟨[.int b u, .ref l], []⟩) (fun _ R s => s.heap.get? l = some (PySem.W.instObj C dx) ∧ R (.ok (.ret .notImplemented)) s) :=
  .of_wp fun prog w A R s h => by obtain ⟨hp, g, d, tk, os⟩ := s; obtain ⟨hl, h⟩ := h; unfold PySem.W.instObj at hl; wp_walk using wpAny_loadPart' hl, wpAny_load hl; exact ⟨_, rfl, h⟩
theorem str_dec (b : Str) (u : Tok) (l C dx : Addr) : Meets (Builtin.«str.__eq__» ⟨[.str b u, .ref l], []⟩) (fun _ R s => s.heap.get? l = some (PySem.W.instObj C dx) ∧ R (.ok (.ret .notImplemented)) s) :=
  .of_wp fun prog w A R s h => by obtain ⟨hp, g, d, tk, os⟩ := s; obtain ⟨hl, h⟩ := h; unfold PySem.W.instObj at hl; wp_walk using wpAny_loadPart' hl, wpAny_load hl; exact ⟨_, rfl, h⟩
section
variable {prog : Program} {w : World} {A : Around} {E : Value → Shared → Prop} {s : Shared} {K : PySem.W.Frag}
theorem list_dec {a b C dx : Addr} {its : Array Value} {n : Nat} {R : Result → Shared → Prop} (hl : s.heap.get? a = some { cls := .type "list", data := .seq its n }) (hb : s.heap.get? b = some (PySem.W.instObj C dx)) (X : K.In s.heap) (hm : PySem.W.subIn K (.ref C) (.type "list") = some false)
    (h : R (.ok (.ret .notImplemented)) s) :
    wpAny (model prog w) A.in1 (Builtin.«list.__eq__» ⟨[.ref a, .ref b], []⟩) (GQ.FinOf prog w A R) (fun e s' => R (.error e) s') s := by
  obtain ⟨hp, g, d, tk, os⟩ := s
  have L := PySem.W.looks_subIn (M := model prog w) X hm
  unfold PySem.W.instObj at hb
  wp_walk using wpAny_loadPart' hl, wpAny_loadPart' hb, wpAny_load hb
  refine L.here ?_
  wp_walk
  exact h
theorem tup_dec {a b C dx : Addr} {its : Array Value} {n : Nat} {dd : Option Addr} {sl : Array (Option Value)} {R : Result → Shared → Prop} (hl : s.heap.get? a = some { cls := .type "tuple", dict := dd, data := .seq its n, slots := sl }) (hb : s.heap.get? b = some (PySem.W.instObj C dx)) (X : K.In s.heap) (hm : PySem.W.subIn K (.ref C) (.type "tuple") = some false)
    (h : R (.ok (.ret .notImplemented)) s) :
    wpAny (model prog w) A.in1 (Builtin.«tuple.__eq__» ⟨[.ref a, .ref b], []⟩) (GQ.FinOf prog w A R) (fun e s' => R (.error e) s') s := by
  obtain ⟨hp, g, d, tk, os⟩ := s
  have L := PySem.W.looks_subIn (M := model prog w) X hm
  unfold PySem.W.instObj at hb
  wp_walk using wpAny_loadPart' hl, wpAny_loadPart' hb, wpAny_load hb
  refine L.here ?_
  wp_walk
  exact h
theorem dict_dec {a b C dx : Addr} {o : Obj} {es : Array DictEntry} {n : Nat} {R : Result → Shared → Prop} (hl : s.heap.get? a = some o) (hc : o.cls = .type "dict") (hd : o.data = .dict es n) (hb : s.heap.get? b = some (PySem.W.instObj C dx)) (X : K.In s.heap) (hm : PySem.W.subIn K (.ref C) (.type "dict") = some false)
    (h : R (.ok (.ret .notImplemented)) s) :
    wpAny (model prog w) A.in1 (Builtin.«dict.__eq__» ⟨[.ref a, .ref b], []⟩) (GQ.FinOf prog w A R) (fun e s' => R (.error e) s') s := by
  obtain ⟨hp, g, d, tk, os⟩ := s
  obtain ⟨oc, od, ot, osl⟩ := o
  simp only at hc hd
  subst hc hd
  have L := PySem.W.looks_subIn (M := model prog w) X hm
  unfold PySem.W.instObj at hb
  wp_walk using wpAny_loadPart' hl, wpAny_load hl, wpAny_loadPart' hb, wpAny_load hb
  refine L.here ?_
  wp_walk
  exact h
end
section
variable {X : Cx} {pins : List (Addr × Obj)} {σ : L2.St} {H : Hp} {s : Shared}
inductive BV (K : PySem.W.Frag) (H : Hp) : V → String → Prop where
  | non : BV K H .non "NoneType"
  | bl {b : Bool} : BV K H (.bl b) "bool"
  | int {i : Int} : BV K H (.int i) "int"
  | str {x : Str} : BV K H (.str x) "str"
  | lst {a : Addr} {vs : List V} (h : H a = some (.lst vs)) : BV K H (.ref a) "list"
  | dK {a : Addr} {kvs : List (Key × V)} (h : H a = some (.dK kvs)) : BV K H (.ref a) "dict"
  | tup {a : Addr} {vs : List V} (h : SqT K H a vs) : BV K H (.ref a) "tuple"
theorem BV.mem {K : PySem.W.Frag} {x : V} {t : String} (b : BV K H x t) : t ∈ "NoneType" :: basicT := by
  cases b <;> decide
theorem decl_own {A : Around} {E : Value → Shared → Prop} {x : V} {t : String} {u : Value} {b C dx : Addr} {fs : List (Str × V)} (I : L2.Inv X pins σ H s) (bv : BV X.K H x t) (rx : RelV x u) (hb : H b = some (.ins C dx fs)) (f : EqC0 X.K C) :
    s.TypeIs u t ∧ u ≠ .ref b ∧ ∃ id, Slot t (cmpInfo .Eq).2.1 id ∧ ∀ (Q' : Value → Shared → Prop), Q' .notImplemented s → wpAny (model X.prog X.w) A (call (.builtin id) [u, .ref b]) Q' E s := by
  obtain ⟨mA, J, _⟩ := ins_get I.hok hb
  have jb := J.obj
  cases bv with
  | non => cases rx; exact ⟨rfl, (fun z => nomatch z), _, F.slot_NoneType_eq, fun Q' h => call_gives F.slot_NoneType_eq rfl F.entry_NoneType_eq (F.args_NoneType_eq_2 _ _) (NoneType___eq___none_ref_0 b) h⟩
  | bl => cases rx; exact ⟨rfl, (fun z => nomatch z), _, F.slot_bool_eq, fun Q' h => call_meets F.slot_bool_eq rfl F.entry_int_eq (F.args_int_eq_2 _ _) (int_dec_b _ b C dx) ⟨jb, h⟩⟩
  | int => obtain ⟨t, rfl⟩ := rx; exact ⟨rfl, (fun z => nomatch z), _, F.slot_int_eq, fun Q' h => call_meets F.slot_int_eq rfl F.entry_int_eq (F.args_int_eq_2 _ _) (int_dec_i _ t b C dx) ⟨jb, h⟩⟩
  | str => obtain ⟨t, rfl⟩ := rx; exact ⟨rfl, (fun z => nomatch z), _, F.slot_str_eq, fun Q' h => call_meets F.slot_str_eq rfl F.entry_str_eq (F.args_str_eq_2 _ _) (str_dec _ t b C dx) ⟨jb, h⟩⟩
  | @lst a vs ha =>
    cases rx
    obtain ⟨_, its, n, _, _, hl⟩ := I.lstM ha
    refine ⟨⟨_, hl, rfl⟩, fun z => ?_, _, F.slot_list_eq, fun Q' h => GQ.call_here F.slot_list_eq ⟨_, hl, rfl⟩ F.entry_list_eq (F.args_list_eq_2 _ _) (list_dec (K := X.K) (C := C) (dx := dx) hl jb I.kIn (f.nb "list" (by decide)) h)⟩
    cases z; rw [ha] at hb; cases hb
  | @dK a kvs ha =>
    cases rx
    obtain ⟨_, _, vs, _, o, es, ep, h1, h2, h3, _⟩ := (show ObjOk X.prog X.w H s.heap a (.dK kvs) from I.hok a _ ha)
    refine ⟨⟨_, h1, h2.1⟩, fun z => ?_, _, F.slot_dict_eq, fun Q' h => GQ.call_here F.slot_dict_eq ⟨_, h1, h2.1⟩ F.entry_dict_eq (F.args_dict_eq_2 _ _) (dict_dec (K := X.K) (C := C) (dx := dx) h1 h2.1 h3 jb I.kIn (f.nb "dict" (by decide)) h)⟩
    cases z; rw [ha] at hb; cases hb
  | @tup a vs ha =>
    cases rx
    obtain ⟨its, _, hT, _⟩ := I.tuple ha
    obtain ⟨o, ho, hc, n, hd⟩ := hT
    obtain ⟨oc, od, ot, osl⟩ := o
    simp only at hc hd
    subst hc hd
    refine ⟨⟨_, ho, rfl⟩, fun z => ?_, _, F.slot_tuple_eq, fun Q' h => GQ.call_here F.slot_tuple_eq ⟨_, ho, rfl⟩ F.entry_tuple_eq (F.args_tuple_eq_2 _ _) (tup_dec (K := X.K) (C := C) (dx := dx) ho jb I.kIn (f.nb "tuple" (by decide)) h)⟩
    cases z; rw [ho] at jb; cases jb
end
section
variable {prog : Program} {w : World} {A : Around} {E : Value → Shared → Prop} {s : Shared} {K : PySem.W.Frag}
/-- a built-in kind on the left, an own instance on the right -/
theorem rich_rev {u : Value} {t id : String} {b C f : Addr} {ob : Obj} {od : Option Obj} {Q : Value → Shared → Prop} (hu : A.units < cLine) (X : K.In s.heap) (ha : s.TypeIs u t) (J : PySem.W.InstAt s.heap b ob C od) (hsub : PySem.W.subIn K (.ref C) (.type t) = some false)
    (slot : Slot t (cmpInfo .Eq).2.1 id) (dec : ∀ Q' : Value → Shared → Prop, Q' .notImplemented s → wpAny (model prog w) A (call (.builtin id) [u, .ref b]) Q' E s)
    (hs : PySem.W.findIn K (.ref C) "__eq__" = some (some (.ref f))) (hf : PySem.W.isFn K (.ref f) = true)
    (hcall : wpAny (model prog w) A (call (.ref f) [.ref b, u]) (fun v s' => ∃ k, v = .bool k ∧ Q (.bool k) s') E s) : wpAny (model prog w) A (richCompare .Eq u (.ref b)) Q E s := by
  unfold richCompare
  simp only [ha.oneThing_none]
  refine wpAny_holding (wpAny_bind (wpAny_cRoomFor hu ?_))
  refine wpAny_bind (wpAny_typeOf ha (wpAny_bind (J.type.here ?_)))
  have hne : (Value.type t != Value.ref C) = true := by simp
  simp only [hne, if_true]
  refine wpAny_bind ((PySem.W.looks_subIn X hsub).here ?_)
  simp only [Bool.false_eq_true, if_false, Bool.not_false, if_true]
  refine wpAny_bind (m := tryCompare u _ (.ref b)) (wpAny_tryCompare_declines ha slot (dec _ ⟨rfl, ?_⟩))
  refine wpAny_bind (m := tryCompare (.ref b) _ u) ?_
  unfold tryCompare
  refine wpAny_bind (PySem.W.ifBound_K X J hs hf (wpAny_mono hcall (fun v s' hv => ?_) fun _ _ e => e))
  obtain ⟨k, rfl, hq⟩ := hv
  exact wpAny_pure (wpAny_pure hq)
end
def D.bk : D → Option String
  | .non => some "NoneType"
  | .bl _ => some "bool"
  | .int _ => some "int"
  | .str _ => some "str"
  | .tup _ => some "tuple"
  | .lst _ => some "list"
  | .dic _ _ => some "dict"
  | _ => none
def D.fv : D → V
  | .bl b => .bl b
  | .int i => .int i
  | .str x => .str x
  | _ => .non
structure EqE where
  C : Addr
  k : Nat
  dsp : DSp
structure EqOk (X : Cx) (c : EqE) : Prop where
  z : EqC0 X.K c.C
  n : NoNe X.K c.C
  f : ∃ (qual : Str) (st : Stmt) (dvs : List V) (ps : List Str), MFn X.prog X.w X.K X.mg X.base c.C "__eq__" qual st dvs c.k ps c.dsp ∧ Bnd "__eq__" qual st ps 2 [] [.p 0, .p 1] dvs.length
def EqsOk (X : Cx) (cs : List EqE) : Prop := ∀ c ∈ cs, EqOk X c
theorem eqs_nil {X : Cx} : EqsOk X [] := fun c h => by cases h
theorem eqs_cons {X : Cx} {c : EqE} {cs : List EqE} (h : EqOk X c) (hs : EqsOk X cs) : EqsOk X (c :: cs) := fun d hd => by
  rcases List.mem_cons.mp hd with rfl | hd
  · exact h
  · exact hs d hd
/-- what may stand at the right of an own instance of C -/
def SideK (K : PySem.W.Frag) (C : Addr) (e : D) : Prop := (∃ t, e.bk = some t) ∨ ∃ C' ks xs, e = .obj C' ks xs ∧ (C' = C ∨ PySem.W.subIn K (.ref C') (.ref C) = some false)
def Say (dsp : DSp) (d e : D) (r : Bool) : Prop := ∀ S', dsp [d, e] S' fun u S'' => u = .bl r ∧ S'' = S'
def NotSame (d e : D) : Prop := ∀ (K : PySem.W.Frag) (m : Nat → Addr) (N : Nat) (Hv : Hp) (v : V), (∀ a vs us, SqT K Hv a vs → SqT K Hv a us → vs = us) → Rep K m N Hv d v → Rep K m N Hv e v → False
inductive EqJ (K : PySem.W.Frag) (cs : List EqE) : Nat → D → D → Bool → Prop where
  | flat {n : Nat} {d e : D} {r : Bool} (hd : d.flat = true) (he : e.flat = true) (h : eqV d.fv e.fv = r) : EqJ K cs n d e r
  | own {n : Nat} {c : EqE} {ks : List Str} {xs : List D} {e : D} {r : Bool} (hc : c ∈ cs) (hk : c.k ≤ n) (he : SideK K c.C e) (say : Say c.dsp (.obj c.C ks xs) e r) (same : r = true ∨ (∃ t, e.bk = some t) ∨ NotSame (.obj c.C ks xs) e) : EqJ K cs n (.obj c.C ks xs) e r
  | rev {n : Nat} {c : EqE} {ks : List Str} {xs : List D} {d : D} {t : String} {r : Bool} (hc : c ∈ cs) (hk : c.k ≤ n) (hd : d.bk = some t) (say : Say c.dsp (.obj c.C ks xs) d r) : EqJ K cs n d (.obj c.C ks xs) r
  | tup {n : Nat} {ds es : List D} (rs : Nat → Bool) (hl : ds.length = es.length) (h : ∀ i d e, ds[i]? = some d → es[i]? = some e → EqJ K cs n d e (rs i)) : EqJ K cs (n + 1) (.tup ds) (.tup es) ((List.range ds.length).all rs)
  | tupN {n : Nat} {ds es : List D} (rs : Nat → Bool) (hl : ds.length ≠ es.length) (h : ∀ i d e, ds[i]? = some d → es[i]? = some e → EqJ K cs n d e (rs i)) : EqJ K cs (n + 1) (.tup ds) (.tup es) false
  | lst {n : Nat} {ds es : List D} (rs : Nat → Bool) (hl : ds.length = es.length) (h : ∀ i d e, ds[i]? = some d → es[i]? = some e → EqJ K cs n d e (rs i)) : EqJ K cs (n + 1) (.lst ds) (.lst es) ((List.range ds.length).all rs)
  | lstN {n : Nat} {ds es : List D} (hl : ds.length ≠ es.length) : EqJ K cs n (.lst ds) (.lst es) false
theorem bv_ins {X : Cx} {pins : List (Addr × Obj)} {σ : L2.St} {H : Hp} {s : Shared} {a C dx : Addr} {fs : List (Str × V)} {t : String} (I : L2.Inv X pins σ H s) (b : BV X.K H (.ref a) t) (h : H a = some (.ins C dx fs)) : False := by
  obtain ⟨mA, J, _⟩ := ins_get I.hok h
  have jb := J.obj
  cases b with
  | lst ha => rw [ha] at h; cases h
  | dK ha => rw [ha] at h; cases h
  | tup ha =>
    obtain ⟨its, _, ⟨o, ho, hc, n, hd⟩, _⟩ := I.tuple ha
    rw [jb] at ho
    cases ho
    cases hc
theorem flat_fv {K : PySem.W.Frag} {m : Nat → Addr} {N : Nat} {Hv : Hp} {d : D} {v : V} (h : d.flat = true) (r : Rep K m N Hv d v) : v = d.fv ∧ flatV v = true := by
  cases d <;> first | (cases h; done) | (rw [Rep] at r; subst r; exact ⟨rfl, rfl⟩)
theorem bk_bv {K : PySem.W.Frag} {m : Nat → Addr} {S : Sto} {Z : Addr → Prop} {H : Hp} {d : D} {v : V} {t : String} (h : d.bk = some t) (r : Rep K m S.length (vis m S Z H) d v) : BV K H v t := by
  cases d <;> first | (cases h; done) | skip
  · cases h; rw [Rep] at r; subst r; exact .non
  · cases h; rw [Rep] at r; subst r; exact .bl
  · cases h; rw [Rep] at r; subst r; exact .int
  · cases h; rw [Rep] at r; subst r; exact .str
  · cases h; rw [Rep] at r; obtain ⟨a, vs, rfl, h1, _⟩ := r; exact .tup (SqT.sub (fun a o z => vis_sub z) h1)
  · cases h; rw [Rep] at r; obtain ⟨a, vs, rfl, h1, _⟩ := r; exact .lst (vis_sub h1)
  · cases h; rw [Rep] at r; obtain ⟨a, vs, rfl, h1, _⟩ := r; exact .dK (vis_sub h1)
section
variable {X : Cx} {pins : List (Addr × Obj)} {σ : L2.St} {H : Hp} {s : Shared} {cs : List EqE} {m : Nat → Addr} {S : Sto} {Z : Addr → Prop}
theorem eqV_refl {d : D} (h : d.flat = true) : eqV d.fv d.fv = true := by
  cases d <;> first | (cases h; done) | simp [D.fv, eqV]
/-- at one place, the same -/
theorem eqj_same (I : L2.Inv X pins σ H s) {n : Nat} {d e : D} {r : Bool} (h : EqJ X.K cs n d e r) : ∀ v, Rep X.K m S.length (vis m S Z H) d v → Rep X.K m S.length (vis m S Z H) e v → r = true := by
  have inj : ∀ a vs us, SqT X.K (vis m S Z H) a vs → SqT X.K (vis m S Z H) a us → vs = us := fun a vs us h1 h2 => I.tuple_inj (SqT.sub (fun a o z => vis_sub z) h1) (SqT.sub (fun a o z => vis_sub z) h2)
  have items : ∀ {n : Nat} {ds es : List D} {rs : Nat → Bool} {vs : List V}, (∀ i d e, ds[i]? = some d → es[i]? = some e → ∀ v, Rep X.K m S.length (vis m S Z H) d v → Rep X.K m S.length (vis m S Z H) e v → rs i = true) → Reps X.K m S.length (vis m S Z H) ds vs → Reps X.K m S.length (vis m S Z H) es vs → ds.length = es.length → (List.range ds.length).all rs = true := by
    intro n ds es rs vs h r1 r2 hl
    rw [List.all_eq_true]
    intro i hi
    rw [List.mem_range] at hi
    obtain ⟨v, hv, rv⟩ := Reps.get r1 (List.getElem?_eq_getElem hi)
    obtain ⟨v', hv', rv'⟩ := Reps.get r2 (List.getElem?_eq_getElem (by omega : i < es.length))
    rw [hv] at hv'
    cases hv'
    exact h i _ _ (List.getElem?_eq_getElem hi) (List.getElem?_eq_getElem (by omega : i < es.length)) v rv rv'
  induction h with
  | flat hd he h =>
    intro v r1 r2
    have := flat_inj r1 r2 hd he
    subst this
    rw [← h]
    exact eqV_refl hd
  | own hc hk he say same =>
    intro v r1 r2
    rcases same with h | ⟨t, ht⟩ | h
    · exact h
    · have b := bk_bv ht r2
      rw [Rep] at r1
      obtain ⟨a, dx, vs, rfl, h1, _⟩ := r1
      exact (bv_ins I b (vis_sub h1)).elim
    · exact (h _ _ _ _ v inj r1 r2).elim
  | @rev n c ks xs d t r hc hk hd say =>
    intro v r1 r2
    have b := bk_bv hd r1
    rw [Rep] at r2
    obtain ⟨a, dx, vs, rfl, h1, _⟩ := r2
    exact (bv_ins I b (vis_sub h1)).elim
  | tup rs hl h ih =>
    intro v r1 r2
    rw [Rep] at r1 r2
    obtain ⟨a, vs, rfl, h1, q1⟩ := r1
    obtain ⟨a', us, e, h2, q2⟩ := r2
    cases e
    have := inj _ _ _ h1 h2
    subst this
    exact items (n := 0) ih q1 q2 hl
  | tupN rs hl h ih =>
    intro v r1 r2
    rw [Rep] at r1 r2
    obtain ⟨a, vs, rfl, h1, q1⟩ := r1
    obtain ⟨a', us, e, h2, q2⟩ := r2
    cases e
    have := inj _ _ _ h1 h2
    subst this
    exact absurd ((Reps.len q1).symm.trans (Reps.len q2)) hl
  | lst rs hl h ih =>
    intro v r1 r2
    rw [Rep] at r1 r2
    obtain ⟨a, vs, rfl, h1, q1⟩ := r1
    obtain ⟨a', us, e, h2, q2⟩ := r2
    cases e
    rw [h1] at h2
    cases h2
    exact items (n := 0) ih q1 q2 hl
  | lstN hl =>
    intro v r1 r2
    rw [Rep] at r1 r2
    obtain ⟨a, vs, rfl, h1, q1⟩ := r1
    obtain ⟨a', us, e, h2, q2⟩ := r2
    cases e
    rw [h1] at h2
    cases h2
    exact absurd ((Reps.len q1).symm.trans (Reps.len q2)) hl
end
section
variable {prog : Program} {w : World} {A : Around} {R : Result → Shared → Prop}
theorem tuple_eqB (l b : Addr) (items items2 : Array Value) (n n2 : Nat) (dd dd2 : Option Addr) (sl sl2 : Array (Option Value)) (rs : Nat → Bool) (out : Bool) (I : Nat → Shared → Prop)
    (h1 : items.size = items2.size → (∀ j, j < items.size → rs j = true) → out = true) (h2 : ∀ j, j < min items.size items2.size → rs j = false → out = false) (h3 : items.size ≠ items2.size → out = false)
    (turn : ∀ i (h1 : i < items.size) (h2 : i < items2.size) s, I i s → wpAny (model prog w) A.in1 (eqBool items[i] items2[i]) (fun r s' => r = rs i ∧ I (i + 1) s') (fun e s' => R (.error e) s') s)
    (fin : ∀ j s, I j s → R (.ok (.ret (.bool out))) s) {s : Shared} (hl1 : s.heap.get? l = some { cls := .type "tuple", dict := dd, data := .seq items n, slots := sl }) (hb1 : s.heap.get? b = some { cls := .type "tuple", dict := dd2, data := .seq items2 n2, slots := sl2 }) (h : I 0 s) :
    wpAny (model prog w) A.in1 (Builtin.«tuple.__eq__» ⟨[.ref l, .ref b], []⟩) (GQ.FinOf prog w A R) (fun e s' => R (.error e) s') s := by
  have f2 := AutoSeq1.sub_tuple_tuple
  have hZ : (items.toList.zip items2.toList).length = min items.size items2.size := by simp
  have h0 := h
  obtain ⟨hp, g, d, tk, os⟩ := s
  wp_walk using wpAny_loadPart' hl1, wpAny_loadPart' hb1, wpAny_forIn_list _ (fun rest b s' => b.1 = none ∧ ∃ i, rest = (items.toList.zip items2.toList).drop i ∧ (∀ j, j < i → rs j = true) ∧ I i s') _
  case turn =>
    rintro ⟨y, x⟩ rest b s' ⟨hb', i, hz, hi, hI⟩
    have hlt : i < (items.toList.zip items2.toList).length := by
      rcases Nat.lt_or_ge i (items.toList.zip items2.toList).length with h' | h'
      · exact h'
      · rw [List.drop_of_length_le h'] at hz; cases hz
    have hm : i < min items.size items2.size := hZ ▸ hlt
    have g1 : i < items.size := Nat.lt_of_lt_of_le hm (Nat.min_le_left _ _)
    have g2 : i < items2.size := Nat.lt_of_lt_of_le hm (Nat.min_le_right _ _)
    rw [List.drop_eq_getElem_cons hlt] at hz
    injection hz with hyx hrest
    have hy : y = items[i] := by have := congrArg Prod.fst hyx; simpa using this
    have hx : x = items2[i] := by have := congrArg Prod.snd hyx; simpa using this
    subst hy hx
    refine wpAny_bind (wpAny_mono (turn i g1 g2 s' hI) (fun r s2 q2 => ?_) fun _ _ x => x)
    obtain ⟨hr, q2⟩ := q2
    cases hri : rs i with
    | true =>
      rw [hri] at hr
      subst hr
      wp_walk
      refine ⟨rfl, i + 1, hrest, fun j hj => ?_, q2⟩
      rcases Nat.lt_or_ge j i with q | q
      · exact hi j q
      · rw [show j = i by omega]; exact hri
    | false =>
      rw [hri] at hr
      subst hr
      have hR : R (.ok (.ret (.bool out))) s2 := fin _ s2 q2
      rw [h2 i hm hri] at hR
      wp_walk
      exact hR
  case fin =>
    rintro ⟨b1, b2⟩ s' ⟨hb', i, hz, hi, hI⟩
    simp only at hb'
    subst hb'
    have hge : min items.size items2.size ≤ i := by
      rcases Nat.lt_or_ge i (items.toList.zip items2.toList).length with h' | h'
      · rw [List.drop_eq_getElem_cons h'] at hz; cases hz
      · exact hZ ▸ h'
    have hR : R (.ok (.ret (.bool out))) s' := fin i s' hI
    have ho : out = (items.size == items2.size) := by
      by_cases e : items.size = items2.size
      · rw [h1 e fun j hj => hi j (by omega), beq_iff_eq.mpr e]
      · rw [h3 e, beq_eq_false_iff_ne.mpr e]
    wp_walk
    simpa [Builtin.Tuple.tupleCompareSizes, ho] using hR
  case h =>
    exact ⟨rfl, 0, rfl, fun j hj => absurd hj (Nat.not_lt_zero j), h0⟩
end
section
variable {prog : Program} {w : World} {A : Around} {E : Value → Shared → Prop} {s : Shared}
theorem rc_tupB {l b : Addr} {items items2 : Array Value} {rs : Nat → Bool} {out : Bool} {Q : Value → Shared → Prop} (hu : A.units < cLine) (I : Nat → Shared → Prop)
    (h1 : items.size = items2.size → (∀ j, j < items.size → rs j = true) → out = true) (h2 : ∀ j, j < min items.size items2.size → rs j = false → out = false) (h3 : items.size ≠ items2.size → out = false)
    (hl : s.heap.IsTuple l items) (hb : s.heap.IsTuple b items2)
    (turn : ∀ i (h1 : i < items.size) (h2 : i < items2.size) s, I i s → wpAny (model prog w) A.in1 (eqBool items[i] items2[i]) (fun r s' => r = rs i ∧ I (i + 1) s') E s)
    (fin : ∀ j s, I j s → Q (.bool out) s) (h : I 0 s) : wpAny (model prog w) A (richCompare .Eq (.ref l) (.ref b)) Q E s := by
  obtain ⟨⟨cls, dd, data, sl⟩, ho, hc, n, hd⟩ := id hl
  obtain ⟨⟨cls2, dd2, data2, sl2⟩, ho2, hc2, n2, hd2⟩ := id hb
  simp only at hc hd hc2 hd2
  subst hc hd hc2 hd2
  refine wpAny_richCompare_same_room (op := .Eq) ⟨_, ho, rfl⟩ ⟨_, ho2, rfl⟩ F.slot_tuple_eq (GQ.call_here F.slot_tuple_eq ⟨_, ho, rfl⟩ F.entry_tuple_eq (F.args_tuple_eq_2 _ _) ?_) hu
  exact tuple_eqB (R := wants (fun v s' => v ≠ .notImplemented ∧ Q v s') E) l b items items2 n n2 dd dd2 sl sl2 rs out I h1 h2 h3 turn (fun j s' q => ⟨(fun x => nomatch x), fin j s' q⟩) ho ho2 h
theorem eqBool_of {u v : Value} {r : Bool} {Q : Shared → Prop} (nf : ∀ x t, u ≠ .float x t) (hs : u = v → r = true ∧ Q s) (h : wpAny (model prog w) A (richCompare .Eq u v) (fun c s' => c = .bool r ∧ Q s') E s) : wpAny (model prog w) A (eqBool u v) (fun c s' => c = r ∧ Q s') E s := by
  unfold eqBool
  refine wpAny_holding ?_
  refine wpAny_ite_split (fun hab => ?_) (fun _ => ?_)
  · obtain ⟨h1, h2⟩ := hs (eq_of_beq hab)
    exact wpAny_bind (wpAny_rule (wpAny_pure ⟨h1.symm, h2⟩))
  · have last : wpAny (model prog w) A (do truthOfDropped (← richCompare .Eq u v)) (fun c s' => c = r ∧ Q s') E s := by
      refine wpAny_bind (wpAny_mono h (fun c s' hc => ?_) fun _ _ x => x)
      obtain ⟨rfl, q⟩ := hc
      exact wpAny_truthy_bool ⟨rfl, q⟩
    cases u <;> first | exact last | exact absurd rfl (nf _ _)
end
section
variable {X : Cx} {cs : List EqE}
def RunR (X : Cx) (n : Nat) (d e : D) (r : Bool) : Prop := ∀ (A : Around) (pins : List (Addr × Obj)) (s : Shared) (σ : L2.St) (H : Hp) (m : Nat → Addr) (S : Sto) (Z : Addr → Prop) (x y : V) (u v : Value), SubG X n A → L2.Inv X pins σ H s → Wd0 X.K m S Z H → Rep X.K m S.length (vis m S Z H) d x → Rep X.K m S.length (vis m S Z H) e y → RelV x u → RelV y v →
  wpAny (model X.prog X.w) A (richCompare .Eq u v) (fun c s' => c = .bool r ∧ ∃ H', L2.Inv X pins σ H' s' ∧ L2.Ext H H') X.xe s
def RunB (X : Cx) (n : Nat) (d e : D) (r : Bool) : Prop := ∀ (A : Around) (pins : List (Addr × Obj)) (s : Shared) (σ : L2.St) (H : Hp) (m : Nat → Addr) (S : Sto) (Z : Addr → Prop) (x y : V) (u v : Value), SubG X n A → L2.Inv X pins σ H s → Wd0 X.K m S Z H → Rep X.K m S.length (vis m S Z H) d x → Rep X.K m S.length (vis m S Z H) e y → RelV x u → RelV y v →
  wpAny (model X.prog X.w) A (eqBool u v) (fun c s' => c = r ∧ ∃ H', L2.Inv X pins σ H' s' ∧ L2.Ext H H') X.xe s
theorem rep_nofl {m : Nat → Addr} {N : Nat} {Hv : Hp} {d : D} {x : V} {u : Value} (r : Rep X.K m N Hv d x) (rx : RelV x u) : ∀ z t, u ≠ .float z t := by
  intro z t e
  subst e
  cases x with
  | flt b => cases d <;> rw [Rep] at r <;> first | (cases r; done) | (obtain ⟨_, _, h, _⟩ := r; cases h; done) | (obtain ⟨_, _, _, h, _⟩ := r; cases h; done) | (obtain ⟨h, _⟩ := r; cases h; done)
  | int i => obtain ⟨_, h⟩ := rx; cases h
  | str i => obtain ⟨_, h⟩ := rx; cases h
  | byt i => obtain ⟨_, h⟩ := rx; cases h
  | non => cases rx
  | bl _ => cases rx
  | ref _ => cases rx
  | ty _ => cases rx
theorem runB_of {n : Nat} {d e : D} {r : Bool} (j : EqJ X.K cs n d e r) (h : RunR X n d e r) : RunB X n d e r := by
  intro A pins s σ H m S Z x y u v sb I w r1 r2 rx ry
  refine eqBool_of (rep_nofl r1 rx) (fun e' => ?_) (h A pins s σ H m S Z x y u v sb I w r1 r2 rx ry)
  subst e'
  have := rx.abs.symm.trans ry.abs
  cases this
  exact ⟨eqj_same I j x r1 r2, H, I, fun _ _ z => z⟩
theorem wd0_dark {m : Nat → Addr} {S : Sto} {Z : Addr → Prop} {H : Hp} (w : Wd0 X.K m S Z H) {d : D} {x : V} (r : Rep X.K m S.length (vis m S Z H) d x) : Rep X.K m (List.replicate S.length (none : Option MO)).length (vis m (List.replicate S.length none) (fun a => Z a ∨ ∃ n, Live S n ∧ m n = a) H) d x := by
  obtain ⟨_, hv⟩ := w.dark
  rw [hv, List.length_replicate]
  exact r
/-- an own == called -/
theorem run_say {c : EqE} {qual : Str} {st : Stmt} {dvs : List V} {ps : List Str} (b : Bnd "__eq__" qual st ps 2 [] [.p 0, .p 1] dvs.length) {f : Addr} {fd : FuncData} (FS : FunS X.K "__eq__" qual st dvs f fd) (FO : FnG X.prog X.w X.K X.mg X.base CX0 c.k f fd ps (spOf X.K c.dsp))
    {A : Around} (sb : SubG X c.k A) {pins : List (Addr × Obj)} {σ : L2.St} {H : Hp} {s : Shared} {m : Nat → Addr} {S : Sto} {Z : Addr → Prop} {d e : D} {x y : V} {u v : Value} {r : Bool}
    (I : L2.Inv X pins σ H s) (w : Wd0 X.K m S Z H) (r1 : Rep X.K m S.length (vis m S Z H) d x) (r2 : Rep X.K m S.length (vis m S Z H) e y) (rx : RelV x u) (ry : RelV y v) (hi : Say c.dsp d e r) :
    wpAny (model X.prog X.w) A (call (.ref f) [u, v]) (fun c s' => c = .bool r ∧ ∃ H', L2.Inv X pins σ H' s' ∧ L2.Ext H H') X.xe s := by
  obtain ⟨its, KB⟩ := kbn_of FS b
  have rr : Vals [x, y] [u, v] := .cons rx (.cons ry .nil)
  obtain ⟨wd, hv⟩ := w.dark
  have hsp : spOf X.K c.dsp [x, y] H (fun v H' => v = .bl r ∧ L2.Ext H H') fun _ _ _ => False := by
    refine ⟨m, List.replicate S.length none, _, [d, e], _, wd.u0, Reps.cons (wd0_dark w r1) (Reps.one (wd0_dark w r2)), hi _, fun v1 H1 m1 d1 S1 e1 w1 rr1 ⟨h1, h2⟩ => ?_⟩
    subst h1
    have rr1' := rr1
    rw [rD, Rep] at rr1'
    exact ⟨rr1', Ext.all h2 e1⟩
  refine wpAny_mono (run_at FO sb KB I rr rfl (by simpa [gat, pick] using hsp)) (fun w' s' hq => ?_) fun _ _ z => z
  obtain ⟨z, H', I', rz, ez, hE⟩ := hq
  subst ez
  cases rz
  exact ⟨rfl, H', I', hE⟩
theorem bv_ty {pins : List (Addr × Obj)} {σ : L2.St} {H : Hp} {s : Shared} {x : V} {t : String} {u : Value} (I : L2.Inv X pins σ H s) (bv : BV X.K H x t) (rx : RelV x u) : s.TypeIs u t := by
  cases bv with
  | non => cases rx; rfl
  | bl => cases rx; rfl
  | int => obtain ⟨t, rfl⟩ := rx; rfl
  | str => obtain ⟨t, rfl⟩ := rx; rfl
  | @lst a vs ha =>
    cases rx
    obtain ⟨_, its, n, _, _, hl⟩ := I.lstM ha
    exact ⟨_, hl, rfl⟩
  | @dK a kvs ha =>
    cases rx
    obtain ⟨_, _, vs, _, o, es, ep, h1, h2, h3, _⟩ := (show ObjOk X.prog X.w H s.heap a (.dK kvs) from I.hok a _ ha)
    exact ⟨_, h1, h2.1⟩
  | @tup a vs ha =>
    cases rx
    obtain ⟨its, _, hT, _⟩ := I.tuple ha
    obtain ⟨o, ho, hc, n, hd⟩ := hT
    exact ⟨_, ho, hc⟩
theorem ty_looks {s : Shared} {u : Value} {t : String} (h : s.TypeIs u t) : PySem.W.Looks (model X.prog X.w) s.heap (typeOf u) (.type t) := fun A Q E s' k q => by
  refine wpAny_typeOf ?_ q
  cases u with
  | ref a => obtain ⟨o, h1, h2⟩ := h; exact ⟨o, k _ _ h1, h2⟩
  | _ => exact h
theorem tyX_looks {pins : List (Addr × Obj)} {σ : L2.St} {H : Hp} {s : Shared} {m : Nat → Addr} {S : Sto} {Z : Addr → Prop} {C : Addr} {e : D} {y : V} {v : Value} (I : L2.Inv X pins σ H s) (z : EqC0 X.K C) (he : SideK X.K C e) (r : Rep X.K m S.length (vis m S Z H) e y) (ry : RelV y v) :
    ∃ tb, PySem.W.Looks (model X.prog X.w) s.heap (typeOf v) tb ∧ PySem.W.notFirst X.K C tb = true := by
  rcases he with ⟨t, he⟩ | ⟨C', ks, xs, rfl, hc⟩
  · have b := bk_bv he r
    exact ⟨.type t, ty_looks (bv_ty I b ry), by unfold PySem.W.notFirst; rw [z.nf t b.mem]; simp⟩
  · rw [Rep] at r
    obtain ⟨a, dx, vs, rfl, h1, _⟩ := r
    cases ry
    obtain ⟨mA, J, _⟩ := ins_get I.hok (vis_sub h1)
    obtain ⟨od, J, _⟩ := J.look
    refine ⟨.ref C', J.type, ?_⟩
    unfold PySem.W.notFirst
    rcases hc with rfl | hc
    · simp
    · rw [hc]; simp
theorem rc_V {A : Around} {s : Shared} {y x : V} {u v : Value} (ry : RelV y u) (rx : RelV x v) (fy : flatV y = true) (fx : flatV x = true) : RcAt A s u v (eqV y x) := by
  cases y with
  | non =>
    cases ry
    cases x with
    | non => cases rx; exact RcAt.none_none
    | bl b => cases rx; exact RcAt.none_bool b
    | int b => obtain ⟨t, rfl⟩ := rx; exact RcAt.none_int b t
    | str b => obtain ⟨t, rfl⟩ := rx; exact RcAt.none_str b t
    | _ => exact absurd (show false = true from fx) Bool.false_ne_true
  | bl a =>
    cases ry
    cases x with
    | non => cases rx; exact RcAt.bool_none a
    | bl b => cases rx; exact RcAt.bool_bool a b
    | int b => obtain ⟨t, rfl⟩ := rx; exact RcAt.bool_int a b t
    | str b => obtain ⟨t, rfl⟩ := rx; exact RcAt.bool_str a b t
    | _ => exact absurd (show false = true from fx) Bool.false_ne_true
  | int a =>
    obtain ⟨t', rfl⟩ := ry
    cases x with
    | non => cases rx; exact RcAt.int_none a t'
    | bl b => cases rx; exact RcAt.int_bool a t' b
    | int b => obtain ⟨t, rfl⟩ := rx; exact RcAt.int_int a t' b t
    | str b => obtain ⟨t, rfl⟩ := rx; exact RcAt.int_str a t' b t
    | _ => exact absurd (show false = true from fx) Bool.false_ne_true
  | str a =>
    obtain ⟨t', rfl⟩ := ry
    cases x with
    | non => cases rx; exact RcAt.str_none a t'
    | bl b => cases rx; exact RcAt.str_bool a t' b
    | int b => obtain ⟨t, rfl⟩ := rx; exact RcAt.str_int a t' b t
    | str b => obtain ⟨t, rfl⟩ := rx; exact RcAt.str_str a t' b t
    | _ => exact absurd (show false = true from fx) Bool.false_ne_true
  | _ => exact absurd (show false = true from fy) Bool.false_ne_true
/-- one turn of a loop -/
theorem turnA {n : Nat} {ds es : List D} {rs : Nat → Bool} (h : ∀ i d e, ds[i]? = some d → es[i]? = some e → RunB X n d e (rs i)) {A : Around} (sb : SubG X (n + 1) A) {pins : List (Addr × Obj)} {σ : L2.St} {H : Hp} {m : Nat → Addr} {S : Sto} {Z : Addr → Prop} (w : Wd0 X.K m S Z H)
    {vs us : List V} (q1 : Reps X.K m S.length (vis m S Z H) ds vs) (q2 : Reps X.K m S.length (vis m S Z H) es us) {its its2 : List Value} (r : Vals vs its) (r2 : Vals us its2)
    (i : Nat) (h1 : i < its.toArray.size) (h2 : i < its2.toArray.size) (s' : Shared) (l : ∃ H', L2.Inv X pins σ H' s' ∧ L2.Ext H H') :
    wpAny (model X.prog X.w) A.in1 (eqBool its.toArray[i] its2.toArray[i]) (fun c s2 => c = rs i ∧ ∃ H', L2.Inv X pins σ H' s2 ∧ L2.Ext H H') X.xe s' := by
  obtain ⟨H1, I1, e1⟩ := l
  rw [List.size_toArray] at h1 h2
  have lr := r.length
  have lr2 := r2.length
  have la := Reps.len q1
  have lb := Reps.len q2
  obtain ⟨d, hd⟩ : ∃ d, ds[i]? = some d := ⟨ds[i]'(by omega), by simp⟩
  obtain ⟨e, he⟩ : ∃ e, es[i]? = some e := ⟨es[i]'(by omega), by simp⟩
  obtain ⟨x, hx, rx⟩ := Reps.get q1 hd
  obtain ⟨y, hy, ry⟩ := Reps.get q2 he
  have gx : its[i]? = some its[i] := by simp
  have gy : its2[i]? = some its2[i] := by simp
  obtain ⟨w', _⟩ := w.grow e1
  have rx' := Rep.mono (fun _ _ => rfl) (Nat.le_refl _) (vis_grow e1) rx
  have ry' := Rep.mono (fun _ _ => rfl) (Nat.le_refl _) (vis_grow e1) ry
  have key := h i d e hd he A.in1 pins s' σ H1 m S Z x y its[i] its2[i] sb.in1 I1 w' rx' ry' (vals_each r i _ _ hx gx) (vals_each r2 i _ _ hy gy)
  refine wpAny_mono (by simpa using key) (fun c s2 hq => ?_) fun _ _ z => z
  obtain ⟨hc, H2, I2, e2⟩ := hq
  exact ⟨hc, H2, I2, e1.trans e2⟩
theorem eqj_run (hcs : EqsOk X cs) {n : Nat} {d e : D} {r : Bool} (j : EqJ X.K cs n d e r) : RunR X n d e r := by
  induction j with
  | @flat n d e r hd he h =>
    intro A pins s σ H m S Z x y u v sb I w r1 r2 rx ry
    obtain ⟨ex, fx⟩ := flat_fv hd r1
    obtain ⟨ey, fy⟩ := flat_fv he r2
    subst ex ey
    refine rc_V rx ry fx fy X.prog X.w X.xe _ ?_
    rw [h]
    exact ⟨rfl, H, I, fun _ _ z => z⟩
  | @own n c ks xs e r hc hk he say same =>
    intro A pins s σ H m S Z x y u v sb I w r1 r2 rx ry
    obtain ⟨z, _, qual, st, dvs, ps, F, b⟩ := hcs c hc
    obtain ⟨f, fd, FS, hm, FO⟩ := F.ex
    obtain ⟨tb, hb, hn⟩ := tyX_looks I z he r2 ry
    have r1' := r1
    rw [Rep] at r1'
    obtain ⟨a, dx, vs, rfl, h1, _⟩ := r1'
    cases rx
    obtain ⟨mA, J, _⟩ := ins_get I.hok (vis_sub h1)
    obtain ⟨od, J, _⟩ := J.look
    obtain ⟨mm, hF⟩ := I.fr
    refine PySem.W.cmp_K (op := .Eq) (tb := tb) sb.room.units0 hF I.ok.mod.kin J hb hn hm.at_ hm.fn ?_
    refine wpAny_mono (run_say b FS FO (sb.mono hk) I w r1 r2 rfl ry say) (fun c s' hc => ?_) fun _ _ z => z
    obtain ⟨rfl, q⟩ := hc
    exact ⟨rfl, q⟩
  | @rev n c ks xs d t r hc hk hd say =>
    intro A pins s σ H m S Z x y u v sb I w r1 r2 rx ry
    obtain ⟨z, _, qual, st, dvs, ps, F, b⟩ := hcs c hc
    obtain ⟨f, fd, FS, hm, FO⟩ := F.ex
    have bx := bk_bv hd r1
    have r2' := r2
    rw [Rep] at r2'
    obtain ⟨a, dx, vs, rfl, h1, _⟩ := r2'
    cases ry
    obtain ⟨mA, J, _⟩ := ins_get I.hok (vis_sub h1)
    obtain ⟨od, J, _⟩ := J.look
    obtain ⟨hT, _, id, slot, dec⟩ := decl_own (A := A) (E := X.xe) I bx rx (vis_sub h1) z
    refine rich_rev sb.room.units0 I.kIn hT J (z.nb t bx.mem) slot dec hm.at_ hm.fn ?_
    refine wpAny_mono (run_say b FS FO (sb.mono hk) I w r2 r1 rfl rx say) (fun c s' hc => ?_) fun _ _ z => z
    obtain ⟨rfl, q⟩ := hc
    exact ⟨r, rfl, rfl, q⟩
  | @tup n ds es rs hl h ih =>
    intro A pins s σ H m S Z x y u v sb I w r1 r2 rx ry
    rw [Rep] at r1 r2
    obtain ⟨a, vs, rfl, h1, q1⟩ := r1
    obtain ⟨a', us, rfl, h2, q2⟩ := r2
    cases rx
    cases ry
    have la := Reps.len q1
    have lb := Reps.len q2
    obtain ⟨its, rv, t1, z1⟩ := I.tuple (SqT.sub (fun a o z => vis_sub z) h1)
    obtain ⟨its2, rv2, t2, z2⟩ := I.tuple (SqT.sub (fun a o z => vis_sub z) h2)
    have l1 := rv.length
    have l2 := rv2.length
    refine rc_tupB (rs := rs) (out := (List.range ds.length).all rs) sb.room.units0 (fun _ s' => ∃ H', L2.Inv X pins σ H' s' ∧ L2.Ext H H') (fun _ hall => ?_) (fun j hj hf => ?_) (fun hne => ?_) t1 t2
      (fun i h1 h2 s' q => turnA (fun i d e hd he => runB_of (h i d e hd he) (ih i d e hd he)) sb w q1 q2 rv rv2 i h1 h2 s' q) (fun j s' q => ⟨rfl, q⟩) ⟨H, I, fun _ _ z => z⟩
    · rw [List.all_eq_true]
      exact fun j hj => hall j (by rw [List.size_toArray]; have := List.mem_range.mp hj; omega)
    · rw [List.size_toArray, List.size_toArray] at hj
      rw [List.all_eq_false]
      exact ⟨j, List.mem_range.mpr (by omega), by rw [hf]; decide⟩
    · rw [List.size_toArray, List.size_toArray] at hne
      omega
  | @tupN n ds es rs hl h ih =>
    intro A pins s σ H m S Z x y u v sb I w r1 r2 rx ry
    rw [Rep] at r1 r2
    obtain ⟨a, vs, rfl, h1, q1⟩ := r1
    obtain ⟨a', us, rfl, h2, q2⟩ := r2
    cases rx
    cases ry
    have la := Reps.len q1
    have lb := Reps.len q2
    obtain ⟨its, rv, t1, z1⟩ := I.tuple (SqT.sub (fun a o z => vis_sub z) h1)
    obtain ⟨its2, rv2, t2, z2⟩ := I.tuple (SqT.sub (fun a o z => vis_sub z) h2)
    have l1 := rv.length
    have l2 := rv2.length
    refine rc_tupB (rs := rs) (out := false) sb.room.units0 (fun _ s' => ∃ H', L2.Inv X pins σ H' s' ∧ L2.Ext H H') (fun he hall => ?_) (fun j hj hf => rfl) (fun hne => rfl) t1 t2
      (fun i h1 h2 s' q => turnA (fun i d e hd he => runB_of (h i d e hd he) (ih i d e hd he)) sb w q1 q2 rv rv2 i h1 h2 s' q) (fun j s' q => ⟨rfl, q⟩) ⟨H, I, fun _ _ z => z⟩
    rw [List.size_toArray, List.size_toArray] at he
    omega
  | @lst n ds es rs hl h ih =>
    intro A pins s σ H m S Z x y u v sb I w r1 r2 rx ry
    rw [Rep] at r1 r2
    obtain ⟨a, vs, rfl, h1, q1⟩ := r1
    obtain ⟨a', us, rfl, h2, q2⟩ := r2
    cases rx
    cases ry
    have la := Reps.len q1
    have lb := Reps.len q2
    refine GB.rc_eqB (N := ds.length) (rs := rs) (out := (List.range ds.length).all rs) sb.room.units0 (fun hall => ?_) (fun j hj hf => ?_) (fun _ s' => ∃ H', L2.Inv X pins σ H' s' ∧ L2.Ext H H') ?_ (fun j s' q => ⟨rfl, q⟩) ⟨H, I, fun _ _ z => z⟩
    · rw [List.all_eq_true]
      exact fun j hj => hall j (List.mem_range.mp hj)
    · rw [List.all_eq_false]
      exact ⟨j, List.mem_range.mpr hj, by rw [hf]; decide⟩
    · rintro i s' q
      obtain ⟨H', I', e'⟩ := id q
      obtain ⟨z1, its, n, rv, ra, hla⟩ := I'.lstM (e' _ _ (vis_sub h1))
      obtain ⟨z2, its2, n2, rv2, rb, hlb⟩ := I'.lstM (e' _ _ (vis_sub h2))
      exact ⟨its.toArray, its2.toArray, n, n2, hla, hlb, by rw [List.size_toArray]; omega, by rw [List.size_toArray]; omega, fun h1 h2 => turnA (fun i d e hd he => runB_of (h i d e hd he) (ih i d e hd he)) sb w q1 q2 rv rv2 i h1 h2 s' q⟩
  | @lstN n ds es hl =>
    intro A pins s σ H m S Z x y u v sb I w r1 r2 rx ry
    rw [Rep] at r1 r2
    obtain ⟨a, vs, rfl, h1, q1⟩ := r1
    obtain ⟨a', us, rfl, h2, q2⟩ := r2
    cases rx
    cases ry
    have la := Reps.len q1
    have lb := Reps.len q2
    obtain ⟨z1, its, n, rv, ra, hla⟩ := I.lstM (vis_sub h1)
    obtain ⟨z2, its2, n2, rv2, rb, hlb⟩ := I.lstM (vis_sub h2)
    exact GB.rc_eqD sb.room.units0 hla hlb (by rw [List.size_toArray, List.size_toArray]; omega) ⟨rfl, H, I, fun _ _ z => z⟩
end
end Dl
namespace Dl
open PySem L2 PySem.Calls PySem.Spec PyProof.Rows
open PySem.SeqAt
open AutoSeq1 (wpAny_loadPart')
open MeetsSeq MeetsSeq2 SeqRoads2
section
variable {prog : Program} {w : World} {A : Around} {R : Result → Shared → Prop}
/-- at each turn the list is read anew: N items, the i-th against x says rs i -/
def ListX (prog : Program) (w : World) (A : Around) (E : Value → Shared → Prop) (l : Addr) (x : Value) (N : Nat) (rs : Nat → Bool) (I : Shared → Prop) : Prop :=
  ∀ i s, I s → ∃ (items : Array Value) (n : Nat), s.heap.get? l = some { cls := .type "list", data := .seq items n } ∧ items.size = N ∧ ∀ (h1 : i < items.size), wpAny (model prog w) A.in1 (eqBool items[i] x) (fun r s' => r = rs i ∧ I s') E s
theorem contB (l : Addr) (x : Value) (N : Nat) (rs : Nat → Bool) (out : Bool) (I : Shared → Prop) (hl : ListX prog w A (fun e s' => R (.error e) s') l x N rs I)
    (h1 : ∀ j, j < N → rs j = true → out = true) (h2 : (∀ j, j < N → rs j = false) → out = false) (fin : ∀ s, I s → R (.ok (.ret (.bool out))) s) (k : Nat) :
    ∀ i : Nat, N - i = k → i ≤ N → (∀ j, j < i → rs j = false) → ∀ s, I s → wpAny (model prog w) A.in1 (Builtin.«list.__contains__.loop» ⟨[.ref l, x, rawInt i], []⟩) (GQ.FinOf prog w A R) (fun e s' => R (.error e) s') s := by
  induction k with
  | zero =>
    intro i hk hi hno s h
    obtain ⟨items, n, hl1, hs, _⟩ := hl i _ h
    have hR : R (.ok (.ret (.bool out))) s := fin s h
    rw [h2 fun j hj => hno j (by omega)] at hR
    obtain ⟨hp, g, d, tk, os⟩ := s
    wp_walk using wpAny_loadPart' hl1
    have hi1 : items[((i : Nat) : Int).toNat]? = none := by simp; omega
    rw [hi1]
    wp_walk
    exact hR
  | succ k ih =>
    intro i hk hi hno s h
    obtain ⟨items, n, hl1, hs, turn⟩ := hl i _ h
    have hlt : i < items.size := by omega
    have ht := turn hlt
    have hi1 : items[((i : Nat) : Int).toNat]? = some items[i] := by simp [hlt]
    have hc : ((i : Int) + 1) = ((i + 1 : Nat) : Int) := by omega
    obtain ⟨hp, g, d, tk, os⟩ := s
    wp_walk using wpAny_loadPart' hl1
    rw [hi1]
    refine wpAny_bind (wpAny_mono ht (fun r s2 h2' => ?_) fun _ _ x => x)
    obtain ⟨hr, h2'⟩ := h2'
    cases hri : rs i with
    | true =>
      rw [hri] at hr
      subst hr
      have hR : R (.ok (.ret (.bool out))) s2 := fin s2 h2'
      rw [h1 i (by omega) hri] at hR
      wp_walk
      exact hR
    | false =>
      rw [hri] at hr
      subst hr
      have hrec := ih (i + 1) (by omega) (by omega) (fun j hj => by
        rcases Nat.lt_or_ge j i with q | q
        · exact hno j q
        · rw [show j = i by omega]; exact hri) s2 h2'
      obtain ⟨hp2, g2, d2, tk2, os2⟩ := s2
      wp_walk
      rw [hc]
      exact ⟨plainId_quiet plain_contains_loop _, codeAny_builtin entry_contains_loop (by
        rw [Around.under_plainId plain_contains_loop _]
        exact hrec)⟩
theorem list_contB (l : Addr) (x : Value) (N : Nat) (rs : Nat → Bool) (out : Bool) (I : Shared → Prop) (hl : ListX prog w A (fun e s' => R (.error e) s') l x N rs I)
    (h1 : ∀ j, j < N → rs j = true → out = true) (h2 : (∀ j, j < N → rs j = false) → out = false) (fin : ∀ s, I s → R (.ok (.ret (.bool out))) s) {s : Shared} (h : I s) :
    wpAny (model prog w) A.in1 (Builtin.«list.__contains__» ⟨[.ref l, x], []⟩) (GQ.FinOf prog w A R) (fun e s' => R (.error e) s') s := by
  obtain ⟨items, n, hl1, hs, _⟩ := hl 0 _ h
  have hrec := contB l x N rs out I hl h1 h2 fin _ 0 rfl (Nat.zero_le _) (fun j hj => absurd hj (by omega)) s h
  obtain ⟨hp, g, d, tk, os⟩ := s
  wp_walk using wpAny_loadPart' hl1
  exact ⟨plainId_quiet plain_contains_loop _, codeAny_builtin entry_contains_loop (by
    rw [Around.under_plainId plain_contains_loop _]
    exact hrec)⟩
end
section
variable {X : Cx} {cs : List EqE} {n : Nat}
def aEqA (K : PySem.W.Frag) (cs : List EqE) (n : Nat) : R2D := fun x y S q => ∃ r, EqJ K cs n x y r ∧ q (.bl r) S
def rEqA (X : Cx) (cs : List EqE) (n : Nat) : R2 := fun x y H Q => ∃ m S Z d e r, Wd0 X.K m S Z H ∧ Rep X.K m S.length (vis m S Z H) d x ∧ Rep X.K m S.length (vis m S Z H) e y ∧ EqJ X.K cs n d e r ∧ ∀ H', L2.Ext H H' → Q (.bl r) H'
theorem vr_eqA : VR2 X.K (rEqA X cs n) (aEqA X.K cs n) := fun {_ m S Z H a b v u q Q} w r1 r2 ⟨r, j, h⟩ kk =>
  ⟨m, S, Z, a, b, r, w.toWd0, r1, r2, j, fun H' e => by
    obtain ⟨w', e'⟩ := w.grow e
    exact kk.at e' w' rep_bl h⟩
theorem or_eqA (hcs : EqsOk X cs) (hr : RoomG n X.A) : OpR X (compareOp .Eq) (rEqA X cs n) := by
  intro pins s σ H x y v u Q I rx ry ⟨m, S, Z, d, e, r, w, r1, r2, j, h⟩
  show wpAny (model X.prog X.w) X.A (richCompare .Eq v u) (EP X pins σ Q) X.xe s
  refine wpAny_mono (eqj_run hcs j X.A pins s σ H m S Z x y v u ⟨hr, rfl⟩ I w r1 r2 rx ry) (fun c s' hq => ?_) fun _ _ z => z
  obtain ⟨rfl, H', I', e'⟩ := hq
  exact ⟨.bl r, H', I', rfl, h H' e'⟩
def aNeA (K : PySem.W.Frag) (cs : List EqE) (n : Nat) : R2D := fun x y S q => ∃ c ks xs r, c ∈ cs ∧ c.k ≤ n ∧ x = .obj c.C ks xs ∧ SideK K c.C y ∧ Say c.dsp x y r ∧ q (.bl (!r)) S
def rNeA (X : Cx) (cs : List EqE) (n : Nat) : R2 := fun x y H Q => ∃ m S Z d e r c ks xs, Wd0 X.K m S Z H ∧ Rep X.K m S.length (vis m S Z H) d x ∧ Rep X.K m S.length (vis m S Z H) e y ∧ c ∈ cs ∧ c.k ≤ n ∧ d = .obj c.C ks xs ∧ SideK X.K c.C e ∧ Say c.dsp d e r ∧ ∀ H', L2.Ext H H' → Q (.bl (!r)) H'
theorem vr_neA : VR2 X.K (rNeA X cs n) (aNeA X.K cs n) := fun {_ m S Z H a b v u q Q} w r1 r2 ⟨c, ks, xs, r, h1, h2, h3, h4, h5, h⟩ kk =>
  ⟨m, S, Z, a, b, r, c, ks, xs, w.toWd0, r1, r2, h1, h2, h3, h4, h5, fun H' e => by
    obtain ⟨w', e'⟩ := w.grow e
    exact kk.at e' w' rep_bl h⟩
theorem objNe_V {prog : Program} {w : World} {A : Around} {E : Value → Shared → Prop} {s : Shared} {K : PySem.W.Frag} {x C f : Addr} {v : Value} {ox : Obj} {od : Option Obj} {Q : Fin → Shared → Prop} (hu : A.units < cLine) (X : K.In s.heap) (I : PySem.W.InstAt s.heap x ox C od) (hs : PySem.W.findIn K (.ref C) "__eq__" = some (some (.ref f))) (hf : PySem.W.isFn K (.ref f) = true)
    (hcall : wpAny (model prog w) A (call (.ref f) [.ref x, v]) (fun v s' => ∃ b, v = .bool b ∧ Q (.done (.ret (.bool (!b)))) s') E s) : wpAny (model prog w) A (Builtin.«object.__ne__» ⟨[.ref x, v], []⟩) Q E s := by
  unfold Builtin.«object.__ne__»
  repeat (first
    | with_reducible refine wpAny_cRoomFor hu ?_
    | (refine wpAny_bind (m := callSpecialIfBound? (.ref x) (Str.ofString "__eq__") [v])
        (PySem.W.ifBound_K X I hs hf (wpAny_mono hcall (fun r s' hr => by
          obtain ⟨b, rfl, hq⟩ := hr
          repeat (first | exact hq | exact wpAny_pure hq | exact wpAny_truthy_bool hq | (refine wpAny_bind (m := truthy (.bool _)) (wpAny_truthy_bool ?_)) | wp_step)) fun _ _ e => e)))
    | wp_step)
theorem or_neA (hcs : EqsOk X cs) (hr : RoomG (n + 1) X.A) : OpR X (compareOp .NotEq) (rNeA X cs n) := by
  intro pins s σ H x y v u Q I rx ry ⟨m, S, Z, d, e, r, c, ks, xs, w, r1, r2, hc, hk, ed, he, say, h⟩
  subst ed
  obtain ⟨z, N, qual, st, dvs, ps, F, b⟩ := hcs c hc
  obtain ⟨f, fd, FS, hm, FO⟩ := F.ex
  obtain ⟨tb, hb, hn⟩ := tyX_looks I z he r2 ry
  have r1' := r1
  rw [Rep] at r1'
  obtain ⟨a, dx, vs, rfl, h1, _⟩ := r1'
  cases rx
  obtain ⟨mA, J, _⟩ := ins_get I.hok (vis_sub h1)
  obtain ⟨od, J, _⟩ := J.look
  have KX := I.kIn
  show wpAny (model X.prog X.w) X.A (richCompare .NotEq (.ref a) u) (EP X pins σ Q) X.xe s
  refine rich_one (op := .NotEq) (tb := tb) hr.units0 KX J hb hn ?_
  have hin1 : X.A.in1.units < cLine := (hr.in1).units0
  simp only [tryCompare]
  have sp1 : PySem.W.Looks (model X.prog X.w) s.heap (specialOf (.ref a) (cmpInfo .NotEq).2.1) (some (.builtin "object.__ne__")) := J.type.andThen (PySem.W.looks_findIn KX N.ne)
  have inst : PySem.W.Looks (model X.prog X.w) s.heap (isInstance (.ref a) (.type "object")) true := J.type.andThen (PySem.W.looks_mroIn KX N.ob)
  refine wpAny_bind (ifBound_B sp1 (PySem.F.cmp_object.ne.bind _) ?_)
  refine wpAny_call (codeAny_call_builtin PySem.F.cmp_object.ne.plain PySem.F.cmpEntry_ne (@PySem.W.check_slot (model X.prog X.w) _ _ _ "object.__ne__" "object" "__ne__" (.ref a) [u] [] _ PySem.F.cmpKind_ne PySem.F.cmpSplit_ne inst (PySem.F.cmpArgs_ne _ _) ?_))
  refine objNe_V (A := X.A.in1) hin1 KX J hm.at_ hm.fn ?_
  refine wpAny_mono (run_say b FS FO ((⟨hr.in1, rfl⟩ : SubG X n X.A.in1).mono hk) I w r1 r2 rfl ry say) (fun c s' hq => ?_) fun _ _ z => z
  obtain ⟨rfl, H', I', e'⟩ := hq
  exact ⟨r, rfl, wpAny_pure ⟨_, rfl, .bl (!r), H', I', rfl, h H' e'⟩⟩
theorem listX_of (hcs : EqsOk X cs) {A : Around} (sb : SubG X (n + 1) A) {pins : List (Addr × Obj)} {σ : L2.St} {H : Hp} {m : Nat → Addr} {S : Sto} {Z : Addr → Prop} (w : Wd0 X.K m S Z H) {l : Addr} {ds : List D} {e : D} {rs : Nat → Bool} {vs : List V} {y : V} {u : Value}
    (hl : H l = some (.lst vs)) (q1 : Reps X.K m S.length (vis m S Z H) ds vs) (r2 : Rep X.K m S.length (vis m S Z H) e y) (ry : RelV y u) (h : ∀ i d, ds[i]? = some d → EqJ X.K cs n d e (rs i)) :
    ListX X.prog X.w A X.xe l u ds.length rs fun s' => ∃ H', L2.Inv X pins σ H' s' ∧ L2.Ext H H' := by
  rintro i s' ⟨H1, I1, e1⟩
  obtain ⟨z1, its, n', rv, ra, hla⟩ := I1.lstM (e1 _ _ hl)
  have la := Reps.len q1
  refine ⟨its.toArray, n', hla, by rw [List.size_toArray]; omega, fun h1 => ?_⟩
  rw [List.size_toArray] at h1
  obtain ⟨d, hd⟩ : ∃ d, ds[i]? = some d := ⟨ds[i]'(by omega), by simp⟩
  obtain ⟨x, hx, rx⟩ := Reps.get q1 hd
  have gx : its[i]? = some its[i] := by simp
  obtain ⟨w', _⟩ := w.grow e1
  have rx' := Rep.mono (fun _ _ => rfl) (Nat.le_refl _) (vis_grow e1) rx
  have ry' := Rep.mono (fun _ _ => rfl) (Nat.le_refl _) (vis_grow e1) r2
  have key := runB_of (h i d hd) (eqj_run hcs (h i d hd)) A.in1 pins s' σ H1 m S Z x y its[i] u sb.in1 I1 w' rx' ry' (vals_each rv i _ _ hx gx) ry
  refine wpAny_mono (by simpa using key) (fun c s2 hq => ?_) fun _ _ z => z
  obtain ⟨hc, H2, I2, e2⟩ := hq
  exact ⟨hc, H2, I2, e1.trans e2⟩
/-- the list, by data: what its items say against x -/
def ItsA (K : PySem.W.Frag) (cs : List EqE) (n : Nat) (S : Sto) (l x : D) (ds : List D) (rs : Nat → Bool) : Prop := lstOf S l = some ds ∧ ∀ i d, ds[i]? = some d → EqJ K cs n d x (rs i)
def rItsA (X : Cx) (cs : List EqE) (n : Nat) (l : V) (x : V) (H : Hp) (N : Nat) (rs : Nat → Bool) : Prop := ∃ m S Z a ds e vs, Wd0 X.K m S Z H ∧ l = .ref a ∧ H a = some (.lst vs) ∧ Reps X.K m S.length (vis m S Z H) ds vs ∧ Rep X.K m S.length (vis m S Z H) e x ∧ ds.length = N ∧ ∀ i d, ds[i]? = some d → EqJ X.K cs n d e (rs i)
theorem its_rep {m : Nat → Addr} {S : Sto} {Z : Addr → Prop} {H : Hp} {l x : D} {ds : List D} {rs : Nat → Bool} {v u : V} {U : Wi} (w : Wd X.K U m S Z H) (r1 : Rep X.K m S.length (vis m S Z H) l v) (r2 : Rep X.K m S.length (vis m S Z H) x u) (h : ItsA X.K cs n S l x ds rs) : rItsA X cs n v u H ds.length rs := by
  obtain ⟨a, vs, e, hh, q⟩ := lstOf_rep w r1 h.1
  exact ⟨m, S, Z, a, ds, x, vs, w.toWd0, e, hh, q, r2, rfl, h.2⟩
def aInA (K : PySem.W.Frag) (cs : List EqE) (n : Nat) (neg : Bool) : R2D := fun x l S q => ∃ ds rs, ItsA K cs n S l x ds rs ∧ q (.bl (neg ^^ (List.range ds.length).any rs)) S
def rInA (X : Cx) (cs : List EqE) (n : Nat) (neg : Bool) : R2 := fun x l H Q => ∃ N rs, rItsA X cs n l x H N rs ∧ ∀ H', L2.Ext H H' → Q (.bl (neg ^^ (List.range N).any rs)) H'
theorem vr_inA {neg : Bool} : VR2 X.K (rInA X cs n neg) (aInA X.K cs n neg) := fun {_ m S Z H a b v u q Q} w r1 r2 ⟨ds, rs, h1, h⟩ kk =>
  ⟨_, rs, its_rep w r2 r1 h1, fun H' e => by
    obtain ⟨w', e'⟩ := w.grow e
    exact kk.at e' w' rep_bl h⟩
theorem any_of {N : Nat} {rs : Nat → Bool} : (∀ j, j < N → rs j = true → (List.range N).any rs = true) ∧ ((∀ j, j < N → rs j = false) → (List.range N).any rs = false) := by
  refine ⟨fun j hj h => List.any_eq_true.mpr ⟨j, List.mem_range.mpr hj, h⟩, fun h => ?_⟩
  rw [List.any_eq_false]
  intro j hj
  rw [h j (List.mem_range.mp hj)]
  decide
theorem or_inA (hcs : EqsOk X cs) (hr : RoomG (n + 1) X.A) : OpR X (compareOp .In) (rInA X cs n false) := by
  intro pins s σ H x y v u Q I rx ry ⟨N, rs, ⟨m, S, Z, a, ds, e, vs, w, el, hl, q1, r2, hN, hj⟩, h⟩
  subst el hN
  cases ry
  obtain ⟨_, its, n', _, _, hla⟩ := I.lstM hl
  show wpAny (model X.prog X.w) X.A (do return .bool (← contains (.ref a) v)) (EP X pins σ Q) X.xe s
  refine wpAny_bind (wpAny_contains_slot ⟨_, hla, rfl⟩ F.slot_list_contains (wpAny_mono (GQ.call_here F.slot_list_contains ⟨_, hla, rfl⟩ F.entry_list_contains (F.args_list_contains_2 _ _)
    (list_contB (R := wants (fun v s' => v = .bool ((List.range ds.length).any rs) ∧ ∃ H', L2.Inv X pins σ H' s' ∧ L2.Ext H H') X.xe) a v ds.length rs _ _ (listX_of hcs (⟨hr, rfl⟩ : SubG X (n + 1) X.A) w hl q1 r2 rx hj) any_of.1 any_of.2 (fun s' q => ⟨rfl, q⟩) ⟨H, I, fun _ _ z => z⟩)) (fun c s' hv => ?_) fun _ _ z => z))
  obtain ⟨rfl, H', I', e'⟩ := hv
  have := h H' e'
  rw [Bool.false_xor] at this
  exact wpAny_truthy_bool (wpAny_pure ⟨.bl _, H', I', rfl, this⟩)
theorem or_notInA (hcs : EqsOk X cs) (hr : RoomG (n + 1) X.A) : OpR X (compareOp .NotIn) (rInA X cs n true) := by
  intro pins s σ H x y v u Q I rx ry ⟨N, rs, ⟨m, S, Z, a, ds, e, vs, w, el, hl, q1, r2, hN, hj⟩, h⟩
  subst el hN
  cases ry
  obtain ⟨_, its, n', _, _, hla⟩ := I.lstM hl
  show wpAny (model X.prog X.w) X.A (do return .bool (!(← contains (.ref a) v))) (EP X pins σ Q) X.xe s
  refine wpAny_bind (wpAny_contains_slot ⟨_, hla, rfl⟩ F.slot_list_contains (wpAny_mono (GQ.call_here F.slot_list_contains ⟨_, hla, rfl⟩ F.entry_list_contains (F.args_list_contains_2 _ _)
    (list_contB (R := wants (fun v s' => v = .bool ((List.range ds.length).any rs) ∧ ∃ H', L2.Inv X pins σ H' s' ∧ L2.Ext H H') X.xe) a v ds.length rs _ _ (listX_of hcs (⟨hr, rfl⟩ : SubG X (n + 1) X.A) w hl q1 r2 rx hj) any_of.1 any_of.2 (fun s' q => ⟨rfl, q⟩) ⟨H, I, fun _ _ z => z⟩)) (fun c s' hv => ?_) fun _ _ z => z))
  obtain ⟨rfl, H', I', e'⟩ := hv
  have := h H' e'
  rw [Bool.true_xor] at this
  exact wpAny_truthy_bool (wpAny_pure ⟨.bl _, H', I', rfl, this⟩)
end
end Dl
namespace Dl
open PySem L2 PySem.Calls PySem.Spec PyProof.Rows
structure StOk (X : Cx) (nm : Str) (c : EqE) : Prop where
  f : ∃ (qual : Str) (st : Stmt) (dvs : List V) (ps : List Str), MFn X.prog X.w X.K X.mg X.base c.C nm qual st dvs c.k ps c.dsp ∧ Bnd nm qual st ps 1 [] [.p 0] dvs.length
def StsOk (X : Cx) (nm : Str) (cs : List EqE) : Prop := ∀ c ∈ cs, StOk X nm c
theorem sts_nil {X : Cx} {nm : Str} : StsOk X nm [] := fun c h => by cases h
theorem sts_cons {X : Cx} {nm : Str} {c : EqE} {cs : List EqE} (h : StOk X nm c) (hs : StsOk X nm cs) : StsOk X nm (c :: cs) := fun d hd => by
  rcases List.mem_cons.mp hd with rfl | hd
  · exact h
  · exact hs d hd
structure FmO (K : PySem.W.Frag) (C : Addr) : Prop where
  fm : PySem.W.findIn K (.ref C) "__format__" = some (some (.builtin "object.__format__"))
  ob : PySem.W.mroIn K C (.type "object") = some true
section
variable {X : Cx} {cs : List EqE} {n : Nat} {nm : Str}
def aStA (cs : List EqE) (n : Nat) : R1D := fun a S q => ∃ c ks ds, c ∈ cs ∧ c.k ≤ n ∧ objOf S a = some (c.C, ks, ds) ∧ c.dsp [a] S fun d S' => ∃ x, d = .str x ∧ q (.str x) S'
def rStA (X : Cx) (cs : List EqE) (n : Nat) : List V → Hp → VK → Prop := fun vs H Q => ∃ c a dx fs, c ∈ cs ∧ c.k ≤ n ∧ vs = [.ref a] ∧ H a = some (.ins c.C dx fs) ∧ spOf X.K c.dsp [.ref a] H (fun v H' => ∃ x, v = .str x ∧ Q (.str x) H') fun _ _ _ => False
theorem vr_stA : VRN X.K (rStA X cs n) (a1 (aStA cs n)) := vrn1 fun {_ m S Z H d v q Q} w r ⟨c, ks, ds, hc, hk, h1, h2⟩ kk => by
  obtain ⟨x, dx, vs, ev, hx, _, _⟩ := objOf_rep w r h1
  subst ev
  refine ⟨c, x, dx, _, hc, hk, rfl, hx, m, S, Z, [d], _, w.w0, Reps.one r, h2, fun v1 H1 m1 d1 S1 e1 w1 rr ⟨y, en, hq⟩ => ?_⟩
  subst en
  have rr' := rr
  rw [rD, Rep] at rr'
  exact ⟨y, rr', kk.at e1 (w.on e1 w1.toWd0) rep_str hq⟩
/-- the method run, below the running body -/
theorem st_run (hcs : StsOk X nm cs) {c : EqE} (hc : c ∈ cs) (hk : c.k ≤ n) {A : Around} (sb : SubG X n A) {pins : List (Addr × Obj)} {σ : L2.St} {H : Hp} {s : Shared} {a dx : Addr} {fs : List (Str × V)} {Q : VK} (I : L2.Inv X pins σ H s) (hx : H a = some (.ins c.C dx fs))
    (h : spOf X.K c.dsp [.ref a] H (fun v H' => ∃ x, v = .str x ∧ Q (.str x) H') fun _ _ _ => False) :
    ∃ ox od f, PySem.W.InstAt s.heap a ox c.C od ∧ PySem.W.findIn X.K (.ref c.C) nm = some (some (.ref f)) ∧ PySem.W.isFn X.K (.ref f) = true ∧
      ∀ s2, L2.Inv X pins σ H s2 → wpAny (model X.prog X.w) A (call (.ref f) [.ref a]) (PySem.W.StrBack (EP X pins σ Q)) X.xe s2 := by
  obtain ⟨qual, st, dvs, ps, F, b⟩ := (hcs c hc).f
  obtain ⟨f, fd, FS, hm, FO⟩ := F.ex
  obtain ⟨its, KB⟩ := kbn_of FS b
  obtain ⟨mA, J, _⟩ := ins_get I.hok hx
  obtain ⟨od, J, _⟩ := J.look
  have r2 : Vals [V.ref a] [Value.ref a] := .cons rfl .nil
  refine ⟨_, _, f, J, hm.at_, hm.fn, fun s2 I2 => ?_⟩
  refine wpAny_mono (run_at FO (sb.mono hk) KB I2 r2 rfl (Q := fun v H' => ∃ x, v = .str x ∧ Q (.str x) H') (by simpa [gat, pick] using h)) (fun w' s' hq => ?_) fun _ _ z => z
  obtain ⟨z, H', I', rz, y, ez, q⟩ := hq
  subst ez
  obtain ⟨t, rfl⟩ := rz
  exact ⟨.str y, H', I', ⟨t, rfl⟩, q⟩
theorem cr_strA (hcs : StsOk X "__str__" cs) (hr : RoomG (n + 2) X.A) : CallR X (.type "str") (rStA X cs n) := by
  intro pins s σ H vs us Q I r ⟨c, a, dx, fs, hc, hk, e, hx, h⟩
  subst e
  obtain ⟨u, rfl, ru⟩ := vals1 r
  obtain rfl : u = Value.ref a := ru
  obtain ⟨ox, od, f, J, hs, hf, run⟩ := st_run hcs hc hk (⟨hr.in1.in1, rfl⟩ : SubG X n X.A.in1.in1) I hx h
  exact PySem.W.kso_call hr.in1.in1.units0 I.kIn J hs hf (run s I)
/-- f"{own}" -/
def gFmtA (cs : List EqE) (n : Nat) (ge : G D) : G D := fun ρ S q => ge ρ S fun d S1 => aStA cs n d S1 q
theorem d_fmtA {e : Expr} {pos : Pos} {ge : G D} (hcs : StsOk X "__str__" cs) (hfm : ∀ c ∈ cs, FmO X.K c.C) (hr : RoomG (n + 1) X.A) (he : PE X e (tofE X.K U ge)) : PE X (.FormattedValue e (-1) none pos) (tofE X.K U (gFmtA cs n ge)) := by
  refine ⟨fun pins s σ H Q I ⟨m, S, Z, ρ, q, w, rs, h, k⟩ => ?_⟩
  refine wpAny_FormattedValue_plain (thn (he.run pins s σ H (fun v H1 => ∃ c a dx fs, c ∈ cs ∧ c.k ≤ n ∧ v = .ref a ∧ H1 a = some (.ins c.C dx fs) ∧ spOf X.K c.dsp [.ref a] H1 (fun v H' => ∃ x, v = .str x ∧ Q (.str x) H') fun _ _ _ => False) I ?_) fun v s1 hv => ?_)
  · refine tof_in w rs h fun v1 H1 m1 d1 S1 e1 w1 r1 ⟨c, ks, ds, hc, hk, h1, h2⟩ => ?_
    obtain ⟨x, dx, vs, ev, hx, _, _⟩ := objOf_rep w1 r1 h1
    subst ev
    refine ⟨c, x, dx, _, hc, hk, rfl, hx, m1, S1, Z, [d1], _, w1.w0, Reps.one r1, h2, fun v2 H2 m2 d2 S2 e2 w2 rr ⟨y, en, hq⟩ => ?_⟩
    subst en
    have rr' := rr
    rw [rD, Rep] at rr'
    exact ⟨y, rr', k.at (e1.trans e2) (w1.on e2 w2.toWd0) rep_str hq⟩
  · obtain ⟨x, H1, I1, r1, c, a, dx, fs, hc, hk, ex, hx, hsp⟩ := hv
    subst ex
    cases r1
    obtain ⟨ox, od, f, J, hs, hf, run⟩ := st_run hcs hc hk (⟨hr.in1, rfl⟩ : SubG X n X.A.in1) I1 hx hsp
    exact PySem.W.kfo_fieldS hr.in1.units0 I1.kIn J (hfm c hc).fm (hfm c hc).ob hs hf (run _ (I1.tok _))
/-- f"{text!r}" -/
def gFmtR (ge : G D) : G D := fun ρ S q => ge ρ S fun d S1 => match d with
  | .str y => (reprText y).length ≤ sizeLine ∧ q (.str (reprText y)) S1
  | .int i => i.natAbs.log2 < 1920 ∧ q (.str (showI i)) S1
  | _ => False
end
structure NoBool (K : PySem.W.Frag) (C : Addr) : Prop where
  nb : PySem.W.findIn K (.ref C) "__bool__" = some none
section
variable {prog : Program} {w : World} {A : Around} {E : Value → Shared → Prop} {s : Shared} {K : PySem.W.Frag}
theorem truthy_len {x C f : Addr} {ox : Obj} {od : Option Obj} {Q : Bool → Shared → Prop} (X : K.In s.heap) (I : PySem.W.InstAt s.heap x ox C od) (hb : PySem.W.findIn K (.ref C) "__bool__" = some none) (hs : PySem.W.findIn K (.ref C) "__len__" = some (some (.ref f))) (hf : PySem.W.isFn K (.ref f) = true)
    (h : wpAny (model prog w) A.in1 (call (.ref f) [.ref x]) (PySem.W.LenBack fun v s' => ∃ (n : Int) (t : Tok), v = .int n t ∧ Q (n != 0) s') E s) : wpAny (model prog w) A (truthy (.ref x)) Q E s := by
  unfold truthy
  refine wpAny_bind (m := callSpecial? (.ref x) (Str.ofString "__bool__")) (wpAny_bind (wpAny_bind (I.type.here ((PySem.W.looks_findIn X hb).here (wpAny_pure ?_)))))
  refine wpAny_bind (wpAny_bind (I.type.here ((PySem.W.looks_findIn X hs).here ?_)))
  have key : wpAny (model prog w) A (runValue (.builtin "len" ⟨[.ref x], []⟩)) (fun v s' => ∃ (n : Int) (t : Tok), v = .int n t ∧ Q (n != 0) s') E s := by
    refine wpAny_runValue (codeAny_builtin PySem.entry_len ?_)
    rw [Around.under_plainId PySem.plain_len _]
    unfold Builtin.«len»
    refine wpAny_bind (m := oneArg "len" _) (wpAny_pure ?_)
    refine wpAny_bind (m := callSpecial? (.ref x) (Str.ofString "__len__")) (PySem.W.special_fn X I hs (beq_iff_eq.mp hf) (wpAny_mono h (fun r s' hr => ?_) fun _ _ y => y))
    cases r <;> first | exact hr.elim | skip
    rename_i n u
    obtain ⟨⟨h0, h1⟩, hq⟩ := hr
    refine wpAny_bind (wpAny_holding (wpAny_pure ?_))
    refine wpAny_bind (wpAny_letGo ?_)
    show wpAny _ _ (if n < 0 then _ else _) _ _ _
    rw [if_neg (by omega)]
    show wpAny _ _ (if n ≥ 2 ^ 63 then _ else _) _ _ _
    rw [if_neg (by omega)]
    obtain ⟨m, tt, e, hq⟩ := hq
    cases e
    exact wpAny_bind (wpAny_mkInt (wpAny_pure ⟨_, _, rfl, hq⟩))
  refine wpAny_bind (wpAny_mono key (fun v s' hv => ?_) fun _ _ e => e)
  obtain ⟨n, t, rfl, hq⟩ := hv
  exact wpAny_pure hq
theorem meets_bool (x : Value) : MeetsIn prog w (Builtin.«bool.__new__» ⟨[.type "bool", x], []⟩) (fun A R s => wpAny (model prog w) A.in1 (truthy x) (fun b s' => R (.ok (.ret (.bool b))) s') (fun e s' => R (.error e) s') s) :=
  .of_wp fun A R s hs => by
    obtain ⟨hp, g, d, tk, os⟩ := s
    have f1 := F.conv_sub_bool
    wp_walk
    exact wpAny_mono hs (fun b s' h => wpAny_pure ⟨_, rfl, h⟩) fun _ _ e => e
end
section
variable {X : Cx} {C : Addr} {qual : Str} {st : Stmt} {dvs : List V} {k : Nat} {ps : List Str} {dsp : DSp}
def rBoO (C : Addr) (sp : Sp) : List V → Hp → VK → Prop := fun vs H Q => ∃ a dx fs, vs = [.ref a] ∧ H a = some (.ins C dx fs) ∧ sp [.ref a] H (fun v H' => ∃ n : Int, v = .int n ∧ 0 ≤ n ∧ n < 2 ^ 63 ∧ Q (.bl (n != 0)) H') fun _ _ _ => False
def aBoO (C : Addr) (dsp : DSp) : R1D := fun a S q => (∃ ks ds, objOf S a = some (C, ks, ds)) ∧ dsp [a] S fun d S' => ∃ n : Int, d = .int n ∧ 0 ≤ n ∧ n < 2 ^ 63 ∧ q (.bl (n != 0)) S'
theorem vr_boO {K : PySem.W.Frag} : VRN K (rBoO C (spOf K dsp)) (a1 (aBoO C dsp)) := vrn1 fun {_ m S Z H d v q Q} w r ⟨⟨ks, ds, h1⟩, h2⟩ kk => by
  obtain ⟨x, dx, vs, ev, hx, _, _⟩ := objOf_rep w r h1
  subst ev
  refine ⟨x, dx, _, rfl, hx, m, S, Z, [d], _, w.w0, Reps.one r, h2, fun v1 H1 m1 d1 S1 e1 w1 rr ⟨n, en, h3, h4, hq⟩ => ?_⟩
  subst en
  have rr' := rr
  rw [rD, Rep] at rr'
  exact ⟨n, rr', h3, h4, kk.at e1 (w.on e1 w1.toWd0) rep_bl hq⟩
/-- the truth, somewhere below the running body -/
theorem truth_own (N : NoBool X.K C) (F : MFn X.prog X.w X.K X.mg X.base C "__len__" qual st dvs k ps dsp) (b : Bnd "__len__" qual st ps 1 [] [.p 0] dvs.length) {A : Around} (sb : SubG X (k + 1) A) {pins : List (Addr × Obj)} {σ : L2.St} {H : Hp} {s : Shared} {Q : Bool → Hp → Prop} {a dx : Addr} {fs : List (Str × V)} (I : L2.Inv X pins σ H s) (ha : H a = some (.ins C dx fs))
    (h : spOf X.K dsp [.ref a] H (fun v H' => ∃ n : Int, v = .int n ∧ 0 ≤ n ∧ n < 2 ^ 63 ∧ Q (n != 0) H') fun _ _ _ => False) : wpAny (model X.prog X.w) A (truthy (.ref a)) (fun b s' => ∃ H', L2.Inv X pins σ H' s' ∧ Q b H') X.xe s := by
  obtain ⟨f, fd, FS, hm, FO⟩ := F.ex
  obtain ⟨its, KB⟩ := kbn_of FS b
  obtain ⟨mA, J, _⟩ := ins_get I.hok ha
  obtain ⟨od, J, _⟩ := J.look
  refine truthy_len I.kIn J N.nb hm.at_ hm.fn ?_
  have r2 : Vals [V.ref a] [Value.ref a] := .cons rfl .nil
  refine wpAny_mono (run_at FO sb.in1 KB I r2 rfl (Q := fun v H' => ∃ n : Int, v = .int n ∧ 0 ≤ n ∧ n < 2 ^ 63 ∧ Q (n != 0) H') (by simpa [gat, pick] using h)) (fun w' s' hq => ?_) fun _ _ z => z
  obtain ⟨z, H', I', rz, n, ez, h0, h1, q⟩ := hq
  subst ez
  obtain ⟨t, rfl⟩ := rz
  exact ⟨⟨h0, h1⟩, n, _, rfl, H', I'.tok _, q⟩
theorem cr_boO (N : NoBool X.K C) (F : MFn X.prog X.w X.K X.mg X.base C "__len__" qual st dvs k ps dsp) (hr : RoomG (k + 3) X.A) (b : Bnd "__len__" qual st ps 1 [] [.p 0] dvs.length) : CallR X (.type "bool") (rBoO C (spOf X.K dsp)) := by
  intro pins s σ H vs us Q I r h
  obtain ⟨a, dx, fs, rfl, ha, hsp⟩ := h
  obtain ⟨u, rfl, ru⟩ := vals1 r
  obtain rfl : u = Value.ref a := ru
  refine callType_newIn PySem.F.called_bool PySem.F.newNe_bool (PySem.F.typeCall_bool_1 _) (PySem.F.newCall_bool_1 _) (fun obj => PySem.F.args_object_init_2 obj _) PySem.F.entry_bool_new (meets_bool _) ?_
  refine wpAny_mono (truth_own (Q := fun b H' => Q (.bl b) H') N F b (⟨hr.in1.in1, rfl⟩ : SubG X (k + 1) X.A.in1.in1) I ha (by
    obtain ⟨m, S, Z, ds, q, w, rr, hd, kk⟩ := hsp
    exact ⟨m, S, Z, ds, q, w, rr, hd, kk⟩)) (fun b s' hq => ?_) fun _ _ z => z
  obtain ⟨H', I', q⟩ := hq
  exact ⟨rfl, .bl b, H', I', rfl, q⟩
end
def aFmtR : R1D := fun d S1 q => match d with
  | .str y => (reprText y).length ≤ sizeLine ∧ q (.str (reprText y)) S1
  | .int i => i.natAbs.log2 < 1920 ∧ q (.str (showI i)) S1
  | _ => False
theorem x_fmtRS {ge : G D} {ρ : Env_} {S : Sto} {q : D → Sto → Prop} : gFmtR ge ρ S q = ge ρ S fun d S1 => aFmtR d S1 q := rfl
theorem x_afRS {x : Str} {S : Sto} {q : D → Sto → Prop} : aFmtR (.str x) S q ↔ (reprText x).length ≤ sizeLine ∧ q (.str (reprText x)) S := Iff.rfl
theorem x_afRI {i : Int} {S : Sto} {q : D → Sto → Prop} : aFmtR (.int i) S q ↔ i.natAbs.log2 < 1920 ∧ q (.str (showI i)) S := Iff.rfl
/-- str(own), one class -/
theorem x_stO {C : Addr} {k n : Nat} {dsp : DSp} {ks : List Str} {ds : List D} {S : Sto} {q : D → Sto → Prop} : aStA [⟨C, k, dsp⟩] n (.obj C ks ds) S q ↔ k ≤ n ∧ dsp [.obj C ks ds] S fun d S' => ∃ x, d = .str x ∧ q (.str x) S' := by
  constructor
  · rintro ⟨c, ks', ds', hc, hk, e, h⟩
    rw [List.mem_singleton] at hc
    subst hc
    exact ⟨hk, h⟩
  · exact fun ⟨hk, h⟩ => ⟨_, ks, ds, List.mem_singleton.mpr rfl, hk, rfl, h⟩
end Dl
namespace Dl
open PySem L2
section
variable {X : Cx} {C : Addr} {qual : Str} {st : Stmt} {dvs : List V} {k : Nat} {ps : List Str} {dsp : DSp}
def rNotO (C : Addr) (sp : Sp) : V → Hp → VK → Prop := fun v H Q => ∃ a dx fs, v = .ref a ∧ H a = some (.ins C dx fs) ∧ sp [.ref a] H (fun v H' => ∃ n : Int, v = .int n ∧ 0 ≤ n ∧ n < 2 ^ 63 ∧ Q (.bl (!(n != 0))) H') fun _ _ _ => False
def aNotO (C : Addr) (dsp : DSp) : R1D := fun a S q => (∃ ks ds, objOf S a = some (C, ks, ds)) ∧ dsp [a] S fun d S' => ∃ n : Int, d = .int n ∧ 0 ≤ n ∧ n < 2 ^ 63 ∧ q (.bl (!(n != 0))) S'
theorem vr_notO {K : PySem.W.Frag} : VR1 K (rNotO C (spOf K dsp)) (aNotO C dsp) := fun {_ m S Z H d v q Q} w r ⟨⟨ks, ds, h1⟩, h2⟩ kk => by
  obtain ⟨x, dx, vs, ev, hx, _, _⟩ := objOf_rep w r h1
  subst ev
  refine ⟨x, dx, _, rfl, hx, m, S, Z, [d], _, w.w0, Reps.one r, h2, fun v1 H1 m1 d1 S1 e1 w1 rr ⟨n, en, h3, h4, hq⟩ => ?_⟩
  subst en
  have rr' := rr
  rw [rD, Rep] at rr'
  exact ⟨n, rr', h3, h4, kk.at e1 (w.on e1 w1.toWd0) rep_bl hq⟩
theorem un_notO (N : NoBool X.K C) (F : MFn X.prog X.w X.K X.mg X.base C "__len__" qual st dvs k ps dsp) (hr : RoomG (k + 3) X.A) (b : Bnd "__len__" qual st ps 1 [] [.p 0] dvs.length) : UnR X (unaryOp .Not) (rNotO C (spOf X.K dsp)) := by
  intro pins s σ H v u Q I r h
  obtain ⟨a, dx, fs, rfl, ha, hsp⟩ := h
  obtain rfl : u = Value.ref a := r
  refine PyProof.Rows.not_of ?_
  refine wpAny_mono (truth_own (Q := fun b H' => Q (.bl (!b)) H') N F b (⟨hr.mono (by omega), rfl⟩ : SubG X (k + 1) X.A) I ha (by
    obtain ⟨m, S, Z, ds, q, w, rr, hd, kk⟩ := hsp
    exact ⟨m, S, Z, ds, q, w, rr, hd, kk⟩)) (fun b s' hq => ?_) fun _ _ z => z
  obtain ⟨H', I', q⟩ := hq
  exact ⟨.bl (!b), H', I', rfl, q⟩
end
end Dl
namespace Dl
open PySem L2
mutual
/-- the cell j is told by e -/
def D.sb (j : Nat) (e : D) : D → D
  | .loc n => if n = j then e else .loc n
  | .tup ds => .tup (D.sbs j e ds)
  | .lst ds => .lst (D.sbs j e ds)
  | .ksq ds => .ksq (D.sbs j e ds)
  | .obj C ks ds => .obj C ks (D.sbs j e ds)
  | .dic ks ds => .dic ks (D.sbs j e ds)
  | .exc c ks ds => .exc c ks (D.sbs j e ds)
  | .non => .non | .bl b => .bl b | .int i => .int i | .str x => .str x | .ref a => .ref a | .ty n => .ty n
def D.sbs (j : Nat) (e : D) : List D → List D
  | [] => []
  | d :: ds => D.sb j e d :: D.sbs j e ds
end
section
variable {K : PySem.W.Frag} {m : Nat → Addr} {N : Nat} {H : Hp} {j : Nat} {e : D}
mutual
theorem Rep.sb (he : Rep K m N H e (.ref (m j))) : ∀ {d : D} {v : V}, Rep K m N H d v → Rep K m N H (D.sb j e d) v
  | .loc n, _, r => by
    rw [D.sb]
    by_cases h : n = j
    · subst h
      rw [if_pos rfl, r.1]
      exact he
    · rw [if_neg h]
      exact r
  | .tup ds, _, r => by
    rw [D.sb]
    obtain ⟨a, vs, e1, s, q⟩ := r
    exact ⟨a, vs, e1, s, Reps.sb he q⟩
  | .lst ds, _, r => by
    rw [D.sb]
    obtain ⟨a, vs, e1, s, q⟩ := r
    exact ⟨a, vs, e1, s, Reps.sb he q⟩
  | .ksq ds, _, r => by
    rw [D.sb]
    obtain ⟨a, vs, e1, s, q⟩ := r
    exact ⟨a, vs, e1, s, Reps.sb he q⟩
  | .obj C ks ds, _, r => by
    rw [D.sb]
    obtain ⟨a, dx, vs, e1, s, l, q⟩ := r
    exact ⟨a, dx, vs, e1, s, l, Reps.sb he q⟩
  | .dic ks ds, _, r => by
    rw [D.sb]
    obtain ⟨a, vs, e1, s, l, q⟩ := r
    exact ⟨a, vs, e1, s, l, Reps.sb he q⟩
  | .exc c ks ds, _, r => by
    rw [D.sb]
    obtain ⟨a, dd, vs, e1, s, x, l, q⟩ := r
    exact ⟨a, dd, vs, e1, s, x, l, Reps.sb he q⟩
  | .non, _, r => by rw [D.sb]; exact r
  | .bl _, _, r => by rw [D.sb]; exact r
  | .int _, _, r => by rw [D.sb]; exact r
  | .str _, _, r => by rw [D.sb]; exact r
  | .ref _, _, r => by rw [D.sb]; exact r
  | .ty _, _, r => by rw [D.sb]; exact r
theorem Reps.sb (he : Rep K m N H e (.ref (m j))) : ∀ {ds : List D} {vs : List V}, Reps K m N H ds vs → Reps K m N H (D.sbs j e ds) vs
  | [], _, r => by rw [D.sbs]; exact r
  | d :: ds, _, r => by
    rw [D.sbs]
    obtain ⟨v, q, e1, r1, r2⟩ := r
    exact ⟨v, q, e1, Rep.sb he r1, Reps.sb he r2⟩
end
end
/-- an object of the store, as data -/
def MO.val : MO → Option D
  | .lst ds => some (.lst ds)
  | .obj C ks ds => some (.obj C ks ds)
  | .dic ks ds => some (.dic ks ds)
  | .dicT _ _ => none
/-- the cells js, one by one, are given up; d tells them from then on -/
def frzD : List Nat → D → Sto → Option (D × Sto)
  | [], d, S => some (d, S)
  | j :: js, d, S => match S[j]? with
    | some (some o) => match o.val with
      | some e => frzD js (D.sb j e d) (S.set j none)
      | none => none
    | _ => none
section
variable {K : PySem.W.Frag} {m : Nat → Addr} {S : Sto} {Z : Addr → Prop} {H : Hp}
theorem Wd0.frozen (w : Wd0 K m S Z H) {k : Nat} {o : MO} {d : D} (e : S[k]? = some (some o)) (h : o.val = some d) : Rep K m (S.set k none).length (vis m (S.set k none) Z H) d (.ref (m k)) := by
  cases o with
  | lst ds => cases h; exact w.frozen_lst e
  | obj C ks ds => cases h; exact w.frozen_obj e
  | dic ks ds => cases h; exact w.frozen_dic e
  | dicT ks ds => cases h
theorem frz_ok {U : Wi} {v : V} : ∀ (js : List Nat) {S S' : Sto} {d d' : D}, frzD js d S = some (d', S') → Wd K U m S Z H → Rep K m S.length (vis m S Z H) d v → Wd K U m S' Z H ∧ Ext m S Z H m S' H ∧ Rep K m S'.length (vis m S' Z H) d' v
  | [], S, S', d, d', h, w, r => by
    rw [frzD] at h
    cases h
    exact ⟨w, Ext.refl, r⟩
  | j :: js, S, S', d, d', h, w, r => by
    rw [frzD] at h
    split at h
    · rename_i o ho
      split at h
      · rename_i e he
        have e0 : Ext m S Z H m (S.set j none) H := Ext.refl.freeze j
        obtain ⟨w2, e2, r2⟩ := frz_ok js h (w.freeze j) (Rep.sb (w.toWd0.frozen ho he) (r.ext e0))
        exact ⟨w2, e0.trans e2, r2⟩
      · cases h
    · cases h
end
def aFrD (d : D) (S1 : Sto) (q : D → Sto → Prop) : Prop := ∃ js d' S', frzD js d S1 = some (d', S') ∧ q d' S'
def gFrD (ge : G D) : G D := fun ρ S q => ge ρ S fun d S1 => aFrD d S1 q
def gFzD (i : Nat) (g : GS) : GS := fun E ρ S => ∃ js d d' S', ρ[i]? = some (some d) ∧ frzD js d S = some (d', S') ∧ g E (ρ.set i (some d')) S'
section
variable {X : Cx} {U : Wi} {e : Expr} {ge : G D}
theorem d_frD (he : PE X e (tofE X.K U ge)) : PE X e (tofE X.K U (gFrD ge)) :=
  weakE he fun σ H Q ⟨m, S, Z, ρ, q, w, rs, h, k⟩ => ⟨m, S, Z, ρ, fun d S1 => aFrD d S1 q, w, rs, h, fun v H' m' d S' e w' r ⟨js, d', S2, hf, hq⟩ => by
    obtain ⟨w2, e2, r2⟩ := frz_ok js hf w' r
    exact k v H' m' d' S2 (e.trans e2) w2 r2 hq⟩
theorem d_fzD {st : Stmt} {g : GS} {i : Nat} (h : PS X st (tofS X.K U g)) : PS X st (tofS X.K U (gFzD i g)) :=
  weakS h fun De σ H ⟨m, S, Z, ρ, E, w, rs, ⟨js, d, d', S', h1, h2, h3⟩, k⟩ => by
    obtain ⟨v, hv, r⟩ := rs.2 i _ h1
    obtain ⟨w2, e2, r2⟩ := frz_ok js h2 w r
    have rs1 := rs.ext e2
    refine ⟨m, S', Z, ρ.set i (some d'), E, w2, ⟨by rw [List.length_set]; exact rs1.1, fun j x hj => ?_⟩, h3, k.ext e2⟩
    by_cases c : i = j
    · subst c
      have hi : i < ρ.length := (List.getElem?_eq_some_iff.mp h1).1
      rw [List.getElem?_set_self hi] at hj
      cases hj
      exact ⟨v, hv, r2⟩
    · rw [List.getElem?_set_ne c] at hj
      exact rs1.2 j x hj
end
end Dl
namespace Hd
open PySem PySem.Spec PyProof.Rows L2 Dl
abbrev Fq := PySem.W.Frag → Bool
def obsQ (fa : List Fq) (fn : List He.DefD) (K : PySem.W.Frag) : He.AlD := ((fa.all fun f => f K) && fn.all fun d => d.ok K, fn.map fun d => He.fnW K d.at_)
def SaysQ (fa : List Fq) (fn : List He.DefD) (K : PySem.W.Frag) : Prop := obsQ fa fn K = He.valD fn
/-- what the module's names reach in n steps, step by step -/
def goF (g : Addr → Option Obj) : Nat → List Addr → List Addr
  | 0, fr => fr
  | n + 1, fr => fr ++ goF g n (fr.flatMap fun a => match g a with
    | some o => He.refsD o
    | none => [])
def partG (n : Nat) (g : Addr → Option Obj) : PySem.W.Frag := He.frG g (goF g n [mainGlobals])
abbrev Qs := List (List Fq × List He.DefD)
def obsQG (n : Nat) (fa : List Fq) (fn : List He.DefD) (g : Addr → Option Obj) : He.AlD := obsQ fa fn (partG n g)
def obsL (n : Nat) (qs : Qs) (g : Addr → Option Obj) : List He.AlD := qs.map fun q => obsQG n q.1 q.2 g
def valL (qs : Qs) : List He.AlD := qs.map fun q => He.valD q.2
def SaysL (qs : Qs) (K : PySem.W.Frag) : Prop := ∀ q ∈ qs, SaysQ q.1 q.2 K
theorem says_of : ∀ {qs : Qs} {n : Nat} {g : Addr → Option Obj}, obsL n qs g = valL qs → SaysL qs (partG n g)
  | [], _, _, _, q, h => (nomatch h)
  | q0 :: qs, n, g, e, q, h => by
    have e1 : obsQG n q0.1 q0.2 g = He.valD q0.2 := (List.cons.inj e).1
    rcases List.mem_cons.mp h with z | z
    · rw [z]; exact e1
    · exact says_of (List.cons.inj e).2 q z
def hookQ (n : Nat) (qs : Qs) : PySem.W.Hook where
  α := List He.AlD
  obs := fun s => obsL n qs s.heap.get?
  val := fun _ => valL qs
  says := fun _ h => ∃ K : PySem.W.Frag, K.In h ∧ SaysL qs K
  of := fun _ _ e => ⟨_, He.frG_in, says_of e⟩
  keeps := fun _ _ _ ⟨K, hK, c⟩ k => ⟨K, PySem.W.Frag.In.keeps hK k, c⟩
theorem obsL_eq {n : Nat} {qs : Qs} {g : Addr → Option Obj} {s : Shared} (h : ∀ a, g a = s.heap.get? a) : obsL n qs g = (hookQ n qs).obs s := by
  have e : g = s.heap.get? := funext h
  rw [e] <;> rfl
section
open PySem.W PySem.Calls
def Looks (r : OpenRow) (q : Program) (M : Nat) (loose : List PySem.Str) (w : World) : Prop :=
  ∀ os : OsState, (HandSHeadRun.endF (HandSHeadRun.stepQ (HandSHeadRun.denQ HandSHeadRun.tabQ) r.prog w) M r.prog w os).map (fun s => (HandSHeadRun.looksF r.prog (boot_heap w.params) s.abs, HandSHeadRun.seenQ q loose (importedModules r.prog.main.body) (fun s => xlAt q [] s && recOk r.toRowW.records s) s.abs)) = some (true, openGood q loose)
def Obs1 (r : OpenRow) (n : Nat) (fa : List Fq) (fn : List He.DefD) (M : Nat) (w : World) : Prop :=
  ∀ os : OsState, (HandSHeadRun.endF (HandSHeadRun.stepQ (HandSHeadRun.denQ HandSHeadRun.tabQ) r.prog w) M r.prog w os).map (fun s => obsQG n fa fn (HandSHeadRun.getT s)) = some (He.valD fn)
def ObsA (r : OpenRow) (n : Nat) (qs : Qs) (M : Nat) (w : World) : Prop :=
  ∀ os : OsState, (HandSHeadRun.endF (HandSHeadRun.stepQ (HandSHeadRun.denQ HandSHeadRun.tabQ) r.prog w) M r.prog w os).map (fun s => obsL n qs (HandSHeadRun.getT s)) = some (valL qs)
variable {r : OpenRow} {q : Program} {n M : Nat} {loose : List PySem.Str} {w : World} {qs : Qs} {fa : List Fq} {fn : List He.DefD}
theorem obsA_nil (h : Looks r q M loose w) : ObsA r n [] M w := fun os => by
  have := h os
  cases e : HandSHeadRun.endF (HandSHeadRun.stepQ (HandSHeadRun.denQ HandSHeadRun.tabQ) r.prog w) M r.prog w os with
  | none => rw [e] at this; cases this
  | some s => rfl
theorem obsA_cons (h1 : Obs1 r n fa fn M w) (h2 : ObsA r n qs M w) : ObsA r n ((fa, fn) :: qs) M w := fun os => by
  have a := h1 os
  have b := h2 os
  cases e : HandSHeadRun.endF (HandSHeadRun.stepQ (HandSHeadRun.denQ HandSHeadRun.tabQ) r.prog w) M r.prog w os with
  | none => rw [e] at a; cases a
  | some s =>
    rw [e] at a b
    have a2 : obsQG n fa fn (HandSHeadRun.getT s) = He.valD fn := Option.some.inj a
    have b2 : obsL n qs (HandSHeadRun.getT s) = valL qs := Option.some.inj b
    show some (obsQG n fa fn (HandSHeadRun.getT s) :: obsL n qs (HandSHeadRun.getT s)) = some (He.valD fn :: valL qs)
    rw [a2, b2]
theorem runEq_of (h1 : Looks r q M loose w) (h2 : ObsA r n qs M w) : HandSHeadRun.RunEq r q (hookQ n qs) (fun s => obsL n qs (HandSHeadRun.getT s)) M loose w := fun os => by
  have a := h1 os
  have b := h2 os
  cases e : HandSHeadRun.endF (HandSHeadRun.stepQ (HandSHeadRun.denQ HandSHeadRun.tabQ) r.prog w) M r.prog w os with
  | none => rw [e] at a; cases a
  | some s =>
    rw [e] at a b
    have a2 := Option.some.inj a
    have b2 : obsL n qs (HandSHeadRun.getT s) = valL qs := Option.some.inj b
    obtain ⟨a3, a4⟩ := Prod.mk.injEq .. ▸ a2
    show some (HandSHeadRun.looksF r.prog (boot_heap w.params) s.abs, HandSHeadRun.seenQ q loose (importedModules r.prog.main.body) (fun s => xlAt q [] s && recOk r.toRowW.records s) s.abs, obsL n qs (HandSHeadRun.getT s)) = some (true, openGood q loose, valL qs)
    rw [a3, a4, b2]
end
section
variable {fa : List Fq} {fn : List He.DefD} {K : PySem.W.Frag}
theorem SaysQ.fact (c : SaysQ fa fn K) (i : Nat) {f : Fq} (h : fa[i]? = some f) : f K = true := by
  have c1 := (He.ba (show ((fa.all fun f => f K) && fn.all fun d => d.ok K) = true from congrArg (fun z : He.AlD => z.1) c)).1
  exact List.all_eq_true.mp c1 f (List.mem_of_getElem? h)
theorem SaysQ.def_ (c : SaysQ fa fn K) (i : Nat) {d : He.DefD} (h : fn[i]? = some d) : ∃ fd, FunD K d.name d.qual d.params d.body d.scope (d.dvs K) (d.kws K) (He.fAd K d.at_) fd := by
  have c2 := (He.ba (show ((fa.all fun f => f K) && fn.all fun d => d.ok K) = true from congrArg (fun z : He.AlD => z.1) c)).2
  have e : fn.map (fun d => He.fnW K d.at_) = fn.map He.DefD.val := congrArg (fun z : He.AlD => z.2) c
  have e2 : (fn.map fun d => He.fnW K d.at_)[i]? = (fn.map He.DefD.val)[i]? := by rw [e]
  rw [List.getElem?_map, List.getElem?_map, h] at e2
  exact He.DefD.funD (Option.some.inj e2) (List.all_eq_true.mp c2 d (List.mem_of_getElem? h))
end
/-- an own exception class -/
def k4B (newId : String) : List (Option Value) → Bool
  | [_, _, _, _, k4, _] => decide (k4 = some (.builtin newId))
  | _ => false
theorem k4B_ok {newId : String} : ∀ {l : List (Option Value)}, k4B newId l = true → ∃ k0 k1 k2 k3 k5, l = [k0, k1, k2, k3, some (.builtin newId), k5]
  | [], h => by cases h
  | [_], h => by cases h
  | [_, _], h => by cases h
  | [_, _, _], h => by cases h
  | [_, _, _, _], h => by cases h
  | [_, _, _, _, _], h => by cases h
  | [k0, k1, k2, k3, k4, k5], h => by
    have e : k4 = some (.builtin newId) := of_decide_eq_true h
    subst e
    exact ⟨k0, k1, k2, k3, k5, rfl⟩
  | _ :: _ :: _ :: _ :: _ :: _ :: _ :: _, h => by cases h
def clsB (C : Addr) (bm : List Value) (cd : ClassData) : Bool := decide (cd.mro = .ref C :: bm) && (decide (cd.hasDict = true) && decide (cd.hasDel = false))
def excB (K : PySem.W.Frag) (C : Addr) (bm : List Value) (newId : String) : Bool := match K.lookup C with
  | some ⟨.type t, _, .cls cd, sl⟩ => decide (t = "type") && (clsB C bm cd && k4B newId sl.toList)
  | _ => false
theorem excB_ok {K : PySem.W.Frag} {C : Addr} {bm : List Value} {newId : String} (h : excB K C bm newId = true) :
    ∃ nm q N bs sn sub ab col dd k0 k1 k2 k3 k5, K.lookup C = some (excClassObj nm q C N bs bm true sn sub ab col dd k0 k1 k2 k3 k5 newId) := by
  unfold excB at h
  split at h
  · rename_i t dd cd sl q
    obtain ⟨h1, h⟩ := He.ba h
    obtain ⟨h2, h3⟩ := He.ba h
    obtain ⟨h4, h5⟩ := He.ba h2
    obtain ⟨h6, h7⟩ := He.ba h5
    obtain ⟨nm, bs, mro, ns, qn, hdct, sn, sub, ab, col, hd⟩ := cd
    obtain ⟨k0, k1, k2, k3, k5, es⟩ := k4B_ok h3
    obtain ⟨sl⟩ := sl
    have e1 : t = "type" := of_decide_eq_true h1
    have e2 : mro = .ref C :: bm := of_decide_eq_true h4
    have e3 : hdct = true := of_decide_eq_true h6
    have e4 : hd = false := of_decide_eq_true h7
    have e6 : sl = [k0, k1, k2, k3, some (.builtin newId), k5] := es
    subst e1 e2 e3 e4 e6
    exact ⟨nm, qn, ns, bs, sn, sub, ab, col, dd, k0, k1, k2, k3, k5, q⟩
  · cases h
theorem walk_ofQ {l : PySem.W.OpenLaw} {n k : Nat} {q : Program} {loose : List Str} {XP : (Str → Option Value) → Heap → Prop} {YP : World → Heap → Prop} {d : DefRec} {x : Str} {sp : PySem.W.Frag → Sp}
    (hn : l.most = some n) (hn2 : n ≤ sizeLine) (hdf : d.params.defaults = []) (room : Room k callerA)
    (F : ∀ (w : World) (mg : Str → Option Value) (fa : Addr) (h : Heap), YP w h → h.Ns mainGlobals mg → mg d.name = some (.ref fa) →
      ∃ (K : PySem.W.Frag) (fd : FuncData), K.In h ∧ (∀ (s : Shared) (u : Value), BindsTo s fd ⟨[u], []⟩ [(x, u)]) ∧ ∀ base : Heap, K.In base → base.Ns mainGlobals mg → FnG l.prog w K mg base CX0 k fa fd [x] (sp K))
    (hsp : ∀ (K : PySem.W.Frag) (H : Hp) (a : Addr) (ns : List Int), ns.length ≤ n → Only H → SqL K H a (ns.map V.int) → sp K [.ref a] H (fun v _ => v = .bl true) fun _ _ _ => False) : PySem.W.WalkO q loose XP YP l.row.toRowW d [] (fun f vs => PySem.call f vs) := by
  refine Att.attach_call hn hdf fun w s₀ s₁ mg mb fa o pm cd doc a vs ns G Y ho hd hcd hmg hobj hints hlen hg => ?_
  obtain ⟨K, fd, KX, hb, hF⟩ := F w mg fa _ Y G.T.g hmg
  exact law_callG KX G.T.g G.T.b G.T.builtins G.T.nolimit hg hobj hints (Nat.le_trans hlen hn2) room hF hb (fun H o q => hsp K H a ns hlen o q) fun H e s' z => z
end Hd
namespace Mt
open PySem L2 Dl
/-- two figures of a number -/
def tw (n : Nat) : Str := ⟨#[48 + n / 10, 48 + n % 10]⟩
theorem tw_zfill : ∀ n, n < 60 → Txt.zfill (showI (n : Nat)) 2 = tw n := by decide +kernel
def figs (x : Str) : Bool := !(x == Str.empty) && x.cps.toList.all fun c => decide (48 ≤ c) && decide (c ≤ 57)
theorem day_figs : ∀ n, n < 700 → figs (showI (n : Nat)) = true := by decide +kernel
theorem day_len : ∀ n, n < 700 → (showI (n : Nat)).length ≤ 3 ∧ 0 < (showI (n : Nat)).length := by decide +kernel
def hm (h m : Nat) : Str := ⟨#[48 + h / 10, 48 + h % 10, 58, 48 + m / 10, 48 + m % 10]⟩
def plus : Str := (("+" : String) : Str)
/-- a minute as the text shows it -/
def T (w : Nat) : Str := if w < 1440 then hm (w / 60) (w % 60) else hm (w % 1440 / 60) (w % 60) ++ (plus ++ showI (w / 1440 : Nat))
theorem plus_eq : plus = ⟨#[43]⟩ := by decide +kernel
theorem T_len {w : Nat} (h : w ≤ 1000000) : (T w).length ≤ 10 := by
  unfold T
  split
  · exact Nat.le_trans (show (5 : Nat) ≤ 10 by decide) (Nat.le_refl _)
  · have := (day_len (w / 1440) (by omega)).1
    show ((hm (w % 1440 / 60) (w % 60)).cps ++ (plus.cps ++ (showI (w / 1440 : Nat)).cps)).size ≤ 10
    have e : (plus.cps).size = 1 := by decide +kernel
    have e2 : (hm (w % 1440 / 60) (w % 60)).cps.size = 5 := rfl
    have e3 : (showI (w / 1440 : Nat)).cps.size ≤ 3 := this
    rw [Array.size_append, Array.size_append, e, e2]
    omega
theorem log2_small {i : Int} (h0 : 0 ≤ i) (h : i < 2 ^ 64) : i.natAbs.log2 < 1920 := by
  have h1 : i.natAbs < 2 ^ 64 := by omega
  by_cases hz : i.natAbs = 0
  · rw [hz]; decide
  · have := (Nat.log2_lt hz).mpr h1
    omega
theorem show_len10 {i : Int} (h0 : 0 ≤ i) (h : i < 10 ^ 10) : (showI i).length ≤ 10 := PyProof.Rows.toString_length_le h0 (by decide) h
end Mt
namespace Mt
open PySem L2 Dl
def Tp (B : Int) (o : Option MO) : Prop := ∃ (ns : List Int) (t r : Int), o = some (.lst [.lst (ns.map .int), .int t, .int r]) ∧ 0 ≤ t ∧ t ≤ B ∧ 0 ≤ r
theorem Tp.mono {B B' : Int} {o : Option MO} (h : Tp B o) (l : B ≤ B') : Tp B' o := by
  obtain ⟨ns, t, r, e, h1, h2, h3⟩ := h
  exact ⟨ns, t, r, e, h1, by omega, h3⟩
/-- a def that draws at most k times -/
def tk (k : Int) (args : List D) (R : D → Prop) : DSp := fun ds S q => ∃ o R0 B, ds = .loc 0 :: args ∧ S = o :: R0 ∧ Tp B o ∧ B + k ≤ 10 ^ 12 ∧ ∀ d o', R d → Tp (B + k) o' → q d (o' :: R0)
theorem tk_in {k B : Int} {args : List D} {R : D → Prop} {o : Option MO} {R0 : Sto} {q : D → Sto → Prop} (h : Tp B o) (hb : B + k ≤ 10 ^ 12) (hq : ∀ d o', R d → Tp (B + k) o' → q d (o' :: R0)) : tk k args R (.loc 0 :: args) (o :: R0) q :=
  ⟨o, R0, B, rfl, rfl, h, hb, hq⟩
theorem tk_len {k : Int} {args : List D} {R : D → Prop} {ds : List D} {S : Sto} {q : D → Sto → Prop} {n : Nat} (hn : args.length + 1 = n) (h : tk k args R ds S q) : ds.length = n := by
  obtain ⟨o, R0, B, e, _⟩ := h
  rw [e, ← hn]; rfl
def intIn (lo hi : Int) : D → Prop := fun d => ∃ x, d = .int x ∧ lo ≤ x ∧ x < hi
def draw : DSp := fun ds S q => ∃ many, 0 < many ∧ many < 1073741824 ∧ tk 1 [.int many] (intIn 0 many) ds S q
theorem draw_in {many B : Int} {o : Option MO} {R0 : Sto} {q : D → Sto → Prop} (h1 : 0 < many) (h2 : many < 1073741824) (h : Tp B o) (hb : B + 1 ≤ 10 ^ 12) (hq : ∀ x o', 0 ≤ x → x < many → Tp (B + 1) o' → q (.int x) (o' :: R0)) :
    draw [.loc 0, .int many] (o :: R0) q := ⟨many, h1, h2, tk_in h hb fun d o' ⟨x, e, h3, h4⟩ t => by subst e; exact hq x o' h3 h4 t⟩
def sOk (x : Str) : Prop := x.length ≤ sizeLine ∧ PyData.strOk x = true
def val (x : Str) : Int := (PySem.NumText.digitsVal x.cps.toList : Nat)
def shClock : DSp := fun ds S q => ∃ m : Nat, ds = [.int m] ∧ m < 1440 ∧ q (.str (hm (m / 60) (m % 60))) S
def shTime : DSp := fun ds S q => ∃ m : Nat, ds = [.int m] ∧ m < 10000000000 ∧ q (.str (T m)) S
def tape : DSp := fun ds S q => ∃ ns : List Int, ds = [.ksq (ns.map .int)] ∧ S = [] ∧ q (.loc 0) [some (.lst [.lst ((ns.take 63).map .int), .int 0, .int 0])]
def law : DSp := fun ds S q => ∃ ns : List Int, ds = [.ksq (ns.map .int)] ∧ S = [] ∧ ∀ S', q (.bl true) S'
theorem app3 (x y z : Str) : x ++ y ++ z = x ++ (y ++ z) := congrArg Str.mk (Array.append_assoc ..)
theorem len_app (x y : Str) : (x ++ y).length = x.length + y.length := Array.size_append ..
theorem l_tw1 (n : Nat) : (tw n).length + (Str.ofString ":").length ≤ sizeLine := (by decide : 3 ≤ sizeLine)
theorem l_tw2 (n k : Nat) : (tw n ++ Str.ofString ":").length + (tw k).length ≤ sizeLine := (by decide : 5 ≤ sizeLine)
theorem l_hm1 (n k : Nat) : (hm n k).length + (Str.ofString "+").length ≤ sizeLine := (by decide : 6 ≤ sizeLine)
theorem ok_all {x : Str} : PyData.strOk x = true ↔ ∀ c ∈ x.cps.toList, c < 0x110000 := by
  unfold PyData.strOk
  rw [← Array.all_toList, List.all_eq_true]
  simp only [decide_eq_true_eq]
theorem ok_sub {x y : Str} (h : PyData.strOk x = true) (hs : ∀ c ∈ y.cps.toList, c ∈ x.cps.toList) : PyData.strOk y = true := ok_all.mpr fun c hc => ok_all.mp h c (hs c hc)
theorem ok_app {x y : Str} (h : PyData.strOk x = true) (h' : PyData.strOk y = true) : PyData.strOk (x ++ y) = true := ok_all.mpr fun c hc => by
  have hc : c ∈ (x.cps ++ y.cps).toList := hc
  rw [Array.toList_append, List.mem_append] at hc
  exact hc.elim (ok_all.mp h c) (ok_all.mp h' c)
theorem cut_sub {x : Str} {lo hi : Option Int} : ∀ c ∈ (cutS x lo hi).cps.toList, c ∈ x.cps.toList := fun c hc => by
  unfold cutS at hc
  simp only [List.toList_toArray] at hc
  exact List.mem_of_mem_drop (List.mem_of_mem_take hc)
theorem cut_len {x : Str} {lo hi : Option Int} : (cutS x lo hi).length ≤ x.length := by
  unfold cutS Str.length
  rw [List.size_toArray, List.length_take, List.length_drop, Array.length_toList]
  omega
theorem strOk_cut {x : Str} {lo hi : Option Int} (h : PyData.strOk x = true) : PyData.strOk (cutS x lo hi) = true := ok_sub h cut_sub
theorem figs_iff {x : Str} : figs x = true ↔ x.cps.toList ≠ [] ∧ ∀ c ∈ x.cps.toList, 48 ≤ c ∧ c ≤ 57 := by
  have h0 : x = Str.empty ↔ x.cps.toList = [] := ⟨fun h => by rw [h]; rfl, fun h => congrArg Str.mk (Array.toList_inj.mp h)⟩
  unfold figs
  rw [Bool.and_eq_true, List.all_eq_true, Bool.not_eq_true', beq_eq_false_iff_ne]
  simp only [Bool.and_eq_true, decide_eq_true_eq, ne_eq, h0]
theorem ten15 : (10 : Int) ^ 12 = 1000000000000 := by decide
/-- from a list of the store too -/
def pickL : DSp := fun ds S q => ∃ d es, 0 < es.length ∧ (es.length : Int) < 1073741824 ∧ (∃ o R0 B, ds = [.loc 0, d] ∧ S = o :: R0 ∧ Tp B o ∧ B + 1 ≤ 10 ^ 12 ∧ (∀ o', seqOf (o' :: R0) d = some es) ∧ ∀ e o', e ∈ es → Tp (B + 1) o' → q e (o' :: R0))
theorem pickL_in {es : List D} {B : Int} {o : Option MO} {R0 : Sto} {q : D → Sto → Prop} (h1 : 0 < es.length) (h2 : (es.length : Int) < 1073741824) (h : Tp B o) (hb : B + 1 ≤ 10 ^ 12) (hq : ∀ e o', e ∈ es → Tp (B + 1) o' → q e (o' :: R0)) :
    pickL [.loc 0, .lst es] (o :: R0) q := ⟨.lst es, es, h1, h2, o, R0, B, rfl, rfl, h, hb, fun _ => rfl, hq⟩
end Mt
namespace Dl
open PySem L2
theorem mulOk_r {i j : Int} (h : -(2 ^ 64) < j) (h' : j < 2 ^ 64) : mulOk i j := .inl (.inr ⟨h, h'⟩)
theorem mulOk_l {i j : Int} (h : -(2 ^ 64) < i) (h' : i < 2 ^ 64) : mulOk i j := .inl (.inl ⟨h, h'⟩)
end Dl
namespace Mn
open PySem L2 Dl
def NmOk (x : Str) : Prop := 1 ≤ x.length ∧ x.length ≤ 8 ∧ ∀ c ∈ x.cps.toList, 97 ≤ c ∧ c ≤ 122
def ofL (l : List Nat) : Str := ⟨l.toArray⟩
/-- a promise: unlike names -/
def names : DSp := fun ds S q => ∃ many : Nat, many ≤ 12 ∧ Mt.tk 40 [.int many] (fun d => ∃ ns : List Str, d = .lst (ns.map .str) ∧ ns.length = many ∧ ns.Nodup ∧ ∀ n ∈ ns, NmOk n) ds S q
/-- the row of names, alike but at one place -/
def row (base : List Nat) (at' f s : Nat) (ends : List (List Nat)) : List Str := ends.zipIdx.map fun p => ofL (base.take at' ++ [97 + (f + s * p.2) % 26] ++ p.1)
/-- an own class asked of what is built in -/
theorem bk_ty {S : Sto} {e : D} {t : String} (h : e.bk = some t) : tyN S e = some t := by
  cases e <;> first | (cases h; done) | exact h
end Mn
namespace Lw
open PySem L2 Dl
def top (i : Nat) : Stmt := PySem.Challenge.pw_boatbridge_k68_books_as_objects.main.body.getD i (.Pass ⟨0, 0, 0, 0⟩)
abbrev s_show_clock : Stmt := (top 5)
abbrev N_show_clock : List Str := ["clock", "hour", "rest"]
abbrev ps_show_clock : List Str := ["clock"]
theorem sc_show_clock : FnScope N_show_clock ps_show_clock (defScope s_show_clock) := ⟨rfl, rfl, rfl, by decide +kernel, rfl, by decide +kernel, by decide +kernel⟩
abbrev dv_show_clock : List V := []
abbrev s_show_time : Stmt := (top 6)
abbrev N_show_time : List Str := ["minute", "day", "clock", "shown"]
abbrev ps_show_time : List Str := ["minute"]
theorem sc_show_time : FnScope N_show_time ps_show_time (defScope s_show_time) := ⟨rfl, rfl, rfl, by decide +kernel, rfl, by decide +kernel, by decide +kernel⟩
abbrev dv_show_time : List V := []
abbrev s_Book_init : Stmt := (inClass (top 8) 0)
abbrev N_Book_init : List Str := ["self", "bank"]
abbrev ps_Book_init : List Str := ["self", "bank"]
theorem sc_Book_init : FnScope N_Book_init ps_Book_init (defScope s_Book_init) := ⟨rfl, rfl, rfl, by decide +kernel, rfl, by decide +kernel, by decide +kernel⟩
abbrev dv_Book_init : List V := []
abbrev s_Book_write : Stmt := (inClass (top 8) 1)
abbrev N_Book_write : List Str := ["self", "minute", "word", "name"]
abbrev ps_Book_write : List Str := ["self", "minute", "word", "name"]
theorem sc_Book_write : FnScope N_Book_write ps_Book_write (defScope s_Book_write) := ⟨rfl, rfl, rfl, by decide +kernel, rfl, by decide +kernel, by decide +kernel⟩
abbrev dv_Book_write : List V := []
abbrev s_Book_rows : Stmt := (inClass (top 8) 2)
abbrev N_Book_rows : List Str := ["self"]
abbrev ps_Book_rows : List Str := ["self"]
theorem sc_Book_rows : FnScope N_Book_rows ps_Book_rows (defScope s_Book_rows) := ⟨rfl, rfl, rfl, by decide +kernel, rfl, by decide +kernel, by decide +kernel⟩
abbrev dv_Book_rows : List V := []
abbrev s_Book_len : Stmt := (inClass (top 8) 3)
abbrev N_Book_len : List Str := ["self"]
abbrev ps_Book_len : List Str := ["self"]
theorem sc_Book_len : FnScope N_Book_len ps_Book_len (defScope s_Book_len) := ⟨rfl, rfl, rfl, by decide +kernel, rfl, by decide +kernel, by decide +kernel⟩
abbrev dv_Book_len : List V := []
abbrev s_Book_eq : Stmt := (inClass (top 8) 4)
abbrev N_Book_eq : List Str := ["self", "other"]
abbrev ps_Book_eq : List Str := ["self", "other"]
theorem sc_Book_eq : FnScope N_Book_eq ps_Book_eq (defScope s_Book_eq) := ⟨rfl, rfl, rfl, by decide +kernel, rfl, by decide +kernel, by decide +kernel⟩
abbrev dv_Book_eq : List V := []
abbrev s_Book_str : Stmt := (inClass (top 8) 5)
abbrev N_Book_str : List Str := ["self", "lines", "minute", "word", "name"]
abbrev ps_Book_str : List Str := ["self"]
theorem sc_Book_str : FnScope N_Book_str ps_Book_str (defScope s_Book_str) := ⟨rfl, rfl, rfl, by decide +kernel, rfl, by decide +kernel, by decide +kernel⟩
abbrev dv_Book_str : List V := []
abbrev s__law_feed : Stmt := (top 10)
abbrev N__law_feed : List Str := ["_law_script"]
abbrev ps__law_feed : List Str := ["_law_script"]
theorem sc__law_feed : FnScope N__law_feed ps__law_feed (defScope s__law_feed) := ⟨rfl, rfl, rfl, by decide +kernel, rfl, by decide +kernel, by decide +kernel⟩
abbrev dv__law_feed : List V := []
abbrev s__law_draw : Stmt := (top 11)
abbrev N__law_draw : List Str := ["_law_feed_here", "_law_many", "_law_found", "_law_spot", "_law_cell", "_law_mixed"]
abbrev ps__law_draw : List Str := ["_law_feed_here", "_law_many"]
theorem sc__law_draw : FnScope N__law_draw ps__law_draw (defScope s__law_draw) := ⟨rfl, rfl, rfl, by decide +kernel, rfl, by decide +kernel, by decide +kernel⟩
abbrev dv__law_draw : List V := []
abbrev s__law_of : Stmt := (top 12)
abbrev N__law_of : List Str := ["_law_feed_here", "_law_some"]
abbrev ps__law_of : List Str := ["_law_feed_here", "_law_some"]
theorem sc__law_of : FnScope N__law_of ps__law_of (defScope s__law_of) := ⟨rfl, rfl, rfl, by decide +kernel, rfl, by decide +kernel, by decide +kernel⟩
abbrev dv__law_of : List V := []
abbrev s__law_names : Stmt := (top 13)
abbrev N__law_names : List Str := ["_law_feed_here", "_law_many", "_law_letters", "_law_some", "_law_place", "_law_short", "_law_found", "_law_k", "_law_turned", "_law_shown", "_law_one"]
abbrev ps__law_names : List Str := ["_law_feed_here", "_law_many"]
theorem sc__law_names : FnScope N__law_names ps__law_names (defScope s__law_names) := ⟨rfl, rfl, rfl, by decide +kernel, rfl, by decide +kernel, by decide +kernel⟩
abbrev dv__law_names : List V := []
abbrev s__law_time : Stmt := (top 14)
abbrev N__law_time : List Str := ["_law_moment", "_law_clock", "_law_shown"]
abbrev ps__law_time : List Str := ["_law_moment"]
theorem sc__law_time : FnScope N__law_time ps__law_time (defScope s__law_time) := ⟨rfl, rfl, rfl, by decide +kernel, rfl, by decide +kernel, by decide +kernel⟩
abbrev dv__law_time : List V := []
abbrev s__law_rows : Stmt := (top 15)
abbrev N__law_rows : List Str := ["_law_feed_here", "_law_names_here", "_law_many", "_law_moment", "_law_found", "_law_k"]
abbrev ps__law_rows : List Str := ["_law_feed_here", "_law_names_here", "_law_many"]
theorem sc__law_rows : FnScope N__law_rows ps__law_rows (defScope s__law_rows) := ⟨rfl, rfl, rfl, by decide +kernel, rfl, by decide +kernel, by decide +kernel⟩
abbrev dv__law_rows : List V := []
abbrev s__law_book : Stmt := (top 16)
abbrev N__law_book : List Str := ["_law_side", "_law_rows_here", "_law_found", "_law_when", "_law_deed", "_law_who"]
abbrev ps__law_book : List Str := ["_law_side", "_law_rows_here"]
theorem sc__law_book : FnScope N__law_book ps__law_book (defScope s__law_book) := ⟨rfl, rfl, rfl, by decide +kernel, rfl, by decide +kernel, by decide +kernel⟩
abbrev dv__law_book : List V := []
abbrev s__law_text : Stmt := (top 17)
abbrev N__law_text : List Str := ["_law_side", "_law_rows_here", "_law_when", "_law_deed", "_law_who"]
abbrev ps__law_text : List Str := ["_law_side", "_law_rows_here"]
theorem sc__law_text : FnScope N__law_text ps__law_text (defScope s__law_text) := ⟨rfl, rfl, rfl, by decide +kernel, rfl, by decide +kernel, by decide +kernel⟩
abbrev dv__law_text : List V := []
abbrev s__law_backward : Stmt := (top 18)
abbrev N__law_backward : List Str := ["_law_book_here", "_law_when", "_law_error", "e"]
abbrev ps__law_backward : List Str := ["_law_book_here", "_law_when"]
theorem sc__law_backward : FnScope N__law_backward ps__law_backward (defScope s__law_backward) := ⟨rfl, rfl, rfl, by decide +kernel, rfl, by decide +kernel, by decide +kernel⟩
abbrev dv__law_backward : List V := []
abbrev s__law_looks : Stmt := (top 19)
abbrev N__law_looks : List Str := ["_law_book_here", "_law_side", "_law_rows_here", "_law_told"]
abbrev ps__law_looks : List Str := ["_law_book_here", "_law_side", "_law_rows_here"]
theorem sc__law_looks : FnScope N__law_looks ps__law_looks (defScope s__law_looks) := ⟨rfl, rfl, rfl, by decide +kernel, rfl, by decide +kernel, by decide +kernel⟩
abbrev dv__law_looks : List V := []
abbrev s__law_otherwise : Stmt := (top 20)
abbrev N__law_otherwise : List Str := ["_law_feed_here", "_law_side", "_law_rows_here", "_law_others", "_law_last", "_law_k", "_law_when", "_law_deed", "_law_who", "_law_turned", "_law_named", "_law_row"]
abbrev ps__law_otherwise : List Str := ["_law_feed_here", "_law_side", "_law_rows_here"]
theorem sc__law_otherwise : FnScope N__law_otherwise ps__law_otherwise (defScope s__law_otherwise) := ⟨rfl, rfl, rfl, by decide +kernel, rfl, by decide +kernel, by decide +kernel⟩
abbrev dv__law_otherwise : List V := []
abbrev s_law : Stmt := (top 21)
abbrev N_law : List Str := ["_law_script", "_law_feed_here", "_law_k", "_law_side", "_law_names_here", "_law_rows_here", "_law_book_here", "_law_held", "_law_place", "_law_when", "_law_deed", "_law_who", "_law_told", "_law_others", "_law_other", "_law_same", "_law_some", "_law_kept"]
abbrev ps_law : List Str := ["_law_script"]
theorem sc_law : FnScope N_law ps_law (defScope s_law) := ⟨rfl, rfl, rfl, by decide +kernel, rfl, by decide +kernel, by decide +kernel⟩
abbrev dv_law : List V := []
abbrev s_Backward_init : Stmt := (inClass (top 1) 0)
abbrev N_Backward_init : List Str := ["self", "minute"]
abbrev ps_Backward_init : List Str := ["self", "minute"]
theorem sc_Backward_init : FnScope N_Backward_init ps_Backward_init (defScope s_Backward_init) := ⟨rfl, rfl, rfl, by decide +kernel, rfl, by decide +kernel, by decide +kernel⟩
abbrev dv_Backward_init : List V := []
structure Ad where
  C_Backward : Addr
  C_Book : Addr
theorem bnd_show_clock_1 : Bnd "show_clock" "show_clock" s_show_clock ps_show_clock 1 [] [.p 0] dv_show_clock.length := .zero fun _ _ _ _ _ _ us ws h1 h2 => match us, ws, h1, h2 with | [_], [], _, _ => rfl
theorem bnd_Backward_init_2 : Bnd "__init__" "Backward.__init__" s_Backward_init ps_Backward_init 2 [] [.p 0, .p 1] dv_Backward_init.length := .zero fun _ _ _ _ _ _ us ws h1 h2 => match us, ws, h1, h2 with | [_, _], [], _, _ => rfl
theorem bnd_show_time_1 : Bnd "show_time" "show_time" s_show_time ps_show_time 1 [] [.p 0] dv_show_time.length := .zero fun _ _ _ _ _ _ us ws h1 h2 => match us, ws, h1, h2 with | [_], [], _, _ => rfl
theorem bnd__law_draw_2 : Bnd "_law_draw" "_law_draw" s__law_draw ps__law_draw 2 [] [.p 0, .p 1] dv__law_draw.length := .zero fun _ _ _ _ _ _ us ws h1 h2 => match us, ws, h1, h2 with | [_, _], [], _, _ => rfl
theorem bnd__law_of_2 : Bnd "_law_of" "_law_of" s__law_of ps__law_of 2 [] [.p 0, .p 1] dv__law_of.length := .zero fun _ _ _ _ _ _ us ws h1 h2 => match us, ws, h1, h2 with | [_, _], [], _, _ => rfl
theorem bnd_Book_init_2 : Bnd "__init__" "Book.__init__" s_Book_init ps_Book_init 2 [] [.p 0, .p 1] dv_Book_init.length := .zero fun _ _ _ _ _ _ us ws h1 h2 => match us, ws, h1, h2 with | [_, _], [], _, _ => rfl
theorem bnd_Book_write_4 : Bnd "write" "Book.write" s_Book_write ps_Book_write 4 [] [.p 0, .p 1, .p 2, .p 3] dv_Book_write.length := .zero fun _ _ _ _ _ _ us ws h1 h2 => match us, ws, h1, h2 with | [_, _, _, _], [], _, _ => rfl
theorem bnd__law_time_1 : Bnd "_law_time" "_law_time" s__law_time ps__law_time 1 [] [.p 0] dv__law_time.length := .zero fun _ _ _ _ _ _ us ws h1 h2 => match us, ws, h1, h2 with | [_], [], _, _ => rfl
theorem bnd_Book_rows_1 : Bnd "rows" "Book.rows" s_Book_rows ps_Book_rows 1 [] [.p 0] dv_Book_rows.length := .zero fun _ _ _ _ _ _ us ws h1 h2 => match us, ws, h1, h2 with | [_], [], _, _ => rfl
theorem bnd_Book_len_1 : Bnd "__len__" "Book.__len__" s_Book_len ps_Book_len 1 [] [.p 0] dv_Book_len.length := .zero fun _ _ _ _ _ _ us ws h1 h2 => match us, ws, h1, h2 with | [_], [], _, _ => rfl
theorem bnd_Book_str_1 : Bnd "__str__" "Book.__str__" s_Book_str ps_Book_str 1 [] [.p 0] dv_Book_str.length := .zero fun _ _ _ _ _ _ us ws h1 h2 => match us, ws, h1, h2 with | [_], [], _, _ => rfl
theorem bnd__law_text_2 : Bnd "_law_text" "_law_text" s__law_text ps__law_text 2 [] [.p 0, .p 1] dv__law_text.length := .zero fun _ _ _ _ _ _ us ws h1 h2 => match us, ws, h1, h2 with | [_, _], [], _, _ => rfl
theorem bnd__law_book_2 : Bnd "_law_book" "_law_book" s__law_book ps__law_book 2 [] [.p 0, .p 1] dv__law_book.length := .zero fun _ _ _ _ _ _ us ws h1 h2 => match us, ws, h1, h2 with | [_, _], [], _, _ => rfl
theorem bnd__law_feed_1 : Bnd "_law_feed" "_law_feed" s__law_feed ps__law_feed 1 [] [.p 0] dv__law_feed.length := .zero fun _ _ _ _ _ _ us ws h1 h2 => match us, ws, h1, h2 with | [_], [], _, _ => rfl
theorem bnd__law_names_2 : Bnd "_law_names" "_law_names" s__law_names ps__law_names 2 [] [.p 0, .p 1] dv__law_names.length := .zero fun _ _ _ _ _ _ us ws h1 h2 => match us, ws, h1, h2 with | [_, _], [], _, _ => rfl
theorem bnd__law_rows_3 : Bnd "_law_rows" "_law_rows" s__law_rows ps__law_rows 3 [] [.p 0, .p 1, .p 2] dv__law_rows.length := .zero fun _ _ _ _ _ _ us ws h1 h2 => match us, ws, h1, h2 with | [_, _, _], [], _, _ => rfl
theorem bnd_Book_init_1_bank : Bnd "__init__" "Book.__init__" s_Book_init ps_Book_init 1 ["bank"] [.p 0, .k 0] dv_Book_init.length := .zero fun _ _ _ _ _ _ us ws h1 h2 => match us, ws, h1, h2 with | [_], [_], _, _ => rfl
theorem bnd__law_looks_3 : Bnd "_law_looks" "_law_looks" s__law_looks ps__law_looks 3 [] [.p 0, .p 1, .p 2] dv__law_looks.length := .zero fun _ _ _ _ _ _ us ws h1 h2 => match us, ws, h1, h2 with | [_, _, _], [], _, _ => rfl
theorem bnd_Book_write_1_minute_word_name : Bnd "write" "Book.write" s_Book_write ps_Book_write 1 ["minute", "word", "name"] [.p 0, .k 0, .k 1, .k 2] dv_Book_write.length := .zero fun _ _ _ _ _ _ us ws h1 h2 => match us, ws, h1, h2 with | [_], [_, _, _], _, _ => rfl
theorem bnd__law_backward_2 : Bnd "_law_backward" "_law_backward" s__law_backward ps__law_backward 2 [] [.p 0, .p 1] dv__law_backward.length := .zero fun _ _ _ _ _ _ us ws h1 h2 => match us, ws, h1, h2 with | [_, _], [], _, _ => rfl
theorem bnd__law_otherwise_3 : Bnd "_law_otherwise" "_law_otherwise" s__law_otherwise ps__law_otherwise 3 [] [.p 0, .p 1, .p 2] dv__law_otherwise.length := .zero fun _ _ _ _ _ _ us ws h1 h2 => match us, ws, h1, h2 with | [_, _, _], [], _, _ => rfl
theorem bnd_Book_eq_2 : Bnd "__eq__" "Book.__eq__" s_Book_eq ps_Book_eq 2 [] [.p 0, .p 1] dv_Book_eq.length := .zero fun _ _ _ _ _ _ us ws h1 h2 => match us, ws, h1, h2 with | [_, _], [], _, _ => rfl
structure Txt (K : PySem.W.Frag) (mg : Str → Option Value) (a : Ad) : Prop where
  b_show_clock : FnB K mg "show_clock" s_show_clock dv_show_clock
  b_show_time : FnB K mg "show_time" s_show_time dv_show_time
  b_Book_init : MkB K a.C_Book "Book.__init__" s_Book_init dv_Book_init
  b_Book_write : MtB K a.C_Book "write" "Book.write" s_Book_write dv_Book_write
  b_Book_rows : MtB K a.C_Book "rows" "Book.rows" s_Book_rows dv_Book_rows
  b_Book_len : MtB K a.C_Book "__len__" "Book.__len__" s_Book_len dv_Book_len
  b_Book_eq : MtB K a.C_Book "__eq__" "Book.__eq__" s_Book_eq dv_Book_eq
  b_Book_str : MtB K a.C_Book "__str__" "Book.__str__" s_Book_str dv_Book_str
  b__law_feed : FnB K mg "_law_feed" s__law_feed dv__law_feed
  b__law_draw : FnB K mg "_law_draw" s__law_draw dv__law_draw
  b__law_of : FnB K mg "_law_of" s__law_of dv__law_of
  b__law_names : FnB K mg "_law_names" s__law_names dv__law_names
  b__law_time : FnB K mg "_law_time" s__law_time dv__law_time
  b__law_rows : FnB K mg "_law_rows" s__law_rows dv__law_rows
  b__law_book : FnB K mg "_law_book" s__law_book dv__law_book
  b__law_text : FnB K mg "_law_text" s__law_text dv__law_text
  b__law_backward : FnB K mg "_law_backward" s__law_backward dv__law_backward
  b__law_looks : FnB K mg "_law_looks" s__law_looks dv__law_looks
  b__law_otherwise : FnB K mg "_law_otherwise" s__law_otherwise dv__law_otherwise
  b_law : FnB K mg "law" s_law dv_law
  mC_Book : mg "Book" = some (.ref a.C_Book)
  cl_Book : Cls K a.C_Book
  mC_Backward : mg "Backward" = some (.ref a.C_Backward)
  xL_Backward : XLk K a.C_Backward
  xT_Backward : ExT K a.C_Backward "RuntimeError" "RuntimeError.__new__" "RuntimeError.__init__" [.type "RuntimeError", .type "Exception", .type "BaseException", .type "object"]
  xI_Backward : XIn K a.C_Backward "Backward.__init__" s_Backward_init
  xn_Backward_minute : PySem.W.findIn K (.ref a.C_Backward) "minute" = some none
  xm_Backward_Backward : Exm K (.ref a.C_Backward) (.own a.C_Backward) true
  xk_Backward_RuntimeError : KitX K a.C_Backward (.type "RuntimeError") true
  xk_Backward_ValueError : KitX K a.C_Backward (.type "ValueError") false
  no_RuntimeError : mg "RuntimeError" = none
  no_ValueError : mg "ValueError" = none
  no_bool : mg "bool" = none
  no_divmod : mg "divmod" = none
  no_int : mg "int" = none
  no_isinstance : mg "isinstance" = none
  no_len : mg "len" = none
  no_list : mg "list" = none
  no_max : mg "max" = none
  no_range : mg "range" = none
  no_repr : mg "repr" = none
  no_str : mg "str" = none
  c_DAY : ∃ t, mg "DAY" = some (.int 1440 t)
  c_HOUR : ∃ t, mg "HOUR" = some (.int 60 t)
  f_Book_bank : FldOk K a.C_Book "bank"
  f_Book_kept : FldOk K a.C_Book "kept"
  kb_Book : KitB K a.C_Book
  kc_Book_Book : KitC K a.C_Book a.C_Book true
  fo_Book : FmO K a.C_Book
  nb_Book : NoBool K a.C_Book
  ez_Book : EqC0 K a.C_Book
  nn_Book : NoNe K a.C_Book
  is_Book : IsC K a.C_Book
theorem st_show_clock (d0 : D) : startD N_show_clock [d0] = [some d0, none, none] := rfl
theorem st_show_time (d0 : D) : startD N_show_time [d0] = [some d0, none, none, none] := rfl
theorem st_Book_init (d0 d1 : D) : startD N_Book_init [d0, d1] = [some d0, some d1] := rfl
theorem st_Book_write (d0 d1 d2 d3 : D) : startD N_Book_write [d0, d1, d2, d3] = [some d0, some d1, some d2, some d3] := rfl
theorem st_Book_rows (d0 : D) : startD N_Book_rows [d0] = [some d0] := rfl
theorem st_Book_len (d0 : D) : startD N_Book_len [d0] = [some d0] := rfl
theorem st_Book_eq (d0 d1 : D) : startD N_Book_eq [d0, d1] = [some d0, some d1] := rfl
theorem st_Book_str (d0 : D) : startD N_Book_str [d0] = [some d0, none, none, none, none] := rfl
theorem st__law_feed (d0 : D) : startD N__law_feed [d0] = [some d0] := rfl
theorem st__law_draw (d0 d1 : D) : startD N__law_draw [d0, d1] = [some d0, some d1, none, none, none, none] := rfl
theorem st__law_of (d0 d1 : D) : startD N__law_of [d0, d1] = [some d0, some d1] := rfl
theorem st__law_names (d0 d1 : D) : startD N__law_names [d0, d1] = [some d0, some d1, none, none, none, none, none, none, none, none, none] := rfl
theorem st__law_time (d0 : D) : startD N__law_time [d0] = [some d0, none, none] := rfl
theorem st__law_rows (d0 d1 d2 : D) : startD N__law_rows [d0, d1, d2] = [some d0, some d1, some d2, none, none, none] := rfl
theorem st__law_book (d0 d1 : D) : startD N__law_book [d0, d1] = [some d0, some d1, none, none, none, none] := rfl
theorem st__law_text (d0 d1 : D) : startD N__law_text [d0, d1] = [some d0, some d1, none, none, none] := rfl
theorem st__law_backward (d0 d1 : D) : startD N__law_backward [d0, d1] = [some d0, some d1, none, none] := rfl
theorem st__law_looks (d0 d1 d2 : D) : startD N__law_looks [d0, d1, d2] = [some d0, some d1, some d2, none] := rfl
theorem st__law_otherwise (d0 d1 d2 : D) : startD N__law_otherwise [d0, d1, d2] = [some d0, some d1, some d2, none, none, none, none, none, none, none, none, none] := rfl
theorem st_law (d0 : D) : startD N_law [d0] = [some d0, none, none, none, none, none, none, none, none, none, none, none, none, none, none, none, none, none] := rfl
theorem pk_Book_bank : putK "bank" [] = (["bank"] : List Str) := by decide +kernel
theorem px_Book_bank {x0 : D} : putX "bank" x0 [] [] = [x0] := rfl
theorem fg_Book_bank {x0 x1 : D} : fget "bank" ["bank", "kept"] [x0, x1] = some x0 := rfl
theorem pk_Book_kept : putK "kept" ["bank"] = (["bank", "kept"] : List Str) := by decide +kernel
theorem px_Book_kept {x0 x1 : D} : putX "kept" x1 ["bank"] [x0] = [x0, x1] := rfl
theorem fg_Book_kept {x0 x1 : D} : fget "kept" ["bank", "kept"] [x0, x1] = some x1 := rfl
end Lw
namespace Lw
open PySem L2 Dl
def NmOk (x : Str) : Prop := 1 ≤ x.length ∧ x.length ≤ 8 ∧ ∀ c ∈ x.cps.toList, 97 ≤ c ∧ c ≤ 122
theorem nm_ok {x : Str} (h : NmOk x) : PyData.strOk x = true := Mt.ok_all.mpr fun c hc => by have := h.2.2 c hc; omega
/-- a row of a book -/
structure Rw where
  m : Nat
  w : Str
  n : Str
  deriving DecidableEq
def WdOk (x : Str) : Prop := x = "on" ∨ x = "off"
def BaOk (x : Str) : Prop := x = "near" ∨ x = "far"
def RwOk (r : Rw) : Prop := r.m ≤ 1000000 ∧ WdOk r.w ∧ NmOk r.n
def Rise (R : List Rw) : Prop := R.Pairwise fun r s => r.m ≤ s.m
abbrev rwD (r : Rw) : D := .tup [.int (r.m : Nat), .str r.w, .str r.n]
def spS : Str := " "
def rowT (r : Rw) : Str := Mt.T r.m ++ spS ++ r.w ++ spS ++ r.n
def bkT (b : Str) (R : List Rw) : Str := Txt.join "\n" (b :: R.map rowT)
abbrev bkO (a : Ad) (b : Str) (j : Nat) : MO := .obj a.C_Book ["bank", "kept"] [.str b, .loc j]
/-- a book in the store: its cell, the cell of its rows -/
def BkAt (a : Ad) (S : Sto) (n j : Nat) (b : Str) (R : List Rw) : Prop := S[n]? = some (some (bkO a b j)) ∧ S[j]? = some (some (.lst (R.map rwD)))
abbrev bk2 (a : Ad) (n : Nat) (b : Str) (R : List Rw) : Sto := [some (bkO a b (n + 1)), some (.lst (R.map rwD))]
abbrev sp_show_clock (a : Ad) : DSp := Mt.shClock
abbrev sp_show_time (a : Ad) : DSp := Mt.shTime
abbrev sp_Book_init (a : Ad) : DSp := fun ds S q => ∃ S0 b, ds = [.loc S0.length, .str b] ∧ S = S0 ++ [some (.obj a.C_Book [] [])] ∧ q .non (S0 ++ bk2 a S0.length b [])
abbrev sp_Book_write (a : Ad) : XSp := fun ds S q qx => ∃ n j b R m w x, ds = [.loc n, .int ((m : Nat) : Int), .str w, .str x] ∧ BkAt a S n j b R ∧ R.length ≤ 100000 ∧ ((∀ r, R.getLast? = some r → r.m ≤ m) → q .non (S.set j (some (.lst ((R ++ [Rw.mk m w x]).map rwD))))) ∧ ∀ r, R.getLast? = some r → m < r.m → qx (.own a.C_Backward) ["minute"] [.int (r.m : Nat)] S
abbrev sp_Book_rows (a : Ad) : DSp := fun ds S q => ∃ n j b R, ds = [.loc n] ∧ BkAt a S n j b R ∧ R.length ≤ 100000 ∧ q (.lst (R.map rwD)) S
abbrev sp_Book_rows_live (a : Ad) : DSp := fun ds S q => ∃ n j b R, ds = [.loc n] ∧ BkAt a S n j b R ∧ R.length ≤ 100000 ∧ q (.loc S.length) (S ++ [some (.lst (R.map rwD))])
/-- a book given up -/
abbrev bkV (a : Ad) (b : Str) (R : List Rw) : D := .obj a.C_Book ["bank", "kept"] [.str b, .lst (R.map rwD)]
def BkIs (a : Ad) (S : Sto) (d : D) (b : Str) (R : List Rw) : Prop := (∃ n j, d = .loc n ∧ BkAt a S n j b R) ∨ d = bkV a b R
structure BkOk (b : Str) (R : List Rw) : Prop where
  ba : BaOk b
  ro : ∀ r ∈ R, RwOk r
  ri : Rise R
  le : R.length ≤ 1000
/-- what a book's == says of a thing -/
def GSay (a : Ad) (b : Str) (R : List Rw) (e : D) (r : Bool) : Prop := (∃ b' R', e = bkV a b' R' ∧ BkOk b R ∧ BkOk b' R' ∧ r = decide (b = b' ∧ R = R')) ∨ ((∃ t, e.bk = some t) ∧ r = false)
abbrev sp_Book_len (a : Ad) : DSp := fun ds S q => ∃ n j b R, ds = [.loc n] ∧ BkAt a S n j b R ∧ q (.int (R.length : Nat)) S
abbrev sp_Book_eq (a : Ad) : DSp := fun ds S q => ∃ b R e r, ds = [bkV a b R, e] ∧ GSay a b R e r ∧ q (.bl r) S
abbrev sp_Book_str (a : Ad) : DSp := fun ds S q => ∃ d b R, ds = [d] ∧ BkIs a S d b R ∧ BkOk b R ∧ q (.str (bkT b R)) S
abbrev sp__law_feed (a : Ad) : DSp := Mt.tape
abbrev sp__law_draw (a : Ad) : DSp := Mt.draw
abbrev sp__law_of (a : Ad) : DSp := Mt.pickL
abbrev sp__law_names (a : Ad) : DSp := fun ds S q => ∃ many : Int, 0 < many ∧ many ≤ 26 ∧ Mt.tk 20 [.int many] (fun d => ∃ xs : List Str, d = .lst (xs.map D.str) ∧ (xs.length : Int) = many ∧ xs.Nodup ∧ ∀ x ∈ xs, NmOk x) ds S q
abbrev sp__law_time (a : Ad) : DSp := Mt.shTime
abbrev sp__law_rows (a : Ad) : DSp := fun ds S q => ∃ (xs : List Str) (many : Nat), (0 < xs.length ∧ xs.length ≤ 26 ∧ ∀ x ∈ xs, NmOk x) ∧ many ≤ 20 ∧ Mt.tk 1000 [.lst (xs.map D.str), .int (many : Nat)] (fun d => ∃ R : List Rw, d = .lst (R.map rwD) ∧ R.length = many ∧ (∀ r ∈ R, RwOk r ∧ r.m ≤ 990000) ∧ Rise R) ds S q
abbrev sp__law_book (a : Ad) : DSp := fun ds S q => ∃ b R, ds = [.str b, .lst (R.map rwD)] ∧ BkOk b R ∧ q (bkV a b R) S
abbrev sp__law_backward (a : Ad) : DSp := fun ds S q => ∃ n j b R r m, ds = [.loc n, .int ((m : Nat) : Int)] ∧ BkAt a S n j b R ∧ R.length ≤ 1000 ∧ R.getLast? = some r ∧ m < r.m ∧ q (.tup [.int (r.m : Nat), .bl true, .bl false]) S
abbrev sp__law_looks (a : Ad) : DSp := fun ds S q => ∃ n j b R, ds = [.loc n, .str b, .lst (R.map rwD)] ∧ BkAt a S n j b R ∧ BkOk b R ∧ q (.bl true) S
abbrev sp__law_otherwise (a : Ad) : DSp := fun ds S q => ∃ b R, (BkOk b R ∧ R.length ≤ 20 ∧ ∀ r ∈ R, r.m ≤ 990000) ∧ Mt.tk 10 [.str b, .lst (R.map rwD)] (fun d => ∃ L : List (Str × List Rw), d = .lst (L.map fun p => .tup [bkV a p.1 p.2, .bl (decide (p.1 = b ∧ p.2 = R))]) ∧ L.length ≤ 100 ∧ L[0]? = some (b, R) ∧ ∀ p ∈ L, BkOk p.1 p.2) ds S q
abbrev sp__law_text (a : Ad) : DSp := fun ds S q => ∃ b R, ds = [.str b, .lst (R.map rwD)] ∧ BaOk b ∧ (∀ r ∈ R, RwOk r) ∧ R.length ≤ 1000 ∧ q (.str (bkT b R)) S
abbrev sp_law : DSp := Mt.law
end Lw
namespace Lw
open PySem L2 Dl
section
variable {P : Program} {w : World} {K : PySem.W.Frag} {mg : Str → Option Value} {base : Heap} {a : Ad}
theorem xc_Backward (T : Txt K mg a) : XCls P w K mg base "Backward" a.C_Backward s_Backward_init "Backward.__init__" ps_Backward_init ["minute"] := xcls1 T.mC_Backward T.xT_Backward T.xI_Backward sc_Backward_init rfl T.xn_Backward_minute (fun _ _ _ _ _ _ _ => pss_one (ps_xst (xv 0) (xv 1)))
def g_show_clock (K : PySem.W.Frag) (a : Ad) : GS :=
  (gSeq (gAsg (.tp [(.nm 1), (.nm 2)]) (gCB (a2 aDivmod) (Dl.gCons (gVar 0) (Dl.gCons (gC (.int 60)) Dl.gNil)))) (gRet (gB2 (aAdd true) (gB2 (aAdd true) (gMt "str" (aSI (fun _ i => PadOk i = true) fun x i => .str (Txt.zfill x i)) (gCB (a1 aStr) (Dl.gCons (gVar 1) Dl.gNil)) (Dl.gCons (gC (.int 2)) Dl.gNil)) (gC (.str ":"))) (gMt "str" (aSI (fun _ i => PadOk i = true) fun x i => .str (Txt.zfill x i)) (gCB (a1 aStr) (Dl.gCons (gVar 2) Dl.gNil)) (Dl.gCons (gC (.int 2)) Dl.gNil)))))
theorem t_show_clock (T : Txt K mg a)  {f : Addr} {cdv : Value} {A : Around} {outer : List Env} {s : Shared} {H : Hp} {E : XK} (hr : RoomG 0 (A.deeper (PyProof.Rows.envOfC "show_clock" (defScope s_show_clock) s.heap.objs.size f cdv))) :
    PSs (cxOf CX0 P w K mg base N_show_clock "show_clock" (defScope s_show_clock) f cdv A outer s H E).nox (defBody s_show_clock) (tofS K U0 (g_show_clock K a)) :=
  (ds_cons (d_asg (t := (.tp [(.nm 1), (.nm 2)])) (d_callB call_divmod vr_divmod (by rfl) T.no_divmod (by decide +kernel) (d_cons (d_var 0) (d_cons (d_gint (by rfl) T.c_HOUR) d_nil))) (pg_tup rfl (pgs_cons (pg_name (i := 1) sc_show_clock.nd rfl (by first | exact .inl rfl | exact .inr rfl)) (pgs_cons (pg_name (i := 2) sc_show_clock.nd rfl (by first | exact .inl rfl | exact .inr rfl)) pgs_nil))))
    (ds_one (d_ret (d_op or_add (vr_add (fz := true)) (d_op or_add (vr_add (fz := true)) (d_bm (by decide) PySem.F.plainAttrs_str PySem.F.slot_str_zfill PySem.F.type_str_zfill mt_zfill vm_zfill (d_callTy call_str_int vr_str (by rfl) T.no_str (by decide +kernel) (d_cons (d_var 1) d_nil)) (d_cons d_int d_nil)) d_str) (d_bm (by decide) PySem.F.plainAttrs_str PySem.F.slot_str_zfill PySem.F.type_str_zfill mt_zfill vm_zfill (d_callTy call_str_int vr_str (by rfl) T.no_str (by decide +kernel) (d_cons (d_var 2) d_nil)) (d_cons d_int d_nil))))))
def g_show_time (K : PySem.W.Frag) (a : Ad) : GS :=
  (gSeq (gAsg (.tp [(.nm 1), (.nm 2)]) (gCB (a2 aDivmod) (Dl.gCons (gVar 0) (Dl.gCons (gC (.int 1440)) Dl.gNil)))) (gSeq (gSet 3 (gCall 1 0 [.p 0] [] (sp_show_clock a) (gArgs (Dl.gCons (gVar 2) Dl.gNil) Dl.gNil))) (gSeq (gIfS (gTest (gB2 aGt (gVar 1) (gC (.int 0)))) (gAug 3 aIadd (gJoined [(gC (.str "+")), (gFmt (gVar 1))])) gNext) (gRet (gVar 3)))))
theorem t_show_time (T : Txt K mg a) (F_show_clock : Fnc P w K mg base "show_clock" s_show_clock dv_show_clock 1 ps_show_clock (sp_show_clock a)) {f : Addr} {cdv : Value} {A : Around} {outer : List Env} {s : Shared} {H : Hp} {E : XK} (hr : RoomG 1 (A.deeper (PyProof.Rows.envOfC "show_time" (defScope s_show_time) s.heap.objs.size f cdv))) :
    PSs (cxOf CX0 P w K mg base N_show_time "show_time" (defScope s_show_time) f cdv A outer s H E).nox (defBody s_show_time) (tofS K U0 (g_show_time K a)) :=
  (ds_cons (d_asg (t := (.tp [(.nm 1), (.nm 2)])) (d_callB call_divmod vr_divmod (by rfl) T.no_divmod (by decide +kernel) (d_cons (d_var 0) (d_cons (d_gint (by rfl) T.c_DAY) d_nil))) (pg_tup rfl (pgs_cons (pg_name (i := 1) sc_show_time.nd rfl (by first | exact .inl rfl | exact .inr rfl)) (pgs_cons (pg_name (i := 2) sc_show_time.nd rfl (by first | exact .inl rfl | exact .inr rfl)) pgs_nil))))
    (ds_cons (d_set (i := 3) sc_show_time.nd rfl (by first | exact .inl rfl | exact .inr rfl) (d_call F_show_clock (hr.mono (by decide)) (by rfl) bnd_show_clock_1 dfv_nil (da_p0 (d_cons (d_var 2) d_nil))))
    (ds_cons (d_if (d_tcmp op_gt vr_gt (d_var 1) d_int)
      (ds_one (d_aug (i := 3) sc_show_time.nd rfl (by first | exact .inl rfl | exact .inr rfl) or_iadd vr_iadd (d_joined (.cons d_str (.cons (d_fmt (d_var 1)) .nil)))))
      ds_nil)
    (ds_one (d_ret (d_var 3))))))
def g_Book_init (K : PySem.W.Frag) (a : Ad) : GS :=
  (gSeq (gFldSet K "bank" (gVar 0) (gVar 1)) (gFldSet K "kept" (gVar 0) (Dl.gLst false Dl.gNil)))
theorem t_Book_init (T : Txt K mg a)  {f : Addr} {cdv : Value} {A : Around} {outer : List Env} {s : Shared} {H : Hp} {E : XK} (hr : RoomG 0 (A.deeper (PyProof.Rows.envOfC "Book.__init__" (defScope s_Book_init) s.heap.objs.size f cdv))) :
    PSs (cxOf CX0 P w K mg base N_Book_init "Book.__init__" (defScope s_Book_init) f cdv A outer s H E).nox (defBody s_Book_init) (tofS K U0 (g_Book_init K a)) :=
  (ds_cons (d_fldset (d_var 0) (d_var 1))
    (ds_one (d_fldset (d_var 0) (d_lst false d_nil))))
def g_Book_write (K : PySem.W.Frag) (a : Ad) (WD : XW) : GS :=
  (gSeq (gIfS (gAndB (gTest (gB2 (aNil true) (gFld K "kept" (gVar 0)) (Dl.gLst true Dl.gNil))) (gTest (gB2 aLt (gVar 1) (gIx (gIx (gFld K "kept" (gVar 0)) (gU aNeg (gC (.int 1)))) (gC (.int 0)))))) (gRaise WD a.C_Backward ["minute"] 1 [.p 0, .p 1] (gArgs (Dl.gCons (gIx (gIx (gFld K "kept" (gVar 0)) (gU aNeg (gC (.int 1)))) (gC (.int 0))) Dl.gNil) Dl.gNil)) gNext) (gDrop (gMt "list" aAppend (gFld K "kept" (gVar 0)) (Dl.gCons (Dl.gTup (Dl.gCons (gVar 1) (Dl.gCons (gVar 2) (Dl.gCons (gVar 3) Dl.gNil)))) Dl.gNil))))
theorem t_Book_write (T : Txt K mg a)  {f : Addr} {cdv : Value} {A : Around} {outer : List Env} {s : Shared} {H : Hp} {E : XK} {U : Wi} (hr : RoomG 2 (A.deeper (PyProof.Rows.envOfC "Book.write" (defScope s_Book_write) s.heap.objs.size f cdv))) (tk : Takes (cxOf (CX P w) P w K mg base N_Book_write "Book.write" (defScope s_Book_write) f cdv A outer s H E) U.W) :
    PSs (cxOf (CX P w) P w K mg base N_Book_write "Book.write" (defScope s_Book_write) f cdv A outer s H E) (defBody s_Book_write) (tofS K U (g_Book_write K a U.D)) :=
  (ds_cons (d_if (PW.pt (d_and (d_tcmp (or_neNil hr) vr_nil (d_fld (d_var 0)) (d_lst true d_nil)) (d_and1 (d_tcmp op_lt vr_lt (d_var 1) (d_ix (d_ix (d_fld (d_var 0)) (d_un un_neg vr_neg d_int)) d_int)))))
      (ds_one (d_raise tk (xc_Backward T) (hr.mono (by decide)) (by rfl) bnd_Backward_init_2 (da_p0 (d_cons (d_ix (d_ix (d_fld (d_var 0)) (d_un un_neg vr_neg d_int)) d_int) d_nil))))
      ds_nil)
    (ds_one (d_expr (d_bm (by decide) PySem.F.plainAttrs_list PySem.F.slot_list_append PySem.F.type_list_append mt_append vm_append (d_fld (d_var 0)) (d_cons (d_tup (d_cons (d_var 1) (d_cons (d_var 2) (d_cons (d_var 3) d_nil)))) d_nil)))))
def g_Book_rows (K : PySem.W.Frag) (a : Ad) : GS :=
  (gRet (gCB (a1 (aList false)) (Dl.gCons (gFld K "kept" (gVar 0)) Dl.gNil)))
theorem t_Book_rows (T : Txt K mg a)  {f : Addr} {cdv : Value} {A : Around} {outer : List Env} {s : Shared} {H : Hp} {E : XK} (hr : RoomG 0 (A.deeper (PyProof.Rows.envOfC "Book.rows" (defScope s_Book_rows) s.heap.objs.size f cdv))) :
    PSs (cxOf CX0 P w K mg base N_Book_rows "Book.rows" (defScope s_Book_rows) f cdv A outer s H E).nox (defBody s_Book_rows) (tofS K U0 (g_Book_rows K a)) :=
  (ds_one (d_ret (d_callTy call_list_of (vr_list (fz := false)) (by rfl) T.no_list (by decide +kernel) (d_cons (d_fld (d_var 0)) d_nil))))
def g_Book_len (K : PySem.W.Frag) (a : Ad) : GS :=
  (gRet (gCB (a1 aLen) (Dl.gCons (gFld K "kept" (gVar 0)) Dl.gNil)))
theorem t_Book_len (T : Txt K mg a)  {f : Addr} {cdv : Value} {A : Around} {outer : List Env} {s : Shared} {H : Hp} {E : XK} (hr : RoomG 0 (A.deeper (PyProof.Rows.envOfC "Book.__len__" (defScope s_Book_len) s.heap.objs.size f cdv))) :
    PSs (cxOf CX0 P w K mg base N_Book_len "Book.__len__" (defScope s_Book_len) f cdv A outer s H E).nox (defBody s_Book_len) (tofS K U0 (g_Book_len K a)) :=
  (ds_one (d_ret (d_callB or_len vr_len (by rfl) T.no_len (by decide +kernel) (d_cons (d_fld (d_var 0)) d_nil))))
def g_Book_eq (K : PySem.W.Frag) (a : Ad) : GS :=
  (gRet (gAndV (gCB (a2 (aIsiC K)) (Dl.gCons (gVar 1) (Dl.gCons (gC (.ref a.C_Book)) Dl.gNil))) (gAndV (gB2 aEq (gFld K "bank" (gVar 0)) (gFld K "bank" (gVar 1))) (gB2 aEq (gFld K "kept" (gVar 0)) (gFld K "kept" (gVar 1))))))
theorem t_Book_eq (T : Txt K mg a)  {f : Addr} {cdv : Value} {A : Around} {outer : List Env} {s : Shared} {H : Hp} {E : XK} (hr : RoomG 0 (A.deeper (PyProof.Rows.envOfC "Book.__eq__" (defScope s_Book_eq) s.heap.objs.size f cdv))) :
    PSs (cxOf CX0 P w K mg base N_Book_eq "Book.__eq__" (defScope s_Book_eq) f cdv A outer s H E).nox (defBody s_Book_eq) (tofS K U0 (g_Book_eq K a)) :=
  (ds_one (d_ret (d_andV (d_callB call_isi vr_isiC (by rfl) T.no_isinstance (by decide +kernel) (d_cons (d_var 1) (d_cons (d_gref (by rfl) T.mC_Book) d_nil))) (d_andV (d_cmp (op_eqD hr.units) vr_eq (d_fld (d_var 0)) (d_fld (d_var 1))) (d_oneV (d_cmp (op_eqD hr.units) vr_eq (d_fld (d_var 0)) (d_fld (d_var 1))))))))
def g_Book_str (K : PySem.W.Frag) (a : Ad) : GS :=
  (gSeq (gSet 1 (Dl.gLst false (Dl.gCons (gFld K "bank" (gVar 0)) Dl.gNil))) (gSeq (gFor (gIt (gFld K "kept" (gVar 0))) (.tp [(.nm 2), (.nm 3), (.nm 4)]) (gDrop (gMt "list" aAppend (gVar 1) (Dl.gCons (gJoined [(gFmt (gCall 1 0 [.p 0] [] (sp_show_time a) (gArgs (Dl.gCons (gVar 2) Dl.gNil) Dl.gNil))), (gC (.str " ")), (gFmt (gVar 3)), (gC (.str " ")), (gFmt (gVar 4))]) Dl.gNil)))) (gRet (gMt "str" aJoin (gC (.str "\n")) (Dl.gCons (gVar 1) Dl.gNil)))))
theorem t_Book_str (T : Txt K mg a) (F_show_time : Fnc P w K mg base "show_time" s_show_time dv_show_time 2 ps_show_time (sp_show_time a)) {f : Addr} {cdv : Value} {A : Around} {outer : List Env} {s : Shared} {H : Hp} {E : XK} (hr : RoomG 2 (A.deeper (PyProof.Rows.envOfC "Book.__str__" (defScope s_Book_str) s.heap.objs.size f cdv))) :
    PSs (cxOf CX0 P w K mg base N_Book_str "Book.__str__" (defScope s_Book_str) f cdv A outer s H E).nox (defBody s_Book_str) (tofS K U0 (g_Book_str K a)) :=
  (ds_cons (d_set (i := 1) sc_Book_str.nd rfl (by first | exact .inl rfl | exact .inr rfl) (d_lst false (d_cons (d_fld (d_var 0)) d_nil)))
    (ds_cons (d_for (t := (.tp [(.nm 2), (.nm 3), (.nm 4)])) PassesOwn.never rfl (di_seq (d_fld (d_var 0))) (pg_tup rfl (pgs_cons (pg_name (i := 2) sc_Book_str.nd rfl (by first | exact .inl rfl | exact .inr rfl)) (pgs_cons (pg_name (i := 3) sc_Book_str.nd rfl (by first | exact .inl rfl | exact .inr rfl)) (pgs_cons (pg_name (i := 4) sc_Book_str.nd rfl (by first | exact .inl rfl | exact .inr rfl)) pgs_nil))))
      (ds_one (d_expr (d_bm (by decide) PySem.F.plainAttrs_list PySem.F.slot_list_append PySem.F.type_list_append mt_append vm_append (d_var 1) (d_cons (d_joined (.cons (d_fmt (d_call F_show_time (hr.mono (by decide)) (by rfl) bnd_show_time_1 dfv_nil (da_p0 (d_cons (d_var 2) d_nil)))) (.cons d_str (.cons (d_fmt (d_var 3)) (.cons d_str (.cons (d_fmt (d_var 4)) .nil)))))) d_nil)))))
    (ds_one (d_ret (d_bm (by decide) PySem.F.plainAttrs_str PySem.F.slot_str_join PySem.F.type_str_join mt_join vm_join d_str (d_cons (d_var 1) d_nil))))))
def g__law_feed (K : PySem.W.Frag) (a : Ad) : GS :=
  (gRet (Dl.gLst false (Dl.gCons (gCB (a1 (aList true)) (Dl.gCons (gSl true (gVar 0) gNoP (gPart (gC (.int 63)))) Dl.gNil)) (Dl.gCons (gC (.int 0)) (Dl.gCons (gC (.int 0)) Dl.gNil)))))
theorem t__law_feed (T : Txt K mg a)  {f : Addr} {cdv : Value} {A : Around} {outer : List Env} {s : Shared} {H : Hp} {E : XK} (hr : RoomG 0 (A.deeper (PyProof.Rows.envOfC "_law_feed" (defScope s__law_feed) s.heap.objs.size f cdv))) :
    PSs (cxOf CX0 P w K mg base N__law_feed "_law_feed" (defScope s__law_feed) f cdv A outer s H E).nox (defBody s__law_feed) (tofS K U0 (g__law_feed K a)) :=
  (ds_one (d_ret (d_lst false (d_cons (d_callTy call_list_of (vr_list (fz := true)) (by rfl) T.no_list (by decide +kernel) (d_cons (d_sl true (d_var 0) do_none (do_some d_int)) d_nil)) (d_cons d_int (d_cons d_int d_nil))))))
def g__law_draw (K : PySem.W.Frag) (a : Ad) : GS :=
  (gSeq (gIfS (gTest (gB2 aGt (gIx (gVar 0) (gC (.int 2))) (gC (.int 0)))) (gSeq (gSet 2 (gB2 aMod (gIx (gVar 0) (gC (.int 2))) (gVar 1))) (gSeq (gSetIx (gVar 0) (gC (.int 2)) (gB2 aFdiv (gIx (gVar 0) (gC (.int 2))) (gVar 1))) (gRet (gVar 2)))) gNext) (gSeq (gSet 3 (gIx (gVar 0) (gC (.int 1)))) (gSeq (gSetIx (gVar 0) (gC (.int 1)) (gB2 (aAdd true) (gVar 3) (gC (.int 1)))) (gSeq (gSet 4 (gIf (gTest (gB2 aNe (gIx (gVar 0) (gC (.int 0))) (Dl.gLst true Dl.gNil))) (gIx (gIx (gVar 0) (gC (.int 0))) (gB2 aMod (gVar 3) (gCB (a1 aLen) (Dl.gCons (gIx (gVar 0) (gC (.int 0))) Dl.gNil)))) (gB2 (aAdd true) (gB2 (aMul true) (gC (.int 7919)) (gVar 3)) (gC (.int 11))))) (gSeq (gIfS (gAndB (gTest (gB2 aLt (gVar 3) (gCB (a1 aLen) (Dl.gCons (gIx (gVar 0) (gC (.int 0))) Dl.gNil)))) (gTest (gB2 aGe (gVar 4) (gB2 aPow (gC (.int 10)) (gC (.int 18)))))) (gSeq (gSetIx (gVar 0) (gC (.int 2)) (gB2 aFdiv (gVar 4) (gVar 1))) (gRet (gB2 aMod (gVar 4) (gVar 1)))) gNext) (gSeq (gSet 5 (gB2 aMod (gB2 aPow (gB2 (aAdd true) (gB2 (aAdd true) (gB2 aMod (gVar 4) (gC (.int 2147483629))) (gB2 (aMul true) (gC (.int 104729)) (gVar 3))) (gC (.int 1013))) (gC (.int 3))) (gC (.int 2147483647)))) (gSeq (gSet 5 (gB2 aMod (gB2 (aMul true) (gB2 (aAdd true) (gB2 aFdiv (gVar 5) (gC (.int 16))) (gC (.int 40763))) (gB2 (aAdd true) (gB2 aMod (gB2 (aMul true) (gC (.int 48271)) (gVar 3)) (gC (.int 65521))) (gC (.int 3)))) (gC (.int 2147483587)))) (gRet (gB2 aMod (gB2 aFdiv (gVar 5) (gC (.int 32))) (gVar 1))))))))))
theorem t__law_draw (T : Txt K mg a)  {f : Addr} {cdv : Value} {A : Around} {outer : List Env} {s : Shared} {H : Hp} {E : XK} (hr : RoomG 0 (A.deeper (PyProof.Rows.envOfC "_law_draw" (defScope s__law_draw) s.heap.objs.size f cdv))) :
    PSs (cxOf CX0 P w K mg base N__law_draw "_law_draw" (defScope s__law_draw) f cdv A outer s H E).nox (defBody s__law_draw) (tofS K U0 (g__law_draw K a)) :=
  (ds_cons (d_if (d_tcmp op_gt vr_gt (d_ix (d_var 0) d_int) d_int)
      (ds_cons (d_set (i := 2) sc__law_draw.nd rfl (by first | exact .inl rfl | exact .inr rfl) (d_op op_mod vr_mod (d_ix (d_var 0) d_int) (d_var 1)))
    (ds_cons (d_setix (d_var 0) d_int (d_op or_fdiv vr_fdiv (d_ix (d_var 0) d_int) (d_var 1)))
    (ds_one (d_ret (d_var 2)))))
      ds_nil)
    (ds_cons (d_set (i := 3) sc__law_draw.nd rfl (by first | exact .inl rfl | exact .inr rfl) (d_ix (d_var 0) d_int))
    (ds_cons (d_setix (d_var 0) d_int (d_op or_add (vr_add (fz := true)) (d_var 3) d_int))
    (ds_cons (d_set (i := 4) sc__law_draw.nd rfl (by first | exact .inl rfl | exact .inr rfl) (d_ifExp (d_tcmp (op_neD hr.units) vr_ne (d_ix (d_var 0) d_int) (d_lst true d_nil)) (d_ix (d_ix (d_var 0) d_int) (d_op op_mod vr_mod (d_var 3) (d_callB or_len vr_len (by rfl) T.no_len (by decide +kernel) (d_cons (d_ix (d_var 0) d_int) d_nil)))) (d_op or_add (vr_add (fz := true)) (d_op or_mul (vr_mul (fz := true)) d_int (d_var 3)) d_int)))
    (ds_cons (d_if (PW.pt (d_and (d_tcmp op_lt vr_lt (d_var 3) (d_callB or_len vr_len (by rfl) T.no_len (by decide +kernel) (d_cons (d_ix (d_var 0) d_int) d_nil))) (d_and1 (d_tcmp op_ge vr_ge (d_var 4) (d_op op_pow vr_pow d_int d_int)))))
      (ds_cons (d_setix (d_var 0) d_int (d_op or_fdiv vr_fdiv (d_var 4) (d_var 1)))
    (ds_one (d_ret (d_op op_mod vr_mod (d_var 4) (d_var 1)))))
      ds_nil)
    (ds_cons (d_set (i := 5) sc__law_draw.nd rfl (by first | exact .inl rfl | exact .inr rfl) (d_op op_mod vr_mod (d_op op_pow vr_pow (d_op or_add (vr_add (fz := true)) (d_op or_add (vr_add (fz := true)) (d_op op_mod vr_mod (d_var 4) d_int) (d_op or_mul (vr_mul (fz := true)) d_int (d_var 3))) d_int) d_int) d_int))
    (ds_cons (d_set (i := 5) sc__law_draw.nd rfl (by first | exact .inl rfl | exact .inr rfl) (d_op op_mod vr_mod (d_op or_mul (vr_mul (fz := true)) (d_op or_add (vr_add (fz := true)) (d_op or_fdiv vr_fdiv (d_var 5) d_int) d_int) (d_op or_add (vr_add (fz := true)) (d_op op_mod vr_mod (d_op or_mul (vr_mul (fz := true)) d_int (d_var 3)) d_int) d_int)) d_int))
    (ds_one (d_ret (d_op op_mod vr_mod (d_op or_fdiv vr_fdiv (d_var 5) d_int) (d_var 1)))))))))))
def g__law_of (K : PySem.W.Frag) (a : Ad) : GS :=
  (gRet (gIx (gVar 1) (gCall 2 0 [.p 0, .p 1] [] (sp__law_draw a) (gArgs (Dl.gCons (gVar 0) (Dl.gCons (gCB (a1 aLen) (Dl.gCons (gVar 1) Dl.gNil)) Dl.gNil)) Dl.gNil))))
theorem t__law_of (T : Txt K mg a) (F__law_draw : Fnc P w K mg base "_law_draw" s__law_draw dv__law_draw 1 ps__law_draw (sp__law_draw a)) {f : Addr} {cdv : Value} {A : Around} {outer : List Env} {s : Shared} {H : Hp} {E : XK} (hr : RoomG 1 (A.deeper (PyProof.Rows.envOfC "_law_of" (defScope s__law_of) s.heap.objs.size f cdv))) :
    PSs (cxOf CX0 P w K mg base N__law_of "_law_of" (defScope s__law_of) f cdv A outer s H E).nox (defBody s__law_of) (tofS K U0 (g__law_of K a)) :=
  (ds_one (d_ret (d_ix (d_var 1) (d_call F__law_draw (hr.mono (by decide)) (by rfl) bnd__law_draw_2 dfv_nil (da_p0 (d_cons (d_var 0) (d_cons (d_callB or_len vr_len (by rfl) T.no_len (by decide +kernel) (d_cons (d_var 1) d_nil)) d_nil)))))))
def g__law_names (K : PySem.W.Frag) (a : Ad) : GS :=
  (gSeq (gSet 2 (gC (.str "abcdefghijklmnopqrstuvwxyz"))) (gSeq (gSet 3 (gLc true (gRng1 (Dl.gCons (gB2 (aAdd true) (gC (.int 1)) (gCall 2 0 [.p 0, .p 1] [] (sp__law_draw a) (gArgs (Dl.gCons (gVar 0) (Dl.gCons (gC (.int 8)) Dl.gNil)) Dl.gNil))) Dl.gNil)) (.nm 7) gYes (gCall 2 0 [.p 0, .p 1] [] (sp__law_draw a) (gArgs (Dl.gCons (gVar 0) (Dl.gCons (gC (.int 26)) Dl.gNil)) Dl.gNil)) [7])) (gSeq (gPar 4 5 (Dl.gCons (gCall 2 0 [.p 0, .p 1] [] (sp__law_draw a) (gArgs (Dl.gCons (gVar 0) (Dl.gCons (gCB (a1 aLen) (Dl.gCons (gVar 3) Dl.gNil)) Dl.gNil)) Dl.gNil)) (Dl.gCons (gCall 2 0 [.p 0, .p 1] [] (sp__law_draw a) (gArgs (Dl.gCons (gVar 0) (Dl.gCons (gC (.int 2)) Dl.gNil)) Dl.gNil)) Dl.gNil))) (gSeq (gSet 6 (Dl.gLst false Dl.gNil)) (gSeq (gFor (gRng1 (Dl.gCons (gVar 1) Dl.gNil)) (.nm 7) (gSeq (gSet 8 (gCB (a1 (aList false)) (Dl.gCons (gVar 3) Dl.gNil))) (gSeq (gSetIx (gVar 8) (gVar 4) (gB2 aMod (gB2 (aAdd true) (gIx (gVar 3) (gVar 4)) (gB2 (aMul true) (gC (.int 7)) (gVar 7))) (gC (.int 26)))) (gSeq (gSet 9 (gMt "str" aJoin (gC (.str "")) (Dl.gCons (gLc true (gIt (gVar 8)) (.nm 10) gYes (gIx (gVar 2) (gVar 10)) [10]) Dl.gNil))) (gDrop (gMt "list" aAppend (gVar 6) (Dl.gCons (gSl true (gVar 9) gNoP (gPart (gCB (a2 aMax2) (Dl.gCons (gB2 (aAdd true) (gVar 4) (gC (.int 1))) (Dl.gCons (gB2 aSub (gCB (a1 aLen) (Dl.gCons (gVar 9) Dl.gNil)) (gB2 (aMul true) (gVar 5) (gB2 aMod (gVar 7) (gC (.int 3))))) Dl.gNil))))) Dl.gNil))))))) (gRet (gVar 6)))))))
theorem t__law_names (T : Txt K mg a) (F__law_draw : Fnc P w K mg base "_law_draw" s__law_draw dv__law_draw 1 ps__law_draw (sp__law_draw a)) {f : Addr} {cdv : Value} {A : Around} {outer : List Env} {s : Shared} {H : Hp} {E : XK} (hr : RoomG 1 (A.deeper (PyProof.Rows.envOfC "_law_names" (defScope s__law_names) s.heap.objs.size f cdv))) :
    PSs (cxOf CX0 P w K mg base N__law_names "_law_names" (defScope s__law_names) f cdv A outer s H E).nox (defBody s__law_names) (tofS K U0 (g__law_names K a)) :=
  (ds_cons (d_set (i := 2) sc__law_names.nd rfl (by first | exact .inl rfl | exact .inr rfl) d_str)
    (ds_cons (d_setLc (own := [("_law_k", 7)]) (t := (.nm 7)) true (i := 3) rfl sc__law_names.nd rfl rfl (sw_true rfl rfl rfl (by decide +kernel)) (di_rng1 (by rfl) T.no_range (d_cons (d_op or_add (vr_add (fz := true)) d_int (d_call F__law_draw (hr.mono (by decide)) (by rfl) bnd__law_draw_2 dfv_nil (da_p0 (d_cons (d_var 0) (d_cons d_int d_nil))))) d_nil)) (blkOk_by (own := [("_law_k", 7)]) (N := N__law_names) (sc := defScope s__law_names) (by decide +kernel)) (by decide) (fun _ _ _ _ _ => (pg_name (i := 7) sc__law_names.nd rfl (by first | exact .inl rfl | exact .inr rfl))) (fun _ _ _ _ _ => dt_nil) (fun _ _ _ _ _ => (d_call F__law_draw (hr.mono (by decide)) (by rfl) bnd__law_draw_2 dfv_nil (da_p0 (d_cons (d_var 0) (d_cons d_int d_nil))))))
    (ds_cons (d_par sc__law_names.nd (d_cons (d_call F__law_draw (hr.mono (by decide)) (by rfl) bnd__law_draw_2 dfv_nil (da_p0 (d_cons (d_var 0) (d_cons (d_callB or_len vr_len (by rfl) T.no_len (by decide +kernel) (d_cons (d_var 3) d_nil)) d_nil)))) (d_cons (d_call F__law_draw (hr.mono (by decide)) (by rfl) bnd__law_draw_2 dfv_nil (da_p0 (d_cons (d_var 0) (d_cons d_int d_nil)))) d_nil)))
    (ds_cons (d_set (i := 6) sc__law_names.nd rfl (by first | exact .inl rfl | exact .inr rfl) (d_lst false d_nil))
    (ds_cons (d_for (t := (.nm 7)) PassesOwn.never rfl (di_rng1 (by rfl) T.no_range (d_cons (d_var 1) d_nil)) (pg_name (i := 7) sc__law_names.nd rfl (by first | exact .inl rfl | exact .inr rfl))
      (ds_cons (d_set (i := 8) sc__law_names.nd rfl (by first | exact .inl rfl | exact .inr rfl) (d_callTy call_list_of (vr_list (fz := false)) (by rfl) T.no_list (by decide +kernel) (d_cons (d_var 3) d_nil)))
    (ds_cons (d_setix (d_var 8) (d_var 4) (d_op op_mod vr_mod (d_op or_add (vr_add (fz := true)) (d_ix (d_var 3) (d_var 4)) (d_op or_mul (vr_mul (fz := true)) d_int (d_var 7))) d_int))
    (ds_cons (d_set (i := 9) sc__law_names.nd rfl (by first | exact .inl rfl | exact .inr rfl) (d_bm (by decide) PySem.F.plainAttrs_str PySem.F.slot_str_join PySem.F.type_str_join mt_join vm_join d_str (d_cons (d_lc (own := [("_law_one", 10)]) (t := (.nm 10)) true rfl sc__law_names.nd (di_seq (d_var 8)) (blkOk_by (own := [("_law_one", 10)]) (N := N__law_names) (sc := defScope s__law_names) (by decide +kernel)) (by decide) (fun _ _ _ _ _ => (pg_name (i := 10) sc__law_names.nd rfl (by first | exact .inl rfl | exact .inr rfl))) (fun _ _ _ _ _ => dt_nil) (fun _ _ _ _ _ => (d_ix (d_var 2) (d_var 10)))) d_nil)))
    (ds_one (d_expr (d_bm (by decide) PySem.F.plainAttrs_list PySem.F.slot_list_append PySem.F.type_list_append mt_append vm_append (d_var 6) (d_cons (d_sl true (d_var 9) do_none (do_some (d_callB (call_max2 rfl) vr_max2 (by rfl) T.no_max (by decide +kernel) (d_cons (d_op or_add (vr_add (fz := true)) (d_var 4) d_int) (d_cons (d_op op_sub vr_sub (d_callB or_len vr_len (by rfl) T.no_len (by decide +kernel) (d_cons (d_var 9) d_nil)) (d_op or_mul (vr_mul (fz := true)) (d_var 5) (d_op op_mod vr_mod (d_var 7) d_int))) d_nil))))) d_nil))))))))
    (ds_one (d_ret (d_var 6))))))))
def g__law_time (K : PySem.W.Frag) (a : Ad) : GS :=
  (gSeq (gSet 1 (gB2 aMod (gVar 0) (gC (.int 1440)))) (gSeq (gSet 2 (gB2 (aAdd true) (gB2 (aAdd true) (gCB (a1 aStr) (Dl.gCons (gB2 aFdiv (gVar 1) (gC (.int 600))) Dl.gNil)) (gCB (a1 aStr) (Dl.gCons (gB2 aMod (gB2 aFdiv (gVar 1) (gC (.int 60))) (gC (.int 10))) Dl.gNil))) (gC (.str ":")))) (gSeq (gSet 2 (gB2 (aAdd true) (gB2 (aAdd true) (gVar 2) (gCB (a1 aStr) (Dl.gCons (gB2 aFdiv (gB2 aMod (gVar 1) (gC (.int 60))) (gC (.int 10))) Dl.gNil))) (gCB (a1 aStr) (Dl.gCons (gB2 aMod (gVar 1) (gC (.int 10))) Dl.gNil)))) (gRet (gIf (gTest (gB2 aLt (gVar 0) (gC (.int 1440)))) (gVar 2) (gB2 (aAdd true) (gB2 (aAdd true) (gVar 2) (gC (.str "+"))) (gCB (a1 aStr) (Dl.gCons (gB2 aFdiv (gVar 0) (gC (.int 1440))) Dl.gNil))))))))
theorem t__law_time (T : Txt K mg a)  {f : Addr} {cdv : Value} {A : Around} {outer : List Env} {s : Shared} {H : Hp} {E : XK} (hr : RoomG 0 (A.deeper (PyProof.Rows.envOfC "_law_time" (defScope s__law_time) s.heap.objs.size f cdv))) :
    PSs (cxOf CX0 P w K mg base N__law_time "_law_time" (defScope s__law_time) f cdv A outer s H E).nox (defBody s__law_time) (tofS K U0 (g__law_time K a)) :=
  (ds_cons (d_set (i := 1) sc__law_time.nd rfl (by first | exact .inl rfl | exact .inr rfl) (d_op op_mod vr_mod (d_var 0) d_int))
    (ds_cons (d_set (i := 2) sc__law_time.nd rfl (by first | exact .inl rfl | exact .inr rfl) (d_op or_add (vr_add (fz := true)) (d_op or_add (vr_add (fz := true)) (d_callTy call_str_int vr_str (by rfl) T.no_str (by decide +kernel) (d_cons (d_op or_fdiv vr_fdiv (d_var 1) d_int) d_nil)) (d_callTy call_str_int vr_str (by rfl) T.no_str (by decide +kernel) (d_cons (d_op op_mod vr_mod (d_op or_fdiv vr_fdiv (d_var 1) d_int) d_int) d_nil))) d_str))
    (ds_cons (d_set (i := 2) sc__law_time.nd rfl (by first | exact .inl rfl | exact .inr rfl) (d_op or_add (vr_add (fz := true)) (d_op or_add (vr_add (fz := true)) (d_var 2) (d_callTy call_str_int vr_str (by rfl) T.no_str (by decide +kernel) (d_cons (d_op or_fdiv vr_fdiv (d_op op_mod vr_mod (d_var 1) d_int) d_int) d_nil))) (d_callTy call_str_int vr_str (by rfl) T.no_str (by decide +kernel) (d_cons (d_op op_mod vr_mod (d_var 1) d_int) d_nil))))
    (ds_one (d_ret (d_ifExp (d_tcmp op_lt vr_lt (d_var 0) d_int) (d_var 2) (d_op or_add (vr_add (fz := true)) (d_op or_add (vr_add (fz := true)) (d_var 2) d_str) (d_callTy call_str_int vr_str (by rfl) T.no_str (by decide +kernel) (d_cons (d_op or_fdiv vr_fdiv (d_var 0) d_int) d_nil)))))))))
def g__law_rows (K : PySem.W.Frag) (a : Ad) : GS :=
  (gSeq (gPar 3 4 (Dl.gCons (gCall 2 0 [.p 0, .p 1] [] (sp__law_of a) (gArgs (Dl.gCons (gVar 0) (Dl.gCons (Dl.gLst true (Dl.gCons (gC (.int 0)) (Dl.gCons (gCall 2 0 [.p 0, .p 1] [] (sp__law_draw a) (gArgs (Dl.gCons (gVar 0) (Dl.gCons (gC (.int 1500)) Dl.gNil)) Dl.gNil)) (Dl.gCons (gCall 2 0 [.p 0, .p 1] [] (sp__law_draw a) (gArgs (Dl.gCons (gVar 0) (Dl.gCons (gC (.int 900000)) Dl.gNil)) Dl.gNil)) Dl.gNil)))) Dl.gNil)) Dl.gNil)) (Dl.gCons (Dl.gLst false Dl.gNil) Dl.gNil))) (gSeq (gFor (gRng1 (Dl.gCons (gVar 2) Dl.gNil)) (.nm 5) (gSeq (gSet 3 (gB2 (aAdd true) (gVar 3) (gCall 2 0 [.p 0, .p 1] [] (sp__law_of a) (gArgs (Dl.gCons (gVar 0) (Dl.gCons (Dl.gLst true (Dl.gCons (gC (.int 0)) (Dl.gCons (gC (.int 0)) (Dl.gCons (gC (.int 1)) (Dl.gCons (gCall 2 0 [.p 0, .p 1] [] (sp__law_draw a) (gArgs (Dl.gCons (gVar 0) (Dl.gCons (gC (.int 90)) Dl.gNil)) Dl.gNil)) (Dl.gCons (gCall 2 0 [.p 0, .p 1] [] (sp__law_draw a) (gArgs (Dl.gCons (gVar 0) (Dl.gCons (gC (.int 3000)) Dl.gNil)) Dl.gNil)) Dl.gNil)))))) Dl.gNil)) Dl.gNil)))) (gDrop (gMt "list" aAppend (gVar 4) (Dl.gCons (Dl.gTup (Dl.gCons (gVar 3) (Dl.gCons (gIx (Dl.gLst true (Dl.gCons (gC (.str "on")) (Dl.gCons (gC (.str "off")) Dl.gNil))) (gCall 2 0 [.p 0, .p 1] [] (sp__law_draw a) (gArgs (Dl.gCons (gVar 0) (Dl.gCons (gC (.int 2)) Dl.gNil)) Dl.gNil))) (Dl.gCons (gCall 2 0 [.p 0, .p 1] [] (sp__law_of a) (gArgs (Dl.gCons (gVar 0) (Dl.gCons (gVar 1) Dl.gNil)) Dl.gNil)) Dl.gNil)))) Dl.gNil))))) (gRet (gVar 4))))
theorem t__law_rows (T : Txt K mg a) (F__law_draw : Fnc P w K mg base "_law_draw" s__law_draw dv__law_draw 1 ps__law_draw (sp__law_draw a)) (F__law_of : Fnc P w K mg base "_law_of" s__law_of dv__law_of 2 ps__law_of (sp__law_of a)) {f : Addr} {cdv : Value} {A : Around} {outer : List Env} {s : Shared} {H : Hp} {E : XK} (hr : RoomG 2 (A.deeper (PyProof.Rows.envOfC "_law_rows" (defScope s__law_rows) s.heap.objs.size f cdv))) :
    PSs (cxOf CX0 P w K mg base N__law_rows "_law_rows" (defScope s__law_rows) f cdv A outer s H E).nox (defBody s__law_rows) (tofS K U0 (g__law_rows K a)) :=
  (ds_cons (d_par sc__law_rows.nd (d_cons (d_call F__law_of (hr.mono (by decide)) (by rfl) bnd__law_of_2 dfv_nil (da_p0 (d_cons (d_var 0) (d_cons (d_lst true (d_cons d_int (d_cons (d_call F__law_draw (hr.mono (by decide)) (by rfl) bnd__law_draw_2 dfv_nil (da_p0 (d_cons (d_var 0) (d_cons d_int d_nil)))) (d_cons (d_call F__law_draw (hr.mono (by decide)) (by rfl) bnd__law_draw_2 dfv_nil (da_p0 (d_cons (d_var 0) (d_cons d_int d_nil)))) d_nil)))) d_nil)))) (d_cons (d_lst false d_nil) d_nil)))
    (ds_cons (d_for (t := (.nm 5)) PassesOwn.never rfl (di_rng1 (by rfl) T.no_range (d_cons (d_var 2) d_nil)) (pg_name (i := 5) sc__law_rows.nd rfl (by first | exact .inl rfl | exact .inr rfl))
      (ds_cons (d_set (i := 3) sc__law_rows.nd rfl (by first | exact .inl rfl | exact .inr rfl) (d_op or_add (vr_add (fz := true)) (d_var 3) (d_call F__law_of (hr.mono (by decide)) (by rfl) bnd__law_of_2 dfv_nil (da_p0 (d_cons (d_var 0) (d_cons (d_lst true (d_cons d_int (d_cons d_int (d_cons d_int (d_cons (d_call F__law_draw (hr.mono (by decide)) (by rfl) bnd__law_draw_2 dfv_nil (da_p0 (d_cons (d_var 0) (d_cons d_int d_nil)))) (d_cons (d_call F__law_draw (hr.mono (by decide)) (by rfl) bnd__law_draw_2 dfv_nil (da_p0 (d_cons (d_var 0) (d_cons d_int d_nil)))) d_nil)))))) d_nil))))))
    (ds_one (d_expr (d_bm (by decide) PySem.F.plainAttrs_list PySem.F.slot_list_append PySem.F.type_list_append mt_append vm_append (d_var 4) (d_cons (d_tup (d_cons (d_var 3) (d_cons (d_ix (d_lst true (d_cons d_str (d_cons d_str d_nil))) (d_call F__law_draw (hr.mono (by decide)) (by rfl) bnd__law_draw_2 dfv_nil (da_p0 (d_cons (d_var 0) (d_cons d_int d_nil))))) (d_cons (d_call F__law_of (hr.mono (by decide)) (by rfl) bnd__law_of_2 dfv_nil (da_p0 (d_cons (d_var 0) (d_cons (d_var 1) d_nil)))) d_nil)))) d_nil))))))
    (ds_one (d_ret (d_var 4)))))
def g__law_book (K : PySem.W.Frag) (a : Ad) : GS :=
  (gSeq (gSet 2 (gMake a.C_Book 1 0 [.p 0, .p 1] [] (sp_Book_init a) (gArgs (Dl.gCons (gVar 0) Dl.gNil) Dl.gNil))) (gSeq (gFor (gIt (gVar 1)) (.tp [(.nm 3), (.nm 4), (.nm 5)]) (gDrop (gMethX U0.D a.C_Book "write" 3 0 [.p 0, .p 1, .p 2, .p 3] [] (sp_Book_write a) (gVar 2) (gArgs (Dl.gCons (gVar 3) (Dl.gCons (gVar 4) (Dl.gCons (gVar 5) Dl.gNil))) Dl.gNil)))) (gRet (gFrD (gVar 2)))))
theorem t__law_book (T : Txt K mg a) (F_Book_init : CFn P w K mg base "Book" a.C_Book "Book.__init__" s_Book_init dv_Book_init 1 ps_Book_init (sp_Book_init a)) (F_Book_write : MFnX P w K mg base a.C_Book "write" "Book.write" s_Book_write dv_Book_write 3 ps_Book_write (sp_Book_write a)) {f : Addr} {cdv : Value} {A : Around} {outer : List Env} {s : Shared} {H : Hp} {E : XK} (hr : RoomG 3 (A.deeper (PyProof.Rows.envOfC "_law_book" (defScope s__law_book) s.heap.objs.size f cdv))) :
    PSs (cxOf CX0 P w K mg base N__law_book "_law_book" (defScope s__law_book) f cdv A outer s H E).nox (defBody s__law_book) (tofS K U0 (g__law_book K a)) :=
  (ds_cons (d_set (i := 2) sc__law_book.nd rfl (by first | exact .inl rfl | exact .inr rfl) (d_make F_Book_init (hr.mono (by decide)) (by rfl) bnd_Book_init_2 dfv_nil (da_p0 (d_cons (d_var 0) d_nil))))
    (ds_cons (d_for (t := (.tp [(.nm 3), (.nm 4), (.nm 5)])) PassesOwn.never rfl (di_seq (d_var 1)) (pg_tup rfl (pgs_cons (pg_name (i := 3) sc__law_book.nd rfl (by first | exact .inl rfl | exact .inr rfl)) (pgs_cons (pg_name (i := 4) sc__law_book.nd rfl (by first | exact .inl rfl | exact .inr rfl)) (pgs_cons (pg_name (i := 5) sc__law_book.nd rfl (by first | exact .inl rfl | exact .inr rfl)) pgs_nil))))
      (ds_one (d_expr (d_methX tk0 F_Book_write (hr.mono (by decide)) bnd_Book_write_4 dfv_nil (d_var 2) (da_p0 (d_cons (d_var 3) (d_cons (d_var 4) (d_cons (d_var 5) d_nil)))) (by rfl)))))
    (ds_one (d_ret (d_frD (d_var 2))))))
def g__law_text (K : PySem.W.Frag) (a : Ad) : GS :=
  (gRet (gMt "str" aJoin (gC (.str "\n")) (Dl.gCons (gB2 (aAdd true) (Dl.gLst true (Dl.gCons (gVar 0) Dl.gNil)) (gLc true (gIt (gVar 1)) (.tp [(.nm 2), (.nm 3), (.nm 4)]) gYes (gB2 (aAdd true) (gB2 (aAdd true) (gB2 (aAdd true) (gB2 (aAdd true) (gCall 1 0 [.p 0] [] (sp__law_time a) (gArgs (Dl.gCons (gVar 2) Dl.gNil) Dl.gNil)) (gC (.str " "))) (gVar 3)) (gC (.str " "))) (gVar 4)) [2, 3, 4])) Dl.gNil)))
theorem t__law_text (T : Txt K mg a) (F__law_time : Fnc P w K mg base "_law_time" s__law_time dv__law_time 1 ps__law_time (sp__law_time a)) {f : Addr} {cdv : Value} {A : Around} {outer : List Env} {s : Shared} {H : Hp} {E : XK} (hr : RoomG 1 (A.deeper (PyProof.Rows.envOfC "_law_text" (defScope s__law_text) s.heap.objs.size f cdv))) :
    PSs (cxOf CX0 P w K mg base N__law_text "_law_text" (defScope s__law_text) f cdv A outer s H E).nox (defBody s__law_text) (tofS K U0 (g__law_text K a)) :=
  (ds_one (d_ret (d_bm (by decide) PySem.F.plainAttrs_str PySem.F.slot_str_join PySem.F.type_str_join mt_join vm_join d_str (d_cons (d_op or_add (vr_add (fz := true)) (d_lst true (d_cons (d_var 0) d_nil)) (d_lc (own := [("_law_when", 2), ("_law_deed", 3), ("_law_who", 4)]) (t := (.tp [(.nm 2), (.nm 3), (.nm 4)])) true rfl sc__law_text.nd (di_seq (d_var 1)) (blkOk_by (own := [("_law_when", 2), ("_law_deed", 3), ("_law_who", 4)]) (N := N__law_text) (sc := defScope s__law_text) (by decide +kernel)) (by decide) (fun _ _ _ _ _ => (pg_tup rfl (pgs_cons (pg_name (i := 2) sc__law_text.nd rfl (by first | exact .inl rfl | exact .inr rfl)) (pgs_cons (pg_name (i := 3) sc__law_text.nd rfl (by first | exact .inl rfl | exact .inr rfl)) (pgs_cons (pg_name (i := 4) sc__law_text.nd rfl (by first | exact .inl rfl | exact .inr rfl)) pgs_nil))))) (fun _ _ _ _ _ => dt_nil) (fun _ _ _ _ _ => (d_op or_add (vr_add (fz := true)) (d_op or_add (vr_add (fz := true)) (d_op or_add (vr_add (fz := true)) (d_op or_add (vr_add (fz := true)) (d_call F__law_time (hr.mono (by decide)) (by rfl) bnd__law_time_1 dfv_nil (da_p0 (d_cons (d_var 2) d_nil))) d_str) (d_var 3)) d_str) (d_var 4))))) d_nil))))
def g__law_backward (K : PySem.W.Frag) (a : Ad) : GS :=
  (gSeq (gSet 2 (gC .non)) (gSeq (gTryAs K U0.D (.ref a.C_Backward) 3 (fun WD0 => (gDrop (gMethX WD0 a.C_Book "write" 3 0 [.p 0, .p 1, .p 2, .p 3] [] (sp_Book_write a) (gVar 0) (gArgs (Dl.gCons (gVar 1) (Dl.gCons (gC (.str "on")) (Dl.gCons (gC (.str "zz")) Dl.gNil))) Dl.gNil)))) (gSet 2 (gVar 3))) (gSeq (gIfS (gTest (gIsN (gVar 2))) (gRet (gC .non)) gNext) (gRet (Dl.gTup (Dl.gCons (gFldX K "minute" (gVar 2)) (Dl.gCons (gCB (a2 (aIsX K)) (Dl.gCons (gVar 2) (Dl.gCons (gC (.ty "RuntimeError")) Dl.gNil))) (Dl.gCons (gCB (a2 (aIsX K)) (Dl.gCons (gVar 2) (Dl.gCons (gC (.ty "ValueError")) Dl.gNil))) Dl.gNil))))))))
theorem t__law_backward (T : Txt K mg a) (F_Book_write : MFnX P w K mg base a.C_Book "write" "Book.write" s_Book_write dv_Book_write 3 ps_Book_write (sp_Book_write a)) {f : Addr} {cdv : Value} {A : Around} {outer : List Env} {s : Shared} {H : Hp} {E : XK} (hr : RoomG 3 (A.deeper (PyProof.Rows.envOfC "_law_backward" (defScope s__law_backward) s.heap.objs.size f cdv))) :
    PSs (cxOf CX0 P w K mg base N__law_backward "_law_backward" (defScope s__law_backward) f cdv A outer s H E).nox (defBody s__law_backward) (tofS K U0 (g__law_backward K a)) :=
  (ds_cons (d_set (i := 2) sc__law_backward.nd rfl (by first | exact .inl rfl | exact .inr rfl) d_non)
    (ds_cons (d_tryAs (i := 3) tk0 (names_own (by rfl) T.mC_Backward) (fun _ _ _ tkb0 _ => (ds_one (d_expr (d_methX tkb0 F_Book_write (hr.mono (by decide)) bnd_Book_write_4 dfv_nil (d_var 0) (da_p0 (d_cons (d_var 1) (d_cons d_str (d_cons d_str d_nil)))) (by rfl))))) (fun _ _ => (ds_one (d_set (i := 2) sc__law_backward.nd rfl (by first | exact .inl rfl | exact .inr rfl) (d_var 3)))) sc__law_backward.nd)
    (ds_cons (d_if (d_tisN (d_var 2))
      (ds_one (d_ret d_non))
      ds_nil)
    (ds_one (d_ret (d_tup (d_cons (d_fldX (d_var 2)) (d_cons (d_callB call_isX vr_isX (by rfl) T.no_isinstance (by decide +kernel) (d_cons (d_var 2) (d_cons (d_gty (by rfl) T.no_RuntimeError (by decide +kernel)) d_nil))) (d_cons (d_callB call_isX vr_isX (by rfl) T.no_isinstance (by decide +kernel) (d_cons (d_var 2) (d_cons (d_gty (by rfl) T.no_ValueError (by decide +kernel)) d_nil))) d_nil)))))))))
def g__law_looks (K : PySem.W.Frag) (a : Ad) : GS :=
  (gSeq (gSet 3 (gMeth a.C_Book "rows" 0 0 [.p 0] [] (sp_Book_rows_live a) (gVar 0) (gArgs Dl.gNil Dl.gNil))) (gSeq (gIfS (gOrB (gTest (gB2 aNeS (gCB (a1 aRepr) (Dl.gCons (gVar 3) Dl.gNil)) (gCB (a1 aRepr) (Dl.gCons (gVar 2) Dl.gNil)))) (gOrB (gTest (gB2 aNe (gCB (a1 (aLenO a.C_Book (sp_Book_len a))) (Dl.gCons (gVar 0) Dl.gNil)) (gCB (a1 aLen) (Dl.gCons (gVar 2) Dl.gNil)))) (gOrB (gTest (gB2 aNe (gFld K "bank" (gVar 0)) (gVar 1))) (gTest (gB2 aNe (gCB (a1 (aStA [⟨a.C_Book, 3, (sp_Book_str a)⟩] 3)) (Dl.gCons (gVar 0) Dl.gNil)) (gCall 2 0 [.p 0, .p 1] [] (sp__law_text a) (gArgs (Dl.gCons (gVar 1) (Dl.gCons (gVar 2) Dl.gNil)) Dl.gNil))))))) (gRet (gC (.bl false))) gNext) (gSeq (gDrop (gMt "list" aAppend (gVar 3) (Dl.gCons (Dl.gTup (Dl.gCons (gC (.int 0)) (Dl.gCons (gC (.str "on")) (Dl.gCons (gC (.str "a")) Dl.gNil)))) Dl.gNil))) (gSeq (gDrop (gMt "list" aReverse (gVar 3) Dl.gNil)) (gSeq (gIfS (gOrB (gTest (gB2 aNe (gU (aNotO a.C_Book (sp_Book_len a)) (gVar 0)) (gB2 (aNil false) (gVar 2) (Dl.gLst true Dl.gNil)))) (gOrB (gTest (gB2 aNe (gCB (a1 (aBoO a.C_Book (sp_Book_len a))) (Dl.gCons (gVar 0) Dl.gNil)) (gB2 (aNil true) (gVar 2) (Dl.gLst true Dl.gNil)))) (gTest (gB2 aNe (gFmtA [⟨a.C_Book, 3, (sp_Book_str a)⟩] 3 (gVar 0)) (gCall 2 0 [.p 0, .p 1] [] (sp__law_text a) (gArgs (Dl.gCons (gVar 1) (Dl.gCons (gVar 2) Dl.gNil)) Dl.gNil)))))) (gRet (gC (.bl false))) gNext) (gRet (gB2 aEqS (gCB (a1 aRepr) (Dl.gCons (gMeth a.C_Book "rows" 0 0 [.p 0] [] (sp_Book_rows a) (gVar 0) (gArgs Dl.gNil Dl.gNil)) Dl.gNil)) (gCB (a1 aRepr) (Dl.gCons (gVar 2) Dl.gNil)))))))))
theorem t__law_looks (T : Txt K mg a) (F_Book_len : MFn P w K mg base a.C_Book "__len__" "Book.__len__" s_Book_len dv_Book_len 1 ps_Book_len (sp_Book_len a)) (F_Book_str : MFn P w K mg base a.C_Book "__str__" "Book.__str__" s_Book_str dv_Book_str 3 ps_Book_str (sp_Book_str a)) (F_Book_rows_live : MFn P w K mg base a.C_Book "rows" "Book.rows" s_Book_rows dv_Book_rows 1 ps_Book_rows (sp_Book_rows_live a)) (F_Book_rows : MFn P w K mg base a.C_Book "rows" "Book.rows" s_Book_rows dv_Book_rows 1 ps_Book_rows (sp_Book_rows a)) (F__law_text : Fnc P w K mg base "_law_text" s__law_text dv__law_text 2 ps__law_text (sp__law_text a)) {f : Addr} {cdv : Value} {A : Around} {outer : List Env} {s : Shared} {H : Hp} {E : XK} (hr : RoomG 5 (A.deeper (PyProof.Rows.envOfC "_law_looks" (defScope s__law_looks) s.heap.objs.size f cdv))) :
    PSs (cxOf CX0 P w K mg base N__law_looks "_law_looks" (defScope s__law_looks) f cdv A outer s H E).nox (defBody s__law_looks) (tofS K U0 (g__law_looks K a)) :=
  (ds_cons (d_set (i := 3) sc__law_looks.nd rfl (by first | exact .inl rfl | exact .inr rfl) (d_meth F_Book_rows_live (hr.mono (by decide)) bnd_Book_rows_1 dfv_nil (d_var 0) da_00))
    (ds_cons (d_if (PW.pt (d_or (d_tcmp op_ne vr_neSS (d_callB (cr_repr hr) vr_repr (by rfl) T.no_repr (by decide +kernel) (d_cons (d_var 3) d_nil)) (d_callB (cr_repr hr) vr_repr (by rfl) T.no_repr (by decide +kernel) (d_cons (d_var 2) d_nil))) (d_or (d_tcmp (op_neD hr.units) vr_ne (d_callB (or_lenO F_Book_len (hr.mono (by decide)) bnd_Book_len_1) vr_lenO (by rfl) T.no_len (by decide +kernel) (d_cons (d_var 0) d_nil)) (d_callB or_len vr_len (by rfl) T.no_len (by decide +kernel) (d_cons (d_var 2) d_nil))) (d_or (d_tcmp (op_neD hr.units) vr_ne (d_fld (d_var 0)) (d_var 1)) (d_or1 (d_tcmp (op_neD hr.units) vr_ne (d_callTy (cr_strA (sts_cons (c := ⟨a.C_Book, 3, (sp_Book_str a)⟩) ⟨_, _, _, _, F_Book_str , bnd_Book_str_1⟩ sts_nil) (hr.mono (by decide))) vr_stA (by rfl) T.no_str (by decide +kernel) (d_cons (d_var 0) d_nil)) (d_call F__law_text (hr.mono (by decide)) (by rfl) bnd__law_text_2 dfv_nil (da_p0 (d_cons (d_var 1) (d_cons (d_var 2) d_nil))))))))))
      (ds_one (d_ret d_bl))
      ds_nil)
    (ds_cons (d_expr (d_bm (by decide) PySem.F.plainAttrs_list PySem.F.slot_list_append PySem.F.type_list_append mt_append vm_append (d_var 3) (d_cons (d_tup (d_cons d_int (d_cons d_str (d_cons d_str d_nil)))) d_nil)))
    (ds_cons (d_expr (d_bm0 (by decide) PySem.F.plainAttrs_list PySem.F.slot_list_reverse PySem.F.type_list_reverse mt_reverse vm_reverse (d_var 3)))
    (ds_cons (d_if (PW.pt (d_or (d_tcmp (op_neD hr.units) vr_ne (d_un (un_notO T.nb_Book F_Book_len (hr.mono (by decide)) bnd_Book_len_1) vr_notO (d_var 0)) (d_cmp (or_eqNil hr) vr_nil (d_var 2) (d_lst true d_nil))) (d_or (d_tcmp (op_neD hr.units) vr_ne (d_callTy (cr_boO T.nb_Book F_Book_len (hr.mono (by decide)) bnd_Book_len_1) vr_boO (by rfl) T.no_bool (by decide +kernel) (d_cons (d_var 0) d_nil)) (d_cmp (or_neNil hr) vr_nil (d_var 2) (d_lst true d_nil))) (d_or1 (d_tcmp (op_neD hr.units) vr_ne (pe_joined1 (d_fmtA (sts_cons (c := ⟨a.C_Book, 3, (sp_Book_str a)⟩) ⟨_, _, _, _, F_Book_str , bnd_Book_str_1⟩ sts_nil) (by intro c hc; simp only [List.mem_cons, List.not_mem_nil, or_false] at hc; rcases hc with rfl; exact T.fo_Book) (hr.mono (by decide)) (d_var 0))) (d_call F__law_text (hr.mono (by decide)) (by rfl) bnd__law_text_2 dfv_nil (da_p0 (d_cons (d_var 1) (d_cons (d_var 2) d_nil)))))))))
      (ds_one (d_ret d_bl))
      ds_nil)
    (ds_one (d_ret (d_cmp op_eq vr_eqSS (d_callB (cr_repr hr) vr_repr (by rfl) T.no_repr (by decide +kernel) (d_cons (d_meth F_Book_rows (hr.mono (by decide)) bnd_Book_rows_1 dfv_nil (d_var 0) da_00) d_nil)) (d_callB (cr_repr hr) vr_repr (by rfl) T.no_repr (by decide +kernel) (d_cons (d_var 2) d_nil))))))))))
def g__law_otherwise_c123 (K : PySem.W.Frag) (a : Ad) : GS :=
  (gSeq (gFor (gRng1 (Dl.gCons (gB2 aSub (gCB (a1 aLen) (Dl.gCons (gVar 2) Dl.gNil)) (gC (.int 1))) Dl.gNil)) (.nm 5) (gIfS (gAndB (gTest (gB2 aEq (gIx (gIx (gVar 2) (gVar 5)) (gC (.int 0))) (gIx (gIx (gVar 2) (gB2 (aAdd true) (gVar 5) (gC (.int 1)))) (gC (.int 0))))) (gTest (gB2 aNe (gIx (gVar 2) (gVar 5)) (gIx (gVar 2) (gB2 (aAdd true) (gVar 5) (gC (.int 1))))))) (gDrop (gMt "list" aAppend (gVar 3) (Dl.gCons (Dl.gTup (Dl.gCons (gCall 2 0 [.p 0, .p 1] [] (sp__law_book a) (gArgs (Dl.gCons (gVar 1) (Dl.gCons (gB2 (aAdd true) (gB2 (aAdd true) (gSl true (gVar 2) gNoP (gPart (gVar 5))) (gRev true (gSl true (gVar 2) (gPart (gVar 5)) (gPart (gB2 (aAdd true) (gVar 5) (gC (.int 2))))))) (gSl true (gVar 2) (gPart (gB2 (aAdd true) (gVar 5) (gC (.int 2)))) gNoP)) Dl.gNil)) Dl.gNil)) (Dl.gCons (gC (.bl false)) Dl.gNil))) Dl.gNil))) gNext)) (gRet (gVar 3)))
def g__law_otherwise_c114 (K : PySem.W.Frag) (a : Ad) : GS :=
  (gSeq (gIfS (gTest (gB2 (aNil true) (gVar 2) (Dl.gLst true Dl.gNil))) (gSeq (gSet 5 (gCall 2 0 [.p 0, .p 1] [] (sp__law_draw a) (gArgs (Dl.gCons (gVar 0) (Dl.gCons (gCB (a1 aLen) (Dl.gCons (gVar 2) Dl.gNil)) Dl.gNil)) Dl.gNil))) (gSeq (gAsg (.tp [(.nm 6), (.nm 7), (.nm 8)]) (gIx (gVar 2) (gVar 5))) (gSeq (gDrop (gMt "list" aAppend (gVar 3) (Dl.gCons (Dl.gTup (Dl.gCons (gCall 2 0 [.p 0, .p 1] [] (sp__law_book a) (gArgs (Dl.gCons (gVar 1) (Dl.gCons (gB2 (aAdd true) (gSl true (gVar 2) gNoP (gPart (gVar 5))) (gSl true (gVar 2) (gPart (gB2 (aAdd true) (gVar 5) (gC (.int 1)))) gNoP)) Dl.gNil)) Dl.gNil)) (Dl.gCons (gC (.bl false)) Dl.gNil))) Dl.gNil))) (gSeq (gSet 9 (Dl.gTup (Dl.gCons (gVar 6) (Dl.gCons (gIx (Dl.gLst true (Dl.gCons (gC (.str "on")) (Dl.gCons (gC (.str "off")) Dl.gNil))) (gCB (a1 aInt) (Dl.gCons (gB2 aEq (gVar 7) (gC (.str "on"))) Dl.gNil))) (Dl.gCons (gVar 8) Dl.gNil))))) (gSeq (gDrop (gMt "list" aAppend (gVar 3) (Dl.gCons (Dl.gTup (Dl.gCons (gCall 2 0 [.p 0, .p 1] [] (sp__law_book a) (gArgs (Dl.gCons (gVar 1) (Dl.gCons (gB2 (aAdd true) (gB2 (aAdd true) (gSl true (gVar 2) gNoP (gPart (gVar 5))) (Dl.gLst true (Dl.gCons (gVar 9) Dl.gNil))) (gSl true (gVar 2) (gPart (gB2 (aAdd true) (gVar 5) (gC (.int 1)))) gNoP)) Dl.gNil)) Dl.gNil)) (Dl.gCons (gC (.bl false)) Dl.gNil))) Dl.gNil))) (gSeq (gSet 10 (Dl.gTup (Dl.gCons (gVar 6) (Dl.gCons (gVar 7) (Dl.gCons (gB2 (aAdd true) (gSl true (gVar 8) gNoP (gPart (gU aNeg (gC (.int 1))))) (gIx (gC (.str "az")) (gCB (a1 aInt) (Dl.gCons (gB2 aEq (gSl true (gVar 8) (gPart (gU aNeg (gC (.int 1)))) gNoP) (gC (.str "a"))) Dl.gNil)))) Dl.gNil))))) (gSeq (gDrop (gMt "list" aAppend (gVar 3) (Dl.gCons (Dl.gTup (Dl.gCons (gCall 2 0 [.p 0, .p 1] [] (sp__law_book a) (gArgs (Dl.gCons (gVar 1) (Dl.gCons (gB2 (aAdd true) (gB2 (aAdd true) (gSl true (gVar 2) gNoP (gPart (gVar 5))) (Dl.gLst true (Dl.gCons (gVar 10) Dl.gNil))) (gSl true (gVar 2) (gPart (gB2 (aAdd true) (gVar 5) (gC (.int 1)))) gNoP)) Dl.gNil)) Dl.gNil)) (Dl.gCons (gC (.bl false)) Dl.gNil))) Dl.gNil))) (gDrop (gMt "list" aAppend (gVar 3) (Dl.gCons (Dl.gTup (Dl.gCons (gCall 2 0 [.p 0, .p 1] [] (sp__law_book a) (gArgs (Dl.gCons (gVar 1) (Dl.gCons (gB2 (aAdd true) (gSl true (gVar 2) gNoP (gPart (gU aNeg (gC (.int 1))))) (Dl.gLst true (Dl.gCons (Dl.gTup (Dl.gCons (gB2 (aAdd true) (gVar 4) (gC (.int 1))) (Dl.gCons (gIx (gIx (gVar 2) (gU aNeg (gC (.int 1)))) (gC (.int 1))) (Dl.gCons (gIx (gIx (gVar 2) (gU aNeg (gC (.int 1)))) (gC (.int 2))) Dl.gNil)))) Dl.gNil))) Dl.gNil)) Dl.gNil)) (Dl.gCons (gC (.bl false)) Dl.gNil))) Dl.gNil)))))))))) gNext) (g__law_otherwise_c123 K a))
def g__law_otherwise (K : PySem.W.Frag) (a : Ad) : GS :=
  (gSeq (gSet 3 (Dl.gLst false (Dl.gCons (Dl.gTup (Dl.gCons (gCall 2 0 [.p 0, .p 1] [] (sp__law_book a) (gArgs (Dl.gCons (gVar 1) (Dl.gCons (gVar 2) Dl.gNil)) Dl.gNil)) (Dl.gCons (gC (.bl true)) Dl.gNil))) (Dl.gCons (Dl.gTup (Dl.gCons (gCall 2 0 [.p 0, .p 1] [] (sp__law_book a) (gArgs (Dl.gCons (gIx (Dl.gLst true (Dl.gCons (gC (.str "near")) (Dl.gCons (gC (.str "far")) Dl.gNil))) (gCB (a1 aInt) (Dl.gCons (gB2 aEq (gVar 1) (gC (.str "near"))) Dl.gNil))) (Dl.gCons (gVar 2) Dl.gNil)) Dl.gNil)) (Dl.gCons (gC (.bl false)) Dl.gNil))) Dl.gNil)))) (gSeq (gSet 4 (gCB (a1 aMaxL) (Dl.gCons (gB2 (aAdd true) (gLc true (gIt (gVar 2)) (.nm 11) gYes (gIx (gVar 11) (gC (.int 0))) [11]) (Dl.gLst true (Dl.gCons (gC (.int 0)) Dl.gNil))) Dl.gNil))) (gSeq (gDrop (gMt "list" aAppend (gVar 3) (Dl.gCons (Dl.gTup (Dl.gCons (gCall 2 0 [.p 0, .p 1] [] (sp__law_book a) (gArgs (Dl.gCons (gVar 1) (Dl.gCons (gB2 (aAdd true) (gVar 2) (Dl.gLst true (Dl.gCons (Dl.gTup (Dl.gCons (gVar 4) (Dl.gCons (gC (.str "on")) (Dl.gCons (gC (.str "a")) Dl.gNil)))) Dl.gNil))) Dl.gNil)) Dl.gNil)) (Dl.gCons (gC (.bl false)) Dl.gNil))) Dl.gNil))) (g__law_otherwise_c114 K a))))
theorem t__law_otherwise (T : Txt K mg a) (F__law_book : Fnc P w K mg base "_law_book" s__law_book dv__law_book 4 ps__law_book (sp__law_book a)) (F__law_draw : Fnc P w K mg base "_law_draw" s__law_draw dv__law_draw 1 ps__law_draw (sp__law_draw a)) {f : Addr} {cdv : Value} {A : Around} {outer : List Env} {s : Shared} {H : Hp} {E : XK} (hr : RoomG 4 (A.deeper (PyProof.Rows.envOfC "_law_otherwise" (defScope s__law_otherwise) s.heap.objs.size f cdv))) :
    PSs (cxOf CX0 P w K mg base N__law_otherwise "_law_otherwise" (defScope s__law_otherwise) f cdv A outer s H E).nox (defBody s__law_otherwise) (tofS K U0 (g__law_otherwise K a)) :=
  (ds_cons (d_set (i := 3) sc__law_otherwise.nd rfl (by first | exact .inl rfl | exact .inr rfl) (d_lst false (d_cons (d_tup (d_cons (d_call F__law_book (hr.mono (by decide)) (by rfl) bnd__law_book_2 dfv_nil (da_p0 (d_cons (d_var 1) (d_cons (d_var 2) d_nil)))) (d_cons d_bl d_nil))) (d_cons (d_tup (d_cons (d_call F__law_book (hr.mono (by decide)) (by rfl) bnd__law_book_2 dfv_nil (da_p0 (d_cons (d_ix (d_lst true (d_cons d_str (d_cons d_str d_nil))) (d_callTy or_int vr_int (by rfl) T.no_int (by decide +kernel) (d_cons (d_cmp (op_eqD hr.units) vr_eq (d_var 1) d_str) d_nil))) (d_cons (d_var 2) d_nil)))) (d_cons d_bl d_nil))) d_nil))))
    (ds_cons (d_set (i := 4) sc__law_otherwise.nd rfl (by first | exact .inl rfl | exact .inr rfl) (d_callB (cr_max rfl) vr_maxL (by rfl) T.no_max (by decide +kernel) (d_cons (d_op or_add (vr_add (fz := true)) (d_lc (own := [("_law_row", 11)]) (t := (.nm 11)) true rfl sc__law_otherwise.nd (di_seq (d_var 2)) (blkOk_by (own := [("_law_row", 11)]) (N := N__law_otherwise) (sc := defScope s__law_otherwise) (by decide +kernel)) (by decide) (fun _ _ _ _ _ => (pg_name (i := 11) sc__law_otherwise.nd rfl (by first | exact .inl rfl | exact .inr rfl))) (fun _ _ _ _ _ => dt_nil) (fun _ _ _ _ _ => (d_ix (d_var 11) d_int))) (d_lst true (d_cons d_int d_nil))) d_nil)))
    (ds_cons (d_expr (d_bm (by decide) PySem.F.plainAttrs_list PySem.F.slot_list_append PySem.F.type_list_append mt_append vm_append (d_var 3) (d_cons (d_tup (d_cons (d_call F__law_book (hr.mono (by decide)) (by rfl) bnd__law_book_2 dfv_nil (da_p0 (d_cons (d_var 1) (d_cons (d_op or_add (vr_add (fz := true)) (d_var 2) (d_lst true (d_cons (d_tup (d_cons (d_var 4) (d_cons d_str (d_cons d_str d_nil)))) d_nil))) d_nil)))) (d_cons d_bl d_nil))) d_nil)))
    (ds_cons (d_if (d_tcmp (or_neNil hr) vr_nil (d_var 2) (d_lst true d_nil))
      (ds_cons (d_set (i := 5) sc__law_otherwise.nd rfl (by first | exact .inl rfl | exact .inr rfl) (d_call F__law_draw (hr.mono (by decide)) (by rfl) bnd__law_draw_2 dfv_nil (da_p0 (d_cons (d_var 0) (d_cons (d_callB or_len vr_len (by rfl) T.no_len (by decide +kernel) (d_cons (d_var 2) d_nil)) d_nil)))))
    (ds_cons (d_asg (t := (.tp [(.nm 6), (.nm 7), (.nm 8)])) (d_ix (d_var 2) (d_var 5)) (pg_tup rfl (pgs_cons (pg_name (i := 6) sc__law_otherwise.nd rfl (by first | exact .inl rfl | exact .inr rfl)) (pgs_cons (pg_name (i := 7) sc__law_otherwise.nd rfl (by first | exact .inl rfl | exact .inr rfl)) (pgs_cons (pg_name (i := 8) sc__law_otherwise.nd rfl (by first | exact .inl rfl | exact .inr rfl)) pgs_nil)))))
    (ds_cons (d_expr (d_bm (by decide) PySem.F.plainAttrs_list PySem.F.slot_list_append PySem.F.type_list_append mt_append vm_append (d_var 3) (d_cons (d_tup (d_cons (d_call F__law_book (hr.mono (by decide)) (by rfl) bnd__law_book_2 dfv_nil (da_p0 (d_cons (d_var 1) (d_cons (d_op or_add (vr_add (fz := true)) (d_sl true (d_var 2) do_none (do_some (d_var 5))) (d_sl true (d_var 2) (do_some (d_op or_add (vr_add (fz := true)) (d_var 5) d_int)) do_none)) d_nil)))) (d_cons d_bl d_nil))) d_nil)))
    (ds_cons (d_set (i := 9) sc__law_otherwise.nd rfl (by first | exact .inl rfl | exact .inr rfl) (d_tup (d_cons (d_var 6) (d_cons (d_ix (d_lst true (d_cons d_str (d_cons d_str d_nil))) (d_callTy or_int vr_int (by rfl) T.no_int (by decide +kernel) (d_cons (d_cmp (op_eqD hr.units) vr_eq (d_var 7) d_str) d_nil))) (d_cons (d_var 8) d_nil)))))
    (ds_cons (d_expr (d_bm (by decide) PySem.F.plainAttrs_list PySem.F.slot_list_append PySem.F.type_list_append mt_append vm_append (d_var 3) (d_cons (d_tup (d_cons (d_call F__law_book (hr.mono (by decide)) (by rfl) bnd__law_book_2 dfv_nil (da_p0 (d_cons (d_var 1) (d_cons (d_op or_add (vr_add (fz := true)) (d_op or_add (vr_add (fz := true)) (d_sl true (d_var 2) do_none (do_some (d_var 5))) (d_lst true (d_cons (d_var 9) d_nil))) (d_sl true (d_var 2) (do_some (d_op or_add (vr_add (fz := true)) (d_var 5) d_int)) do_none)) d_nil)))) (d_cons d_bl d_nil))) d_nil)))
    (ds_cons (d_set (i := 10) sc__law_otherwise.nd rfl (by first | exact .inl rfl | exact .inr rfl) (d_tup (d_cons (d_var 6) (d_cons (d_var 7) (d_cons (d_op or_add (vr_add (fz := true)) (d_sl true (d_var 8) do_none (do_some (d_un un_neg vr_neg d_int))) (d_ix d_str (d_callTy or_int vr_int (by rfl) T.no_int (by decide +kernel) (d_cons (d_cmp (op_eqD hr.units) vr_eq (d_sl true (d_var 8) (do_some (d_un un_neg vr_neg d_int)) do_none) d_str) d_nil)))) d_nil)))))
    (ds_cons (d_expr (d_bm (by decide) PySem.F.plainAttrs_list PySem.F.slot_list_append PySem.F.type_list_append mt_append vm_append (d_var 3) (d_cons (d_tup (d_cons (d_call F__law_book (hr.mono (by decide)) (by rfl) bnd__law_book_2 dfv_nil (da_p0 (d_cons (d_var 1) (d_cons (d_op or_add (vr_add (fz := true)) (d_op or_add (vr_add (fz := true)) (d_sl true (d_var 2) do_none (do_some (d_var 5))) (d_lst true (d_cons (d_var 10) d_nil))) (d_sl true (d_var 2) (do_some (d_op or_add (vr_add (fz := true)) (d_var 5) d_int)) do_none)) d_nil)))) (d_cons d_bl d_nil))) d_nil)))
    (ds_one (d_expr (d_bm (by decide) PySem.F.plainAttrs_list PySem.F.slot_list_append PySem.F.type_list_append mt_append vm_append (d_var 3) (d_cons (d_tup (d_cons (d_call F__law_book (hr.mono (by decide)) (by rfl) bnd__law_book_2 dfv_nil (da_p0 (d_cons (d_var 1) (d_cons (d_op or_add (vr_add (fz := true)) (d_sl true (d_var 2) do_none (do_some (d_un un_neg vr_neg d_int))) (d_lst true (d_cons (d_tup (d_cons (d_op or_add (vr_add (fz := true)) (d_var 4) d_int) (d_cons (d_ix (d_ix (d_var 2) (d_un un_neg vr_neg d_int)) d_int) (d_cons (d_ix (d_ix (d_var 2) (d_un un_neg vr_neg d_int)) d_int) d_nil)))) d_nil))) d_nil)))) (d_cons d_bl d_nil))) d_nil)))))))))))
      ds_nil)
    (ds_cons (d_for (t := (.nm 5)) PassesOwn.never rfl (di_rng1 (by rfl) T.no_range (d_cons (d_op op_sub vr_sub (d_callB or_len vr_len (by rfl) T.no_len (by decide +kernel) (d_cons (d_var 2) d_nil)) d_int) d_nil)) (pg_name (i := 5) sc__law_otherwise.nd rfl (by first | exact .inl rfl | exact .inr rfl))
      (ds_one (d_if (PW.pt (d_and (d_tcmp (op_eqD hr.units) vr_eq (d_ix (d_ix (d_var 2) (d_var 5)) d_int) (d_ix (d_ix (d_var 2) (d_op or_add (vr_add (fz := true)) (d_var 5) d_int)) d_int)) (d_and1 (d_tcmp (op_neD hr.units) vr_ne (d_ix (d_var 2) (d_var 5)) (d_ix (d_var 2) (d_op or_add (vr_add (fz := true)) (d_var 5) d_int))))))
      (ds_one (d_expr (d_bm (by decide) PySem.F.plainAttrs_list PySem.F.slot_list_append PySem.F.type_list_append mt_append vm_append (d_var 3) (d_cons (d_tup (d_cons (d_call F__law_book (hr.mono (by decide)) (by rfl) bnd__law_book_2 dfv_nil (da_p0 (d_cons (d_var 1) (d_cons (d_op or_add (vr_add (fz := true)) (d_op or_add (vr_add (fz := true)) (d_sl true (d_var 2) do_none (do_some (d_var 5))) (d_revL true (d_sl true (d_var 2) (do_some (d_var 5)) (do_some (d_op or_add (vr_add (fz := true)) (d_var 5) d_int))))) (d_sl true (d_var 2) (do_some (d_op or_add (vr_add (fz := true)) (d_var 5) d_int)) do_none)) d_nil)))) (d_cons d_bl d_nil))) d_nil))))
      ds_nil)))
    (ds_one (d_ret (d_var 3))))))))
def g_law_c148 (K : PySem.W.Frag) (a : Ad) : GS :=
  (gSeq (gSet 16 (gB2 (aAdd true) (gLc true (gIt (gVar 13)) (.tp [(.nm 14), (.nm 15)]) (gNotB (gTest (gVar 15))) (gVar 14) [14, 15]) (Dl.gLst true (Dl.gCons (gC .non) (Dl.gCons (gCB (a1 (aStA [⟨a.C_Book, 3, (sp_Book_str a)⟩] 3)) (Dl.gCons (gVar 6) Dl.gNil)) (Dl.gCons (gVar 5) (Dl.gCons (gVar 3) (Dl.gCons (gCB (a1 aLen) (Dl.gCons (gVar 5) Dl.gNil)) Dl.gNil)))))))) (gIfS (gOrB (gTest (gB2 (aInA K [⟨a.C_Book, 1, (sp_Book_eq a)⟩] 3 false) (gVar 6) (gVar 16))) (gOrB (gTest (gB2 (aEqA K [⟨a.C_Book, 1, (sp_Book_eq a)⟩] 3) (gVar 6) (gVar 5))) (gOrB (gNotB (gTest (gB2 (aInA K [⟨a.C_Book, 1, (sp_Book_eq a)⟩] 3 false) (gVar 6) (gB2 (aAdd true) (gVar 16) (Dl.gLst true (Dl.gCons (gVar 6) Dl.gNil)))))) (gTest (gB2 (aInA K [⟨a.C_Book, 1, (sp_Book_eq a)⟩] 3 true) (gIx (gIx (gVar 13) (gC (.int 0))) (gC (.int 0))) (Dl.gLst true (Dl.gCons (gVar 6) Dl.gNil))))))) (gRet (gC (.bl false))) gNext))
def g_law_c144 (K : PySem.W.Frag) (a : Ad) : GS :=
  (gSeq (gSet 13 (gCall 3 0 [.p 0, .p 1, .p 2] [] (sp__law_otherwise a) (gArgs (Dl.gCons (gVar 1) (Dl.gCons (gVar 3) (Dl.gCons (gVar 5) Dl.gNil))) Dl.gNil))) (gSeq (gFzD 6 (gFor (gIt (gVar 13)) (.tp [(.nm 14), (.nm 15)]) (gIfS (gOrB (gTest (gB2 aNe (gB2 (aEqA K [⟨a.C_Book, 1, (sp_Book_eq a)⟩] 3) (gVar 6) (gVar 14)) (gVar 15))) (gOrB (gTest (gB2 aNe (gB2 (aEqA K [⟨a.C_Book, 1, (sp_Book_eq a)⟩] 3) (gVar 14) (gVar 6)) (gVar 15))) (gTest (gB2 aEq (gB2 (aNeA K [⟨a.C_Book, 1, (sp_Book_eq a)⟩] 3) (gVar 6) (gVar 14)) (gVar 15))))) (gRet (gC (.bl false))) gNext))) (g_law_c148 K a)))
def g_law (K : PySem.W.Frag) (a : Ad) : GS :=
  (gSeq (gSet 1 (gCall 1 0 [.p 0] [] (sp__law_feed a) (gArgs (Dl.gCons (gVar 0) Dl.gNil) Dl.gNil))) (gSeq (gFor (gRng1 (Dl.gCons (gC (.int 2)) Dl.gNil)) (.nm 2) (gSeq (gPar 3 4 (Dl.gCons (gIx (Dl.gLst true (Dl.gCons (gC (.str "near")) (Dl.gCons (gC (.str "far")) Dl.gNil))) (gCall 2 0 [.p 0, .p 1] [] (sp__law_draw a) (gArgs (Dl.gCons (gVar 1) (Dl.gCons (gC (.int 2)) Dl.gNil)) Dl.gNil))) (Dl.gCons (gCall 2 0 [.p 0, .p 1] [] (sp__law_names a) (gArgs (Dl.gCons (gVar 1) (Dl.gCons (gC (.int 4)) Dl.gNil)) Dl.gNil)) Dl.gNil))) (gSeq (gSet 5 (gCall 3 0 [.p 0, .p 1, .p 2] [] (sp__law_rows a) (gArgs (Dl.gCons (gVar 1) (Dl.gCons (gVar 4) (Dl.gCons (gCall 2 0 [.p 0, .p 1] [] (sp__law_draw a) (gArgs (Dl.gCons (gVar 1) (Dl.gCons (gC (.int 21)) Dl.gNil)) Dl.gNil)) Dl.gNil))) Dl.gNil))) (gSeq (gPar 6 7 (Dl.gCons (gMake a.C_Book 0 1 [.p 0, .k 0] [] (sp_Book_init a) (gArgs Dl.gNil (Dl.gCons (gVar 3) Dl.gNil))) (Dl.gCons (Dl.gLst false Dl.gNil) Dl.gNil))) (gSeq (gFor (gRng1 (Dl.gCons (gCB (a1 aLen) (Dl.gCons (gVar 5) Dl.gNil)) Dl.gNil)) (.nm 8) (gSeq (gAsg (.tp [(.nm 9), (.nm 10), (.nm 11)]) (gIx (gVar 5) (gVar 8))) (gSeq (gDrop (gMt "list" aAppend (gVar 7) (Dl.gCons (Dl.gTup (Dl.gCons (gMeth a.C_Book "rows" 0 0 [.p 0] [] (sp_Book_rows a) (gVar 6) (gArgs Dl.gNil Dl.gNil)) (Dl.gCons (gCB (a1 aRepr) (Dl.gCons (gSl true (gVar 5) gNoP (gPart (gVar 8))) Dl.gNil)) Dl.gNil))) Dl.gNil))) (gSeq (gIfS (gOrB (gNotB (gTest (gCall 3 0 [.p 0, .p 1, .p 2] [] (sp__law_looks a) (gArgs (Dl.gCons (gVar 6) (Dl.gCons (gVar 3) (Dl.gCons (gSl true (gVar 5) gNoP (gPart (gVar 8))) Dl.gNil))) Dl.gNil)))) (gTest (gNotN (gMethX U0.D a.C_Book "write" 0 3 [.p 0, .k 0, .k 1, .k 2] [] (sp_Book_write a) (gVar 6) (gArgs Dl.gNil (Dl.gCons (gVar 9) (Dl.gCons (gVar 10) (Dl.gCons (gVar 11) Dl.gNil)))))))) (gRet (gC (.bl false))) gNext) (gIfS (gTest (gB2 aGt (gVar 9) (gC (.int 0)))) (gSeq (gSet 12 (gCall 2 0 [.p 0, .p 1] [] (sp__law_backward a) (gArgs (Dl.gCons (gVar 6) (Dl.gCons (gB2 aSub (gB2 aSub (gVar 9) (gC (.int 1))) (gCall 2 0 [.p 0, .p 1] [] (sp__law_draw a) (gArgs (Dl.gCons (gVar 1) (Dl.gCons (gVar 9) Dl.gNil)) Dl.gNil))) Dl.gNil)) Dl.gNil))) (gIfS (gTest (gB2 aNe (gVar 12) (Dl.gTup (Dl.gCons (gVar 9) (Dl.gCons (gC (.bl true)) (Dl.gCons (gC (.bl false)) Dl.gNil)))))) (gRet (gC (.bl false))) gNext)) gNext))))) (gSeq (gIfS (gOrB (gNotB (gTest (gCall 3 0 [.p 0, .p 1, .p 2] [] (sp__law_looks a) (gArgs (Dl.gCons (gVar 6) (Dl.gCons (gVar 3) (Dl.gCons (gVar 5) Dl.gNil))) Dl.gNil)))) (gTest (gB2 aNe (gLc true (gIt (gVar 7)) (.tp [(.nm 12), (.nm 17)]) (gTest (gB2 aNeS (gCB (a1 aRepr) (Dl.gCons (gVar 12) Dl.gNil)) (gVar 17))) (gVar 17) [12, 17]) (Dl.gLst true Dl.gNil)))) (gRet (gC (.bl false))) gNext) (g_law_c144 K a))))))) (gRet (gC (.bl true)))))
theorem t_law (T : Txt K mg a) (F_Book_eq : MFn P w K mg base a.C_Book "__eq__" "Book.__eq__" s_Book_eq dv_Book_eq 1 ps_Book_eq (sp_Book_eq a)) (F_Book_init : CFn P w K mg base "Book" a.C_Book "Book.__init__" s_Book_init dv_Book_init 1 ps_Book_init (sp_Book_init a)) (F_Book_str : MFn P w K mg base a.C_Book "__str__" "Book.__str__" s_Book_str dv_Book_str 3 ps_Book_str (sp_Book_str a)) (F_Book_rows : MFn P w K mg base a.C_Book "rows" "Book.rows" s_Book_rows dv_Book_rows 1 ps_Book_rows (sp_Book_rows a)) (F_Book_write : MFnX P w K mg base a.C_Book "write" "Book.write" s_Book_write dv_Book_write 3 ps_Book_write (sp_Book_write a)) (F__law_backward : Fnc P w K mg base "_law_backward" s__law_backward dv__law_backward 4 ps__law_backward (sp__law_backward a)) (F__law_draw : Fnc P w K mg base "_law_draw" s__law_draw dv__law_draw 1 ps__law_draw (sp__law_draw a)) (F__law_feed : Fnc P w K mg base "_law_feed" s__law_feed dv__law_feed 1 ps__law_feed (sp__law_feed a)) (F__law_looks : Fnc P w K mg base "_law_looks" s__law_looks dv__law_looks 6 ps__law_looks (sp__law_looks a)) (F__law_names : Fnc P w K mg base "_law_names" s__law_names dv__law_names 2 ps__law_names (sp__law_names a)) (F__law_otherwise : Fnc P w K mg base "_law_otherwise" s__law_otherwise dv__law_otherwise 5 ps__law_otherwise (sp__law_otherwise a)) (F__law_rows : Fnc P w K mg base "_law_rows" s__law_rows dv__law_rows 3 ps__law_rows (sp__law_rows a)) {f : Addr} {cdv : Value} {A : Around} {outer : List Env} {s : Shared} {H : Hp} {E : XK} (hr : RoomG 6 (A.deeper (PyProof.Rows.envOfC "law" (defScope s_law) s.heap.objs.size f cdv))) :
    PSs (cxOf CX0 P w K mg base N_law "law" (defScope s_law) f cdv A outer s H E).nox (defBody s_law) (tofS K U0 (g_law K a)) :=
  (ds_cons (d_set (i := 1) sc_law.nd rfl (by first | exact .inl rfl | exact .inr rfl) (d_call F__law_feed (hr.mono (by decide)) (by rfl) bnd__law_feed_1 dfv_nil (da_p0 (d_cons (d_var 0) d_nil))))
    (ds_cons (d_for (t := (.nm 2)) PassesOwn.never rfl (di_rng1 (by rfl) T.no_range (d_cons d_int d_nil)) (pg_name (i := 2) sc_law.nd rfl (by first | exact .inl rfl | exact .inr rfl))
      (ds_cons (d_par sc_law.nd (d_cons (d_ix (d_lst true (d_cons d_str (d_cons d_str d_nil))) (d_call F__law_draw (hr.mono (by decide)) (by rfl) bnd__law_draw_2 dfv_nil (da_p0 (d_cons (d_var 1) (d_cons d_int d_nil))))) (d_cons (d_call F__law_names (hr.mono (by decide)) (by rfl) bnd__law_names_2 dfv_nil (da_p0 (d_cons (d_var 1) (d_cons d_int d_nil)))) d_nil)))
    (ds_cons (d_set (i := 5) sc_law.nd rfl (by first | exact .inl rfl | exact .inr rfl) (d_call F__law_rows (hr.mono (by decide)) (by rfl) bnd__law_rows_3 dfv_nil (da_p0 (d_cons (d_var 1) (d_cons (d_var 4) (d_cons (d_call F__law_draw (hr.mono (by decide)) (by rfl) bnd__law_draw_2 dfv_nil (da_p0 (d_cons (d_var 1) (d_cons d_int d_nil)))) d_nil))))))
    (ds_cons (d_par sc_law.nd (d_cons (d_make F_Book_init (hr.mono (by decide)) (by rfl) bnd_Book_init_1_bank dfv_nil (da_0k (dk_cons (d_var 3) dk_nil))) (d_cons (d_lst false d_nil) d_nil)))
    (ds_cons (d_for (t := (.nm 8)) PassesOwn.never rfl (di_rng1 (by rfl) T.no_range (d_cons (d_callB or_len vr_len (by rfl) T.no_len (by decide +kernel) (d_cons (d_var 5) d_nil)) d_nil)) (pg_name (i := 8) sc_law.nd rfl (by first | exact .inl rfl | exact .inr rfl))
      (ds_cons (d_asg (t := (.tp [(.nm 9), (.nm 10), (.nm 11)])) (d_ix (d_var 5) (d_var 8)) (pg_tup rfl (pgs_cons (pg_name (i := 9) sc_law.nd rfl (by first | exact .inl rfl | exact .inr rfl)) (pgs_cons (pg_name (i := 10) sc_law.nd rfl (by first | exact .inl rfl | exact .inr rfl)) (pgs_cons (pg_name (i := 11) sc_law.nd rfl (by first | exact .inl rfl | exact .inr rfl)) pgs_nil)))))
    (ds_cons (d_expr (d_bm (by decide) PySem.F.plainAttrs_list PySem.F.slot_list_append PySem.F.type_list_append mt_append vm_append (d_var 7) (d_cons (d_tup (d_cons (d_meth F_Book_rows (hr.mono (by decide)) bnd_Book_rows_1 dfv_nil (d_var 6) da_00) (d_cons (d_callB (cr_repr hr) vr_repr (by rfl) T.no_repr (by decide +kernel) (d_cons (d_sl true (d_var 5) do_none (do_some (d_var 8))) d_nil)) d_nil))) d_nil)))
    (ds_cons (d_if (PW.pt (d_or (d_not (d_val (d_call F__law_looks (hr.mono (by decide)) (by rfl) bnd__law_looks_3 dfv_nil (da_p0 (d_cons (d_var 6) (d_cons (d_var 3) (d_cons (d_sl true (d_var 5) do_none (do_some (d_var 8))) d_nil))))))) (d_or1 (d_tnotN (d_methX tk0 F_Book_write (hr.mono (by decide)) bnd_Book_write_1_minute_word_name dfv_nil (d_var 6) (da_0k (dk_cons (d_var 9) (dk_cons (d_var 10) (dk_cons (d_var 11) dk_nil)))) (by rfl))))))
      (ds_one (d_ret d_bl))
      ds_nil)
    (ds_one (d_if (d_tcmp op_gt vr_gt (d_var 9) d_int)
      (ds_cons (d_set (i := 12) sc_law.nd rfl (by first | exact .inl rfl | exact .inr rfl) (d_call F__law_backward (hr.mono (by decide)) (by rfl) bnd__law_backward_2 dfv_nil (da_p0 (d_cons (d_var 6) (d_cons (d_op op_sub vr_sub (d_op op_sub vr_sub (d_var 9) d_int) (d_call F__law_draw (hr.mono (by decide)) (by rfl) bnd__law_draw_2 dfv_nil (da_p0 (d_cons (d_var 1) (d_cons (d_var 9) d_nil))))) d_nil)))))
    (ds_one (d_if (d_tcmp (op_neD hr.units) vr_ne (d_var 12) (d_tup (d_cons (d_var 9) (d_cons d_bl (d_cons d_bl d_nil)))))
      (ds_one (d_ret d_bl))
      ds_nil)))
      ds_nil))))))
    (ds_cons (d_if (PW.pt (d_or (d_not (d_val (d_call F__law_looks (hr.mono (by decide)) (by rfl) bnd__law_looks_3 dfv_nil (da_p0 (d_cons (d_var 6) (d_cons (d_var 3) (d_cons (d_var 5) d_nil))))))) (d_or1 (d_tcmp (op_neD hr.units) vr_ne (d_lc (own := [("_law_told", 12), ("_law_kept", 17)]) (t := (.tp [(.nm 12), (.nm 17)])) true rfl sc_law.nd (di_seq (d_var 7)) (blkOk_by (own := [("_law_told", 12), ("_law_kept", 17)]) (N := N_law) (sc := defScope s_law) (by decide +kernel)) (by decide) (fun _ _ _ _ _ => (pg_tup rfl (pgs_cons (pg_name (i := 12) sc_law.nd rfl (by first | exact .inl rfl | exact .inr rfl)) (pgs_cons (pg_name (i := 17) sc_law.nd rfl (by first | exact .inl rfl | exact .inr rfl)) pgs_nil)))) (fun _ _ _ _ _ => (dt_one (d_tcmp op_ne vr_neSS (d_callB (cr_repr hr) vr_repr (by rfl) T.no_repr (by decide +kernel) (d_cons (d_var 12) d_nil)) (d_var 17)))) (fun _ _ _ _ _ => (d_var 17))) (d_lst true d_nil)))))
      (ds_one (d_ret d_bl))
      ds_nil)
    (ds_cons (d_set (i := 13) sc_law.nd rfl (by first | exact .inl rfl | exact .inr rfl) (d_call F__law_otherwise (hr.mono (by decide)) (by rfl) bnd__law_otherwise_3 dfv_nil (da_p0 (d_cons (d_var 1) (d_cons (d_var 3) (d_cons (d_var 5) d_nil))))))
    (ds_cons (d_fzD (i := 6) (d_for (t := (.tp [(.nm 14), (.nm 15)])) PassesOwn.never rfl (di_seq (d_var 13)) (pg_tup rfl (pgs_cons (pg_name (i := 14) sc_law.nd rfl (by first | exact .inl rfl | exact .inr rfl)) (pgs_cons (pg_name (i := 15) sc_law.nd rfl (by first | exact .inl rfl | exact .inr rfl)) pgs_nil)))
      (ds_one (d_if (PW.pt (d_or (d_tcmp (op_neD hr.units) vr_ne (d_cmp (or_eqA (eqs_cons (c := ⟨a.C_Book, 1, (sp_Book_eq a)⟩) ⟨T.ez_Book, T.nn_Book, _, _, _, _, F_Book_eq , bnd_Book_eq_2⟩ eqs_nil) (hr.mono (by decide))) vr_eqA (d_var 6) (d_var 14)) (d_var 15)) (d_or (d_tcmp (op_neD hr.units) vr_ne (d_cmp (or_eqA (eqs_cons (c := ⟨a.C_Book, 1, (sp_Book_eq a)⟩) ⟨T.ez_Book, T.nn_Book, _, _, _, _, F_Book_eq , bnd_Book_eq_2⟩ eqs_nil) (hr.mono (by decide))) vr_eqA (d_var 14) (d_var 6)) (d_var 15)) (d_or1 (d_tcmp (op_eqD hr.units) vr_eq (d_cmp (or_neA (eqs_cons (c := ⟨a.C_Book, 1, (sp_Book_eq a)⟩) ⟨T.ez_Book, T.nn_Book, _, _, _, _, F_Book_eq , bnd_Book_eq_2⟩ eqs_nil) (hr.mono (by decide))) vr_neA (d_var 6) (d_var 14)) (d_var 15))))))
      (ds_one (d_ret d_bl))
      ds_nil))))
    (ds_cons (d_set (i := 16) sc_law.nd rfl (by first | exact .inl rfl | exact .inr rfl) (d_op or_add (vr_add (fz := true)) (d_lc (own := [("_law_other", 14), ("_law_same", 15)]) (t := (.tp [(.nm 14), (.nm 15)])) true rfl sc_law.nd (di_seq (d_var 13)) (blkOk_by (own := [("_law_other", 14), ("_law_same", 15)]) (N := N_law) (sc := defScope s_law) (by decide +kernel)) (by decide) (fun _ _ _ _ _ => (pg_tup rfl (pgs_cons (pg_name (i := 14) sc_law.nd rfl (by first | exact .inl rfl | exact .inr rfl)) (pgs_cons (pg_name (i := 15) sc_law.nd rfl (by first | exact .inl rfl | exact .inr rfl)) pgs_nil)))) (fun _ _ _ _ _ => (dt_one (d_not (d_val (d_var 15))))) (fun _ _ _ _ _ => (d_var 14))) (d_lst true (d_cons d_non (d_cons (d_callTy (cr_strA (sts_cons (c := ⟨a.C_Book, 3, (sp_Book_str a)⟩) ⟨_, _, _, _, F_Book_str , bnd_Book_str_1⟩ sts_nil) (hr.mono (by decide))) vr_stA (by rfl) T.no_str (by decide +kernel) (d_cons (d_var 6) d_nil)) (d_cons (d_var 5) (d_cons (d_var 3) (d_cons (d_callB or_len vr_len (by rfl) T.no_len (by decide +kernel) (d_cons (d_var 5) d_nil)) d_nil))))))))
    (ds_one (d_if (PW.pt (d_or (d_tcmp (or_inA (eqs_cons (c := ⟨a.C_Book, 1, (sp_Book_eq a)⟩) ⟨T.ez_Book, T.nn_Book, _, _, _, _, F_Book_eq , bnd_Book_eq_2⟩ eqs_nil) (hr.mono (by decide))) vr_inA (d_var 6) (d_var 16)) (d_or (d_tcmp (or_eqA (eqs_cons (c := ⟨a.C_Book, 1, (sp_Book_eq a)⟩) ⟨T.ez_Book, T.nn_Book, _, _, _, _, F_Book_eq , bnd_Book_eq_2⟩ eqs_nil) (hr.mono (by decide))) vr_eqA (d_var 6) (d_var 5)) (d_or (d_not (d_tcmp (or_inA (eqs_cons (c := ⟨a.C_Book, 1, (sp_Book_eq a)⟩) ⟨T.ez_Book, T.nn_Book, _, _, _, _, F_Book_eq , bnd_Book_eq_2⟩ eqs_nil) (hr.mono (by decide))) vr_inA (d_var 6) (d_op or_add (vr_add (fz := true)) (d_var 16) (d_lst true (d_cons (d_var 6) d_nil))))) (d_or1 (d_tcmp (or_notInA (eqs_cons (c := ⟨a.C_Book, 1, (sp_Book_eq a)⟩) ⟨T.ez_Book, T.nn_Book, _, _, _, _, F_Book_eq , bnd_Book_eq_2⟩ eqs_nil) (hr.mono (by decide))) vr_inA (d_ix (d_ix (d_var 13) d_int) d_int) (d_lst true (d_cons (d_var 6) d_nil))))))))
      (ds_one (d_ret d_bl))
      ds_nil)))))))))))
    (ds_one (d_ret d_bl))))
end
end Lw
namespace Lw
open PySem L2 Dl
section
variable {P : Program} {w : World} {K : PySem.W.Frag} {mg : Str → Option Value} {base : Heap} {a : Ad}
theorem r__law_feed : ∀ ds S q, sp__law_feed a ds S q → g__law_feed K a { nx := fun _ S' => q .non S', rt := q } (startD N__law_feed ds) S := by
  rintro ds S q ⟨ns, rfl, rfl, h⟩
  rw [st__law_feed]
  simp only [g__law_feed, ↓gRet, ↓gCB, ↓gC, ↓Dl.gCons, ↓Dl.gNil, ↓Dl.gLst, ↓gSl, ↓gPart, ↓gNoP, ↓x_slL_k, ↓x_newT, ↓x_newF, ↓x_a1, ↓x_var0, Option.some.injEq, D.bl.injEq, D.int.injEq, D.str.injEq, D.tup.injEq, D.lst.injEq, List.cons.injEq, List.length_cons, List.length_nil, exists_eq_left']
  refine ⟨_, rfl, ?_⟩
  rw [x_newT]
  refine ⟨by decide, ?_⟩
  rw [show cutD (ns.map D.int) none (some 63) = (ns.take 63).map D.int from ?_]
  · exact h
  · simp [cutD, HT.sIx, List.map_take]
theorem r__law_draw : ∀ ds S q, sp__law_draw a ds S q → g__law_draw K a { nx := fun _ S' => q .non S', rt := q } (startD N__law_draw ds) S := by
  rintro ds S q ⟨many, h1, h2, o, R0, B, rfl, rfl, ⟨ns, t, r, rfl, h3, h4, h5⟩, hb, h⟩
  rw [st__law_draw]
  simp only [g__law_draw, ↓x_neNil, ↓x_gset, ↓x_ixS0, ↓x_ixL, x_at0, x_at1, x_at2, ↓x_set01, ↓x_set02, Int.reduceToNat, Int.reducePow, ↓gSeq, ↓gIfS, ↓gSet, ↓gRet, ↓gNext, ↓gCB, ↓gB2, ↓gC, ↓Dl.gCons, ↓Dl.gNil, ↓Dl.gLst, ↓gTest, ↓gAndB, ↓gIf, ↓gIx, ↓x_i2, ↓aFdiv, ↓aMod, ↓aPow, ↓aLt, ↓aGt, ↓aGe, ↓x_addI, ↓x_mulI, ↓x_lenL_l, ↓x_newT, ↓x_a1, ↓x_var0, ↓x_varS, Option.some.injEq, D.bl.injEq, D.int.injEq, D.str.injEq, D.tup.injEq, D.lst.injEq, List.cons.injEq, true_and, List.set_cons_zero, List.set_cons_succ, List.length_nil, ↓reduceIte, Bool.false_eq_true, decide_eq_true_eq, exists_eq_left']
  have hT : ∀ x r', 0 ≤ x → x < many → 0 ≤ r' → q (.int x) (some (.lst [.lst (ns.map .int), .int (t + 1), .int r']) :: R0) := fun x r' a1 a2 a3 => h _ _ ⟨x, rfl, a1, a2⟩ ⟨ns, t + 1, r', rfl, by omega, by omega, a3⟩
  have m1 : ∀ x, 0 ≤ x % many ∧ x % many < many := fun x => ⟨Int.emod_nonneg _ (by omega), Int.emod_lt_of_pos _ h1⟩
  have hb' : B + 1 ≤ 1000000000000 := hb
  have u1 : ∀ x : Int, 0 ≤ x % 2147483629 ∧ x % 2147483629 < 2147483629 := fun x => ⟨Int.emod_nonneg _ (by decide), Int.emod_lt_of_pos _ (by decide)⟩
  split
  · exact ⟨h1, .inl ⟨h1, h2⟩, h _ _ ⟨_, rfl, (m1 _).1, (m1 _).2⟩ ⟨ns, t, r / many, rfl, h3, by omega, Int.ediv_nonneg h5 (by omega)⟩⟩
  · refine ⟨by decide, ?_⟩
    by_cases hn : ns = []
    · rw [if_neg (by simpa using hn)]
      subst hn
      refine ⟨mulOk_l (by decide) (by decide), ?_⟩
      rw [if_neg (by simp; omega)]
      have := u1 (7919 * t + 11)
      refine ⟨by decide, mulOk_l (by decide) (by decide), ⟨by decide, by decide, by omega⟩, by decide, .inl ⟨by decide, by decide⟩, mulOk_l (by decide) (by decide), by decide, ?_⟩
      generalize hy : (_ : Int) % 2147483647 = y
      have hy0 : 0 ≤ y ∧ y < 2147483647 := by rw [← hy]; exact ⟨Int.emod_nonneg _ (by decide), Int.emod_lt_of_pos _ (by decide)⟩
      refine ⟨mulOk_l (by omega) (by omega), by decide, .inl ⟨by decide, by decide⟩, h1, ?_⟩
      exact hT _ _ (m1 _).1 (m1 _).2 h5
    · rw [if_pos hn]
      have hl : 0 < ns.length := List.length_pos_iff.mpr hn
      have hlm : (ns.map D.int).length = ns.length := List.length_map ..
      have hk0 : 0 ≤ t % ((ns.map D.int).length : Int) := Int.emod_nonneg _ (by omega)
      have hk1 : t % ((ns.map D.int).length : Int) < ((ns.map D.int).length : Int) := Int.emod_lt_of_pos _ (by omega)
      obtain ⟨c, hc⟩ : ∃ c, ns[(t % ((ns.map D.int).length : Int)).toNat]? = some c := ⟨ns[(t % ((ns.map D.int).length : Int)).toNat]'(by omega), by simp⟩
      refine ⟨by omega, .int c, ?_, ?_⟩
      · have e := atI_lit (xs := ns.map D.int) (k := (t % ((ns.map D.int).length : Int)).toNat) (v := .int c) (by rw [List.getElem?_map, hc]; rfl)
        rwa [show (((t % ((ns.map D.int).length : Int)).toNat : Nat) : Int) = t % ((ns.map D.int).length : Int) by omega] at e
      · simp only [↓x_set02, Int.reduceToNat, ↓gRet, ↓gB2, ↓x_i2, ↓x_addI, ↓x_mulI, ↓x_var0, ↓x_varS, Option.some.injEq, D.bl.injEq, D.int.injEq, D.str.injEq, D.tup.injEq, D.lst.injEq, List.cons.injEq, true_and, decide_eq_true_eq, exists_eq_left']
        have := u1 c
        split
        · refine ⟨⟨by decide, by decide, by decide⟩, ?_⟩
          split
          · rename_i hc1
            exact ⟨.inl ⟨h1, h2⟩, h1, hT _ _ (m1 _).1 (m1 _).2 (Int.ediv_nonneg (by omega) (by omega))⟩
          · refine ⟨by decide, mulOk_l (by decide) (by decide), ⟨by decide, by decide, by omega⟩, by decide, .inl ⟨by decide, by decide⟩, mulOk_l (by decide) (by decide), by decide, ?_⟩
            generalize hy : (_ : Int) % 2147483647 = y
            have hy0 : 0 ≤ y ∧ y < 2147483647 := by rw [← hy]; exact ⟨Int.emod_nonneg _ (by decide), Int.emod_lt_of_pos _ (by decide)⟩
            refine ⟨mulOk_l (by omega) (by omega), by decide, .inl ⟨by decide, by decide⟩, h1, ?_⟩
            exact hT _ _ (m1 _).1 (m1 _).2 h5
        · refine ⟨by decide, mulOk_l (by decide) (by decide), ⟨by decide, by decide, by omega⟩, by decide, .inl ⟨by decide, by decide⟩, mulOk_l (by decide) (by decide), by decide, ?_⟩
          generalize hy : (_ : Int) % 2147483647 = y
          have hy0 : 0 ≤ y ∧ y < 2147483647 := by rw [← hy]; exact ⟨Int.emod_nonneg _ (by decide), Int.emod_lt_of_pos _ (by decide)⟩
          refine ⟨mulOk_l (by omega) (by omega), by decide, .inl ⟨by decide, by decide⟩, h1, ?_⟩
          exact hT _ _ (m1 _).1 (m1 _).2 h5
theorem r__law_of : ∀ ds S q, sp__law_of a ds S q → g__law_of K a { nx := fun _ S' => q .non S', rt := q } (startD N__law_of ds) S := by
  rintro ds S q ⟨d, es, h1, h2, o, R0, B, rfl, rfl, ht, hb, hd, h⟩
  rw [st__law_of]
  simp only [g__law_of, ↓gRet, ↓gCB, ↓gB2, ↓Dl.gCons, ↓Dl.gNil, ↓gIx, ↓gCall, ↓gArgs, ↓x_a1, ↓x_var0, ↓x_varS, gat, pick, true_and, List.length_cons, List.length_nil, List.filterMap_cons, List.filterMap_nil, List.getElem?_cons_zero, List.getElem?_cons_succ]
  rw [x_lenL (hd o)]
  refine Mt.draw_in (by omega) h2 ht hb fun x o' h3 h4 h5 => ?_
  obtain ⟨e, he⟩ : ∃ e, es[x.toNat]? = some e := ⟨es[x.toNat]'(by omega), by simp⟩
  have hat := atI_lit he
  rw [show ((x.toNat : Nat) : Int) = x by omega] at hat
  rw [x_ix (hd o') hat]
  exact h e o' (List.mem_of_getElem? he) h5
def ofL (l : List Nat) : Str := ⟨l.toArray⟩
theorem ofL_len (l : List Nat) : (ofL l).length = l.length := by unfold ofL Str.length; rw [List.size_toArray]
theorem ofL_cps (l : List Nat) : (ofL l).cps.toList = l := by unfold ofL; rw [List.toList_toArray]
theorem str_ext {x y : Str} (h : x.cps.toList = y.cps.toList) : x = y := congrArg Str.mk (Array.toList_inj.mp h)
theorem join_ones (l : List Nat) : Txt.join (Str.ofString "") (l.map fun c => (⟨#[c]⟩ : Str)) = ofL l := by
  have e0 : (Str.ofString "") = Str.empty := by decide +kernel
  show Builtin.Str.glued _ _ = _
  rw [StrLaws.glued_eq_join, e0]
  apply str_ext
  rw [ofL_cps]
  have app : ∀ x y : Str, (x ++ y).cps.toList = x.cps.toList ++ y.cps.toList := fun x y => by
    show (x.cps ++ y.cps).toList = _
    rw [Array.toList_append]
  induction l with
  | nil => rfl
  | cons c l ih =>
    cases l with
    | nil => rfl
    | cons d l =>
      show ((⟨#[c]⟩ : Str) ++ Str.empty ++ Str.join Str.empty (((d :: l).map fun c => (⟨#[c]⟩ : Str)))).cps.toList = _
      rw [app, app, ih]
      rfl
def lets : PySem.Str := Str.ofString "abcdefghijklmnopqrstuvwxyz"
theorem let_at : ∀ k, k < 26 → atI lets.cps.toList ((k : Nat) : Int) = some (97 + k) := by decide +kernel
def oneL (x : Int) : PySem.Str := ⟨#[97 + x.toNat]⟩
theorem x_finG {S0 G : Sto} {ds : List D} {q : D → Sto → Prop} (hS : Sto.under S0.length S0 = true) : fin S0.length q (.loc S0.length) (S0 ++ (some (.lst ds) :: G)) ↔ D.unders S0.length ds = true ∧ q (.lst ds) S0 := by
  unfold fin
  rw [List.take_left]
  simp [hS]
theorem und_strs {n : Nat} : ∀ {xs : List PySem.Str}, D.unders n (xs.map D.str) = true
  | [] => by simp [D.unders]
  | x :: xs => by simp [D.unders, D.under, und_strs (xs := xs)]
theorem under_cons {n : Nat} {o : Option MO} {S : Sto} : Sto.under n (o :: S) = ((match o with | none => true | some x => x.under n) && Sto.under n S) := by
  unfold Sto.under
  rw [List.all_cons]
  all_goals (cases o <;> rfl)
theorem und_int {n : Nat} : ∀ {P : List Int}, D.unders n (P.map D.int) = true
  | [] => rfl
  | p :: P => by
    rw [List.map_cons, D.unders, und_int (P := P)]
    rfl
theorem tape_under {o o' : Option MO} {R0 : Sto} {B : Int} (h : Mt.Tp B o') (hs : Sto.under (R0.length + 1) (o :: R0) = true) : Sto.under (o' :: R0).length (o' :: R0) = true := by
  obtain ⟨ns, t, r, rfl, _⟩ := h
  rw [under_cons, Bool.and_eq_true] at hs
  rw [under_cons, Bool.and_eq_true]
  refine ⟨?_, hs.2⟩
  show D.unders _ [.lst (ns.map D.int), .int t, .int r] = true
  simp [D.unders, D.under, und_int]
theorem nm_of {l : List Nat} (h1 : 1 ≤ l.length) (h2 : l.length ≤ 8) (h3 : ∀ c ∈ l, 97 ≤ c ∧ c ≤ 122) : NmOk (ofL l) := ⟨by rw [ofL_len]; exact h1, by rw [ofL_len]; exact h2, by rw [ofL_cps]; exact h3⟩
/-- names told apart by the sign at one place -/
def NmAt (pn : Nat) (mv : Int) (xs : List Str) : Prop := ∀ (j : Nat) (x : Str), xs[j]? = some x → NmOk x ∧ x.cps.toList[pn]? = some (97 + ((mv + 7 * (j : Nat)) % 26).toNat)
theorem NmAt.nodup {pn : Nat} {mv : Int} {xs : List Str} (h : NmAt pn mv xs) (hl : xs.length ≤ 26) : xs.Nodup := by
  refine List.pairwise_iff_getElem.mpr fun i j hi hj hij e => ?_
  have h1 := (h i xs[i] (List.getElem?_eq_getElem hi)).2
  have h2 := (h j xs[j] (List.getElem?_eq_getElem hj)).2
  rw [e, h2] at h1
  have := Option.some.inj h1
  omega
theorem NmAt.snoc {pn : Nat} {mv : Int} {xs : List Str} {x : Str} (h : NmAt pn mv xs) (hx : NmOk x ∧ x.cps.toList[pn]? = some (97 + ((mv + 7 * (xs.length : Nat)) % 26).toNat)) : NmAt pn mv (xs ++ [x]) := by
  intro j y hy
  by_cases c : j < xs.length
  · rw [List.getElem?_append_left c] at hy; exact h j y hy
  · rw [List.getElem?_append_right (by omega)] at hy
    have : j - xs.length = 0 := by
      have := (List.getElem?_eq_some_iff.mp hy).1
      simp at this; omega
    rw [this] at hy
    cases hy
    rw [show j = xs.length by omega]
    exact hx
theorem rf__law_names : ∀ ds S q, D.unders S.length ds = true → Sto.under S.length S = true → sp__law_names a ds S q → g__law_names K a { nx := fun _ S' => fin S.length q .non S', rt := fin S.length q } (startD N__law_names ds) S := by
  rintro ds S q hu hs ⟨many, h1, h2, o, R0, B, rfl, rfl, ht, hb, hq⟩
  rw [st__law_names]
  simp only [g__law_names, ↓x_lc, ↓x_for, ↓x_rn1, ↓x_rn1I, Int.reducePow, ↓gSeq, ↓gSet, ↓x_par, ↓x_par2, ↓gCB, ↓gB2, ↓gC, ↓Dl.gCons, ↓Dl.gNil, ↓Dl.gLst, ↓gIx, ↓gCall, ↓gArgs, ↓aSub, ↓aMod, ↓x_newF, ↓x_a1, ↓x_var0, ↓x_varS, gat, pick, true_and, List.set_cons_zero, List.set_cons_succ, List.length_cons, List.length_nil, List.filterMap_cons, List.filterMap_nil, List.getElem?_cons_zero, List.getElem?_cons_succ]
  have hs' : 1000 ≤ sizeLine := by decide
  have t15 := Mt.ten15
  refine Mt.draw_in (by decide) (by decide) ht (by omega) fun u o1 hu1 hu2 ht1 => ?_
  simp only [↓x_rn1I, Int.reducePow, ↓x_addI]
  refine ⟨by omega, by omega, ?_⟩
  refine lc_inv (fun i acc S' => ∃ (o' : Option MO) (M : List Int), Mt.Tp (B + 1 + i) o' ∧ S' = o' :: R0 ∧ acc = M.map D.int ∧ M.length = i ∧ ∀ x ∈ M, 0 ≤ x ∧ x < 26) ⟨o1, [], ht1.mono (by omega), rfl, rfl, rfl, fun _ h => (nomatch h)⟩ ?_ ?_
  · rintro i d acc S' hd ⟨o', M, ht', rfl, rfl, hM, hMb⟩
    have hi : i < (1 + u).toNat := by
      have := (List.getElem?_eq_some_iff.mp hd).1
      rwa [x_rngL] at this
    refine ⟨trivial, _, x_bnm, ?_⟩
    simp only [wipeD, ↓gC, ↓Dl.gCons, ↓Dl.gNil, ↓gCall, ↓gArgs, ↓gYes, ↓x_var0, gat, pick, true_and, List.set_cons_zero, List.set_cons_succ, List.length_cons, List.length_nil, List.filterMap_cons, List.filterMap_nil, List.getElem?_cons_zero, List.getElem?_cons_succ, ↓reduceIte]
    refine Mt.draw_in (by decide) (by decide) ht' (by omega) fun x o2 hx0 hx1 ht2 => ?_
    refine ⟨by rw [List.length_map]; omega, o2, M ++ [x], ht2.mono (by omega), rfl, by simp, by simp [hM], fun y hy => ?_⟩
    rcases List.mem_append.mp hy with z | z
    · exact hMb y z
    · rw [List.mem_singleton.mp z]; exact ⟨hx0, hx1⟩
  rintro acc S' ⟨o2, M, ht2, rfl, rfl, hM, hMb⟩
  rw [x_rngL] at hM ht2
  refine ⟨trivial, ?_⟩
  rw [x_newT]
  simp only [↓x_lenL_l]
  refine Mt.draw_in (by rw [List.length_map]; omega) (by rw [List.length_map]; omega) ht2 (by omega) fun place o3 hp0 hp1 ht3 => Mt.draw_in (by decide) (by decide) ht3 (by omega) fun short o4 hs0 hs1 ht4 => ?_
  rw [List.length_map] at hp1
  simp only [List.length_cons]
  refine ⟨by decide, by omega, by omega, ?_⟩
  obtain ⟨pn, rfl⟩ := Int.eq_ofNat_of_zero_le hp0
  obtain ⟨mv, hmv⟩ : ∃ mv, M[pn]? = some mv := ⟨M[pn]'(by omega), List.getElem?_eq_getElem (by omega)⟩
  have hL : (Str.ofString "abcdefghijklmnopqrstuvwxyz") = lets := rfl
  rw [hL]
  refine ⟨fun (i : Nat) ρ S' => ∃ (G : Sto) (xs : List PySem.Str) (y7 y8 y9 y10 : Option D), S' = (o4 :: (R0 ++ [some (MO.lst (xs.map D.str))])) ++ G ∧ xs.length = i ∧ NmAt pn mv xs ∧
    ρ = [some (D.loc 0), some (D.int many), some (D.str lets), some (D.lst (M.map D.int)), some (D.int (pn : Nat)), some (D.int short), some (D.loc (R0.length + 1)), y7, y8, y9, y10], ⟨[], [], _, _, _, _, by simp, rfl, fun j x h => (by simp at h), rfl⟩, ?_, ?_⟩
  · rintro i d ρ S' hd ⟨G, xs, y7, y8, y9, y10, rfl, hx, hxb, rfl⟩
    have hi : i < many.toNat := by
      have := (List.getElem?_eq_some_iff.mp hd).1
      rwa [x_rngL] at this
    rw [x_rng, if_pos hi] at hd
    cases hd
    refine ⟨trivial, _, x_bnm, ?_⟩
    have hget : ((o4 :: (R0 ++ [some (MO.lst (xs.map D.str))])) ++ G)[R0.length + 1]? = some (some (MO.lst (xs.map D.str))) := by simp
    generalize hS0 : (o4 :: (R0 ++ [some (MO.lst (xs.map D.str))])) ++ G = S0 at hget
    simp only [↓x_gset, ↓x_ixL, ↓gSeq, ↓gSet, ↓gCB, ↓gB2, ↓gC, ↓Dl.gCons, ↓Dl.gNil, ↓x_mulI, ↓x_a1, ↓x_var0, ↓x_varS, List.set_cons_zero, List.set_cons_succ]
    refine ⟨_, rfl, ?_⟩
    rw [x_newF]
    refine ⟨.int mv, atI_lit (by rw [List.getElem?_map, hmv]; rfl), ?_⟩
    obtain ⟨v, hv, hv0, hv1⟩ : ∃ v : Int, (mv + 7 * (0 + (i : Int))) % 26 = v ∧ 0 ≤ v ∧ v < 26 := ⟨_, rfl, by omega, by omega⟩
    refine ⟨mulOk_r (by omega) (by omega), ?_⟩
    simp only [hv, ↓x_i2, ↓x_addI]
    refine ⟨by decide, (x_setE (n := pn) (ixN_lit (by rw [List.length_map]; omega))).mpr ?_⟩
    have hset : (M.map D.int).set pn (.int v) = (M.set pn v).map D.int := by rw [List.map_set]
    rw [hset]
    obtain ⟨M2, hM2, hM2l, hM2v, hM2b⟩ : ∃ M2 : List Int, M.set pn v = M2 ∧ M2.length = M.length ∧ M2[pn]? = some v ∧ ∀ x ∈ M2, 0 ≤ x ∧ x < 26 := by
      refine ⟨_, rfl, by rw [List.length_set], by rw [List.getElem?_set_self (by omega)], fun x hx => ?_⟩
      rcases List.mem_or_eq_of_mem_set hx with z | z
      · exact hMb x z
      · rw [z]; exact ⟨hv0, hv1⟩
    rw [hM2]
    simp only [↓x_itE, ↓x_lc, ↓x_it, ↓gSeq, ↓gSet, ↓gDrop, ↓gCB, ↓gB2, ↓gC, ↓Dl.gCons, ↓Dl.gNil, ↓gSl, ↓gPart, ↓gNoP, ↓gMt, ↓x_tyS, ↓x_i2, ↓x_addI, ↓x_mulI, ↓x_a1, ↓x_a2, ↓x_var0, ↓x_varS, Option.some.injEq, D.bl.injEq, D.int.injEq, D.str.injEq, D.tup.injEq, D.lst.injEq, List.cons.injEq, and_true, true_and, List.set_cons_zero, List.set_cons_succ]
    refine lc_on (F := D.int) (fun x : Int => some (D.str (oneL x))) (by simp [seqOf]) (by omega) (fun x hx acc R' hac hR' => ⟨_, x_bnm, ?_⟩) ?_
    · simp only [wipeD, ↓gB2, ↓gYes, ↓x_ixS, ↓x_var0, ↓x_varS, List.set_cons_zero, List.set_cons_succ, ↓reduceIte]
      obtain ⟨b1, b2⟩ := hM2b x hx
      obtain ⟨xn, rfl⟩ := Int.eq_ofNat_of_zero_le b1
      exact ⟨by decide +kernel, _, let_at xn (by omega), hac, hR'⟩
    rw [fm_some, x_newT]
    have hmap : M2.map (fun x => D.str (oneL x)) = (M2.map oneL).map D.str := by rw [List.map_map]; rfl
    rw [hmap]
    have ones : ∀ y ∈ M2.map oneL, y.length = 1 := fun y hy => by
      obtain ⟨x, _, rfl⟩ := List.mem_map.mp hy
      rfl
    have hsum : ((M2.map oneL).map (·.length)).sum ≤ M2.length := by
      have : ∀ l : List PySem.Str, (∀ y ∈ l, y.length = 1) → (l.map (·.length)).sum = l.length := by
        intro l
        induction l with
        | nil => intro _; rfl
        | cons y l ih =>
          intro h
          rw [List.map_cons, List.sum_cons, ih fun z hz => h z (List.mem_cons_of_mem _ hz), h y List.mem_cons_self, List.length_cons]
          omega
      rw [this _ ones, List.length_map]
      exact Nat.le_refl _
    have hjn : Txt.join (Str.ofString "") (M2.map oneL) = ofL (M2.map fun x => 97 + x.toNat) := by
      rw [← join_ones, List.map_map]; rfl
    refine ⟨_, _, _, rfl, rfl, rfl, ?_, ?_⟩
    · have z : (Str.ofString "").length = 0 := by decide +kernel
      rw [z]
      omega
    rw [hjn]
    have hjl : (ofL (M2.map fun x => 97 + x.toNat)).length = M2.length := by rw [ofL_len, List.length_map]
    simp only [↓x_i2, ↓x_lenS, ↓x_max2, ↓x_slS, Option.some.injEq, D.bl.injEq, D.int.injEq, D.str.injEq, D.tup.injEq, D.lst.injEq, List.cons.injEq, true_and, exists_eq_left']
    have hlt : R0.length + 1 < S0.length := (List.getElem?_eq_some_iff.mp hget).1
    have hget2 : (S0 ++ [some (MO.lst (M2.map D.int))])[R0.length + 1]? = some (some (MO.lst (xs.map D.str))) := by rw [List.getElem?_append_left hlt]; exact hget
    rw [hjl]
    obtain ⟨kk, hkk, hk1⟩ : ∃ kk : Nat, max ((pn : Int) + 1) ((M2.length : Int) - short * ((0 + (i : Int)) % 3)) = (kk : Int) ∧ pn + 1 ≤ kk := ⟨(max ((pn : Int) + 1) ((M2.length : Int) - short * ((0 + (i : Int)) % 3))).toNat, by omega, by omega⟩
    rw [hkk]
    have hcut : cutS (ofL (M2.map fun x => 97 + x.toNat)) none (some (kk : Int)) = ofL ((M2.map fun x => 97 + x.toNat).take kk) := str_ext (by rw [cut_to _ kk rfl, ofL_cps, ofL_cps])
    rw [hcut]
    have hnew : NmOk (ofL ((M2.map fun x => 97 + x.toNat).take kk)) ∧ (ofL ((M2.map fun x => 97 + x.toNat).take kk)).cps.toList[pn]? = some (97 + ((mv + 7 * (xs.length : Nat)) % 26).toNat) := by
      refine ⟨nm_of (by rw [List.length_take, List.length_map]; omega) (by rw [List.length_take, List.length_map]; omega) fun c hc => ?_, ?_⟩
      · obtain ⟨x, hx, rfl⟩ := List.mem_map.mp (List.mem_of_mem_take hc)
        have := hM2b x hx
        omega
      · rw [ofL_cps, List.getElem?_take, if_pos (by omega), List.getElem?_map, hM2v, ← hv, hx, Int.zero_add]; rfl
    refine ⟨x_tyO hget2, by omega, by decide, mulOk_r (by omega) (by omega), by omega, (x_app hget2).mpr ⟨by rw [List.length_map]; omega, G ++ [some (MO.lst (M2.map D.int))], xs ++ [ofL ((M2.map fun x => 97 + x.toNat).take kk)], _, _, _, _, ?_, by simp [hx], hxb.snoc hnew, rfl, rfl, rfl, rfl⟩⟩
    rw [← hS0]
    simp
  · rintro ρ S' ⟨G, xs, y7, y8, y9, y10, rfl, hx, hxb, rfl⟩
    refine ⟨trivial, ?_⟩
    rw [x_rngL] at hx
    dsimp only
    simp only [↓gRet, ↓x_var0, ↓x_varS]
    have hs2 : Sto.under (o4 :: R0).length (o4 :: R0) = true := tape_under ht4 (by simpa using hs)
    have e : (o4 :: (R0 ++ [some (MO.lst (xs.map D.str))])) ++ G = (o4 :: R0) ++ (some (MO.lst (xs.map D.str)) :: G) := by simp
    rw [e]
    exact (x_finG (S0 := o4 :: R0) hs2).mpr ⟨und_strs, hq _ o4 ⟨xs, rfl, by omega, hxb.nodup (by omega), fun x hx => by obtain ⟨j, hj⟩ := List.getElem?_of_mem hx; exact (hxb j x hj).1⟩ (ht4.mono (by omega))⟩
end
end Lw
namespace Lw
open PySem L2 Dl
section
variable {P : Program} {w : World} {K : PySem.W.Frag} {mg : Str → Option Value} {base : Heap} {a : Ad}
theorem r_show_clock : ∀ ds S q, sp_show_clock a ds S q → g_show_clock K a { nx := fun _ S' => q .non S', rt := q } (startD N_show_clock ds) S := by
  rintro ds S q ⟨m, rfl, hm, h⟩
  rw [st_show_clock]
  simp only [g_show_clock, ↓x_eqSS, ↓x_neSS, ↓gKGet, ↓x_kget, ↓x_ixE, at_last, ↓x_appE, ↓x_tyE, ↓x_itE, ↓x_lenE, ↓x_nePr, ↓x_eqPr, ↓x_neE, ↓x_lenr, ↓x_lenrI, ↓gRev, ↓x_par3, ↓x_par33, ↓x_fld, ↓x_fset, ↓x_mkF, ↓x_mk, ↓x_meth, ↓x_fldO, ↓x_fsetE, ↓x_fldE, ↓x_methO, ↓x_isiCO, ↓x_isiCN, ↓x_isiCT, ↓x_isiCLi, ↓x_isiCS, ↓x_isiCI, ↓x_own, ↓x_eqT2, ↓x_neT2, ↓x_neL4, ↓x_eqLN, ↓x_neNil, ↓x_gset, ↓x_lc, ↓x_for, ↓x_it, ↓x_rn1, ↓x_rn2, ↓x_enu, ↓x_zip, ↓x_itS, ↓x_itL, ↓x_itK, ↓x_itT, ↓x_rn1I, ↓x_rn2I, ↓x_enuL, ↓x_enuK, ↓x_zipL, ↓x_ixS0, ↓x_ixL, ↓x_ixT, ↓x_ixK, x_at0, x_at1, x_at2, x_at3, x_at4, ↓x_set00, ↓x_set01, ↓x_set02, ↓x_aug1, ↓x_aug2, ↓x_aug3, ↓x_aug4, ↓x_aug5, ↓x_aug6, ↓x_aug7, ↓x_aug8, ↓x_aug9, ↓x_aug10, ↓x_aug11, ↓x_aug12, ↓x_aug13, ↓x_aug14, ↓x_aug15, ↓x_aug16, ↓x_aug17, ↓x_aug18, ↓x_aug19, ↓x_aug20, ↓x_aug21, ↓x_aug22, ↓x_aug23, Int.reduceToNat, Int.reducePow, ↓gSeq, ↓gIfS, ↓gSet, ↓gAsg, ↓x_par, ↓x_par2, ↓gRet, ↓gRetN, ↓gNext, ↓gDrop, ↓gBreak, ↓gCont, ↓gDead, ↓gCB, ↓gB2, ↓gU, ↓gC, ↓Dl.gCons, ↓Dl.gNil, ↓Dl.gTup, ↓Dl.gLst, ↓gTest, ↓gOrB, ↓gAndB, ↓gNotB, ↓gAndV, ↓gOrV, ↓gNotV, ↓gIf, ↓gIx, ↓gSl, ↓gPart, ↓gNoP, ↓gMt, ↓gCall, ↓gArgs, ↓gIsN, ↓gNotN, ↓gChain, ↓x_fmtS, ↓x_afS, ↓x_afI, ↓x_js0, ↓x_jsc, ↓gJoined, ↓gYes, ↓x_bnm, ↓x_btp, ↓x_bn, ↓x_bc, ↓x_nnN, ↓x_nnI, ↓x_nnS, ↓x_nnB, ↓x_nnT, ↓x_nnL, ↓x_nnO, ↓x_nnl, ↓x_tyS, ↓x_tyL, ↓x_i2, ↓aSub, ↓aFdiv, ↓aMod, ↓aPow, ↓aShr, ↓aLt, ↓aLe, ↓aGt, ↓aGe, ↓x_addI, ↓x_addS, ↓x_mulI, ↓x_iaddS, ↓x_iaddI, ↓x_neg, ↓x_eqI, ↓x_neI, ↓x_eqS, ↓x_neS, ↓x_eqB, ↓x_neB, ↓x_eqNI, ↓x_neNI, ↓x_lenS, ↓x_lenL_l, ↓x_lenL_k, ↓x_lenL_t, ↓x_str, ↓x_intI, ↓x_intB, ↓x_divmod, ↓x_max2, ↓x_min2, ↓x_ixS, ↓x_slS, ↓x_slT, ↓x_slL_l, ↓x_slL_k, ↓x_inS, ↓x_newT, ↓x_newF, ↓x_si, ↓x_s1, ↓x_s0, ↓x_rpart, ↓x_part, ↓x_a1, ↓x_a2, ↓x_isiStr, ↓x_isiInt, ↓x_isiIntB, ↓x_isiIntS, ↓x_isiBB, ↓x_isiBI, ↓x_isiStrI, ↓x_isiNonI, ↓x_isiNonS, ↓x_isiT, ↓x_isiL, ↓x_var0, ↓x_varS, ↓x_ex, ↓x_aug0, gat, pick, Option.some.injEq, D.bl.injEq, D.int.injEq, D.str.injEq, D.tup.injEq, D.lst.injEq, List.cons.injEq, and_true, true_and, List.set_cons_zero, List.set_cons_succ, List.length_cons, List.length_nil, List.filterMap_cons, List.filterMap_nil, List.getElem?_cons_zero, List.getElem?_cons_succ, Option.bind_some, ↓reduceIte, if_true, if_false, Bool.false_eq_true, Bool.true_eq_false, decide_eq_true_eq, beq_self_eq_true, Bool.not_true, Bool.not_false, Bool.not_eq_true', decide_eq_false_iff_not, exists_eq_left', exists_eq_left, exists_eq, ↓x_dnT, ↓x_dnF, ↓gAsgL, ↓gMMDef, ↓gDSet, ↓gSItems, ↓x_nilL, ↓x_nilE, List.isEmpty_nil, List.isEmpty_cons, Bool.true_xor, Bool.false_xor, ↓gOrT, ↓gAndT, ↓gTryAs, ↓gTryO, ↓gRaise, ↓gCallX, ↓gMethX, ↓gMakeX, ↓gFldX, ↓x_inXs, Bool.false_xor, Bool.true_xor, ↓gOrS, ↓x_fmtRS, ↓x_afRS, ↓x_afRI, ↓x_stO, ↓x_zipS, ↓x_zipE, ↓x_zipSL, ↓x_zipST, ↓x_zipEL, ↓x_augix, ↓x_isB, ↓x_notB, ↓gLR1, ↓gLR2, ↓gDIxT, ↓gDGt1T, ↓gDSetT, ↓gDNewT, ↓gDIx, ↓gDGt1, ↓gDGt2, ↓gDIn, ↓gDSetd, ↓gDPop1, ↓gDPop2, ↓gTIdx, ↓gLKeys, ↓gDisp, ↓gFrD, ↓gFzD]
  have e1 : ((m : Int) / 60) = ((m / 60 : Nat) : Int) := by omega
  have e2 : ((m : Int) % 60) = ((m % 60 : Nat) : Int) := by omega
  rw [e1, e2, Mt.tw_zfill _ (by omega), Mt.tw_zfill _ (by omega)]
  refine ⟨⟨by decide, by decide⟩, Mt.log2_small (by omega) (by omega), by decide, Mt.l_tw1 _, Mt.log2_small (by omega) (by omega), by decide, Mt.l_tw2 _ _, ?_⟩
  exact h
theorem r_show_time : ∀ ds S q, sp_show_time a ds S q → g_show_time K a { nx := fun _ S' => q .non S', rt := q } (startD N_show_time ds) S := by
  rintro ds S q ⟨m, rfl, hm, h⟩
  rw [st_show_time]
  simp only [g_show_time, ↓x_eqSS, ↓x_neSS, ↓gKGet, ↓x_kget, ↓x_ixE, at_last, ↓x_appE, ↓x_tyE, ↓x_itE, ↓x_lenE, ↓x_nePr, ↓x_eqPr, ↓x_neE, ↓x_lenr, ↓x_lenrI, ↓gRev, ↓x_par3, ↓x_par33, ↓x_fld, ↓x_fset, ↓x_mkF, ↓x_mk, ↓x_meth, ↓x_fldO, ↓x_fsetE, ↓x_fldE, ↓x_methO, ↓x_isiCO, ↓x_isiCN, ↓x_isiCT, ↓x_isiCLi, ↓x_isiCS, ↓x_isiCI, ↓x_own, ↓x_eqT2, ↓x_neT2, ↓x_neL4, ↓x_eqLN, ↓x_neNil, ↓x_gset, ↓x_lc, ↓x_for, ↓x_it, ↓x_rn1, ↓x_rn2, ↓x_enu, ↓x_zip, ↓x_itS, ↓x_itL, ↓x_itK, ↓x_itT, ↓x_rn1I, ↓x_rn2I, ↓x_enuL, ↓x_enuK, ↓x_zipL, ↓x_ixS0, ↓x_ixL, ↓x_ixT, ↓x_ixK, x_at0, x_at1, x_at2, x_at3, x_at4, ↓x_set00, ↓x_set01, ↓x_set02, ↓x_aug1, ↓x_aug2, ↓x_aug3, ↓x_aug4, ↓x_aug5, ↓x_aug6, ↓x_aug7, ↓x_aug8, ↓x_aug9, ↓x_aug10, ↓x_aug11, ↓x_aug12, ↓x_aug13, ↓x_aug14, ↓x_aug15, ↓x_aug16, ↓x_aug17, ↓x_aug18, ↓x_aug19, ↓x_aug20, ↓x_aug21, ↓x_aug22, ↓x_aug23, Int.reduceToNat, Int.reducePow, ↓gSeq, ↓gIfS, ↓gSet, ↓gAsg, ↓x_par, ↓x_par2, ↓gRet, ↓gRetN, ↓gNext, ↓gDrop, ↓gBreak, ↓gCont, ↓gDead, ↓gCB, ↓gB2, ↓gU, ↓gC, ↓Dl.gCons, ↓Dl.gNil, ↓Dl.gTup, ↓Dl.gLst, ↓gTest, ↓gOrB, ↓gAndB, ↓gNotB, ↓gAndV, ↓gOrV, ↓gNotV, ↓gIf, ↓gIx, ↓gSl, ↓gPart, ↓gNoP, ↓gMt, ↓gCall, ↓gArgs, ↓gIsN, ↓gNotN, ↓gChain, ↓x_fmtS, ↓x_afS, ↓x_afI, ↓x_js0, ↓x_jsc, ↓gJoined, ↓gYes, ↓x_bnm, ↓x_btp, ↓x_bn, ↓x_bc, ↓x_nnN, ↓x_nnI, ↓x_nnS, ↓x_nnB, ↓x_nnT, ↓x_nnL, ↓x_nnO, ↓x_nnl, ↓x_tyS, ↓x_tyL, ↓x_i2, ↓aSub, ↓aFdiv, ↓aMod, ↓aPow, ↓aShr, ↓aLt, ↓aLe, ↓aGt, ↓aGe, ↓x_addI, ↓x_addS, ↓x_mulI, ↓x_iaddS, ↓x_iaddI, ↓x_neg, ↓x_eqI, ↓x_neI, ↓x_eqS, ↓x_neS, ↓x_eqB, ↓x_neB, ↓x_eqNI, ↓x_neNI, ↓x_lenS, ↓x_lenL_l, ↓x_lenL_k, ↓x_lenL_t, ↓x_str, ↓x_intI, ↓x_intB, ↓x_divmod, ↓x_max2, ↓x_min2, ↓x_ixS, ↓x_slS, ↓x_slT, ↓x_slL_l, ↓x_slL_k, ↓x_inS, ↓x_newT, ↓x_newF, ↓x_si, ↓x_s1, ↓x_s0, ↓x_rpart, ↓x_part, ↓x_a1, ↓x_a2, ↓x_isiStr, ↓x_isiInt, ↓x_isiIntB, ↓x_isiIntS, ↓x_isiBB, ↓x_isiBI, ↓x_isiStrI, ↓x_isiNonI, ↓x_isiNonS, ↓x_isiT, ↓x_isiL, ↓x_var0, ↓x_varS, ↓x_ex, ↓x_aug0, gat, pick, Option.some.injEq, D.bl.injEq, D.int.injEq, D.str.injEq, D.tup.injEq, D.lst.injEq, List.cons.injEq, and_true, true_and, List.set_cons_zero, List.set_cons_succ, List.length_cons, List.length_nil, List.filterMap_cons, List.filterMap_nil, List.getElem?_cons_zero, List.getElem?_cons_succ, Option.bind_some, ↓reduceIte, if_true, if_false, Bool.false_eq_true, Bool.true_eq_false, decide_eq_true_eq, beq_self_eq_true, Bool.not_true, Bool.not_false, Bool.not_eq_true', decide_eq_false_iff_not, exists_eq_left', exists_eq_left, exists_eq, ↓x_dnT, ↓x_dnF, ↓gAsgL, ↓gMMDef, ↓gDSet, ↓gSItems, ↓x_nilL, ↓x_nilE, List.isEmpty_nil, List.isEmpty_cons, Bool.true_xor, Bool.false_xor, ↓gOrT, ↓gAndT, ↓gTryAs, ↓gTryO, ↓gRaise, ↓gCallX, ↓gMethX, ↓gMakeX, ↓gFldX, ↓x_inXs, Bool.false_xor, Bool.true_xor, ↓gOrS, ↓x_fmtRS, ↓x_afRS, ↓x_afRI, ↓x_stO, ↓x_zipS, ↓x_zipE, ↓x_zipSL, ↓x_zipST, ↓x_zipEL, ↓x_augix, ↓x_isB, ↓x_notB, ↓gLR1, ↓gLR2, ↓gDIxT, ↓gDGt1T, ↓gDSetT, ↓gDNewT, ↓gDIx, ↓gDGt1, ↓gDGt2, ↓gDIn, ↓gDSetd, ↓gDPop1, ↓gDPop2, ↓gTIdx, ↓gLKeys, ↓gDisp, ↓gFrD, ↓gFzD]
  have e1 : ((m : Int) / 1440) = ((m / 1440 : Nat) : Int) := by omega
  have e2 : ((m : Int) % 1440) = ((m % 1440 : Nat) : Int) := by omega
  rw [e1, e2]
  refine ⟨⟨by decide, by decide⟩, m % 1440, rfl, by omega, ?_⟩
  have eT : Mt.T m = if m < 1440 then Mt.hm (m / 60) (m % 60) else Mt.hm (m % 1440 / 60) (m % 60) ++ (Mt.plus ++ showI (m / 1440 : Nat)) := rfl
  have e3 : m % 1440 % 60 = m % 60 := by omega
  rw [e3]
  simp only [↓x_eqSS, ↓x_neSS, ↓gKGet, ↓x_kget, ↓x_ixE, at_last, ↓x_appE, ↓x_tyE, ↓x_itE, ↓x_lenE, ↓x_nePr, ↓x_eqPr, ↓x_neE, ↓x_lenr, ↓x_lenrI, ↓gRev, ↓x_par3, ↓x_par33, ↓x_fld, ↓x_fset, ↓x_mkF, ↓x_mk, ↓x_meth, ↓x_fldO, ↓x_fsetE, ↓x_fldE, ↓x_methO, ↓x_isiCO, ↓x_isiCN, ↓x_isiCT, ↓x_isiCLi, ↓x_isiCS, ↓x_isiCI, ↓x_own, ↓x_eqT2, ↓x_neT2, ↓x_neL4, ↓x_eqLN, ↓x_neNil, ↓x_gset, ↓x_lc, ↓x_for, ↓x_it, ↓x_rn1, ↓x_rn2, ↓x_enu, ↓x_zip, ↓x_itS, ↓x_itL, ↓x_itK, ↓x_itT, ↓x_rn1I, ↓x_rn2I, ↓x_enuL, ↓x_enuK, ↓x_zipL, ↓x_ixS0, ↓x_ixL, ↓x_ixT, ↓x_ixK, x_at0, x_at1, x_at2, x_at3, x_at4, ↓x_set00, ↓x_set01, ↓x_set02, ↓x_aug1, ↓x_aug2, ↓x_aug3, ↓x_aug4, ↓x_aug5, ↓x_aug6, ↓x_aug7, ↓x_aug8, ↓x_aug9, ↓x_aug10, ↓x_aug11, ↓x_aug12, ↓x_aug13, ↓x_aug14, ↓x_aug15, ↓x_aug16, ↓x_aug17, ↓x_aug18, ↓x_aug19, ↓x_aug20, ↓x_aug21, ↓x_aug22, ↓x_aug23, Int.reduceToNat, Int.reducePow, ↓gSeq, ↓gIfS, ↓gSet, ↓gAsg, ↓x_par, ↓x_par2, ↓gRet, ↓gRetN, ↓gNext, ↓gDrop, ↓gBreak, ↓gCont, ↓gDead, ↓gCB, ↓gB2, ↓gU, ↓gC, ↓Dl.gCons, ↓Dl.gNil, ↓Dl.gTup, ↓Dl.gLst, ↓gTest, ↓gOrB, ↓gAndB, ↓gNotB, ↓gAndV, ↓gOrV, ↓gNotV, ↓gIf, ↓gIx, ↓gSl, ↓gPart, ↓gNoP, ↓gMt, ↓gCall, ↓gArgs, ↓gIsN, ↓gNotN, ↓gChain, ↓x_fmtS, ↓x_afS, ↓x_afI, ↓x_js0, ↓x_jsc, ↓gJoined, ↓gYes, ↓x_bnm, ↓x_btp, ↓x_bn, ↓x_bc, ↓x_nnN, ↓x_nnI, ↓x_nnS, ↓x_nnB, ↓x_nnT, ↓x_nnL, ↓x_nnO, ↓x_nnl, ↓x_tyS, ↓x_tyL, ↓x_i2, ↓aSub, ↓aFdiv, ↓aMod, ↓aPow, ↓aShr, ↓aLt, ↓aLe, ↓aGt, ↓aGe, ↓x_addI, ↓x_addS, ↓x_mulI, ↓x_iaddS, ↓x_iaddI, ↓x_neg, ↓x_eqI, ↓x_neI, ↓x_eqS, ↓x_neS, ↓x_eqB, ↓x_neB, ↓x_eqNI, ↓x_neNI, ↓x_lenS, ↓x_lenL_l, ↓x_lenL_k, ↓x_lenL_t, ↓x_str, ↓x_intI, ↓x_intB, ↓x_divmod, ↓x_max2, ↓x_min2, ↓x_ixS, ↓x_slS, ↓x_slT, ↓x_slL_l, ↓x_slL_k, ↓x_inS, ↓x_newT, ↓x_newF, ↓x_si, ↓x_s1, ↓x_s0, ↓x_rpart, ↓x_part, ↓x_a1, ↓x_a2, ↓x_isiStr, ↓x_isiInt, ↓x_isiIntB, ↓x_isiIntS, ↓x_isiBB, ↓x_isiBI, ↓x_isiStrI, ↓x_isiNonI, ↓x_isiNonS, ↓x_isiT, ↓x_isiL, ↓x_var0, ↓x_varS, ↓x_ex, ↓x_aug0, gat, pick, Option.some.injEq, D.bl.injEq, D.int.injEq, D.str.injEq, D.tup.injEq, D.lst.injEq, List.cons.injEq, and_true, true_and, List.set_cons_zero, List.set_cons_succ, List.length_cons, List.length_nil, List.filterMap_cons, List.filterMap_nil, List.getElem?_cons_zero, List.getElem?_cons_succ, Option.bind_some, ↓reduceIte, if_true, if_false, Bool.false_eq_true, Bool.true_eq_false, decide_eq_true_eq, beq_self_eq_true, Bool.not_true, Bool.not_false, Bool.not_eq_true', decide_eq_false_iff_not, exists_eq_left', exists_eq_left, exists_eq, ↓x_dnT, ↓x_dnF, ↓gAsgL, ↓gMMDef, ↓gDSet, ↓gSItems, ↓x_nilL, ↓x_nilE, List.isEmpty_nil, List.isEmpty_cons, Bool.true_xor, Bool.false_xor, ↓gOrT, ↓gAndT, ↓gTryAs, ↓gTryO, ↓gRaise, ↓gCallX, ↓gMethX, ↓gMakeX, ↓gFldX, ↓x_inXs, Bool.false_xor, Bool.true_xor, ↓gOrS, ↓x_fmtRS, ↓x_afRS, ↓x_afRI, ↓x_stO, ↓x_zipS, ↓x_zipE, ↓x_zipSL, ↓x_zipST, ↓x_zipEL, ↓x_augix, ↓x_isB, ↓x_notB, ↓gLR1, ↓gLR2, ↓gDIxT, ↓gDGt1T, ↓gDSetT, ↓gDNewT, ↓gDIx, ↓gDGt1, ↓gDGt2, ↓gDIn, ↓gDSetd, ↓gDPop1, ↓gDPop2, ↓gTIdx, ↓gLKeys, ↓gDisp, ↓gFrD, ↓gFzD]
  by_cases hd : m < 1440
  · rw [if_neg (show ¬ (0 : Int) < ((m / 1440 : Nat) : Int) by omega)]
    rw [eT, if_pos hd] at h
    rwa [show m % 1440 = m by omega]
  · rw [if_pos (show (0 : Int) < ((m / 1440 : Nat) : Int) by omega)]
    rw [eT, if_neg hd] at h
    have hs := Mt.show_len10 (i := ((m / 1440 : Nat) : Int)) (by omega) (by omega)
    refine ⟨by decide, Mt.log2_small (by omega) (by omega), ?_, ?_, ?_⟩
    · exact Nat.le_trans (by rw [Mt.len_app]; exact Nat.add_le_add_left hs _) (by decide : (Str.empty ++ Str.ofString "+").length + 10 ≤ sizeLine)
    · rw [Mt.len_app]
      exact Nat.le_trans (Nat.add_le_add_left (Nat.add_le_add_left hs _) _) (show 5 + ((Str.empty ++ Str.ofString "+").length + 10) ≤ sizeLine by decide)
    · exact h
theorem dig1 : ∀ d, d < 10 → showI ((d : Nat) : Int) = (⟨#[48 + d]⟩ : Str) := by decide +kernel
theorem r__law_time : ∀ ds S q, sp__law_time a ds S q → g__law_time K a { nx := fun _ S' => q .non S', rt := q } (startD N__law_time ds) S := by
  rintro ds S q ⟨m, rfl, hm, h⟩
  rw [st__law_time]
  simp only [g__law_time, ↓x_eqSS, ↓x_neSS, ↓gKGet, ↓x_kget, ↓x_ixE, at_last, ↓x_appE, ↓x_tyE, ↓x_itE, ↓x_lenE, ↓x_nePr, ↓x_eqPr, ↓x_neE, ↓x_lenr, ↓x_lenrI, ↓gRev, ↓x_par3, ↓x_par33, ↓x_fld, ↓x_fset, ↓x_mkF, ↓x_mk, ↓x_meth, ↓x_fldO, ↓x_fsetE, ↓x_fldE, ↓x_methO, ↓x_isiCO, ↓x_isiCN, ↓x_isiCT, ↓x_isiCLi, ↓x_isiCS, ↓x_isiCI, ↓x_own, ↓x_eqT2, ↓x_neT2, ↓x_neL4, ↓x_eqLN, ↓x_neNil, ↓x_gset, ↓x_lc, ↓x_for, ↓x_it, ↓x_rn1, ↓x_rn2, ↓x_enu, ↓x_zip, ↓x_itS, ↓x_itL, ↓x_itK, ↓x_itT, ↓x_rn1I, ↓x_rn2I, ↓x_enuL, ↓x_enuK, ↓x_zipL, ↓x_ixS0, ↓x_ixL, ↓x_ixT, ↓x_ixK, x_at0, x_at1, x_at2, x_at3, x_at4, ↓x_set00, ↓x_set01, ↓x_set02, ↓x_aug1, ↓x_aug2, ↓x_aug3, ↓x_aug4, ↓x_aug5, ↓x_aug6, ↓x_aug7, ↓x_aug8, ↓x_aug9, ↓x_aug10, ↓x_aug11, ↓x_aug12, ↓x_aug13, ↓x_aug14, ↓x_aug15, ↓x_aug16, ↓x_aug17, ↓x_aug18, ↓x_aug19, ↓x_aug20, ↓x_aug21, ↓x_aug22, ↓x_aug23, Int.reduceToNat, Int.reducePow, ↓gSeq, ↓gIfS, ↓gSet, ↓gAsg, ↓x_par, ↓x_par2, ↓gRet, ↓gRetN, ↓gNext, ↓gDrop, ↓gBreak, ↓gCont, ↓gDead, ↓gCB, ↓gB2, ↓gU, ↓gC, ↓Dl.gCons, ↓Dl.gNil, ↓Dl.gTup, ↓Dl.gLst, ↓gTest, ↓gOrB, ↓gAndB, ↓gNotB, ↓gAndV, ↓gOrV, ↓gNotV, ↓gIf, ↓gIx, ↓gSl, ↓gPart, ↓gNoP, ↓gMt, ↓gCall, ↓gArgs, ↓gIsN, ↓gNotN, ↓gChain, ↓x_fmtS, ↓x_afS, ↓x_afI, ↓x_js0, ↓x_jsc, ↓gJoined, ↓gYes, ↓x_bnm, ↓x_btp, ↓x_bn, ↓x_bc, ↓x_nnN, ↓x_nnI, ↓x_nnS, ↓x_nnB, ↓x_nnT, ↓x_nnL, ↓x_nnO, ↓x_nnl, ↓x_tyS, ↓x_tyL, ↓x_i2, ↓aSub, ↓aFdiv, ↓aMod, ↓aPow, ↓aShr, ↓aLt, ↓aLe, ↓aGt, ↓aGe, ↓x_addI, ↓x_addS, ↓x_mulI, ↓x_iaddS, ↓x_iaddI, ↓x_neg, ↓x_eqI, ↓x_neI, ↓x_eqS, ↓x_neS, ↓x_eqB, ↓x_neB, ↓x_eqNI, ↓x_neNI, ↓x_lenS, ↓x_lenL_l, ↓x_lenL_k, ↓x_lenL_t, ↓x_str, ↓x_intI, ↓x_intB, ↓x_divmod, ↓x_max2, ↓x_min2, ↓x_ixS, ↓x_slS, ↓x_slT, ↓x_slL_l, ↓x_slL_k, ↓x_inS, ↓x_newT, ↓x_newF, ↓x_si, ↓x_s1, ↓x_s0, ↓x_rpart, ↓x_part, ↓x_a1, ↓x_a2, ↓x_isiStr, ↓x_isiInt, ↓x_isiIntB, ↓x_isiIntS, ↓x_isiBB, ↓x_isiBI, ↓x_isiStrI, ↓x_isiNonI, ↓x_isiNonS, ↓x_isiT, ↓x_isiL, ↓x_var0, ↓x_varS, ↓x_ex, ↓x_aug0, gat, pick, Option.some.injEq, D.bl.injEq, D.int.injEq, D.str.injEq, D.tup.injEq, D.lst.injEq, List.cons.injEq, and_true, true_and, List.set_cons_zero, List.set_cons_succ, List.length_cons, List.length_nil, List.filterMap_cons, List.filterMap_nil, List.getElem?_cons_zero, List.getElem?_cons_succ, Option.bind_some, ↓reduceIte, if_true, if_false, Bool.false_eq_true, Bool.true_eq_false, decide_eq_true_eq, beq_self_eq_true, Bool.not_true, Bool.not_false, Bool.not_eq_true', decide_eq_false_iff_not, exists_eq_left', exists_eq_left, exists_eq, ↓x_dnT, ↓x_dnF, ↓gAsgL, ↓gMMDef, ↓gDSet, ↓gSItems, ↓x_nilL, ↓x_nilE, List.isEmpty_nil, List.isEmpty_cons, Bool.true_xor, Bool.false_xor, ↓gOrT, ↓gAndT, ↓gTryAs, ↓gTryO, ↓gRaise, ↓gCallX, ↓gMethX, ↓gMakeX, ↓gFldX, ↓x_inXs, Bool.false_xor, Bool.true_xor, ↓gOrS, ↓x_fmtRS, ↓x_afRS, ↓x_afRI, ↓x_stO, ↓x_zipS, ↓x_zipE, ↓x_zipSL, ↓x_zipST, ↓x_zipEL, ↓x_augix, ↓x_isB, ↓x_notB, ↓gLR1, ↓gLR2, ↓gDIxT, ↓gDGt1T, ↓gDSetT, ↓gDNewT, ↓gDIx, ↓gDGt1, ↓gDGt2, ↓gDIn, ↓gDSetd, ↓gDPop1, ↓gDPop2, ↓gTIdx, ↓gLKeys, ↓gDisp, ↓gFrD, ↓gFzD]
  have z1 : ((m : Int) % 1440 / 600) = ((m % 1440 / 600 : Nat) : Int) := by omega
  have z2 : ((m : Int) % 1440 / 60 % 10) = ((m % 1440 / 60 % 10 : Nat) : Int) := by omega
  have z3 : ((m : Int) % 1440 % 60 / 10) = ((m % 60 / 10 : Nat) : Int) := by omega
  have z4 : ((m : Int) % 1440 % 10) = ((m % 60 % 10 : Nat) : Int) := by omega
  have z5 : ((m : Int) / 1440) = ((m / 1440 : Nat) : Int) := by omega
  have sm : ∀ d : Nat, d < 10 → ((d : Nat) : Int).natAbs.log2 < 1920 := fun d hd => Mt.log2_small (by omega) (by omega)
  rw [z1, z2, z3, z4, z5, dig1 _ (by omega), dig1 _ (by omega), dig1 _ (by omega), dig1 _ (by omega)]
  have e5 : (⟨#[48 + m % 1440 / 600]⟩ : Str) ++ ⟨#[48 + m % 1440 / 60 % 10]⟩ ++ Str.ofString ":" ++ ⟨#[48 + m % 60 / 10]⟩ ++ ⟨#[48 + m % 60 % 10]⟩ = Mt.hm (m % 1440 / 60) (m % 60) := by
    unfold Mt.hm
    rw [show m % 1440 / 600 = m % 1440 / 60 / 10 by omega]
    rfl
  have eT : Mt.T m = if m < 1440 then Mt.hm (m / 60) (m % 60) else Mt.hm (m % 1440 / 60) (m % 60) ++ (Mt.plus ++ showI (m / 1440 : Nat)) := rfl
  refine ⟨by decide, .inl ⟨by decide, by decide⟩, sm _ (by omega), .inl ⟨by decide, by decide⟩, by decide, sm _ (by omega), (by decide : 2 ≤ sizeLine), (by decide : 3 ≤ sizeLine), by decide, .inl ⟨by decide, by decide⟩, sm _ (by omega), (by decide : 4 ≤ sizeLine), by decide, sm _ (by omega), (by decide : 5 ≤ sizeLine), ?_⟩
  rw [e5]
  by_cases hd : m < 1440
  · rw [if_pos (show (m : Int) < 1440 by omega)]
    rw [eT, if_pos hd] at h
    rwa [show m % 1440 = m by omega]
  · rw [if_neg (show ¬ (m : Int) < 1440 by omega)]
    rw [eT, if_neg hd] at h
    have hs := Mt.show_len10 (i := ((m / 1440 : Nat) : Int)) (by omega) (by omega)
    refine ⟨Mt.l_hm1 _ _, .inl ⟨by decide, by decide⟩, Mt.log2_small (by omega) (by omega), ?_, ?_⟩
    · have e2 : (Mt.hm (m % 1440 / 60) (m % 60) ++ Str.ofString "+").length = 6 := rfl
      rw [e2]; exact Nat.le_trans (Nat.add_le_add_left hs 6) (by decide)
    · rw [Mt.app3]
      exact h
end
end Lw
namespace Lw
open PySem L2 Dl
section
variable {P : Program} {w : World} {K : PySem.W.Frag} {mg : Str → Option Value} {base : Heap} {a : Ad}
theorem rd_iff {C : Addr} {ks : List Str} {ds : List D} {f : Str} {d : D} {n : Nat} {S : Sto} {q : D → Sto → Prop} (hS : S[n]? = some (some (.obj C ks ds))) (hf : FldOk K C f) (hg : fget f ks ds = some d) : aFld K f (.loc n) S q ↔ q d S := by
  refine ⟨?_, fun h => ⟨C, ks, ds, d, by simp only [objOf, hS], hf, hg, h⟩⟩
  rintro ⟨C', ks', ds', d', h1, _, h3, h4⟩
  simp only [objOf, hS] at h1
  cases h1
  rw [hg] at h3
  cases h3
  exact h4
theorem nil_iff {n : Nat} {S : Sto} {ds : List D} {neg : Bool} {q : D → Sto → Prop} (h : S[n]? = some (some (.lst ds))) : aNil neg (.loc n) (.lst []) S q ↔ q (.bl (xor neg ds.isEmpty)) S := by
  have e0 : lstOf S (.loc n) = some ds := by simp only [lstOf, h]
  exact ⟨fun ⟨_, e, _, h⟩ => by rw [e0] at e; cases e; exact h, fun h => ⟨ds, e0, rfl, h⟩⟩
theorem map_emp {A B : Type} {f : A → B} {l : List A} : (l.map f).isEmpty = l.isEmpty := by cases l <;> rfl
section
variable {S : Sto} {n j : Nat} {b : Str} {R : List Rw} {q : D → Sto → Prop}
theorem bk_bank (T : Txt K mg a) (h : BkAt a S n j b R) : aFld K (Str.ofString "bank") (.loc n) S q ↔ q (.str b) S := rd_iff h.1 T.f_Book_bank fg_Book_bank
theorem bk_kept (T : Txt K mg a) (h : BkAt a S n j b R) : aFld K (Str.ofString "kept") (.loc n) S q ↔ q (.loc j) S := rd_iff h.1 T.f_Book_kept fg_Book_kept
theorem bk_nil (h : BkAt a S n j b R) {neg : Bool} : aNil neg (.loc j) (.lst []) S q ↔ q (.bl (xor neg R.isEmpty)) S := by rw [nil_iff h.2, map_emp]
theorem bk_seq (h : BkAt a S n j b R) : seqOf S (.loc j) = some (R.map rwD) := by simp only [seqOf, h.2]
theorem bk_len (h : BkAt a S n j b R) : aLen (.loc j) S q ↔ q (.int (R.length : Nat)) S := by rw [x_lenL (bk_seq h), List.length_map]
theorem bk_obj (h : BkAt a S n j b R) : objOf S (.loc n) = some (a.C_Book, (["bank", "kept"] : List Str), [D.str b, D.loc j]) := by simp only [objOf, h.1]
theorem bk_meth {m : Str} {c : Prop} (h : BkAt a S n j b R) (hm : (["bank", "kept"] : List Str).contains m = false) : aMeth a.C_Book m (.loc n) S c ↔ c := x_methL h.1 hm
end
theorem r_Book_init (T : Txt K mg a) : ∀ ds S q, sp_Book_init a ds S q → g_Book_init K a { nx := fun _ S' => q .non S', rt := q } (startD N_Book_init ds) S := by
  rintro ds S q ⟨S0, b, rfl, rfl, h⟩
  rw [st_Book_init]
  simp only [g_Book_init, pk_Book_bank, px_Book_bank, fg_Book_bank, T.f_Book_bank, pk_Book_kept, px_Book_kept, fg_Book_kept, T.f_Book_kept, ↓x_eqSS, ↓x_neSS, ↓gKGet, ↓x_kget, ↓x_ixE, at_last, ↓x_appE, ↓x_tyE, ↓x_itE, ↓x_lenE, ↓x_nePr, ↓x_eqPr, ↓x_neE, ↓x_lenr, ↓x_lenrI, ↓gRev, ↓x_par3, ↓x_par33, ↓x_fld, ↓x_fset, ↓x_mkF, ↓x_mk, ↓x_meth, ↓x_fldO, ↓x_fsetE, ↓x_fldE, ↓x_methO, ↓x_isiCO, ↓x_isiCN, ↓x_isiCT, ↓x_isiCLi, ↓x_isiCS, ↓x_isiCI, ↓x_own, ↓x_eqT2, ↓x_neT2, ↓x_neL4, ↓x_eqLN, ↓x_neNil, ↓x_gset, ↓x_lc, ↓x_for, ↓x_it, ↓x_rn1, ↓x_rn2, ↓x_enu, ↓x_zip, ↓x_itS, ↓x_itL, ↓x_itK, ↓x_itT, ↓x_rn1I, ↓x_rn2I, ↓x_enuL, ↓x_enuK, ↓x_zipL, ↓x_ixS0, ↓x_ixL, ↓x_ixT, ↓x_ixK, x_at0, x_at1, x_at2, x_at3, x_at4, ↓x_set00, ↓x_set01, ↓x_set02, ↓x_aug1, ↓x_aug2, ↓x_aug3, ↓x_aug4, ↓x_aug5, ↓x_aug6, ↓x_aug7, ↓x_aug8, ↓x_aug9, ↓x_aug10, ↓x_aug11, ↓x_aug12, ↓x_aug13, ↓x_aug14, ↓x_aug15, ↓x_aug16, ↓x_aug17, ↓x_aug18, ↓x_aug19, ↓x_aug20, ↓x_aug21, ↓x_aug22, ↓x_aug23, Int.reduceToNat, Int.reducePow, ↓gSeq, ↓gIfS, ↓gSet, ↓gAsg, ↓x_par, ↓x_par2, ↓gRet, ↓gRetN, ↓gNext, ↓gDrop, ↓gBreak, ↓gCont, ↓gDead, ↓gCB, ↓gB2, ↓gU, ↓gC, ↓Dl.gCons, ↓Dl.gNil, ↓Dl.gTup, ↓Dl.gLst, ↓gTest, ↓gOrB, ↓gAndB, ↓gNotB, ↓gAndV, ↓gOrV, ↓gNotV, ↓gIf, ↓gIx, ↓gSl, ↓gPart, ↓gNoP, ↓gMt, ↓gCall, ↓gArgs, ↓gIsN, ↓gNotN, ↓gChain, ↓x_fmtS, ↓x_afS, ↓x_afI, ↓x_js0, ↓x_jsc, ↓gJoined, ↓gYes, ↓x_bnm, ↓x_btp, ↓x_bn, ↓x_bc, ↓x_nnN, ↓x_nnI, ↓x_nnS, ↓x_nnB, ↓x_nnT, ↓x_nnL, ↓x_nnO, ↓x_nnl, ↓x_tyS, ↓x_tyL, ↓x_i2, ↓aSub, ↓aFdiv, ↓aMod, ↓aPow, ↓aShr, ↓aLt, ↓aLe, ↓aGt, ↓aGe, ↓x_addI, ↓x_addS, ↓x_mulI, ↓x_iaddS, ↓x_iaddI, ↓x_neg, ↓x_eqI, ↓x_neI, ↓x_eqS, ↓x_neS, ↓x_eqB, ↓x_neB, ↓x_eqNI, ↓x_neNI, ↓x_lenS, ↓x_lenL_l, ↓x_lenL_k, ↓x_lenL_t, ↓x_str, ↓x_intI, ↓x_intB, ↓x_divmod, ↓x_max2, ↓x_min2, ↓x_ixS, ↓x_slS, ↓x_slT, ↓x_slL_l, ↓x_slL_k, ↓x_inS, ↓x_newT, ↓x_newF, ↓x_si, ↓x_s1, ↓x_s0, ↓x_rpart, ↓x_part, ↓x_a1, ↓x_a2, ↓x_isiStr, ↓x_isiInt, ↓x_isiIntB, ↓x_isiIntS, ↓x_isiBB, ↓x_isiBI, ↓x_isiStrI, ↓x_isiNonI, ↓x_isiNonS, ↓x_isiT, ↓x_isiL, ↓x_var0, ↓x_varS, ↓x_ex, ↓x_aug0, gat, pick, Option.some.injEq, D.bl.injEq, D.int.injEq, D.str.injEq, D.tup.injEq, D.lst.injEq, List.cons.injEq, and_true, true_and, List.set_cons_zero, List.set_cons_succ, List.length_cons, List.length_nil, List.filterMap_cons, List.filterMap_nil, List.getElem?_cons_zero, List.getElem?_cons_succ, Option.bind_some, ↓reduceIte, if_true, if_false, Bool.false_eq_true, Bool.true_eq_false, decide_eq_true_eq, beq_self_eq_true, Bool.not_true, Bool.not_false, Bool.not_eq_true', decide_eq_false_iff_not, exists_eq_left', exists_eq_left, exists_eq, ↓x_dnT, ↓x_dnF, ↓gAsgL, ↓gMMDef, ↓gDSet, ↓gSItems, ↓x_nilL, ↓x_nilE, List.isEmpty_nil, List.isEmpty_cons, Bool.true_xor, Bool.false_xor, ↓gOrT, ↓gAndT, ↓gTryAs, ↓gTryO, ↓gRaise, ↓gCallX, ↓gMethX, ↓gMakeX, ↓gFldX, ↓x_inXs, Bool.false_xor, Bool.true_xor, ↓gOrS, ↓x_fmtRS, ↓x_afRS, ↓x_afRI, ↓x_stO, ↓x_zipS, ↓x_zipE, ↓x_zipSL, ↓x_zipST, ↓x_zipEL, ↓x_augix, ↓x_isB, ↓x_notB, ↓gLR1, ↓gLR2, ↓gDIxT, ↓gDGt1T, ↓gDSetT, ↓gDNewT, ↓gDIx, ↓gDGt1, ↓gDGt2, ↓gDIn, ↓gDSetd, ↓gDPop1, ↓gDPop2, ↓gTIdx, ↓gLKeys, ↓gDisp, ↓gFrD, ↓gFzD]
  refine ⟨by decide, by decide, ?_⟩
  refine ⟨S0.length, a.C_Book, [Str.ofString "bank"], [D.str b], rfl, by rw [List.append_assoc]; simp [objOf], T.f_Book_kept, by decide, ?_⟩
  simp only [pk_Book_bank, px_Book_bank, fg_Book_bank, T.f_Book_bank, pk_Book_kept, px_Book_kept, fg_Book_kept, T.f_Book_kept, ↓x_eqSS, ↓x_neSS, ↓gKGet, ↓x_kget, ↓x_ixE, at_last, ↓x_appE, ↓x_tyE, ↓x_itE, ↓x_lenE, ↓x_nePr, ↓x_eqPr, ↓x_neE, ↓x_lenr, ↓x_lenrI, ↓gRev, ↓x_par3, ↓x_par33, ↓x_fld, ↓x_fset, ↓x_mkF, ↓x_mk, ↓x_meth, ↓x_fldO, ↓x_fsetE, ↓x_fldE, ↓x_methO, ↓x_isiCO, ↓x_isiCN, ↓x_isiCT, ↓x_isiCLi, ↓x_isiCS, ↓x_isiCI, ↓x_own, ↓x_eqT2, ↓x_neT2, ↓x_neL4, ↓x_eqLN, ↓x_neNil, ↓x_gset, ↓x_lc, ↓x_for, ↓x_it, ↓x_rn1, ↓x_rn2, ↓x_enu, ↓x_zip, ↓x_itS, ↓x_itL, ↓x_itK, ↓x_itT, ↓x_rn1I, ↓x_rn2I, ↓x_enuL, ↓x_enuK, ↓x_zipL, ↓x_ixS0, ↓x_ixL, ↓x_ixT, ↓x_ixK, x_at0, x_at1, x_at2, x_at3, x_at4, ↓x_set00, ↓x_set01, ↓x_set02, ↓x_aug1, ↓x_aug2, ↓x_aug3, ↓x_aug4, ↓x_aug5, ↓x_aug6, ↓x_aug7, ↓x_aug8, ↓x_aug9, ↓x_aug10, ↓x_aug11, ↓x_aug12, ↓x_aug13, ↓x_aug14, ↓x_aug15, ↓x_aug16, ↓x_aug17, ↓x_aug18, ↓x_aug19, ↓x_aug20, ↓x_aug21, ↓x_aug22, ↓x_aug23, Int.reduceToNat, Int.reducePow, ↓gSeq, ↓gIfS, ↓gSet, ↓gAsg, ↓x_par, ↓x_par2, ↓gRet, ↓gRetN, ↓gNext, ↓gDrop, ↓gBreak, ↓gCont, ↓gDead, ↓gCB, ↓gB2, ↓gU, ↓gC, ↓Dl.gCons, ↓Dl.gNil, ↓Dl.gTup, ↓Dl.gLst, ↓gTest, ↓gOrB, ↓gAndB, ↓gNotB, ↓gAndV, ↓gOrV, ↓gNotV, ↓gIf, ↓gIx, ↓gSl, ↓gPart, ↓gNoP, ↓gMt, ↓gCall, ↓gArgs, ↓gIsN, ↓gNotN, ↓gChain, ↓x_fmtS, ↓x_afS, ↓x_afI, ↓x_js0, ↓x_jsc, ↓gJoined, ↓gYes, ↓x_bnm, ↓x_btp, ↓x_bn, ↓x_bc, ↓x_nnN, ↓x_nnI, ↓x_nnS, ↓x_nnB, ↓x_nnT, ↓x_nnL, ↓x_nnO, ↓x_nnl, ↓x_tyS, ↓x_tyL, ↓x_i2, ↓aSub, ↓aFdiv, ↓aMod, ↓aPow, ↓aShr, ↓aLt, ↓aLe, ↓aGt, ↓aGe, ↓x_addI, ↓x_addS, ↓x_mulI, ↓x_iaddS, ↓x_iaddI, ↓x_neg, ↓x_eqI, ↓x_neI, ↓x_eqS, ↓x_neS, ↓x_eqB, ↓x_neB, ↓x_eqNI, ↓x_neNI, ↓x_lenS, ↓x_lenL_l, ↓x_lenL_k, ↓x_lenL_t, ↓x_str, ↓x_intI, ↓x_intB, ↓x_divmod, ↓x_max2, ↓x_min2, ↓x_ixS, ↓x_slS, ↓x_slT, ↓x_slL_l, ↓x_slL_k, ↓x_inS, ↓x_newT, ↓x_newF, ↓x_si, ↓x_s1, ↓x_s0, ↓x_rpart, ↓x_part, ↓x_a1, ↓x_a2, ↓x_isiStr, ↓x_isiInt, ↓x_isiIntB, ↓x_isiIntS, ↓x_isiBB, ↓x_isiBI, ↓x_isiStrI, ↓x_isiNonI, ↓x_isiNonS, ↓x_isiT, ↓x_isiL, ↓x_var0, ↓x_varS, ↓x_ex, ↓x_aug0, gat, pick, Option.some.injEq, D.bl.injEq, D.int.injEq, D.str.injEq, D.tup.injEq, D.lst.injEq, List.cons.injEq, and_true, true_and, List.set_cons_zero, List.set_cons_succ, List.length_cons, List.length_nil, List.filterMap_cons, List.filterMap_nil, List.getElem?_cons_zero, List.getElem?_cons_succ, Option.bind_some, ↓reduceIte, if_true, if_false, Bool.false_eq_true, Bool.true_eq_false, decide_eq_true_eq, beq_self_eq_true, Bool.not_true, Bool.not_false, Bool.not_eq_true', decide_eq_false_iff_not, exists_eq_left', exists_eq_left, exists_eq, ↓x_dnT, ↓x_dnF, ↓gAsgL, ↓gMMDef, ↓gDSet, ↓gSItems, ↓x_nilL, ↓x_nilE, List.isEmpty_nil, List.isEmpty_cons, Bool.true_xor, Bool.false_xor, ↓gOrT, ↓gAndT, ↓gTryAs, ↓gTryO, ↓gRaise, ↓gCallX, ↓gMethX, ↓gMakeX, ↓gFldX, ↓x_inXs, Bool.false_xor, Bool.true_xor, ↓gOrS, ↓x_fmtRS, ↓x_afRS, ↓x_afRI, ↓x_stO, ↓x_zipS, ↓x_zipE, ↓x_zipSL, ↓x_zipST, ↓x_zipEL, ↓x_augix, ↓x_isB, ↓x_notB, ↓gLR1, ↓gLR2, ↓gDIxT, ↓gDGt1T, ↓gDSetT, ↓gDNewT, ↓gDIx, ↓gDGt1, ↓gDGt2, ↓gDIn, ↓gDSetd, ↓gDPop1, ↓gDPop2, ↓gTIdx, ↓gLKeys, ↓gDisp, ↓gFrD, ↓gFzD]
  have e : (S0 ++ [some (MO.obj a.C_Book [Str.ofString "bank"] [D.str b])] ++ [some (MO.lst [])]).set S0.length (some (MO.obj a.C_Book [Str.ofString "bank", Str.ofString "kept"] [D.str b, D.loc (S0 ++ [some (MO.obj a.C_Book [Str.ofString "bank"] [D.str b])]).length])) = S0 ++ bk2 a S0.length b [] := by
    rw [List.append_assoc, List.set_append_right _ _ (Nat.le_refl _)]
    simp [bk2]
  exact e ▸ h
theorem at_neg1 {R : List Rw} {r : Rw} (h : R.getLast? = some r) : atI (R.map rwD) (-1) = some (rwD r) := by
  rw [at_last, List.getLast?_map, h]
  rfl
theorem r_Book_write (T : Txt K mg a) : ∀ ds S q qx, D.unders S.length ds = true → Sto.under S.length S = true → sp_Book_write a ds S q qx → g_Book_write K a (fun c fs ds _ S' => qx c fs ds S') { nx := fun _ S' => q .non S', rt := q } (startD N_Book_write ds) S := by
  rintro ds S q qx hu hs ⟨n, j, b, R, m, w, x, rfl, hB, hR, h, hx⟩
  rw [st_Book_write]
  simp only [g_Book_write, ↓bk_kept T hB, ↓bk_nil hB, ↓x_eqSS, ↓x_neSS, ↓gKGet, ↓x_kget, ↓x_ixE, at_last, ↓x_appE, ↓x_tyE, ↓x_itE, ↓x_lenE, ↓x_nePr, ↓x_eqPr, ↓x_neE, ↓x_lenr, ↓x_lenrI, ↓gRev, ↓x_par3, ↓x_par33, ↓x_fld, ↓x_fset, ↓x_mkF, ↓x_mk, ↓x_meth, ↓x_fldO, ↓x_fsetE, ↓x_fldE, ↓x_methO, ↓x_isiCO, ↓x_isiCN, ↓x_isiCT, ↓x_isiCLi, ↓x_isiCS, ↓x_isiCI, ↓x_own, ↓x_eqT2, ↓x_neT2, ↓x_neL4, ↓x_eqLN, ↓x_neNil, ↓x_gset, ↓x_lc, ↓x_for, ↓x_it, ↓x_rn1, ↓x_rn2, ↓x_enu, ↓x_zip, ↓x_itS, ↓x_itL, ↓x_itK, ↓x_itT, ↓x_rn1I, ↓x_rn2I, ↓x_enuL, ↓x_enuK, ↓x_zipL, ↓x_ixS0, ↓x_ixL, ↓x_ixT, ↓x_ixK, x_at0, x_at1, x_at2, x_at3, x_at4, ↓x_set00, ↓x_set01, ↓x_set02, ↓x_aug1, ↓x_aug2, ↓x_aug3, ↓x_aug4, ↓x_aug5, ↓x_aug6, ↓x_aug7, ↓x_aug8, ↓x_aug9, ↓x_aug10, ↓x_aug11, ↓x_aug12, ↓x_aug13, ↓x_aug14, ↓x_aug15, ↓x_aug16, ↓x_aug17, ↓x_aug18, ↓x_aug19, ↓x_aug20, ↓x_aug21, ↓x_aug22, ↓x_aug23, Int.reduceToNat, Int.reducePow, ↓gSeq, ↓gIfS, ↓gSet, ↓gAsg, ↓x_par, ↓x_par2, ↓gRet, ↓gRetN, ↓gNext, ↓gDrop, ↓gBreak, ↓gCont, ↓gDead, ↓gCB, ↓gB2, ↓gU, ↓gC, ↓Dl.gCons, ↓Dl.gNil, ↓Dl.gTup, ↓Dl.gLst, ↓gTest, ↓gOrB, ↓gAndB, ↓gNotB, ↓gAndV, ↓gOrV, ↓gNotV, ↓gIf, ↓gIx, ↓gSl, ↓gPart, ↓gNoP, ↓gMt, ↓gCall, ↓gArgs, ↓gIsN, ↓gNotN, ↓gChain, ↓x_fmtS, ↓x_afS, ↓x_afI, ↓x_js0, ↓x_jsc, ↓gJoined, ↓gYes, ↓x_bnm, ↓x_btp, ↓x_bn, ↓x_bc, ↓x_nnN, ↓x_nnI, ↓x_nnS, ↓x_nnB, ↓x_nnT, ↓x_nnL, ↓x_nnO, ↓x_nnl, ↓x_tyS, ↓x_tyL, ↓x_i2, ↓aSub, ↓aFdiv, ↓aMod, ↓aPow, ↓aShr, ↓aLt, ↓aLe, ↓aGt, ↓aGe, ↓x_addI, ↓x_addS, ↓x_mulI, ↓x_iaddS, ↓x_iaddI, ↓x_neg, ↓x_eqI, ↓x_neI, ↓x_eqS, ↓x_neS, ↓x_eqB, ↓x_neB, ↓x_eqNI, ↓x_neNI, ↓x_lenS, ↓x_lenL_l, ↓x_lenL_k, ↓x_lenL_t, ↓x_str, ↓x_intI, ↓x_intB, ↓x_divmod, ↓x_max2, ↓x_min2, ↓x_ixS, ↓x_slS, ↓x_slT, ↓x_slL_l, ↓x_slL_k, ↓x_inS, ↓x_newT, ↓x_newF, ↓x_si, ↓x_s1, ↓x_s0, ↓x_rpart, ↓x_part, ↓x_a1, ↓x_a2, ↓x_isiStr, ↓x_isiInt, ↓x_isiIntB, ↓x_isiIntS, ↓x_isiBB, ↓x_isiBI, ↓x_isiStrI, ↓x_isiNonI, ↓x_isiNonS, ↓x_isiT, ↓x_isiL, ↓x_var0, ↓x_varS, ↓x_ex, ↓x_aug0, gat, pick, Option.some.injEq, D.bl.injEq, D.int.injEq, D.str.injEq, D.tup.injEq, D.lst.injEq, List.cons.injEq, and_true, true_and, List.set_cons_zero, List.set_cons_succ, List.length_cons, List.length_nil, List.filterMap_cons, List.filterMap_nil, List.getElem?_cons_zero, List.getElem?_cons_succ, Option.bind_some, ↓reduceIte, if_true, if_false, Bool.false_eq_true, Bool.true_eq_false, decide_eq_true_eq, beq_self_eq_true, Bool.not_true, Bool.not_false, Bool.not_eq_true', decide_eq_false_iff_not, exists_eq_left', exists_eq_left, exists_eq, ↓x_dnT, ↓x_dnF, ↓gAsgL, ↓gMMDef, ↓gDSet, ↓gSItems, ↓x_nilL, ↓x_nilE, List.isEmpty_nil, List.isEmpty_cons, Bool.true_xor, Bool.false_xor, ↓gOrT, ↓gAndT, ↓gTryAs, ↓gTryO, ↓gRaise, ↓gCallX, ↓gMethX, ↓gMakeX, ↓gFldX, ↓x_inXs, Bool.false_xor, Bool.true_xor, ↓gOrS, ↓x_fmtRS, ↓x_afRS, ↓x_afRI, ↓x_stO, ↓x_zipS, ↓x_zipE, ↓x_zipSL, ↓x_zipST, ↓x_zipEL, ↓x_augix, ↓x_isB, ↓x_notB, ↓gLR1, ↓gLR2, ↓gDIxT, ↓gDGt1T, ↓gDSetT, ↓gDNewT, ↓gDIx, ↓gDGt1, ↓gDGt2, ↓gDIn, ↓gDSetd, ↓gDPop1, ↓gDPop2, ↓gTIdx, ↓gLKeys, ↓gDisp, ↓gFrD, ↓gFzD]
  have put : (∀ r, R.getLast? = some r → r.m ≤ m) → isTy "list" S (D.loc j) = true ∧ 0 + 1 + 1 + 1 ≤ sizeLine ∧ aAppend (D.loc j) [D.tup [D.int ↑m, D.str w, D.str x]] S fun x S1 => q D.non S1 := by
    intro hl
    refine ⟨x_tyO hB.2, by decide, (x_app hB.2).mpr ⟨by rw [List.length_map]; exact Nat.lt_of_le_of_lt hR (by decide), ?_⟩⟩
    have e : R.map rwD ++ [D.tup [D.int ↑m, D.str w, D.str x]] = (R ++ [Rw.mk m w x]).map rwD := by simp
    rw [e]
    exact h hl
  refine ⟨by decide, ?_⟩
  split
  · rename_i hne
    obtain ⟨r, hr⟩ : ∃ r, R.getLast? = some r := by
      cases R with
      | nil => cases hne
      | cons y l => exact ⟨(y :: l).getLast (by simp), List.getLast?_eq_some_getLast (by simp)⟩
    refine (x_ix (bk_seq hB) (e := rwD r) (at_neg1 hr)).mpr ?_
    simp only [↓x_eqSS, ↓x_neSS, ↓gKGet, ↓x_kget, ↓x_ixE, at_last, ↓x_appE, ↓x_tyE, ↓x_itE, ↓x_lenE, ↓x_nePr, ↓x_eqPr, ↓x_neE, ↓x_lenr, ↓x_lenrI, ↓gRev, ↓x_par3, ↓x_par33, ↓x_fld, ↓x_fset, ↓x_mkF, ↓x_mk, ↓x_meth, ↓x_fldO, ↓x_fsetE, ↓x_fldE, ↓x_methO, ↓x_isiCO, ↓x_isiCN, ↓x_isiCT, ↓x_isiCLi, ↓x_isiCS, ↓x_isiCI, ↓x_own, ↓x_eqT2, ↓x_neT2, ↓x_neL4, ↓x_eqLN, ↓x_neNil, ↓x_gset, ↓x_lc, ↓x_for, ↓x_it, ↓x_rn1, ↓x_rn2, ↓x_enu, ↓x_zip, ↓x_itS, ↓x_itL, ↓x_itK, ↓x_itT, ↓x_rn1I, ↓x_rn2I, ↓x_enuL, ↓x_enuK, ↓x_zipL, ↓x_ixS0, ↓x_ixL, ↓x_ixT, ↓x_ixK, x_at0, x_at1, x_at2, x_at3, x_at4, ↓x_set00, ↓x_set01, ↓x_set02, ↓x_aug1, ↓x_aug2, ↓x_aug3, ↓x_aug4, ↓x_aug5, ↓x_aug6, ↓x_aug7, ↓x_aug8, ↓x_aug9, ↓x_aug10, ↓x_aug11, ↓x_aug12, ↓x_aug13, ↓x_aug14, ↓x_aug15, ↓x_aug16, ↓x_aug17, ↓x_aug18, ↓x_aug19, ↓x_aug20, ↓x_aug21, ↓x_aug22, ↓x_aug23, Int.reduceToNat, Int.reducePow, ↓gSeq, ↓gIfS, ↓gSet, ↓gAsg, ↓x_par, ↓x_par2, ↓gRet, ↓gRetN, ↓gNext, ↓gDrop, ↓gBreak, ↓gCont, ↓gDead, ↓gCB, ↓gB2, ↓gU, ↓gC, ↓Dl.gCons, ↓Dl.gNil, ↓Dl.gTup, ↓Dl.gLst, ↓gTest, ↓gOrB, ↓gAndB, ↓gNotB, ↓gAndV, ↓gOrV, ↓gNotV, ↓gIf, ↓gIx, ↓gSl, ↓gPart, ↓gNoP, ↓gMt, ↓gCall, ↓gArgs, ↓gIsN, ↓gNotN, ↓gChain, ↓x_fmtS, ↓x_afS, ↓x_afI, ↓x_js0, ↓x_jsc, ↓gJoined, ↓gYes, ↓x_bnm, ↓x_btp, ↓x_bn, ↓x_bc, ↓x_nnN, ↓x_nnI, ↓x_nnS, ↓x_nnB, ↓x_nnT, ↓x_nnL, ↓x_nnO, ↓x_nnl, ↓x_tyS, ↓x_tyL, ↓x_i2, ↓aSub, ↓aFdiv, ↓aMod, ↓aPow, ↓aShr, ↓aLt, ↓aLe, ↓aGt, ↓aGe, ↓x_addI, ↓x_addS, ↓x_mulI, ↓x_iaddS, ↓x_iaddI, ↓x_neg, ↓x_eqI, ↓x_neI, ↓x_eqS, ↓x_neS, ↓x_eqB, ↓x_neB, ↓x_eqNI, ↓x_neNI, ↓x_lenS, ↓x_lenL_l, ↓x_lenL_k, ↓x_lenL_t, ↓x_str, ↓x_intI, ↓x_intB, ↓x_divmod, ↓x_max2, ↓x_min2, ↓x_ixS, ↓x_slS, ↓x_slT, ↓x_slL_l, ↓x_slL_k, ↓x_inS, ↓x_newT, ↓x_newF, ↓x_si, ↓x_s1, ↓x_s0, ↓x_rpart, ↓x_part, ↓x_a1, ↓x_a2, ↓x_isiStr, ↓x_isiInt, ↓x_isiIntB, ↓x_isiIntS, ↓x_isiBB, ↓x_isiBI, ↓x_isiStrI, ↓x_isiNonI, ↓x_isiNonS, ↓x_isiT, ↓x_isiL, ↓x_var0, ↓x_varS, ↓x_ex, ↓x_aug0, gat, pick, Option.some.injEq, D.bl.injEq, D.int.injEq, D.str.injEq, D.tup.injEq, D.lst.injEq, List.cons.injEq, and_true, true_and, List.set_cons_zero, List.set_cons_succ, List.length_cons, List.length_nil, List.filterMap_cons, List.filterMap_nil, List.getElem?_cons_zero, List.getElem?_cons_succ, Option.bind_some, ↓reduceIte, if_true, if_false, Bool.false_eq_true, Bool.true_eq_false, decide_eq_true_eq, beq_self_eq_true, Bool.not_true, Bool.not_false, Bool.not_eq_true', decide_eq_false_iff_not, exists_eq_left', exists_eq_left, exists_eq, ↓x_dnT, ↓x_dnF, ↓gAsgL, ↓gMMDef, ↓gDSet, ↓gSItems, ↓x_nilL, ↓x_nilE, List.isEmpty_nil, List.isEmpty_cons, Bool.true_xor, Bool.false_xor, ↓gOrT, ↓gAndT, ↓gTryAs, ↓gTryO, ↓gRaise, ↓gCallX, ↓gMethX, ↓gMakeX, ↓gFldX, ↓x_inXs, Bool.false_xor, Bool.true_xor, ↓gOrS, ↓x_fmtRS, ↓x_afRS, ↓x_afRI, ↓x_stO, ↓x_zipS, ↓x_zipE, ↓x_zipSL, ↓x_zipST, ↓x_zipEL, ↓x_augix, ↓x_isB, ↓x_notB, ↓gLR1, ↓gLR2, ↓gDIxT, ↓gDGt1T, ↓gDSetT, ↓gDNewT, ↓gDIx, ↓gDGt1, ↓gDGt2, ↓gDIn, ↓gDSetd, ↓gDPop1, ↓gDPop2, ↓gTIdx, ↓gLKeys, ↓gDisp, ↓gFrD, ↓gFzD]
    by_cases c : m < r.m
    · rw [if_pos (by omega)]
      simp only [↓bk_kept T hB]
      refine (x_ix (bk_seq hB) (e := rwD r) (at_neg1 hr)).mpr ?_
      simp only [↓x_eqSS, ↓x_neSS, ↓gKGet, ↓x_kget, ↓x_ixE, at_last, ↓x_appE, ↓x_tyE, ↓x_itE, ↓x_lenE, ↓x_nePr, ↓x_eqPr, ↓x_neE, ↓x_lenr, ↓x_lenrI, ↓gRev, ↓x_par3, ↓x_par33, ↓x_fld, ↓x_fset, ↓x_mkF, ↓x_mk, ↓x_meth, ↓x_fldO, ↓x_fsetE, ↓x_fldE, ↓x_methO, ↓x_isiCO, ↓x_isiCN, ↓x_isiCT, ↓x_isiCLi, ↓x_isiCS, ↓x_isiCI, ↓x_own, ↓x_eqT2, ↓x_neT2, ↓x_neL4, ↓x_eqLN, ↓x_neNil, ↓x_gset, ↓x_lc, ↓x_for, ↓x_it, ↓x_rn1, ↓x_rn2, ↓x_enu, ↓x_zip, ↓x_itS, ↓x_itL, ↓x_itK, ↓x_itT, ↓x_rn1I, ↓x_rn2I, ↓x_enuL, ↓x_enuK, ↓x_zipL, ↓x_ixS0, ↓x_ixL, ↓x_ixT, ↓x_ixK, x_at0, x_at1, x_at2, x_at3, x_at4, ↓x_set00, ↓x_set01, ↓x_set02, ↓x_aug1, ↓x_aug2, ↓x_aug3, ↓x_aug4, ↓x_aug5, ↓x_aug6, ↓x_aug7, ↓x_aug8, ↓x_aug9, ↓x_aug10, ↓x_aug11, ↓x_aug12, ↓x_aug13, ↓x_aug14, ↓x_aug15, ↓x_aug16, ↓x_aug17, ↓x_aug18, ↓x_aug19, ↓x_aug20, ↓x_aug21, ↓x_aug22, ↓x_aug23, Int.reduceToNat, Int.reducePow, ↓gSeq, ↓gIfS, ↓gSet, ↓gAsg, ↓x_par, ↓x_par2, ↓gRet, ↓gRetN, ↓gNext, ↓gDrop, ↓gBreak, ↓gCont, ↓gDead, ↓gCB, ↓gB2, ↓gU, ↓gC, ↓Dl.gCons, ↓Dl.gNil, ↓Dl.gTup, ↓Dl.gLst, ↓gTest, ↓gOrB, ↓gAndB, ↓gNotB, ↓gAndV, ↓gOrV, ↓gNotV, ↓gIf, ↓gIx, ↓gSl, ↓gPart, ↓gNoP, ↓gMt, ↓gCall, ↓gArgs, ↓gIsN, ↓gNotN, ↓gChain, ↓x_fmtS, ↓x_afS, ↓x_afI, ↓x_js0, ↓x_jsc, ↓gJoined, ↓gYes, ↓x_bnm, ↓x_btp, ↓x_bn, ↓x_bc, ↓x_nnN, ↓x_nnI, ↓x_nnS, ↓x_nnB, ↓x_nnT, ↓x_nnL, ↓x_nnO, ↓x_nnl, ↓x_tyS, ↓x_tyL, ↓x_i2, ↓aSub, ↓aFdiv, ↓aMod, ↓aPow, ↓aShr, ↓aLt, ↓aLe, ↓aGt, ↓aGe, ↓x_addI, ↓x_addS, ↓x_mulI, ↓x_iaddS, ↓x_iaddI, ↓x_neg, ↓x_eqI, ↓x_neI, ↓x_eqS, ↓x_neS, ↓x_eqB, ↓x_neB, ↓x_eqNI, ↓x_neNI, ↓x_lenS, ↓x_lenL_l, ↓x_lenL_k, ↓x_lenL_t, ↓x_str, ↓x_intI, ↓x_intB, ↓x_divmod, ↓x_max2, ↓x_min2, ↓x_ixS, ↓x_slS, ↓x_slT, ↓x_slL_l, ↓x_slL_k, ↓x_inS, ↓x_newT, ↓x_newF, ↓x_si, ↓x_s1, ↓x_s0, ↓x_rpart, ↓x_part, ↓x_a1, ↓x_a2, ↓x_isiStr, ↓x_isiInt, ↓x_isiIntB, ↓x_isiIntS, ↓x_isiBB, ↓x_isiBI, ↓x_isiStrI, ↓x_isiNonI, ↓x_isiNonS, ↓x_isiT, ↓x_isiL, ↓x_var0, ↓x_varS, ↓x_ex, ↓x_aug0, gat, pick, Option.some.injEq, D.bl.injEq, D.int.injEq, D.str.injEq, D.tup.injEq, D.lst.injEq, List.cons.injEq, and_true, true_and, List.set_cons_zero, List.set_cons_succ, List.length_cons, List.length_nil, List.filterMap_cons, List.filterMap_nil, List.getElem?_cons_zero, List.getElem?_cons_succ, Option.bind_some, ↓reduceIte, if_true, if_false, Bool.false_eq_true, Bool.true_eq_false, decide_eq_true_eq, beq_self_eq_true, Bool.not_true, Bool.not_false, Bool.not_eq_true', decide_eq_false_iff_not, exists_eq_left', exists_eq_left, exists_eq, ↓x_dnT, ↓x_dnF, ↓gAsgL, ↓gMMDef, ↓gDSet, ↓gSItems, ↓x_nilL, ↓x_nilE, List.isEmpty_nil, List.isEmpty_cons, Bool.true_xor, Bool.false_xor, ↓gOrT, ↓gAndT, ↓gTryAs, ↓gTryO, ↓gRaise, ↓gCallX, ↓gMethX, ↓gMakeX, ↓gFldX, ↓x_inXs, Bool.false_xor, Bool.true_xor, ↓gOrS, ↓x_fmtRS, ↓x_afRS, ↓x_afRI, ↓x_stO, ↓x_zipS, ↓x_zipE, ↓x_zipSL, ↓x_zipST, ↓x_zipEL, ↓x_augix, ↓x_isB, ↓x_notB, ↓gLR1, ↓gLR2, ↓gDIxT, ↓gDGt1T, ↓gDSetT, ↓gDNewT, ↓gDIx, ↓gDGt1, ↓gDGt2, ↓gDIn, ↓gDSetd, ↓gDPop1, ↓gDPop2, ↓gTIdx, ↓gLKeys, ↓gDisp, ↓gFrD, ↓gFzD]
      exact ⟨Nat.le_of_ble_eq_true rfl, [D.int (r.m : Nat)], fun _ => rfl, rfl, hx r hr c⟩
    · rw [if_neg (by omega)]
      simp only [↓bk_kept T hB]
      exact put fun r' h' => by rw [hr] at h'; cases h'; omega
  · rename_i hne
    refine put fun r' h' => ?_
    cases R with
    | nil => cases h'
    | cons y l => exact absurd rfl hne
theorem und_rw {n : Nat} : ∀ {R : List Rw}, D.unders n (R.map rwD) = true
  | [] => rfl
  | r :: R => by
    have ih := und_rw (n := n) (R := R)
    simp [D.unders, D.under, ih]
theorem rf_Book_rows (T : Txt K mg a) : ∀ ds S q, D.unders S.length ds = true → Sto.under S.length S = true → sp_Book_rows a ds S q → g_Book_rows K a { nx := fun _ S' => fin S.length q .non S', rt := fin S.length q } (startD N_Book_rows ds) S := by
  rintro ds S q hu hs ⟨n, j, b, R, rfl, hB, hR, h⟩
  rw [st_Book_rows]
  simp only [g_Book_rows, ↓bk_kept T hB, ↓x_eqSS, ↓x_neSS, ↓gKGet, ↓x_kget, ↓x_ixE, at_last, ↓x_appE, ↓x_tyE, ↓x_itE, ↓x_lenE, ↓x_nePr, ↓x_eqPr, ↓x_neE, ↓x_lenr, ↓x_lenrI, ↓gRev, ↓x_par3, ↓x_par33, ↓x_fld, ↓x_fset, ↓x_mkF, ↓x_mk, ↓x_meth, ↓x_fldO, ↓x_fsetE, ↓x_fldE, ↓x_methO, ↓x_isiCO, ↓x_isiCN, ↓x_isiCT, ↓x_isiCLi, ↓x_isiCS, ↓x_isiCI, ↓x_own, ↓x_eqT2, ↓x_neT2, ↓x_neL4, ↓x_eqLN, ↓x_neNil, ↓x_gset, ↓x_lc, ↓x_for, ↓x_it, ↓x_rn1, ↓x_rn2, ↓x_enu, ↓x_zip, ↓x_itS, ↓x_itL, ↓x_itK, ↓x_itT, ↓x_rn1I, ↓x_rn2I, ↓x_enuL, ↓x_enuK, ↓x_zipL, ↓x_ixS0, ↓x_ixL, ↓x_ixT, ↓x_ixK, x_at0, x_at1, x_at2, x_at3, x_at4, ↓x_set00, ↓x_set01, ↓x_set02, ↓x_aug1, ↓x_aug2, ↓x_aug3, ↓x_aug4, ↓x_aug5, ↓x_aug6, ↓x_aug7, ↓x_aug8, ↓x_aug9, ↓x_aug10, ↓x_aug11, ↓x_aug12, ↓x_aug13, ↓x_aug14, ↓x_aug15, ↓x_aug16, ↓x_aug17, ↓x_aug18, ↓x_aug19, ↓x_aug20, ↓x_aug21, ↓x_aug22, ↓x_aug23, Int.reduceToNat, Int.reducePow, ↓gSeq, ↓gIfS, ↓gSet, ↓gAsg, ↓x_par, ↓x_par2, ↓gRet, ↓gRetN, ↓gNext, ↓gDrop, ↓gBreak, ↓gCont, ↓gDead, ↓gCB, ↓gB2, ↓gU, ↓gC, ↓Dl.gCons, ↓Dl.gNil, ↓Dl.gTup, ↓Dl.gLst, ↓gTest, ↓gOrB, ↓gAndB, ↓gNotB, ↓gAndV, ↓gOrV, ↓gNotV, ↓gIf, ↓gIx, ↓gSl, ↓gPart, ↓gNoP, ↓gMt, ↓gCall, ↓gArgs, ↓gIsN, ↓gNotN, ↓gChain, ↓x_fmtS, ↓x_afS, ↓x_afI, ↓x_js0, ↓x_jsc, ↓gJoined, ↓gYes, ↓x_bnm, ↓x_btp, ↓x_bn, ↓x_bc, ↓x_nnN, ↓x_nnI, ↓x_nnS, ↓x_nnB, ↓x_nnT, ↓x_nnL, ↓x_nnO, ↓x_nnl, ↓x_tyS, ↓x_tyL, ↓x_i2, ↓aSub, ↓aFdiv, ↓aMod, ↓aPow, ↓aShr, ↓aLt, ↓aLe, ↓aGt, ↓aGe, ↓x_addI, ↓x_addS, ↓x_mulI, ↓x_iaddS, ↓x_iaddI, ↓x_neg, ↓x_eqI, ↓x_neI, ↓x_eqS, ↓x_neS, ↓x_eqB, ↓x_neB, ↓x_eqNI, ↓x_neNI, ↓x_lenS, ↓x_lenL_l, ↓x_lenL_k, ↓x_lenL_t, ↓x_str, ↓x_intI, ↓x_intB, ↓x_divmod, ↓x_max2, ↓x_min2, ↓x_ixS, ↓x_slS, ↓x_slT, ↓x_slL_l, ↓x_slL_k, ↓x_inS, ↓x_newT, ↓x_newF, ↓x_si, ↓x_s1, ↓x_s0, ↓x_rpart, ↓x_part, ↓x_a1, ↓x_a2, ↓x_isiStr, ↓x_isiInt, ↓x_isiIntB, ↓x_isiIntS, ↓x_isiBB, ↓x_isiBI, ↓x_isiStrI, ↓x_isiNonI, ↓x_isiNonS, ↓x_isiT, ↓x_isiL, ↓x_var0, ↓x_varS, ↓x_ex, ↓x_aug0, gat, pick, Option.some.injEq, D.bl.injEq, D.int.injEq, D.str.injEq, D.tup.injEq, D.lst.injEq, List.cons.injEq, and_true, true_and, List.set_cons_zero, List.set_cons_succ, List.length_cons, List.length_nil, List.filterMap_cons, List.filterMap_nil, List.getElem?_cons_zero, List.getElem?_cons_succ, Option.bind_some, ↓reduceIte, if_true, if_false, Bool.false_eq_true, Bool.true_eq_false, decide_eq_true_eq, beq_self_eq_true, Bool.not_true, Bool.not_false, Bool.not_eq_true', decide_eq_false_iff_not, exists_eq_left', exists_eq_left, exists_eq, ↓x_dnT, ↓x_dnF, ↓gAsgL, ↓gMMDef, ↓gDSet, ↓gSItems, ↓x_nilL, ↓x_nilE, List.isEmpty_nil, List.isEmpty_cons, Bool.true_xor, Bool.false_xor, ↓gOrT, ↓gAndT, ↓gTryAs, ↓gTryO, ↓gRaise, ↓gCallX, ↓gMethX, ↓gMakeX, ↓gFldX, ↓x_inXs, Bool.false_xor, Bool.true_xor, ↓gOrS, ↓x_fmtRS, ↓x_afRS, ↓x_afRI, ↓x_stO, ↓x_zipS, ↓x_zipE, ↓x_zipSL, ↓x_zipST, ↓x_zipEL, ↓x_augix, ↓x_isB, ↓x_notB, ↓gLR1, ↓gLR2, ↓gDIxT, ↓gDGt1T, ↓gDSetT, ↓gDNewT, ↓gDIx, ↓gDGt1, ↓gDGt2, ↓gDIn, ↓gDSetd, ↓gDPop1, ↓gDPop2, ↓gTIdx, ↓gLKeys, ↓gDisp, ↓gFrD, ↓gFzD]
  exact ⟨_, bk_seq hB, (x_finE hs).mpr ⟨und_rw, h⟩⟩
theorem r_Book_rows_live (T : Txt K mg a) : ∀ ds S q, sp_Book_rows_live a ds S q → g_Book_rows K a { nx := fun _ S' => q .non S', rt := q } (startD N_Book_rows ds) S := by
  rintro ds S q ⟨n, j, b, R, rfl, hB, hR, h⟩
  rw [st_Book_rows]
  simp only [g_Book_rows, ↓bk_kept T hB, ↓x_eqSS, ↓x_neSS, ↓gKGet, ↓x_kget, ↓x_ixE, at_last, ↓x_appE, ↓x_tyE, ↓x_itE, ↓x_lenE, ↓x_nePr, ↓x_eqPr, ↓x_neE, ↓x_lenr, ↓x_lenrI, ↓gRev, ↓x_par3, ↓x_par33, ↓x_fld, ↓x_fset, ↓x_mkF, ↓x_mk, ↓x_meth, ↓x_fldO, ↓x_fsetE, ↓x_fldE, ↓x_methO, ↓x_isiCO, ↓x_isiCN, ↓x_isiCT, ↓x_isiCLi, ↓x_isiCS, ↓x_isiCI, ↓x_own, ↓x_eqT2, ↓x_neT2, ↓x_neL4, ↓x_eqLN, ↓x_neNil, ↓x_gset, ↓x_lc, ↓x_for, ↓x_it, ↓x_rn1, ↓x_rn2, ↓x_enu, ↓x_zip, ↓x_itS, ↓x_itL, ↓x_itK, ↓x_itT, ↓x_rn1I, ↓x_rn2I, ↓x_enuL, ↓x_enuK, ↓x_zipL, ↓x_ixS0, ↓x_ixL, ↓x_ixT, ↓x_ixK, x_at0, x_at1, x_at2, x_at3, x_at4, ↓x_set00, ↓x_set01, ↓x_set02, ↓x_aug1, ↓x_aug2, ↓x_aug3, ↓x_aug4, ↓x_aug5, ↓x_aug6, ↓x_aug7, ↓x_aug8, ↓x_aug9, ↓x_aug10, ↓x_aug11, ↓x_aug12, ↓x_aug13, ↓x_aug14, ↓x_aug15, ↓x_aug16, ↓x_aug17, ↓x_aug18, ↓x_aug19, ↓x_aug20, ↓x_aug21, ↓x_aug22, ↓x_aug23, Int.reduceToNat, Int.reducePow, ↓gSeq, ↓gIfS, ↓gSet, ↓gAsg, ↓x_par, ↓x_par2, ↓gRet, ↓gRetN, ↓gNext, ↓gDrop, ↓gBreak, ↓gCont, ↓gDead, ↓gCB, ↓gB2, ↓gU, ↓gC, ↓Dl.gCons, ↓Dl.gNil, ↓Dl.gTup, ↓Dl.gLst, ↓gTest, ↓gOrB, ↓gAndB, ↓gNotB, ↓gAndV, ↓gOrV, ↓gNotV, ↓gIf, ↓gIx, ↓gSl, ↓gPart, ↓gNoP, ↓gMt, ↓gCall, ↓gArgs, ↓gIsN, ↓gNotN, ↓gChain, ↓x_fmtS, ↓x_afS, ↓x_afI, ↓x_js0, ↓x_jsc, ↓gJoined, ↓gYes, ↓x_bnm, ↓x_btp, ↓x_bn, ↓x_bc, ↓x_nnN, ↓x_nnI, ↓x_nnS, ↓x_nnB, ↓x_nnT, ↓x_nnL, ↓x_nnO, ↓x_nnl, ↓x_tyS, ↓x_tyL, ↓x_i2, ↓aSub, ↓aFdiv, ↓aMod, ↓aPow, ↓aShr, ↓aLt, ↓aLe, ↓aGt, ↓aGe, ↓x_addI, ↓x_addS, ↓x_mulI, ↓x_iaddS, ↓x_iaddI, ↓x_neg, ↓x_eqI, ↓x_neI, ↓x_eqS, ↓x_neS, ↓x_eqB, ↓x_neB, ↓x_eqNI, ↓x_neNI, ↓x_lenS, ↓x_lenL_l, ↓x_lenL_k, ↓x_lenL_t, ↓x_str, ↓x_intI, ↓x_intB, ↓x_divmod, ↓x_max2, ↓x_min2, ↓x_ixS, ↓x_slS, ↓x_slT, ↓x_slL_l, ↓x_slL_k, ↓x_inS, ↓x_newT, ↓x_newF, ↓x_si, ↓x_s1, ↓x_s0, ↓x_rpart, ↓x_part, ↓x_a1, ↓x_a2, ↓x_isiStr, ↓x_isiInt, ↓x_isiIntB, ↓x_isiIntS, ↓x_isiBB, ↓x_isiBI, ↓x_isiStrI, ↓x_isiNonI, ↓x_isiNonS, ↓x_isiT, ↓x_isiL, ↓x_var0, ↓x_varS, ↓x_ex, ↓x_aug0, gat, pick, Option.some.injEq, D.bl.injEq, D.int.injEq, D.str.injEq, D.tup.injEq, D.lst.injEq, List.cons.injEq, and_true, true_and, List.set_cons_zero, List.set_cons_succ, List.length_cons, List.length_nil, List.filterMap_cons, List.filterMap_nil, List.getElem?_cons_zero, List.getElem?_cons_succ, Option.bind_some, ↓reduceIte, if_true, if_false, Bool.false_eq_true, Bool.true_eq_false, decide_eq_true_eq, beq_self_eq_true, Bool.not_true, Bool.not_false, Bool.not_eq_true', decide_eq_false_iff_not, exists_eq_left', exists_eq_left, exists_eq, ↓x_dnT, ↓x_dnF, ↓gAsgL, ↓gMMDef, ↓gDSet, ↓gSItems, ↓x_nilL, ↓x_nilE, List.isEmpty_nil, List.isEmpty_cons, Bool.true_xor, Bool.false_xor, ↓gOrT, ↓gAndT, ↓gTryAs, ↓gTryO, ↓gRaise, ↓gCallX, ↓gMethX, ↓gMakeX, ↓gFldX, ↓x_inXs, Bool.false_xor, Bool.true_xor, ↓gOrS, ↓x_fmtRS, ↓x_afRS, ↓x_afRI, ↓x_stO, ↓x_zipS, ↓x_zipE, ↓x_zipSL, ↓x_zipST, ↓x_zipEL, ↓x_augix, ↓x_isB, ↓x_notB, ↓gLR1, ↓gLR2, ↓gDIxT, ↓gDGt1T, ↓gDSetT, ↓gDNewT, ↓gDIx, ↓gDGt1, ↓gDGt2, ↓gDIn, ↓gDSetd, ↓gDPop1, ↓gDPop2, ↓gTIdx, ↓gLKeys, ↓gDisp, ↓gFrD, ↓gFzD]
  exact ⟨_, bk_seq hB, h⟩
abbrev rwY (r : Rw) : PyData := .tuple [.int (r.m : Nat), .str r.w, .str r.n]
theorem wd_ok {x : Str} (h : WdOk x) : PyData.strOk x = true ∧ x.length ≤ 3 := by rcases h with rfl | rfl <;> decide +kernel
theorem ba_ok {x : Str} (h : BaOk x) : PyData.strOk x = true ∧ x.length ≤ 4 := by rcases h with rfl | rfl <;> decide +kernel
theorem rows_py : ∀ R : List Rw, toPys (R.map rwD) = some (R.map rwY)
  | [] => by simp [toPys]
  | r :: R => by simp [toPys, toPy, rows_py R]
theorem can_rows : ∀ {R : List Rw}, (∀ r ∈ R, RwOk r) → PyData.canLayAll0 (R.map rwY) = true
  | [], _ => by simp [PyData.canLayAll0]
  | r :: R, h => by
    have h1 := h r (List.mem_cons_self ..)
    simp [PyData.canLayAll0, PyData.canLay0, nm_ok h1.2.2, (wd_ok h1.2.1).1, can_rows fun r hr => h r (List.mem_cons_of_mem _ hr)]
theorem dep_rows : ∀ R : List Rw, PyData.depthAll (R.map rwY) ≤ 1
  | [] => by simp [PyData.depthAll]
  | p :: P => by
    have := dep_rows P
    simp [PyData.depthAll, PyData.depth]
    omega
theorem rows_sh {R : List Rw} (h : ∀ r ∈ R, RwOk r) : SeqAt.shaped (.list (R.map rwY)) = true := by
  have := dep_rows R
  simp [SeqAt.shaped, PyData.canLay0, PyData.depth, can_rows h]
  omega
theorem eqv_rows : ∀ R R' : List Rw, PyData.eqvAll (R.map rwY) (R'.map rwY) = decide (R = R')
  | [], [] => by simp [PyData.eqvAll]
  | [], _ :: _ => by simp [PyData.eqvAll]
  | _ :: _, [] => by simp [PyData.eqvAll]
  | ⟨m, w, n⟩ :: R, ⟨m', w', n'⟩ :: R' => by
    rw [List.map_cons, List.map_cons, PyData.eqvAll, eqv_rows R R']
    simp only [PyData.eqv, PyData.eqvAll, Bool.and_true]
    rw [Bool.eq_iff_iff]
    simp only [Bool.and_eq_true, decide_eq_true_eq, beq_iff_eq, List.cons.injEq, Rw.mk.injEq]
    have e : ((m : Int) = m') ↔ m = m' := by omega
    rw [e]
theorem r_Book_len (T : Txt K mg a) : ∀ ds S q, sp_Book_len a ds S q → g_Book_len K a { nx := fun _ S' => q .non S', rt := q } (startD N_Book_len ds) S := by
  rintro ds S q ⟨n, j, b, R, rfl, hB, h⟩
  rw [st_Book_len]
  simp only [g_Book_len, ↓bk_kept T hB, ↓bk_len hB, ↓x_eqSS, ↓x_neSS, ↓gKGet, ↓x_kget, ↓x_ixE, at_last, ↓x_appE, ↓x_tyE, ↓x_itE, ↓x_lenE, ↓x_nePr, ↓x_eqPr, ↓x_neE, ↓x_lenr, ↓x_lenrI, ↓gRev, ↓x_par3, ↓x_par33, ↓x_fld, ↓x_fset, ↓x_mkF, ↓x_mk, ↓x_meth, ↓x_fldO, ↓x_fsetE, ↓x_fldE, ↓x_methO, ↓x_isiCO, ↓x_isiCN, ↓x_isiCT, ↓x_isiCLi, ↓x_isiCS, ↓x_isiCI, ↓x_own, ↓x_eqT2, ↓x_neT2, ↓x_neL4, ↓x_eqLN, ↓x_neNil, ↓x_gset, ↓x_lc, ↓x_for, ↓x_it, ↓x_rn1, ↓x_rn2, ↓x_enu, ↓x_zip, ↓x_itS, ↓x_itL, ↓x_itK, ↓x_itT, ↓x_rn1I, ↓x_rn2I, ↓x_enuL, ↓x_enuK, ↓x_zipL, ↓x_ixS0, ↓x_ixL, ↓x_ixT, ↓x_ixK, x_at0, x_at1, x_at2, x_at3, x_at4, ↓x_set00, ↓x_set01, ↓x_set02, ↓x_aug1, ↓x_aug2, ↓x_aug3, ↓x_aug4, ↓x_aug5, ↓x_aug6, ↓x_aug7, ↓x_aug8, ↓x_aug9, ↓x_aug10, ↓x_aug11, ↓x_aug12, ↓x_aug13, ↓x_aug14, ↓x_aug15, ↓x_aug16, ↓x_aug17, ↓x_aug18, ↓x_aug19, ↓x_aug20, ↓x_aug21, ↓x_aug22, ↓x_aug23, Int.reduceToNat, Int.reducePow, ↓gSeq, ↓gIfS, ↓gSet, ↓gAsg, ↓x_par, ↓x_par2, ↓gRet, ↓gRetN, ↓gNext, ↓gDrop, ↓gBreak, ↓gCont, ↓gDead, ↓gCB, ↓gB2, ↓gU, ↓gC, ↓Dl.gCons, ↓Dl.gNil, ↓Dl.gTup, ↓Dl.gLst, ↓gTest, ↓gOrB, ↓gAndB, ↓gNotB, ↓gAndV, ↓gOrV, ↓gNotV, ↓gIf, ↓gIx, ↓gSl, ↓gPart, ↓gNoP, ↓gMt, ↓gCall, ↓gArgs, ↓gIsN, ↓gNotN, ↓gChain, ↓x_fmtS, ↓x_afS, ↓x_afI, ↓x_js0, ↓x_jsc, ↓gJoined, ↓gYes, ↓x_bnm, ↓x_btp, ↓x_bn, ↓x_bc, ↓x_nnN, ↓x_nnI, ↓x_nnS, ↓x_nnB, ↓x_nnT, ↓x_nnL, ↓x_nnO, ↓x_nnl, ↓x_tyS, ↓x_tyL, ↓x_i2, ↓aSub, ↓aFdiv, ↓aMod, ↓aPow, ↓aShr, ↓aLt, ↓aLe, ↓aGt, ↓aGe, ↓x_addI, ↓x_addS, ↓x_mulI, ↓x_iaddS, ↓x_iaddI, ↓x_neg, ↓x_eqI, ↓x_neI, ↓x_eqS, ↓x_neS, ↓x_eqB, ↓x_neB, ↓x_eqNI, ↓x_neNI, ↓x_lenS, ↓x_lenL_l, ↓x_lenL_k, ↓x_lenL_t, ↓x_str, ↓x_intI, ↓x_intB, ↓x_divmod, ↓x_max2, ↓x_min2, ↓x_ixS, ↓x_slS, ↓x_slT, ↓x_slL_l, ↓x_slL_k, ↓x_inS, ↓x_newT, ↓x_newF, ↓x_si, ↓x_s1, ↓x_s0, ↓x_rpart, ↓x_part, ↓x_a1, ↓x_a2, ↓x_isiStr, ↓x_isiInt, ↓x_isiIntB, ↓x_isiIntS, ↓x_isiBB, ↓x_isiBI, ↓x_isiStrI, ↓x_isiNonI, ↓x_isiNonS, ↓x_isiT, ↓x_isiL, ↓x_var0, ↓x_varS, ↓x_ex, ↓x_aug0, gat, pick, Option.some.injEq, D.bl.injEq, D.int.injEq, D.str.injEq, D.tup.injEq, D.lst.injEq, List.cons.injEq, and_true, true_and, List.set_cons_zero, List.set_cons_succ, List.length_cons, List.length_nil, List.filterMap_cons, List.filterMap_nil, List.getElem?_cons_zero, List.getElem?_cons_succ, Option.bind_some, ↓reduceIte, if_true, if_false, Bool.false_eq_true, Bool.true_eq_false, decide_eq_true_eq, beq_self_eq_true, Bool.not_true, Bool.not_false, Bool.not_eq_true', decide_eq_false_iff_not, exists_eq_left', exists_eq_left, exists_eq, ↓x_dnT, ↓x_dnF, ↓gAsgL, ↓gMMDef, ↓gDSet, ↓gSItems, ↓x_nilL, ↓x_nilE, List.isEmpty_nil, List.isEmpty_cons, Bool.true_xor, Bool.false_xor, ↓gOrT, ↓gAndT, ↓gTryAs, ↓gTryO, ↓gRaise, ↓gCallX, ↓gMethX, ↓gMakeX, ↓gFldX, ↓x_inXs, Bool.false_xor, Bool.true_xor, ↓gOrS, ↓x_fmtRS, ↓x_afRS, ↓x_afRI, ↓x_stO, ↓x_zipS, ↓x_zipE, ↓x_zipSL, ↓x_zipST, ↓x_zipEL, ↓x_augix, ↓x_isB, ↓x_notB, ↓gLR1, ↓gLR2, ↓gDIxT, ↓gDGt1T, ↓gDSetT, ↓gDNewT, ↓gDIx, ↓gDGt1, ↓gDGt2, ↓gDIn, ↓gDSetd, ↓gDPop1, ↓gDPop2, ↓gTIdx, ↓gLKeys, ↓gDisp, ↓gFrD, ↓gFzD]
  exact h
section
variable {S : Sto} {b : Str} {R : List Rw} {q : D → Sto → Prop}
theorem bv_bank (T : Txt K mg a) : aFld K (Str.ofString "bank") (bkV a b R) S q ↔ q (.str b) S := by rw [x_fldO T.f_Book_bank, fg_Book_bank]; simp
theorem bv_kept (T : Txt K mg a) : aFld K (Str.ofString "kept") (bkV a b R) S q ↔ q (.lst (R.map rwD)) S := by rw [x_fldO T.f_Book_kept, fg_Book_kept]; simp
end
theorem r_Book_eq (T : Txt K mg a) : ∀ ds S q, sp_Book_eq a ds S q → g_Book_eq K a { nx := fun _ S' => q .non S', rt := q } (startD N_Book_eq ds) S := by
  rintro ds S q ⟨b, R, e, r, rfl, hs, h⟩
  rw [st_Book_eq]
  rcases hs with ⟨b', R', rfl, hB, hB', rfl⟩ | ⟨⟨t, ht⟩, rfl⟩
  · simp only [g_Book_eq, ↓bv_kept T, ↓bv_bank T, ↓x_eqSS, ↓x_neSS, ↓gKGet, ↓x_kget, ↓x_ixE, at_last, ↓x_appE, ↓x_tyE, ↓x_itE, ↓x_lenE, ↓x_nePr, ↓x_eqPr, ↓x_neE, ↓x_lenr, ↓x_lenrI, ↓gRev, ↓x_par3, ↓x_par33, ↓x_fld, ↓x_fset, ↓x_mkF, ↓x_mk, ↓x_meth, ↓x_fldO, ↓x_fsetE, ↓x_fldE, ↓x_methO, ↓x_isiCO, ↓x_isiCN, ↓x_isiCT, ↓x_isiCLi, ↓x_isiCS, ↓x_isiCI, ↓x_own, ↓x_eqT2, ↓x_neT2, ↓x_neL4, ↓x_eqLN, ↓x_neNil, ↓x_gset, ↓x_lc, ↓x_for, ↓x_it, ↓x_rn1, ↓x_rn2, ↓x_enu, ↓x_zip, ↓x_itS, ↓x_itL, ↓x_itK, ↓x_itT, ↓x_rn1I, ↓x_rn2I, ↓x_enuL, ↓x_enuK, ↓x_zipL, ↓x_ixS0, ↓x_ixL, ↓x_ixT, ↓x_ixK, x_at0, x_at1, x_at2, x_at3, x_at4, ↓x_set00, ↓x_set01, ↓x_set02, ↓x_aug1, ↓x_aug2, ↓x_aug3, ↓x_aug4, ↓x_aug5, ↓x_aug6, ↓x_aug7, ↓x_aug8, ↓x_aug9, ↓x_aug10, ↓x_aug11, ↓x_aug12, ↓x_aug13, ↓x_aug14, ↓x_aug15, ↓x_aug16, ↓x_aug17, ↓x_aug18, ↓x_aug19, ↓x_aug20, ↓x_aug21, ↓x_aug22, ↓x_aug23, Int.reduceToNat, Int.reducePow, ↓gSeq, ↓gIfS, ↓gSet, ↓gAsg, ↓x_par, ↓x_par2, ↓gRet, ↓gRetN, ↓gNext, ↓gDrop, ↓gBreak, ↓gCont, ↓gDead, ↓gCB, ↓gB2, ↓gU, ↓gC, ↓Dl.gCons, ↓Dl.gNil, ↓Dl.gTup, ↓Dl.gLst, ↓gTest, ↓gOrB, ↓gAndB, ↓gNotB, ↓gAndV, ↓gOrV, ↓gNotV, ↓gIf, ↓gIx, ↓gSl, ↓gPart, ↓gNoP, ↓gMt, ↓gCall, ↓gArgs, ↓gIsN, ↓gNotN, ↓gChain, ↓x_fmtS, ↓x_afS, ↓x_afI, ↓x_js0, ↓x_jsc, ↓gJoined, ↓gYes, ↓x_bnm, ↓x_btp, ↓x_bn, ↓x_bc, ↓x_nnN, ↓x_nnI, ↓x_nnS, ↓x_nnB, ↓x_nnT, ↓x_nnL, ↓x_nnO, ↓x_nnl, ↓x_tyS, ↓x_tyL, ↓x_i2, ↓aSub, ↓aFdiv, ↓aMod, ↓aPow, ↓aShr, ↓aLt, ↓aLe, ↓aGt, ↓aGe, ↓x_addI, ↓x_addS, ↓x_mulI, ↓x_iaddS, ↓x_iaddI, ↓x_neg, ↓x_eqI, ↓x_neI, ↓x_eqS, ↓x_neS, ↓x_eqB, ↓x_neB, ↓x_eqNI, ↓x_neNI, ↓x_lenS, ↓x_lenL_l, ↓x_lenL_k, ↓x_lenL_t, ↓x_str, ↓x_intI, ↓x_intB, ↓x_divmod, ↓x_max2, ↓x_min2, ↓x_ixS, ↓x_slS, ↓x_slT, ↓x_slL_l, ↓x_slL_k, ↓x_inS, ↓x_newT, ↓x_newF, ↓x_si, ↓x_s1, ↓x_s0, ↓x_rpart, ↓x_part, ↓x_a1, ↓x_a2, ↓x_isiStr, ↓x_isiInt, ↓x_isiIntB, ↓x_isiIntS, ↓x_isiBB, ↓x_isiBI, ↓x_isiStrI, ↓x_isiNonI, ↓x_isiNonS, ↓x_isiT, ↓x_isiL, ↓x_var0, ↓x_varS, ↓x_ex, ↓x_aug0, gat, pick, Option.some.injEq, D.bl.injEq, D.int.injEq, D.str.injEq, D.tup.injEq, D.lst.injEq, List.cons.injEq, and_true, true_and, List.set_cons_zero, List.set_cons_succ, List.length_cons, List.length_nil, List.filterMap_cons, List.filterMap_nil, List.getElem?_cons_zero, List.getElem?_cons_succ, Option.bind_some, ↓reduceIte, if_true, if_false, Bool.false_eq_true, Bool.true_eq_false, decide_eq_true_eq, beq_self_eq_true, Bool.not_true, Bool.not_false, Bool.not_eq_true', decide_eq_false_iff_not, exists_eq_left', exists_eq_left, exists_eq, ↓x_dnT, ↓x_dnF, ↓gAsgL, ↓gMMDef, ↓gDSet, ↓gSItems, ↓x_nilL, ↓x_nilE, List.isEmpty_nil, List.isEmpty_cons, Bool.true_xor, Bool.false_xor, ↓gOrT, ↓gAndT, ↓gTryAs, ↓gTryO, ↓gRaise, ↓gCallX, ↓gMethX, ↓gMakeX, ↓gFldX, ↓x_inXs, Bool.false_xor, Bool.true_xor, ↓gOrS, ↓x_fmtRS, ↓x_afRS, ↓x_afRI, ↓x_stO, ↓x_zipS, ↓x_zipE, ↓x_zipSL, ↓x_zipST, ↓x_zipEL, ↓x_augix, ↓x_isB, ↓x_notB, ↓gLR1, ↓gLR2, ↓gDIxT, ↓gDGt1T, ↓gDSetT, ↓gDNewT, ↓gDIx, ↓gDGt1, ↓gDGt2, ↓gDIn, ↓gDSetd, ↓gDPop1, ↓gDPop2, ↓gTIdx, ↓gLKeys, ↓gDisp, ↓gFrD, ↓gFzD]
    refine (x_isiCO T.is_Book T.kc_Book_Book).mpr ⟨true, rfl, ?_⟩
    rw [if_pos rfl]
    (try simp only [↓bv_kept T, ↓bv_bank T, ↓x_eqSS, ↓x_neSS, ↓gKGet, ↓x_kget, ↓x_ixE, at_last, ↓x_appE, ↓x_tyE, ↓x_itE, ↓x_lenE, ↓x_nePr, ↓x_eqPr, ↓x_neE, ↓x_lenr, ↓x_lenrI, ↓gRev, ↓x_par3, ↓x_par33, ↓x_fld, ↓x_fset, ↓x_mkF, ↓x_mk, ↓x_meth, ↓x_fldO, ↓x_fsetE, ↓x_fldE, ↓x_methO, ↓x_isiCO, ↓x_isiCN, ↓x_isiCT, ↓x_isiCLi, ↓x_isiCS, ↓x_isiCI, ↓x_own, ↓x_eqT2, ↓x_neT2, ↓x_neL4, ↓x_eqLN, ↓x_neNil, ↓x_gset, ↓x_lc, ↓x_for, ↓x_it, ↓x_rn1, ↓x_rn2, ↓x_enu, ↓x_zip, ↓x_itS, ↓x_itL, ↓x_itK, ↓x_itT, ↓x_rn1I, ↓x_rn2I, ↓x_enuL, ↓x_enuK, ↓x_zipL, ↓x_ixS0, ↓x_ixL, ↓x_ixT, ↓x_ixK, x_at0, x_at1, x_at2, x_at3, x_at4, ↓x_set00, ↓x_set01, ↓x_set02, ↓x_aug1, ↓x_aug2, ↓x_aug3, ↓x_aug4, ↓x_aug5, ↓x_aug6, ↓x_aug7, ↓x_aug8, ↓x_aug9, ↓x_aug10, ↓x_aug11, ↓x_aug12, ↓x_aug13, ↓x_aug14, ↓x_aug15, ↓x_aug16, ↓x_aug17, ↓x_aug18, ↓x_aug19, ↓x_aug20, ↓x_aug21, ↓x_aug22, ↓x_aug23, Int.reduceToNat, Int.reducePow, ↓gSeq, ↓gIfS, ↓gSet, ↓gAsg, ↓x_par, ↓x_par2, ↓gRet, ↓gRetN, ↓gNext, ↓gDrop, ↓gBreak, ↓gCont, ↓gDead, ↓gCB, ↓gB2, ↓gU, ↓gC, ↓Dl.gCons, ↓Dl.gNil, ↓Dl.gTup, ↓Dl.gLst, ↓gTest, ↓gOrB, ↓gAndB, ↓gNotB, ↓gAndV, ↓gOrV, ↓gNotV, ↓gIf, ↓gIx, ↓gSl, ↓gPart, ↓gNoP, ↓gMt, ↓gCall, ↓gArgs, ↓gIsN, ↓gNotN, ↓gChain, ↓x_fmtS, ↓x_afS, ↓x_afI, ↓x_js0, ↓x_jsc, ↓gJoined, ↓gYes, ↓x_bnm, ↓x_btp, ↓x_bn, ↓x_bc, ↓x_nnN, ↓x_nnI, ↓x_nnS, ↓x_nnB, ↓x_nnT, ↓x_nnL, ↓x_nnO, ↓x_nnl, ↓x_tyS, ↓x_tyL, ↓x_i2, ↓aSub, ↓aFdiv, ↓aMod, ↓aPow, ↓aShr, ↓aLt, ↓aLe, ↓aGt, ↓aGe, ↓x_addI, ↓x_addS, ↓x_mulI, ↓x_iaddS, ↓x_iaddI, ↓x_neg, ↓x_eqI, ↓x_neI, ↓x_eqS, ↓x_neS, ↓x_eqB, ↓x_neB, ↓x_eqNI, ↓x_neNI, ↓x_lenS, ↓x_lenL_l, ↓x_lenL_k, ↓x_lenL_t, ↓x_str, ↓x_intI, ↓x_intB, ↓x_divmod, ↓x_max2, ↓x_min2, ↓x_ixS, ↓x_slS, ↓x_slT, ↓x_slL_l, ↓x_slL_k, ↓x_inS, ↓x_newT, ↓x_newF, ↓x_si, ↓x_s1, ↓x_s0, ↓x_rpart, ↓x_part, ↓x_a1, ↓x_a2, ↓x_isiStr, ↓x_isiInt, ↓x_isiIntB, ↓x_isiIntS, ↓x_isiBB, ↓x_isiBI, ↓x_isiStrI, ↓x_isiNonI, ↓x_isiNonS, ↓x_isiT, ↓x_isiL, ↓x_var0, ↓x_varS, ↓x_ex, ↓x_aug0, gat, pick, Option.some.injEq, D.bl.injEq, D.int.injEq, D.str.injEq, D.tup.injEq, D.lst.injEq, List.cons.injEq, and_true, true_and, List.set_cons_zero, List.set_cons_succ, List.length_cons, List.length_nil, List.filterMap_cons, List.filterMap_nil, List.getElem?_cons_zero, List.getElem?_cons_succ, Option.bind_some, ↓reduceIte, if_true, if_false, Bool.false_eq_true, Bool.true_eq_false, decide_eq_true_eq, beq_self_eq_true, Bool.not_true, Bool.not_false, Bool.not_eq_true', decide_eq_false_iff_not, exists_eq_left', exists_eq_left, exists_eq, ↓x_dnT, ↓x_dnF, ↓gAsgL, ↓gMMDef, ↓gDSet, ↓gSItems, ↓x_nilL, ↓x_nilE, List.isEmpty_nil, List.isEmpty_cons, Bool.true_xor, Bool.false_xor, ↓gOrT, ↓gAndT, ↓gTryAs, ↓gTryO, ↓gRaise, ↓gCallX, ↓gMethX, ↓gMakeX, ↓gFldX, ↓x_inXs, Bool.false_xor, Bool.true_xor, ↓gOrS, ↓x_fmtRS, ↓x_afRS, ↓x_afRI, ↓x_stO, ↓x_zipS, ↓x_zipE, ↓x_zipSL, ↓x_zipST, ↓x_zipEL, ↓x_augix, ↓x_isB, ↓x_notB, ↓gLR1, ↓gLR2, ↓gDIxT, ↓gDGt1T, ↓gDSetT, ↓gDNewT, ↓gDIx, ↓gDGt1, ↓gDGt2, ↓gDIn, ↓gDSetd, ↓gDPop1, ↓gDPop2, ↓gTIdx, ↓gLKeys, ↓gDisp, ↓gFrD, ↓gFzD])
    refine ⟨(ba_ok hB.ba).1, (ba_ok hB'.ba).1, ?_⟩
    by_cases c : b = b'
    · rw [if_pos c]
      refine (x_eq (p := .list (R.map rwY)) (p' := .list (R'.map rwY)) (by simp only [toPyS, toPy, rows_py]; rfl) (by simp only [toPyS, toPy, rows_py]; rfl)).mpr ⟨rows_sh hB.ro, rows_sh hB'.ro, ?_⟩
      simp only [PyData.eqv, eqv_rows]
      have e : decide (b = b' ∧ R = R') = decide (R = R') := by simp [c]
      rwa [e] at h
    · rw [if_neg c]
      have e : decide (b = b' ∧ R = R') = false := by simp [c]
      rwa [e] at h
  · simp only [g_Book_eq, ↓bv_kept T, ↓bv_bank T, ↓x_eqSS, ↓x_neSS, ↓gKGet, ↓x_kget, ↓x_ixE, at_last, ↓x_appE, ↓x_tyE, ↓x_itE, ↓x_lenE, ↓x_nePr, ↓x_eqPr, ↓x_neE, ↓x_lenr, ↓x_lenrI, ↓gRev, ↓x_par3, ↓x_par33, ↓x_fld, ↓x_fset, ↓x_mkF, ↓x_mk, ↓x_meth, ↓x_fldO, ↓x_fsetE, ↓x_fldE, ↓x_methO, ↓x_isiCO, ↓x_isiCN, ↓x_isiCT, ↓x_isiCLi, ↓x_isiCS, ↓x_isiCI, ↓x_own, ↓x_eqT2, ↓x_neT2, ↓x_neL4, ↓x_eqLN, ↓x_neNil, ↓x_gset, ↓x_lc, ↓x_for, ↓x_it, ↓x_rn1, ↓x_rn2, ↓x_enu, ↓x_zip, ↓x_itS, ↓x_itL, ↓x_itK, ↓x_itT, ↓x_rn1I, ↓x_rn2I, ↓x_enuL, ↓x_enuK, ↓x_zipL, ↓x_ixS0, ↓x_ixL, ↓x_ixT, ↓x_ixK, x_at0, x_at1, x_at2, x_at3, x_at4, ↓x_set00, ↓x_set01, ↓x_set02, ↓x_aug1, ↓x_aug2, ↓x_aug3, ↓x_aug4, ↓x_aug5, ↓x_aug6, ↓x_aug7, ↓x_aug8, ↓x_aug9, ↓x_aug10, ↓x_aug11, ↓x_aug12, ↓x_aug13, ↓x_aug14, ↓x_aug15, ↓x_aug16, ↓x_aug17, ↓x_aug18, ↓x_aug19, ↓x_aug20, ↓x_aug21, ↓x_aug22, ↓x_aug23, Int.reduceToNat, Int.reducePow, ↓gSeq, ↓gIfS, ↓gSet, ↓gAsg, ↓x_par, ↓x_par2, ↓gRet, ↓gRetN, ↓gNext, ↓gDrop, ↓gBreak, ↓gCont, ↓gDead, ↓gCB, ↓gB2, ↓gU, ↓gC, ↓Dl.gCons, ↓Dl.gNil, ↓Dl.gTup, ↓Dl.gLst, ↓gTest, ↓gOrB, ↓gAndB, ↓gNotB, ↓gAndV, ↓gOrV, ↓gNotV, ↓gIf, ↓gIx, ↓gSl, ↓gPart, ↓gNoP, ↓gMt, ↓gCall, ↓gArgs, ↓gIsN, ↓gNotN, ↓gChain, ↓x_fmtS, ↓x_afS, ↓x_afI, ↓x_js0, ↓x_jsc, ↓gJoined, ↓gYes, ↓x_bnm, ↓x_btp, ↓x_bn, ↓x_bc, ↓x_nnN, ↓x_nnI, ↓x_nnS, ↓x_nnB, ↓x_nnT, ↓x_nnL, ↓x_nnO, ↓x_nnl, ↓x_tyS, ↓x_tyL, ↓x_i2, ↓aSub, ↓aFdiv, ↓aMod, ↓aPow, ↓aShr, ↓aLt, ↓aLe, ↓aGt, ↓aGe, ↓x_addI, ↓x_addS, ↓x_mulI, ↓x_iaddS, ↓x_iaddI, ↓x_neg, ↓x_eqI, ↓x_neI, ↓x_eqS, ↓x_neS, ↓x_eqB, ↓x_neB, ↓x_eqNI, ↓x_neNI, ↓x_lenS, ↓x_lenL_l, ↓x_lenL_k, ↓x_lenL_t, ↓x_str, ↓x_intI, ↓x_intB, ↓x_divmod, ↓x_max2, ↓x_min2, ↓x_ixS, ↓x_slS, ↓x_slT, ↓x_slL_l, ↓x_slL_k, ↓x_inS, ↓x_newT, ↓x_newF, ↓x_si, ↓x_s1, ↓x_s0, ↓x_rpart, ↓x_part, ↓x_a1, ↓x_a2, ↓x_isiStr, ↓x_isiInt, ↓x_isiIntB, ↓x_isiIntS, ↓x_isiBB, ↓x_isiBI, ↓x_isiStrI, ↓x_isiNonI, ↓x_isiNonS, ↓x_isiT, ↓x_isiL, ↓x_var0, ↓x_varS, ↓x_ex, ↓x_aug0, gat, pick, Option.some.injEq, D.bl.injEq, D.int.injEq, D.str.injEq, D.tup.injEq, D.lst.injEq, List.cons.injEq, and_true, true_and, List.set_cons_zero, List.set_cons_succ, List.length_cons, List.length_nil, List.filterMap_cons, List.filterMap_nil, List.getElem?_cons_zero, List.getElem?_cons_succ, Option.bind_some, ↓reduceIte, if_true, if_false, Bool.false_eq_true, Bool.true_eq_false, decide_eq_true_eq, beq_self_eq_true, Bool.not_true, Bool.not_false, Bool.not_eq_true', decide_eq_false_iff_not, exists_eq_left', exists_eq_left, exists_eq, ↓x_dnT, ↓x_dnF, ↓gAsgL, ↓gMMDef, ↓gDSet, ↓gSItems, ↓x_nilL, ↓x_nilE, List.isEmpty_nil, List.isEmpty_cons, Bool.true_xor, Bool.false_xor, ↓gOrT, ↓gAndT, ↓gTryAs, ↓gTryO, ↓gRaise, ↓gCallX, ↓gMethX, ↓gMakeX, ↓gFldX, ↓x_inXs, Bool.false_xor, Bool.true_xor, ↓gOrS, ↓x_fmtRS, ↓x_afRS, ↓x_afRI, ↓x_stO, ↓x_zipS, ↓x_zipE, ↓x_zipSL, ↓x_zipST, ↓x_zipEL, ↓x_augix, ↓x_isB, ↓x_notB, ↓gLR1, ↓gLR2, ↓gDIxT, ↓gDGt1T, ↓gDSetT, ↓gDNewT, ↓gDIx, ↓gDGt1, ↓gDGt2, ↓gDIn, ↓gDSetd, ↓gDPop1, ↓gDPop2, ↓gTIdx, ↓gLKeys, ↓gDisp, ↓gFrD, ↓gFzD]
    refine ⟨_, rfl, .inr ⟨t, Mn.bk_ty ht, T.kb_Book, false, rfl, ?_⟩⟩
    rw [if_neg (by decide)]
    exact h
end
end Lw
namespace Lw
open PySem L2 Dl
section
variable {P : Program} {w : World} {K : PySem.W.Frag} {mg : Str → Option Value} {base : Heap} {a : Ad}
theorem sub_tl {x : Str} {P : Nat → Prop} (h : ∀ c ∈ x.cps.toList, P c) {y : Str} (h' : ∀ c ∈ y.cps.toList, P c) : ∀ c ∈ (x ++ y).cps.toList, P c := fun c hc => by
  have hc : c ∈ (x.cps ++ y.cps).toList := hc
  rw [Array.toList_append, List.mem_append] at hc
  exact hc.elim (h c) (h' c)
theorem T_signs {m : Nat} (hm : m ≤ 1000000) : ∀ c ∈ (Mt.T m).cps.toList, 43 ≤ c ∧ c ≤ 58 := by
  have hh : ∀ h k : Nat, h < 60 → k < 60 → ∀ c ∈ (Mt.hm h k).cps.toList, 43 ≤ c ∧ c ≤ 58 := fun h k h1 h2 c hc => by
    have hc : c ∈ [48 + h / 10, 48 + h % 10, 58, 48 + k / 10, 48 + k % 10] := hc
    simp only [List.mem_cons, List.not_mem_nil, or_false] at hc
    omega
  unfold Mt.T
  split
  · exact hh _ _ (by omega) (by omega)
  · refine sub_tl (hh _ _ (by omega) (by omega)) (sub_tl (fun c hc => ?_) fun c hc => ?_)
    · rw [Mt.plus_eq] at hc
      have : c = 43 := by simpa using hc
      omega
    · have := (Mt.figs_iff.mp (Mt.day_figs (m / 1440) (by omega))).2 c hc
      omega
theorem wd_signs {x : Str} (h : WdOk x) : ∀ c ∈ x.cps.toList, 97 ≤ c ∧ c ≤ 122 := by rcases h with rfl | rfl <;> decide +kernel
theorem spS_tl : spS.cps.toList = [32] := by decide +kernel
theorem row_len {r : Rw} (h : RwOk r) : (rowT r).length ≤ 23 := by
  unfold rowT
  rw [Mt.len_app, Mt.len_app, Mt.len_app, Mt.len_app]
  have h1 := Mt.T_len h.1
  have h2 := (wd_ok h.2.1).2
  have h3 := h.2.2.2.1
  have h4 : spS.length = 1 := by decide +kernel
  omega
theorem row_signs {r : Rw} (h : RwOk r) : ∀ c ∈ (rowT r).cps.toList, 32 ≤ c ∧ c ≤ 122 := by
  have hs : ∀ c ∈ spS.cps.toList, 32 ≤ c ∧ c ≤ 122 := fun c hc => by
    rw [spS_tl] at hc
    have : c = 32 := by simpa using hc
    omega
  unfold rowT
  refine sub_tl (sub_tl (sub_tl (sub_tl (fun c hc => ?_) hs) fun c hc => ?_) hs) fun c hc => ?_
  · have := T_signs h.1 c hc; omega
  · have := wd_signs h.2.1 c hc; omega
  · have := h.2.2.2.2 c hc; omega
theorem row_ok {r : Rw} (h : RwOk r) : Mt.sOk (rowT r) := ⟨Nat.le_trans (row_len h) (by decide), Mt.ok_all.mpr fun c hc => by have := row_signs h c hc; omega⟩
theorem sum_le {M : Nat} : ∀ {l : List Str}, (∀ x ∈ l, x.length ≤ M) → (l.map (·.length)).sum ≤ M * l.length
  | [], _ => Nat.zero_le _
  | x :: l, h => by
    have := sum_le fun y hy => h y (List.mem_cons_of_mem _ hy)
    have h1 := h x (List.mem_cons_self ..)
    rw [List.map_cons, List.sum_cons, List.length_cons, Nat.mul_add]
    omega
theorem lines_23 {b : Str} {R : List Rw} (hb : BaOk b) (h : ∀ r ∈ R, RwOk r) : ∀ x ∈ b :: R.map rowT, x.length ≤ 23 := fun x hx => by
  rcases List.mem_cons.mp hx with rfl | hx
  · have := (ba_ok hb).2; omega
  · obtain ⟨r, hr, rfl⟩ := List.mem_map.mp hx
    exact row_len (h r hr)
theorem bk_fit {b : Str} {R : List Rw} (hb : BaOk b) (h : ∀ r ∈ R, RwOk r) (hR : R.length ≤ 1000) : ((b :: R.map rowT).map (·.length)).sum + (b :: R.map rowT).length * (Str.ofString "\n").length ≤ 30000 := by
  have h1 := sum_le (lines_23 hb h)
  have h2 : (b :: R.map rowT).length = R.length + 1 := by simp
  have h3 : (Str.ofString "\n").length = 1 := by decide +kernel
  rw [h2] at h1 ⊢
  rw [h3]
  omega
theorem x_b3 {ρ : Env_} {i j l : Nat} {x y z : D} : Tgt.bind (.tp [.nm i, .nm j, .nm l]) (.tup [x, y, z]) ρ = some (((ρ.set i (some x)).set j (some y)).set l (some z)) := by simp [Tgt.bind, Tgt.binds]
theorem BkAt.app {S X : Sto} {n j : Nat} {b : Str} {R : List Rw} (h : BkAt a S n j b R) : BkAt a (S ++ X) n j b R := by
  have h1 := (List.getElem?_eq_some_iff.mp h.1).1
  have h2 := (List.getElem?_eq_some_iff.mp h.2).1
  exact ⟨by rw [List.getElem?_append_left h1]; exact h.1, by rw [List.getElem?_append_left h2]; exact h.2⟩
theorem bk2_at {S X : Sto} {n : Nat} {b : Str} {R : List Rw} (e : n = S.length) : BkAt a (S ++ bk2 a n b R ++ X) n (n + 1) b R := by
  subst e
  refine BkAt.app ⟨by simp, ?_⟩
  rw [List.getElem?_append_right (by omega)]
  simp
theorem bk2_set {S X : Sto} {n : Nat} {b : Str} {R R' : List Rw} (e : n = S.length) : (S ++ bk2 a n b R ++ X).set (n + 1) (some (.lst (R'.map rwD))) = S ++ bk2 a n b R' ++ X := by
  subst e
  rw [List.append_assoc, List.set_append_right _ _ (by omega)]
  simp
theorem take_snoc {A : Type} {L : List A} {i : Nat} {x : A} (h : L[i]? = some x) : L.take (i + 1) = L.take i ++ [x] := by rw [List.take_add_one, h]; rfl
theorem x_b2 {ρ : Env_} {i j : Nat} {x y : D} : Tgt.bind (.tp [.nm i, .nm j]) (.tup [x, y]) ρ = some ((ρ.set i (some x)).set j (some y)) := by simp [Tgt.bind, Tgt.binds]
theorem rise_take {R : List Rw} {i : Nat} {r : Rw} (h : Rise R) (hr : R[i]? = some r) : ∀ r' ∈ R.take i, r'.m ≤ r.m := fun r' h' => by
  obtain ⟨k, hk, e⟩ := List.mem_iff_getElem.mp h'
  rw [List.length_take] at hk
  rw [List.getElem_take] at e
  obtain ⟨hi, e2⟩ := List.getElem?_eq_some_iff.mp hr
  have := List.pairwise_iff_getElem.mp h k i (by omega) hi (by omega)
  rwa [e, e2] at this
theorem it_kd {S : Sto} {kd : D} {ds : List D} {k : QI} (h : (∃ j, kd = .loc j) ∨ ∃ l, kd = .lst l) (hs : seqOf S kd = some ds) (hk : k ds (fun S' => seqOf S' kd = some ds) S) : aIt kd S k := by
  rcases h with ⟨j, rfl⟩ | ⟨l, rfl⟩ <;> exact ⟨_, hs, hk⟩
theorem bi_of (T : Txt K mg a) {S : Sto} {d : D} {b : Str} {R : List Rw} (h : BkIs a S d b R) : ∃ kd, ((∃ j, kd = .loc j) ∨ ∃ l, kd = .lst l) ∧ (∀ X q, aFld K (Str.ofString "kept") d (S ++ X) q ↔ q kd (S ++ X)) ∧ (∀ X q, aFld K (Str.ofString "bank") d (S ++ X) q ↔ q (.str b) (S ++ X)) ∧ ∀ X, seqOf (S ++ X) kd = some (R.map rwD) := by
  rcases h with ⟨n, j, rfl, hB⟩ | rfl
  · exact ⟨.loc j, .inl ⟨j, rfl⟩, fun X q => bk_kept T hB.app, fun X q => bk_bank T hB.app, fun X => bk_seq hB.app⟩
  · exact ⟨.lst (R.map rwD), .inr ⟨_, rfl⟩, fun X q => bv_kept T, fun X q => bv_bank T, fun X => rfl⟩
theorem rf_Book_str (T : Txt K mg a) : ∀ ds S q, D.unders S.length ds = true → Sto.under S.length S = true → sp_Book_str a ds S q → g_Book_str K a { nx := fun _ S' => fin S.length q .non S', rt := fin S.length q } (startD N_Book_str ds) S := by
  rintro ds S q hu hs ⟨d, b, R, rfl, hI, hO, h⟩
  have hb := hO.ba
  have hR := hO.ro
  have hl := hO.le
  rw [st_Book_str]
  have hs' : 100000 ≤ sizeLine := by decide
  obtain ⟨kd, h4, h1, h2, h3⟩ := bi_of T hI
  have h20 := h2 []
  rw [List.append_nil] at h20
  simp only [g_Book_str, ↓x_eqSS, ↓x_neSS, ↓gKGet, ↓x_kget, ↓x_ixE, at_last, ↓x_appE, ↓x_tyE, ↓x_itE, ↓x_lenE, ↓x_nePr, ↓x_eqPr, ↓x_neE, ↓x_lenr, ↓x_lenrI, ↓gRev, ↓x_par3, ↓x_par33, ↓x_fld, ↓x_fset, ↓x_mkF, ↓x_mk, ↓x_meth, ↓x_fldO, ↓x_fsetE, ↓x_fldE, ↓x_methO, ↓x_isiCO, ↓x_isiCN, ↓x_isiCT, ↓x_isiCLi, ↓x_isiCS, ↓x_isiCI, ↓x_own, ↓x_eqT2, ↓x_neT2, ↓x_neL4, ↓x_eqLN, ↓x_neNil, ↓x_gset, ↓x_lc, ↓x_for, ↓x_it, ↓x_rn1, ↓x_rn2, ↓x_enu, ↓x_zip, ↓x_itS, ↓x_itL, ↓x_itK, ↓x_itT, ↓x_rn1I, ↓x_rn2I, ↓x_enuL, ↓x_enuK, ↓x_zipL, ↓x_ixS0, ↓x_ixL, ↓x_ixT, ↓x_ixK, x_at0, x_at1, x_at2, x_at3, x_at4, ↓x_set00, ↓x_set01, ↓x_set02, ↓x_aug1, ↓x_aug2, ↓x_aug3, ↓x_aug4, ↓x_aug5, ↓x_aug6, ↓x_aug7, ↓x_aug8, ↓x_aug9, ↓x_aug10, ↓x_aug11, ↓x_aug12, ↓x_aug13, ↓x_aug14, ↓x_aug15, ↓x_aug16, ↓x_aug17, ↓x_aug18, ↓x_aug19, ↓x_aug20, ↓x_aug21, ↓x_aug22, ↓x_aug23, Int.reduceToNat, Int.reducePow, ↓gSeq, ↓gIfS, ↓gSet, ↓gAsg, ↓x_par, ↓x_par2, ↓gRet, ↓gRetN, ↓gNext, ↓gDrop, ↓gBreak, ↓gCont, ↓gDead, ↓gCB, ↓gB2, ↓gU, ↓gC, ↓Dl.gCons, ↓Dl.gNil, ↓Dl.gTup, ↓Dl.gLst, ↓gTest, ↓gOrB, ↓gAndB, ↓gNotB, ↓gAndV, ↓gOrV, ↓gNotV, ↓gIf, ↓gIx, ↓gSl, ↓gPart, ↓gNoP, ↓gMt, ↓gCall, ↓gArgs, ↓gIsN, ↓gNotN, ↓gChain, ↓x_fmtS, ↓x_afS, ↓x_afI, ↓x_js0, ↓x_jsc, ↓gJoined, ↓gYes, ↓x_bnm, ↓x_btp, ↓x_bn, ↓x_bc, ↓x_nnN, ↓x_nnI, ↓x_nnS, ↓x_nnB, ↓x_nnT, ↓x_nnL, ↓x_nnO, ↓x_nnl, ↓x_tyS, ↓x_tyL, ↓x_i2, ↓aSub, ↓aFdiv, ↓aMod, ↓aPow, ↓aShr, ↓aLt, ↓aLe, ↓aGt, ↓aGe, ↓x_addI, ↓x_addS, ↓x_mulI, ↓x_iaddS, ↓x_iaddI, ↓x_neg, ↓x_eqI, ↓x_neI, ↓x_eqS, ↓x_neS, ↓x_eqB, ↓x_neB, ↓x_eqNI, ↓x_neNI, ↓x_lenS, ↓x_lenL_l, ↓x_lenL_k, ↓x_lenL_t, ↓x_str, ↓x_intI, ↓x_intB, ↓x_divmod, ↓x_max2, ↓x_min2, ↓x_ixS, ↓x_slS, ↓x_slT, ↓x_slL_l, ↓x_slL_k, ↓x_inS, ↓x_newT, ↓x_newF, ↓x_si, ↓x_s1, ↓x_s0, ↓x_rpart, ↓x_part, ↓x_a1, ↓x_a2, ↓x_isiStr, ↓x_isiInt, ↓x_isiIntB, ↓x_isiIntS, ↓x_isiBB, ↓x_isiBI, ↓x_isiStrI, ↓x_isiNonI, ↓x_isiNonS, ↓x_isiT, ↓x_isiL, ↓x_var0, ↓x_varS, ↓x_ex, ↓x_aug0, gat, pick, Option.some.injEq, D.bl.injEq, D.int.injEq, D.str.injEq, D.tup.injEq, D.lst.injEq, List.cons.injEq, and_true, true_and, List.set_cons_zero, List.set_cons_succ, List.length_cons, List.length_nil, List.filterMap_cons, List.filterMap_nil, List.getElem?_cons_zero, List.getElem?_cons_succ, Option.bind_some, ↓reduceIte, if_true, if_false, Bool.false_eq_true, Bool.true_eq_false, decide_eq_true_eq, beq_self_eq_true, Bool.not_true, Bool.not_false, Bool.not_eq_true', decide_eq_false_iff_not, exists_eq_left', exists_eq_left, exists_eq, ↓x_dnT, ↓x_dnF, ↓gAsgL, ↓gMMDef, ↓gDSet, ↓gSItems, ↓x_nilL, ↓x_nilE, List.isEmpty_nil, List.isEmpty_cons, Bool.true_xor, Bool.false_xor, ↓gOrT, ↓gAndT, ↓gTryAs, ↓gTryO, ↓gRaise, ↓gCallX, ↓gMethX, ↓gMakeX, ↓gFldX, ↓x_inXs, Bool.false_xor, Bool.true_xor, ↓gOrS, ↓x_fmtRS, ↓x_afRS, ↓x_afRI, ↓x_stO, ↓x_zipS, ↓x_zipE, ↓x_zipSL, ↓x_zipST, ↓x_zipEL, ↓x_augix, ↓x_isB, ↓x_notB, ↓gLR1, ↓gLR2, ↓gDIxT, ↓gDGt1T, ↓gDSetT, ↓gDNewT, ↓gDIx, ↓gDGt1, ↓gDGt2, ↓gDIn, ↓gDSetd, ↓gDPop1, ↓gDPop2, ↓gTIdx, ↓gLKeys, ↓gDisp, ↓gFrD, ↓gFzD]
  rw [h20]
  refine ⟨by decide, ?_⟩
  rw [h1]
  refine it_kd h4 (h3 _) ?_
  refine ⟨fun i ρ S' => S' = S ++ [some (.lst ((b :: (R.take i).map rowT).map .str))] ∧ ∃ x2 x3 x4, ρ = [some d, some (.loc S.length), x2, x3, x4], ⟨rfl, _, _, _, rfl⟩, ?_, ?_⟩
  · rintro i d0 ρ S' hd ⟨rfl, x2, x3, x4, rfl⟩
    rw [List.getElem?_map] at hd
    obtain ⟨r, hr, rfl⟩ := Option.map_eq_some_iff.mp hd
    have hok := hR r (List.mem_of_getElem? hr)
    refine ⟨h3 _, _, x_b3, ?_⟩
    simp only [↓x_eqSS, ↓x_neSS, ↓gKGet, ↓x_kget, ↓x_ixE, at_last, ↓x_appE, ↓x_tyE, ↓x_itE, ↓x_lenE, ↓x_nePr, ↓x_eqPr, ↓x_neE, ↓x_lenr, ↓x_lenrI, ↓gRev, ↓x_par3, ↓x_par33, ↓x_fld, ↓x_fset, ↓x_mkF, ↓x_mk, ↓x_meth, ↓x_fldO, ↓x_fsetE, ↓x_fldE, ↓x_methO, ↓x_isiCO, ↓x_isiCN, ↓x_isiCT, ↓x_isiCLi, ↓x_isiCS, ↓x_isiCI, ↓x_own, ↓x_eqT2, ↓x_neT2, ↓x_neL4, ↓x_eqLN, ↓x_neNil, ↓x_gset, ↓x_lc, ↓x_for, ↓x_it, ↓x_rn1, ↓x_rn2, ↓x_enu, ↓x_zip, ↓x_itS, ↓x_itL, ↓x_itK, ↓x_itT, ↓x_rn1I, ↓x_rn2I, ↓x_enuL, ↓x_enuK, ↓x_zipL, ↓x_ixS0, ↓x_ixL, ↓x_ixT, ↓x_ixK, x_at0, x_at1, x_at2, x_at3, x_at4, ↓x_set00, ↓x_set01, ↓x_set02, ↓x_aug1, ↓x_aug2, ↓x_aug3, ↓x_aug4, ↓x_aug5, ↓x_aug6, ↓x_aug7, ↓x_aug8, ↓x_aug9, ↓x_aug10, ↓x_aug11, ↓x_aug12, ↓x_aug13, ↓x_aug14, ↓x_aug15, ↓x_aug16, ↓x_aug17, ↓x_aug18, ↓x_aug19, ↓x_aug20, ↓x_aug21, ↓x_aug22, ↓x_aug23, Int.reduceToNat, Int.reducePow, ↓gSeq, ↓gIfS, ↓gSet, ↓gAsg, ↓x_par, ↓x_par2, ↓gRet, ↓gRetN, ↓gNext, ↓gDrop, ↓gBreak, ↓gCont, ↓gDead, ↓gCB, ↓gB2, ↓gU, ↓gC, ↓Dl.gCons, ↓Dl.gNil, ↓Dl.gTup, ↓Dl.gLst, ↓gTest, ↓gOrB, ↓gAndB, ↓gNotB, ↓gAndV, ↓gOrV, ↓gNotV, ↓gIf, ↓gIx, ↓gSl, ↓gPart, ↓gNoP, ↓gMt, ↓gCall, ↓gArgs, ↓gIsN, ↓gNotN, ↓gChain, ↓x_fmtS, ↓x_afS, ↓x_afI, ↓x_js0, ↓x_jsc, ↓gJoined, ↓gYes, ↓x_bnm, ↓x_btp, ↓x_bn, ↓x_bc, ↓x_nnN, ↓x_nnI, ↓x_nnS, ↓x_nnB, ↓x_nnT, ↓x_nnL, ↓x_nnO, ↓x_nnl, ↓x_tyS, ↓x_tyL, ↓x_i2, ↓aSub, ↓aFdiv, ↓aMod, ↓aPow, ↓aShr, ↓aLt, ↓aLe, ↓aGt, ↓aGe, ↓x_addI, ↓x_addS, ↓x_mulI, ↓x_iaddS, ↓x_iaddI, ↓x_neg, ↓x_eqI, ↓x_neI, ↓x_eqS, ↓x_neS, ↓x_eqB, ↓x_neB, ↓x_eqNI, ↓x_neNI, ↓x_lenS, ↓x_lenL_l, ↓x_lenL_k, ↓x_lenL_t, ↓x_str, ↓x_intI, ↓x_intB, ↓x_divmod, ↓x_max2, ↓x_min2, ↓x_ixS, ↓x_slS, ↓x_slT, ↓x_slL_l, ↓x_slL_k, ↓x_inS, ↓x_newT, ↓x_newF, ↓x_si, ↓x_s1, ↓x_s0, ↓x_rpart, ↓x_part, ↓x_a1, ↓x_a2, ↓x_isiStr, ↓x_isiInt, ↓x_isiIntB, ↓x_isiIntS, ↓x_isiBB, ↓x_isiBI, ↓x_isiStrI, ↓x_isiNonI, ↓x_isiNonS, ↓x_isiT, ↓x_isiL, ↓x_var0, ↓x_varS, ↓x_ex, ↓x_aug0, gat, pick, Option.some.injEq, D.bl.injEq, D.int.injEq, D.str.injEq, D.tup.injEq, D.lst.injEq, List.cons.injEq, and_true, true_and, List.set_cons_zero, List.set_cons_succ, List.length_cons, List.length_nil, List.filterMap_cons, List.filterMap_nil, List.getElem?_cons_zero, List.getElem?_cons_succ, Option.bind_some, ↓reduceIte, if_true, if_false, Bool.false_eq_true, Bool.true_eq_false, decide_eq_true_eq, beq_self_eq_true, Bool.not_true, Bool.not_false, Bool.not_eq_true', decide_eq_false_iff_not, exists_eq_left', exists_eq_left, exists_eq, ↓x_dnT, ↓x_dnF, ↓gAsgL, ↓gMMDef, ↓gDSet, ↓gSItems, ↓x_nilL, ↓x_nilE, List.isEmpty_nil, List.isEmpty_cons, Bool.true_xor, Bool.false_xor, ↓gOrT, ↓gAndT, ↓gTryAs, ↓gTryO, ↓gRaise, ↓gCallX, ↓gMethX, ↓gMakeX, ↓gFldX, ↓x_inXs, Bool.false_xor, Bool.true_xor, ↓gOrS, ↓x_fmtRS, ↓x_afRS, ↓x_afRI, ↓x_stO, ↓x_zipS, ↓x_zipE, ↓x_zipSL, ↓x_zipST, ↓x_zipEL, ↓x_augix, ↓x_isB, ↓x_notB, ↓gLR1, ↓gLR2, ↓gDIxT, ↓gDGt1T, ↓gDSetT, ↓gDNewT, ↓gDIx, ↓gDGt1, ↓gDGt2, ↓gDIn, ↓gDSetd, ↓gDPop1, ↓gDPop2, ↓gTIdx, ↓gLKeys, ↓gDisp, ↓gFrD, ↓gFzD]
    have g1 := Mt.T_len hok.1
    have g2 := (wd_ok hok.2.1).2
    have g3 := hok.2.2.2.1
    have h4 : spS.length = 1 := by decide +kernel
    have h5 : (Str.ofString " ") = spS := rfl
    have h6 : Str.empty.length = 0 := rfl
    have hrow : Str.empty ++ Mt.T r.m ++ Str.ofString " " ++ r.w ++ Str.ofString " " ++ r.n = rowT r := by
      refine TL.ext_tl ?_
      unfold rowT
      simp only [TL.tl_append, h5]
      rfl
    refine ⟨r.m, rfl, by have := hok.1; omega, ?_⟩
    simp only [↓x_eqSS, ↓x_neSS, ↓gKGet, ↓x_kget, ↓x_ixE, at_last, ↓x_appE, ↓x_tyE, ↓x_itE, ↓x_lenE, ↓x_nePr, ↓x_eqPr, ↓x_neE, ↓x_lenr, ↓x_lenrI, ↓gRev, ↓x_par3, ↓x_par33, ↓x_fld, ↓x_fset, ↓x_mkF, ↓x_mk, ↓x_meth, ↓x_fldO, ↓x_fsetE, ↓x_fldE, ↓x_methO, ↓x_isiCO, ↓x_isiCN, ↓x_isiCT, ↓x_isiCLi, ↓x_isiCS, ↓x_isiCI, ↓x_own, ↓x_eqT2, ↓x_neT2, ↓x_neL4, ↓x_eqLN, ↓x_neNil, ↓x_gset, ↓x_lc, ↓x_for, ↓x_it, ↓x_rn1, ↓x_rn2, ↓x_enu, ↓x_zip, ↓x_itS, ↓x_itL, ↓x_itK, ↓x_itT, ↓x_rn1I, ↓x_rn2I, ↓x_enuL, ↓x_enuK, ↓x_zipL, ↓x_ixS0, ↓x_ixL, ↓x_ixT, ↓x_ixK, x_at0, x_at1, x_at2, x_at3, x_at4, ↓x_set00, ↓x_set01, ↓x_set02, ↓x_aug1, ↓x_aug2, ↓x_aug3, ↓x_aug4, ↓x_aug5, ↓x_aug6, ↓x_aug7, ↓x_aug8, ↓x_aug9, ↓x_aug10, ↓x_aug11, ↓x_aug12, ↓x_aug13, ↓x_aug14, ↓x_aug15, ↓x_aug16, ↓x_aug17, ↓x_aug18, ↓x_aug19, ↓x_aug20, ↓x_aug21, ↓x_aug22, ↓x_aug23, Int.reduceToNat, Int.reducePow, ↓gSeq, ↓gIfS, ↓gSet, ↓gAsg, ↓x_par, ↓x_par2, ↓gRet, ↓gRetN, ↓gNext, ↓gDrop, ↓gBreak, ↓gCont, ↓gDead, ↓gCB, ↓gB2, ↓gU, ↓gC, ↓Dl.gCons, ↓Dl.gNil, ↓Dl.gTup, ↓Dl.gLst, ↓gTest, ↓gOrB, ↓gAndB, ↓gNotB, ↓gAndV, ↓gOrV, ↓gNotV, ↓gIf, ↓gIx, ↓gSl, ↓gPart, ↓gNoP, ↓gMt, ↓gCall, ↓gArgs, ↓gIsN, ↓gNotN, ↓gChain, ↓x_fmtS, ↓x_afS, ↓x_afI, ↓x_js0, ↓x_jsc, ↓gJoined, ↓gYes, ↓x_bnm, ↓x_btp, ↓x_bn, ↓x_bc, ↓x_nnN, ↓x_nnI, ↓x_nnS, ↓x_nnB, ↓x_nnT, ↓x_nnL, ↓x_nnO, ↓x_nnl, ↓x_tyS, ↓x_tyL, ↓x_i2, ↓aSub, ↓aFdiv, ↓aMod, ↓aPow, ↓aShr, ↓aLt, ↓aLe, ↓aGt, ↓aGe, ↓x_addI, ↓x_addS, ↓x_mulI, ↓x_iaddS, ↓x_iaddI, ↓x_neg, ↓x_eqI, ↓x_neI, ↓x_eqS, ↓x_neS, ↓x_eqB, ↓x_neB, ↓x_eqNI, ↓x_neNI, ↓x_lenS, ↓x_lenL_l, ↓x_lenL_k, ↓x_lenL_t, ↓x_str, ↓x_intI, ↓x_intB, ↓x_divmod, ↓x_max2, ↓x_min2, ↓x_ixS, ↓x_slS, ↓x_slT, ↓x_slL_l, ↓x_slL_k, ↓x_inS, ↓x_newT, ↓x_newF, ↓x_si, ↓x_s1, ↓x_s0, ↓x_rpart, ↓x_part, ↓x_a1, ↓x_a2, ↓x_isiStr, ↓x_isiInt, ↓x_isiIntB, ↓x_isiIntS, ↓x_isiBB, ↓x_isiBI, ↓x_isiStrI, ↓x_isiNonI, ↓x_isiNonS, ↓x_isiT, ↓x_isiL, ↓x_var0, ↓x_varS, ↓x_ex, ↓x_aug0, gat, pick, Option.some.injEq, D.bl.injEq, D.int.injEq, D.str.injEq, D.tup.injEq, D.lst.injEq, List.cons.injEq, and_true, true_and, List.set_cons_zero, List.set_cons_succ, List.length_cons, List.length_nil, List.filterMap_cons, List.filterMap_nil, List.getElem?_cons_zero, List.getElem?_cons_succ, Option.bind_some, ↓reduceIte, if_true, if_false, Bool.false_eq_true, Bool.true_eq_false, decide_eq_true_eq, beq_self_eq_true, Bool.not_true, Bool.not_false, Bool.not_eq_true', decide_eq_false_iff_not, exists_eq_left', exists_eq_left, exists_eq, ↓x_dnT, ↓x_dnF, ↓gAsgL, ↓gMMDef, ↓gDSet, ↓gSItems, ↓x_nilL, ↓x_nilE, List.isEmpty_nil, List.isEmpty_cons, Bool.true_xor, Bool.false_xor, ↓gOrT, ↓gAndT, ↓gTryAs, ↓gTryO, ↓gRaise, ↓gCallX, ↓gMethX, ↓gMakeX, ↓gFldX, ↓x_inXs, Bool.false_xor, Bool.true_xor, ↓gOrS, ↓x_fmtRS, ↓x_afRS, ↓x_afRI, ↓x_stO, ↓x_zipS, ↓x_zipE, ↓x_zipSL, ↓x_zipST, ↓x_zipEL, ↓x_augix, ↓x_isB, ↓x_notB, ↓gLR1, ↓gLR2, ↓gDIxT, ↓gDGt1T, ↓gDSetT, ↓gDNewT, ↓gDIx, ↓gDGt1, ↓gDGt2, ↓gDIn, ↓gDSetd, ↓gDPop1, ↓gDPop2, ↓gTIdx, ↓gLKeys, ↓gDisp, ↓gFrD, ↓gFzD]
    rw [hrow]
    simp only [h5, Mt.len_app]
    have h7 := row_len hok
    have h8 : i < R.length := (List.getElem?_eq_some_iff.mp hr).1
    refine ⟨by omega, by omega, by omega, by omega, by omega, by omega, by omega, by omega, by simp; omega, ?_, _, _, _, rfl, rfl, rfl⟩
    rw [take_snoc hr]
    simp
  · rintro ρ S' ⟨rfl, x2, x3, x4, rfl⟩
    refine ⟨h3 _, ?_⟩
    simp only [↓x_eqSS, ↓x_neSS, ↓gKGet, ↓x_kget, ↓x_ixE, at_last, ↓x_appE, ↓x_tyE, ↓x_itE, ↓x_lenE, ↓x_nePr, ↓x_eqPr, ↓x_neE, ↓x_lenr, ↓x_lenrI, ↓gRev, ↓x_par3, ↓x_par33, ↓x_fld, ↓x_fset, ↓x_mkF, ↓x_mk, ↓x_meth, ↓x_fldO, ↓x_fsetE, ↓x_fldE, ↓x_methO, ↓x_isiCO, ↓x_isiCN, ↓x_isiCT, ↓x_isiCLi, ↓x_isiCS, ↓x_isiCI, ↓x_own, ↓x_eqT2, ↓x_neT2, ↓x_neL4, ↓x_eqLN, ↓x_neNil, ↓x_gset, ↓x_lc, ↓x_for, ↓x_it, ↓x_rn1, ↓x_rn2, ↓x_enu, ↓x_zip, ↓x_itS, ↓x_itL, ↓x_itK, ↓x_itT, ↓x_rn1I, ↓x_rn2I, ↓x_enuL, ↓x_enuK, ↓x_zipL, ↓x_ixS0, ↓x_ixL, ↓x_ixT, ↓x_ixK, x_at0, x_at1, x_at2, x_at3, x_at4, ↓x_set00, ↓x_set01, ↓x_set02, ↓x_aug1, ↓x_aug2, ↓x_aug3, ↓x_aug4, ↓x_aug5, ↓x_aug6, ↓x_aug7, ↓x_aug8, ↓x_aug9, ↓x_aug10, ↓x_aug11, ↓x_aug12, ↓x_aug13, ↓x_aug14, ↓x_aug15, ↓x_aug16, ↓x_aug17, ↓x_aug18, ↓x_aug19, ↓x_aug20, ↓x_aug21, ↓x_aug22, ↓x_aug23, Int.reduceToNat, Int.reducePow, ↓gSeq, ↓gIfS, ↓gSet, ↓gAsg, ↓x_par, ↓x_par2, ↓gRet, ↓gRetN, ↓gNext, ↓gDrop, ↓gBreak, ↓gCont, ↓gDead, ↓gCB, ↓gB2, ↓gU, ↓gC, ↓Dl.gCons, ↓Dl.gNil, ↓Dl.gTup, ↓Dl.gLst, ↓gTest, ↓gOrB, ↓gAndB, ↓gNotB, ↓gAndV, ↓gOrV, ↓gNotV, ↓gIf, ↓gIx, ↓gSl, ↓gPart, ↓gNoP, ↓gMt, ↓gCall, ↓gArgs, ↓gIsN, ↓gNotN, ↓gChain, ↓x_fmtS, ↓x_afS, ↓x_afI, ↓x_js0, ↓x_jsc, ↓gJoined, ↓gYes, ↓x_bnm, ↓x_btp, ↓x_bn, ↓x_bc, ↓x_nnN, ↓x_nnI, ↓x_nnS, ↓x_nnB, ↓x_nnT, ↓x_nnL, ↓x_nnO, ↓x_nnl, ↓x_tyS, ↓x_tyL, ↓x_i2, ↓aSub, ↓aFdiv, ↓aMod, ↓aPow, ↓aShr, ↓aLt, ↓aLe, ↓aGt, ↓aGe, ↓x_addI, ↓x_addS, ↓x_mulI, ↓x_iaddS, ↓x_iaddI, ↓x_neg, ↓x_eqI, ↓x_neI, ↓x_eqS, ↓x_neS, ↓x_eqB, ↓x_neB, ↓x_eqNI, ↓x_neNI, ↓x_lenS, ↓x_lenL_l, ↓x_lenL_k, ↓x_lenL_t, ↓x_str, ↓x_intI, ↓x_intB, ↓x_divmod, ↓x_max2, ↓x_min2, ↓x_ixS, ↓x_slS, ↓x_slT, ↓x_slL_l, ↓x_slL_k, ↓x_inS, ↓x_newT, ↓x_newF, ↓x_si, ↓x_s1, ↓x_s0, ↓x_rpart, ↓x_part, ↓x_a1, ↓x_a2, ↓x_isiStr, ↓x_isiInt, ↓x_isiIntB, ↓x_isiIntS, ↓x_isiBB, ↓x_isiBI, ↓x_isiStrI, ↓x_isiNonI, ↓x_isiNonS, ↓x_isiT, ↓x_isiL, ↓x_var0, ↓x_varS, ↓x_ex, ↓x_aug0, gat, pick, Option.some.injEq, D.bl.injEq, D.int.injEq, D.str.injEq, D.tup.injEq, D.lst.injEq, List.cons.injEq, and_true, true_and, List.set_cons_zero, List.set_cons_succ, List.length_cons, List.length_nil, List.filterMap_cons, List.filterMap_nil, List.getElem?_cons_zero, List.getElem?_cons_succ, Option.bind_some, ↓reduceIte, if_true, if_false, Bool.false_eq_true, Bool.true_eq_false, decide_eq_true_eq, beq_self_eq_true, Bool.not_true, Bool.not_false, Bool.not_eq_true', decide_eq_false_iff_not, exists_eq_left', exists_eq_left, exists_eq, ↓x_dnT, ↓x_dnF, ↓gAsgL, ↓gMMDef, ↓gDSet, ↓gSItems, ↓x_nilL, ↓x_nilE, List.isEmpty_nil, List.isEmpty_cons, Bool.true_xor, Bool.false_xor, ↓gOrT, ↓gAndT, ↓gTryAs, ↓gTryO, ↓gRaise, ↓gCallX, ↓gMethX, ↓gMakeX, ↓gFldX, ↓x_inXs, Bool.false_xor, Bool.true_xor, ↓gOrS, ↓x_fmtRS, ↓x_afRS, ↓x_afRI, ↓x_stO, ↓x_zipS, ↓x_zipE, ↓x_zipSL, ↓x_zipST, ↓x_zipEL, ↓x_augix, ↓x_isB, ↓x_notB, ↓gLR1, ↓gLR2, ↓gDIxT, ↓gDGt1T, ↓gDSetT, ↓gDNewT, ↓gDIx, ↓gDGt1, ↓gDGt2, ↓gDIn, ↓gDSetd, ↓gDPop1, ↓gDPop2, ↓gTIdx, ↓gLKeys, ↓gDisp, ↓gFrD, ↓gFzD]
    rw [List.length_map, List.take_length]
    have := bk_fit hb hR hl
    exact ⟨_, _, b :: R.map rowT, rfl, rfl, by simp [seqOf], by omega, (x_finS hs).mpr h⟩
theorem r__law_text : ∀ ds S q, sp__law_text a ds S q → g__law_text K a { nx := fun _ S' => q .non S', rt := q } (startD N__law_text ds) S := by
  rintro ds S q ⟨b, R, rfl, hb, hR, hl, h⟩
  rw [st__law_text]
  have hs' : 100000 ≤ sizeLine := by decide
  simp only [g__law_text, ↓x_eqSS, ↓x_neSS, ↓gKGet, ↓x_kget, ↓x_ixE, at_last, ↓x_appE, ↓x_tyE, ↓x_itE, ↓x_lenE, ↓x_nePr, ↓x_eqPr, ↓x_neE, ↓x_lenr, ↓x_lenrI, ↓gRev, ↓x_par3, ↓x_par33, ↓x_fld, ↓x_fset, ↓x_mkF, ↓x_mk, ↓x_meth, ↓x_fldO, ↓x_fsetE, ↓x_fldE, ↓x_methO, ↓x_isiCO, ↓x_isiCN, ↓x_isiCT, ↓x_isiCLi, ↓x_isiCS, ↓x_isiCI, ↓x_own, ↓x_eqT2, ↓x_neT2, ↓x_neL4, ↓x_eqLN, ↓x_neNil, ↓x_gset, ↓x_lc, ↓x_for, ↓x_it, ↓x_rn1, ↓x_rn2, ↓x_enu, ↓x_zip, ↓x_itS, ↓x_itL, ↓x_itK, ↓x_itT, ↓x_rn1I, ↓x_rn2I, ↓x_enuL, ↓x_enuK, ↓x_zipL, ↓x_ixS0, ↓x_ixL, ↓x_ixT, ↓x_ixK, x_at0, x_at1, x_at2, x_at3, x_at4, ↓x_set00, ↓x_set01, ↓x_set02, ↓x_aug1, ↓x_aug2, ↓x_aug3, ↓x_aug4, ↓x_aug5, ↓x_aug6, ↓x_aug7, ↓x_aug8, ↓x_aug9, ↓x_aug10, ↓x_aug11, ↓x_aug12, ↓x_aug13, ↓x_aug14, ↓x_aug15, ↓x_aug16, ↓x_aug17, ↓x_aug18, ↓x_aug19, ↓x_aug20, ↓x_aug21, ↓x_aug22, ↓x_aug23, Int.reduceToNat, Int.reducePow, ↓gSeq, ↓gIfS, ↓gSet, ↓gAsg, ↓x_par, ↓x_par2, ↓gRet, ↓gRetN, ↓gNext, ↓gDrop, ↓gBreak, ↓gCont, ↓gDead, ↓gCB, ↓gB2, ↓gU, ↓gC, ↓Dl.gCons, ↓Dl.gNil, ↓Dl.gTup, ↓Dl.gLst, ↓gTest, ↓gOrB, ↓gAndB, ↓gNotB, ↓gAndV, ↓gOrV, ↓gNotV, ↓gIf, ↓gIx, ↓gSl, ↓gPart, ↓gNoP, ↓gMt, ↓gCall, ↓gArgs, ↓gIsN, ↓gNotN, ↓gChain, ↓x_fmtS, ↓x_afS, ↓x_afI, ↓x_js0, ↓x_jsc, ↓gJoined, ↓gYes, ↓x_bnm, ↓x_btp, ↓x_bn, ↓x_bc, ↓x_nnN, ↓x_nnI, ↓x_nnS, ↓x_nnB, ↓x_nnT, ↓x_nnL, ↓x_nnO, ↓x_nnl, ↓x_tyS, ↓x_tyL, ↓x_i2, ↓aSub, ↓aFdiv, ↓aMod, ↓aPow, ↓aShr, ↓aLt, ↓aLe, ↓aGt, ↓aGe, ↓x_addI, ↓x_addS, ↓x_mulI, ↓x_iaddS, ↓x_iaddI, ↓x_neg, ↓x_eqI, ↓x_neI, ↓x_eqS, ↓x_neS, ↓x_eqB, ↓x_neB, ↓x_eqNI, ↓x_neNI, ↓x_lenS, ↓x_lenL_l, ↓x_lenL_k, ↓x_lenL_t, ↓x_str, ↓x_intI, ↓x_intB, ↓x_divmod, ↓x_max2, ↓x_min2, ↓x_ixS, ↓x_slS, ↓x_slT, ↓x_slL_l, ↓x_slL_k, ↓x_inS, ↓x_newT, ↓x_newF, ↓x_si, ↓x_s1, ↓x_s0, ↓x_rpart, ↓x_part, ↓x_a1, ↓x_a2, ↓x_isiStr, ↓x_isiInt, ↓x_isiIntB, ↓x_isiIntS, ↓x_isiBB, ↓x_isiBI, ↓x_isiStrI, ↓x_isiNonI, ↓x_isiNonS, ↓x_isiT, ↓x_isiL, ↓x_var0, ↓x_varS, ↓x_ex, ↓x_aug0, gat, pick, Option.some.injEq, D.bl.injEq, D.int.injEq, D.str.injEq, D.tup.injEq, D.lst.injEq, List.cons.injEq, and_true, true_and, List.set_cons_zero, List.set_cons_succ, List.length_cons, List.length_nil, List.filterMap_cons, List.filterMap_nil, List.getElem?_cons_zero, List.getElem?_cons_succ, Option.bind_some, ↓reduceIte, if_true, if_false, Bool.false_eq_true, Bool.true_eq_false, decide_eq_true_eq, beq_self_eq_true, Bool.not_true, Bool.not_false, Bool.not_eq_true', decide_eq_false_iff_not, exists_eq_left', exists_eq_left, exists_eq, ↓x_dnT, ↓x_dnF, ↓gAsgL, ↓gMMDef, ↓gDSet, ↓gSItems, ↓x_nilL, ↓x_nilE, List.isEmpty_nil, List.isEmpty_cons, Bool.true_xor, Bool.false_xor, ↓gOrT, ↓gAndT, ↓gTryAs, ↓gTryO, ↓gRaise, ↓gCallX, ↓gMethX, ↓gMakeX, ↓gFldX, ↓x_inXs, Bool.false_xor, Bool.true_xor, ↓gOrS, ↓x_fmtRS, ↓x_afRS, ↓x_afRI, ↓x_stO, ↓x_zipS, ↓x_zipE, ↓x_zipSL, ↓x_zipST, ↓x_zipEL, ↓x_augix, ↓x_isB, ↓x_notB, ↓gLR1, ↓gLR2, ↓gDIxT, ↓gDGt1T, ↓gDSetT, ↓gDNewT, ↓gDIx, ↓gDGt1, ↓gDGt2, ↓gDIn, ↓gDSetd, ↓gDPop1, ↓gDPop2, ↓gTIdx, ↓gLKeys, ↓gDisp, ↓gFrD, ↓gFzD]
  refine ⟨by decide, ?_⟩
  refine lc_on (F := rwD) (L := R) (fun r => some (.str (rowT r))) trivial (by omega) (fun r hr acc R1 hac hR1 => ⟨_, x_b3, ?_⟩) ?_
  · have hok := hR r hr
    have h1 := Mt.T_len hok.1
    have h2 := (wd_ok hok.2.1).2
    have h3 := hok.2.2.2.1
    have h4 : spS.length = 1 := by decide +kernel
    have h5 : (Str.ofString " ") = spS := rfl
    simp only [wipeD, ↓x_eqSS, ↓x_neSS, ↓gKGet, ↓x_kget, ↓x_ixE, at_last, ↓x_appE, ↓x_tyE, ↓x_itE, ↓x_lenE, ↓x_nePr, ↓x_eqPr, ↓x_neE, ↓x_lenr, ↓x_lenrI, ↓gRev, ↓x_par3, ↓x_par33, ↓x_fld, ↓x_fset, ↓x_mkF, ↓x_mk, ↓x_meth, ↓x_fldO, ↓x_fsetE, ↓x_fldE, ↓x_methO, ↓x_isiCO, ↓x_isiCN, ↓x_isiCT, ↓x_isiCLi, ↓x_isiCS, ↓x_isiCI, ↓x_own, ↓x_eqT2, ↓x_neT2, ↓x_neL4, ↓x_eqLN, ↓x_neNil, ↓x_gset, ↓x_lc, ↓x_for, ↓x_it, ↓x_rn1, ↓x_rn2, ↓x_enu, ↓x_zip, ↓x_itS, ↓x_itL, ↓x_itK, ↓x_itT, ↓x_rn1I, ↓x_rn2I, ↓x_enuL, ↓x_enuK, ↓x_zipL, ↓x_ixS0, ↓x_ixL, ↓x_ixT, ↓x_ixK, x_at0, x_at1, x_at2, x_at3, x_at4, ↓x_set00, ↓x_set01, ↓x_set02, ↓x_aug1, ↓x_aug2, ↓x_aug3, ↓x_aug4, ↓x_aug5, ↓x_aug6, ↓x_aug7, ↓x_aug8, ↓x_aug9, ↓x_aug10, ↓x_aug11, ↓x_aug12, ↓x_aug13, ↓x_aug14, ↓x_aug15, ↓x_aug16, ↓x_aug17, ↓x_aug18, ↓x_aug19, ↓x_aug20, ↓x_aug21, ↓x_aug22, ↓x_aug23, Int.reduceToNat, Int.reducePow, ↓gSeq, ↓gIfS, ↓gSet, ↓gAsg, ↓x_par, ↓x_par2, ↓gRet, ↓gRetN, ↓gNext, ↓gDrop, ↓gBreak, ↓gCont, ↓gDead, ↓gCB, ↓gB2, ↓gU, ↓gC, ↓Dl.gCons, ↓Dl.gNil, ↓Dl.gTup, ↓Dl.gLst, ↓gTest, ↓gOrB, ↓gAndB, ↓gNotB, ↓gAndV, ↓gOrV, ↓gNotV, ↓gIf, ↓gIx, ↓gSl, ↓gPart, ↓gNoP, ↓gMt, ↓gCall, ↓gArgs, ↓gIsN, ↓gNotN, ↓gChain, ↓x_fmtS, ↓x_afS, ↓x_afI, ↓x_js0, ↓x_jsc, ↓gJoined, ↓gYes, ↓x_bnm, ↓x_btp, ↓x_bn, ↓x_bc, ↓x_nnN, ↓x_nnI, ↓x_nnS, ↓x_nnB, ↓x_nnT, ↓x_nnL, ↓x_nnO, ↓x_nnl, ↓x_tyS, ↓x_tyL, ↓x_i2, ↓aSub, ↓aFdiv, ↓aMod, ↓aPow, ↓aShr, ↓aLt, ↓aLe, ↓aGt, ↓aGe, ↓x_addI, ↓x_addS, ↓x_mulI, ↓x_iaddS, ↓x_iaddI, ↓x_neg, ↓x_eqI, ↓x_neI, ↓x_eqS, ↓x_neS, ↓x_eqB, ↓x_neB, ↓x_eqNI, ↓x_neNI, ↓x_lenS, ↓x_lenL_l, ↓x_lenL_k, ↓x_lenL_t, ↓x_str, ↓x_intI, ↓x_intB, ↓x_divmod, ↓x_max2, ↓x_min2, ↓x_ixS, ↓x_slS, ↓x_slT, ↓x_slL_l, ↓x_slL_k, ↓x_inS, ↓x_newT, ↓x_newF, ↓x_si, ↓x_s1, ↓x_s0, ↓x_rpart, ↓x_part, ↓x_a1, ↓x_a2, ↓x_isiStr, ↓x_isiInt, ↓x_isiIntB, ↓x_isiIntS, ↓x_isiBB, ↓x_isiBI, ↓x_isiStrI, ↓x_isiNonI, ↓x_isiNonS, ↓x_isiT, ↓x_isiL, ↓x_var0, ↓x_varS, ↓x_ex, ↓x_aug0, gat, pick, Option.some.injEq, D.bl.injEq, D.int.injEq, D.str.injEq, D.tup.injEq, D.lst.injEq, List.cons.injEq, and_true, true_and, List.set_cons_zero, List.set_cons_succ, List.length_cons, List.length_nil, List.filterMap_cons, List.filterMap_nil, List.getElem?_cons_zero, List.getElem?_cons_succ, Option.bind_some, ↓reduceIte, if_true, if_false, Bool.false_eq_true, Bool.true_eq_false, decide_eq_true_eq, beq_self_eq_true, Bool.not_true, Bool.not_false, Bool.not_eq_true', decide_eq_false_iff_not, exists_eq_left', exists_eq_left, exists_eq, ↓x_dnT, ↓x_dnF, ↓gAsgL, ↓gMMDef, ↓gDSet, ↓gSItems, ↓x_nilL, ↓x_nilE, List.isEmpty_nil, List.isEmpty_cons, Bool.true_xor, Bool.false_xor, ↓gOrT, ↓gAndT, ↓gTryAs, ↓gTryO, ↓gRaise, ↓gCallX, ↓gMethX, ↓gMakeX, ↓gFldX, ↓x_inXs, Bool.false_xor, Bool.true_xor, ↓gOrS, ↓x_fmtRS, ↓x_afRS, ↓x_afRI, ↓x_stO, ↓x_zipS, ↓x_zipE, ↓x_zipSL, ↓x_zipST, ↓x_zipEL, ↓x_augix, ↓x_isB, ↓x_notB, ↓gLR1, ↓gLR2, ↓gDIxT, ↓gDGt1T, ↓gDSetT, ↓gDNewT, ↓gDIx, ↓gDGt1, ↓gDGt2, ↓gDIn, ↓gDSetd, ↓gDPop1, ↓gDPop2, ↓gTIdx, ↓gLKeys, ↓gDisp, ↓gFrD, ↓gFzD]
    refine ⟨r.m, rfl, by have := hok.1; omega, ?_⟩
    rw [h5]
    simp only [↓x_eqSS, ↓x_neSS, ↓gKGet, ↓x_kget, ↓x_ixE, at_last, ↓x_appE, ↓x_tyE, ↓x_itE, ↓x_lenE, ↓x_nePr, ↓x_eqPr, ↓x_neE, ↓x_lenr, ↓x_lenrI, ↓gRev, ↓x_par3, ↓x_par33, ↓x_fld, ↓x_fset, ↓x_mkF, ↓x_mk, ↓x_meth, ↓x_fldO, ↓x_fsetE, ↓x_fldE, ↓x_methO, ↓x_isiCO, ↓x_isiCN, ↓x_isiCT, ↓x_isiCLi, ↓x_isiCS, ↓x_isiCI, ↓x_own, ↓x_eqT2, ↓x_neT2, ↓x_neL4, ↓x_eqLN, ↓x_neNil, ↓x_gset, ↓x_lc, ↓x_for, ↓x_it, ↓x_rn1, ↓x_rn2, ↓x_enu, ↓x_zip, ↓x_itS, ↓x_itL, ↓x_itK, ↓x_itT, ↓x_rn1I, ↓x_rn2I, ↓x_enuL, ↓x_enuK, ↓x_zipL, ↓x_ixS0, ↓x_ixL, ↓x_ixT, ↓x_ixK, x_at0, x_at1, x_at2, x_at3, x_at4, ↓x_set00, ↓x_set01, ↓x_set02, ↓x_aug1, ↓x_aug2, ↓x_aug3, ↓x_aug4, ↓x_aug5, ↓x_aug6, ↓x_aug7, ↓x_aug8, ↓x_aug9, ↓x_aug10, ↓x_aug11, ↓x_aug12, ↓x_aug13, ↓x_aug14, ↓x_aug15, ↓x_aug16, ↓x_aug17, ↓x_aug18, ↓x_aug19, ↓x_aug20, ↓x_aug21, ↓x_aug22, ↓x_aug23, Int.reduceToNat, Int.reducePow, ↓gSeq, ↓gIfS, ↓gSet, ↓gAsg, ↓x_par, ↓x_par2, ↓gRet, ↓gRetN, ↓gNext, ↓gDrop, ↓gBreak, ↓gCont, ↓gDead, ↓gCB, ↓gB2, ↓gU, ↓gC, ↓Dl.gCons, ↓Dl.gNil, ↓Dl.gTup, ↓Dl.gLst, ↓gTest, ↓gOrB, ↓gAndB, ↓gNotB, ↓gAndV, ↓gOrV, ↓gNotV, ↓gIf, ↓gIx, ↓gSl, ↓gPart, ↓gNoP, ↓gMt, ↓gCall, ↓gArgs, ↓gIsN, ↓gNotN, ↓gChain, ↓x_fmtS, ↓x_afS, ↓x_afI, ↓x_js0, ↓x_jsc, ↓gJoined, ↓gYes, ↓x_bnm, ↓x_btp, ↓x_bn, ↓x_bc, ↓x_nnN, ↓x_nnI, ↓x_nnS, ↓x_nnB, ↓x_nnT, ↓x_nnL, ↓x_nnO, ↓x_nnl, ↓x_tyS, ↓x_tyL, ↓x_i2, ↓aSub, ↓aFdiv, ↓aMod, ↓aPow, ↓aShr, ↓aLt, ↓aLe, ↓aGt, ↓aGe, ↓x_addI, ↓x_addS, ↓x_mulI, ↓x_iaddS, ↓x_iaddI, ↓x_neg, ↓x_eqI, ↓x_neI, ↓x_eqS, ↓x_neS, ↓x_eqB, ↓x_neB, ↓x_eqNI, ↓x_neNI, ↓x_lenS, ↓x_lenL_l, ↓x_lenL_k, ↓x_lenL_t, ↓x_str, ↓x_intI, ↓x_intB, ↓x_divmod, ↓x_max2, ↓x_min2, ↓x_ixS, ↓x_slS, ↓x_slT, ↓x_slL_l, ↓x_slL_k, ↓x_inS, ↓x_newT, ↓x_newF, ↓x_si, ↓x_s1, ↓x_s0, ↓x_rpart, ↓x_part, ↓x_a1, ↓x_a2, ↓x_isiStr, ↓x_isiInt, ↓x_isiIntB, ↓x_isiIntS, ↓x_isiBB, ↓x_isiBI, ↓x_isiStrI, ↓x_isiNonI, ↓x_isiNonS, ↓x_isiT, ↓x_isiL, ↓x_var0, ↓x_varS, ↓x_ex, ↓x_aug0, gat, pick, Option.some.injEq, D.bl.injEq, D.int.injEq, D.str.injEq, D.tup.injEq, D.lst.injEq, List.cons.injEq, and_true, true_and, List.set_cons_zero, List.set_cons_succ, List.length_cons, List.length_nil, List.filterMap_cons, List.filterMap_nil, List.getElem?_cons_zero, List.getElem?_cons_succ, Option.bind_some, ↓reduceIte, if_true, if_false, Bool.false_eq_true, Bool.true_eq_false, decide_eq_true_eq, beq_self_eq_true, Bool.not_true, Bool.not_false, Bool.not_eq_true', decide_eq_false_iff_not, exists_eq_left', exists_eq_left, exists_eq, ↓x_dnT, ↓x_dnF, ↓gAsgL, ↓gMMDef, ↓gDSet, ↓gSItems, ↓x_nilL, ↓x_nilE, List.isEmpty_nil, List.isEmpty_cons, Bool.true_xor, Bool.false_xor, ↓gOrT, ↓gAndT, ↓gTryAs, ↓gTryO, ↓gRaise, ↓gCallX, ↓gMethX, ↓gMakeX, ↓gFldX, ↓x_inXs, Bool.false_xor, Bool.true_xor, ↓gOrS, ↓x_fmtRS, ↓x_afRS, ↓x_afRI, ↓x_stO, ↓x_zipS, ↓x_zipE, ↓x_zipSL, ↓x_zipST, ↓x_zipEL, ↓x_augix, ↓x_isB, ↓x_notB, ↓gLR1, ↓gLR2, ↓gDIxT, ↓gDGt1T, ↓gDSetT, ↓gDNewT, ↓gDIx, ↓gDGt1, ↓gDGt2, ↓gDIn, ↓gDSetd, ↓gDPop1, ↓gDPop2, ↓gTIdx, ↓gLKeys, ↓gDisp, ↓gFrD, ↓gFzD, Mt.len_app]
    refine ⟨by omega, by omega, by omega, by omega, hac, hR1⟩
  · rw [x_newT, fm_some]
    have e : R.map (fun r => D.str (rowT r)) = (R.map rowT).map D.str := by rw [List.map_map]; rfl
    rw [e]
    have := bk_fit hb hR hl
    refine ⟨[.str b], (R.map rowT).map .str, rfl, rfl, by simp; omega, ?_⟩
    exact ⟨_, _, b :: R.map rowT, rfl, rfl, rfl, by omega, h⟩
end
end Lw
namespace Lw
open PySem L2 Dl
section
variable {P : Program} {w : World} {K : PySem.W.Frag} {mg : Str → Option Value} {base : Heap} {a : Ad}
theorem rf__law_rows : ∀ ds S q, D.unders S.length ds = true → Sto.under S.length S = true → sp__law_rows a ds S q → g__law_rows K a { nx := fun _ S' => fin S.length q .non S', rt := fin S.length q } (startD N__law_rows ds) S := by
  rintro ds S q hu hs ⟨xs, many, ⟨hx0, hx1, hxo⟩, hm, o, R0, B, rfl, rfl, ht, hb, h⟩
  rw [st__law_rows]
  simp only [g__law_rows, ↓x_eqSS, ↓x_neSS, ↓gKGet, ↓x_kget, ↓x_ixE, at_last, ↓x_appE, ↓x_tyE, ↓x_itE, ↓x_lenE, ↓x_nePr, ↓x_eqPr, ↓x_neE, ↓x_lenr, ↓x_lenrI, ↓gRev, ↓x_par3, ↓x_par33, ↓x_fld, ↓x_fset, ↓x_mkF, ↓x_mk, ↓x_meth, ↓x_fldO, ↓x_fsetE, ↓x_fldE, ↓x_methO, ↓x_isiCO, ↓x_isiCN, ↓x_isiCT, ↓x_isiCLi, ↓x_isiCS, ↓x_isiCI, ↓x_own, ↓x_eqT2, ↓x_neT2, ↓x_neL4, ↓x_eqLN, ↓x_neNil, ↓x_gset, ↓x_lc, ↓x_for, ↓x_it, ↓x_rn1, ↓x_rn2, ↓x_enu, ↓x_zip, ↓x_itS, ↓x_itL, ↓x_itK, ↓x_itT, ↓x_rn1I, ↓x_rn2I, ↓x_enuL, ↓x_enuK, ↓x_zipL, ↓x_ixS0, ↓x_ixL, ↓x_ixT, ↓x_ixK, x_at0, x_at1, x_at2, x_at3, x_at4, ↓x_set00, ↓x_set01, ↓x_set02, ↓x_aug1, ↓x_aug2, ↓x_aug3, ↓x_aug4, ↓x_aug5, ↓x_aug6, ↓x_aug7, ↓x_aug8, ↓x_aug9, ↓x_aug10, ↓x_aug11, ↓x_aug12, ↓x_aug13, ↓x_aug14, ↓x_aug15, ↓x_aug16, ↓x_aug17, ↓x_aug18, ↓x_aug19, ↓x_aug20, ↓x_aug21, ↓x_aug22, ↓x_aug23, Int.reduceToNat, Int.reducePow, ↓gSeq, ↓gIfS, ↓gSet, ↓gAsg, ↓x_par, ↓x_par2, ↓gRet, ↓gRetN, ↓gNext, ↓gDrop, ↓gBreak, ↓gCont, ↓gDead, ↓gCB, ↓gB2, ↓gU, ↓gC, ↓Dl.gCons, ↓Dl.gNil, ↓Dl.gTup, ↓Dl.gLst, ↓gTest, ↓gOrB, ↓gAndB, ↓gNotB, ↓gAndV, ↓gOrV, ↓gNotV, ↓gIf, ↓gIx, ↓gSl, ↓gPart, ↓gNoP, ↓gMt, ↓gCall, ↓gArgs, ↓gIsN, ↓gNotN, ↓gChain, ↓x_fmtS, ↓x_afS, ↓x_afI, ↓x_js0, ↓x_jsc, ↓gJoined, ↓gYes, ↓x_bnm, ↓x_btp, ↓x_bn, ↓x_bc, ↓x_nnN, ↓x_nnI, ↓x_nnS, ↓x_nnB, ↓x_nnT, ↓x_nnL, ↓x_nnO, ↓x_nnl, ↓x_tyS, ↓x_tyL, ↓x_i2, ↓aSub, ↓aFdiv, ↓aMod, ↓aPow, ↓aShr, ↓aLt, ↓aLe, ↓aGt, ↓aGe, ↓x_addI, ↓x_addS, ↓x_mulI, ↓x_iaddS, ↓x_iaddI, ↓x_neg, ↓x_eqI, ↓x_neI, ↓x_eqS, ↓x_neS, ↓x_eqB, ↓x_neB, ↓x_eqNI, ↓x_neNI, ↓x_lenS, ↓x_lenL_l, ↓x_lenL_k, ↓x_lenL_t, ↓x_str, ↓x_intI, ↓x_intB, ↓x_divmod, ↓x_max2, ↓x_min2, ↓x_ixS, ↓x_slS, ↓x_slT, ↓x_slL_l, ↓x_slL_k, ↓x_inS, ↓x_newT, ↓x_newF, ↓x_si, ↓x_s1, ↓x_s0, ↓x_rpart, ↓x_part, ↓x_a1, ↓x_a2, ↓x_isiStr, ↓x_isiInt, ↓x_isiIntB, ↓x_isiIntS, ↓x_isiBB, ↓x_isiBI, ↓x_isiStrI, ↓x_isiNonI, ↓x_isiNonS, ↓x_isiT, ↓x_isiL, ↓x_var0, ↓x_varS, ↓x_ex, ↓x_aug0, gat, pick, Option.some.injEq, D.bl.injEq, D.int.injEq, D.str.injEq, D.tup.injEq, D.lst.injEq, List.cons.injEq, and_true, true_and, List.set_cons_zero, List.set_cons_succ, List.length_cons, List.length_nil, List.filterMap_cons, List.filterMap_nil, List.getElem?_cons_zero, List.getElem?_cons_succ, Option.bind_some, ↓reduceIte, if_true, if_false, Bool.false_eq_true, Bool.true_eq_false, decide_eq_true_eq, beq_self_eq_true, Bool.not_true, Bool.not_false, Bool.not_eq_true', decide_eq_false_iff_not, exists_eq_left', exists_eq_left, exists_eq, ↓x_dnT, ↓x_dnF, ↓gAsgL, ↓gMMDef, ↓gDSet, ↓gSItems, ↓x_nilL, ↓x_nilE, List.isEmpty_nil, List.isEmpty_cons, Bool.true_xor, Bool.false_xor, ↓gOrT, ↓gAndT, ↓gTryAs, ↓gTryO, ↓gRaise, ↓gCallX, ↓gMethX, ↓gMakeX, ↓gFldX, ↓x_inXs, Bool.false_xor, Bool.true_xor, ↓gOrS, ↓x_fmtRS, ↓x_afRS, ↓x_afRI, ↓x_stO, ↓x_zipS, ↓x_zipE, ↓x_zipSL, ↓x_zipST, ↓x_zipEL, ↓x_augix, ↓x_isB, ↓x_notB, ↓gLR1, ↓gLR2, ↓gDIxT, ↓gDGt1T, ↓gDSetT, ↓gDNewT, ↓gDIx, ↓gDGt1, ↓gDGt2, ↓gDIn, ↓gDSetd, ↓gDPop1, ↓gDPop2, ↓gTIdx, ↓gLKeys, ↓gDisp, ↓gFrD, ↓gFzD]
  have hs' : 100000 ≤ sizeLine := by decide
  have t15 := Mt.ten15
  refine Mt.draw_in (by decide) (by decide) ht (by omega) fun m1 o1 hm1 hm2 ht1 => Mt.draw_in (by decide) (by decide) ht1 (by omega) fun m2 o2 hm3 hm4 ht2 => ⟨by decide, Mt.pickL_in (by simp) (by simp) ht2 (by omega) fun e o3 he ht3 => ?_⟩
  obtain ⟨st, rfl, st0, st1⟩ : ∃ z : Int, e = .int z ∧ 0 ≤ z ∧ z ≤ 900000 := by
    simp only [List.mem_cons, List.not_mem_nil, or_false] at he
    rcases he with rfl | rfl | rfl
    · exact ⟨_, rfl, by decide, by decide⟩
    · exact ⟨_, rfl, by omega, by omega⟩
    · exact ⟨_, rfl, by omega, by omega⟩
  (try simp only [↓x_eqSS, ↓x_neSS, ↓gKGet, ↓x_kget, ↓x_ixE, at_last, ↓x_appE, ↓x_tyE, ↓x_itE, ↓x_lenE, ↓x_nePr, ↓x_eqPr, ↓x_neE, ↓x_lenr, ↓x_lenrI, ↓gRev, ↓x_par3, ↓x_par33, ↓x_fld, ↓x_fset, ↓x_mkF, ↓x_mk, ↓x_meth, ↓x_fldO, ↓x_fsetE, ↓x_fldE, ↓x_methO, ↓x_isiCO, ↓x_isiCN, ↓x_isiCT, ↓x_isiCLi, ↓x_isiCS, ↓x_isiCI, ↓x_own, ↓x_eqT2, ↓x_neT2, ↓x_neL4, ↓x_eqLN, ↓x_neNil, ↓x_gset, ↓x_lc, ↓x_for, ↓x_it, ↓x_rn1, ↓x_rn2, ↓x_enu, ↓x_zip, ↓x_itS, ↓x_itL, ↓x_itK, ↓x_itT, ↓x_rn1I, ↓x_rn2I, ↓x_enuL, ↓x_enuK, ↓x_zipL, ↓x_ixS0, ↓x_ixL, ↓x_ixT, ↓x_ixK, x_at0, x_at1, x_at2, x_at3, x_at4, ↓x_set00, ↓x_set01, ↓x_set02, ↓x_aug1, ↓x_aug2, ↓x_aug3, ↓x_aug4, ↓x_aug5, ↓x_aug6, ↓x_aug7, ↓x_aug8, ↓x_aug9, ↓x_aug10, ↓x_aug11, ↓x_aug12, ↓x_aug13, ↓x_aug14, ↓x_aug15, ↓x_aug16, ↓x_aug17, ↓x_aug18, ↓x_aug19, ↓x_aug20, ↓x_aug21, ↓x_aug22, ↓x_aug23, Int.reduceToNat, Int.reducePow, ↓gSeq, ↓gIfS, ↓gSet, ↓gAsg, ↓x_par, ↓x_par2, ↓gRet, ↓gRetN, ↓gNext, ↓gDrop, ↓gBreak, ↓gCont, ↓gDead, ↓gCB, ↓gB2, ↓gU, ↓gC, ↓Dl.gCons, ↓Dl.gNil, ↓Dl.gTup, ↓Dl.gLst, ↓gTest, ↓gOrB, ↓gAndB, ↓gNotB, ↓gAndV, ↓gOrV, ↓gNotV, ↓gIf, ↓gIx, ↓gSl, ↓gPart, ↓gNoP, ↓gMt, ↓gCall, ↓gArgs, ↓gIsN, ↓gNotN, ↓gChain, ↓x_fmtS, ↓x_afS, ↓x_afI, ↓x_js0, ↓x_jsc, ↓gJoined, ↓gYes, ↓x_bnm, ↓x_btp, ↓x_bn, ↓x_bc, ↓x_nnN, ↓x_nnI, ↓x_nnS, ↓x_nnB, ↓x_nnT, ↓x_nnL, ↓x_nnO, ↓x_nnl, ↓x_tyS, ↓x_tyL, ↓x_i2, ↓aSub, ↓aFdiv, ↓aMod, ↓aPow, ↓aShr, ↓aLt, ↓aLe, ↓aGt, ↓aGe, ↓x_addI, ↓x_addS, ↓x_mulI, ↓x_iaddS, ↓x_iaddI, ↓x_neg, ↓x_eqI, ↓x_neI, ↓x_eqS, ↓x_neS, ↓x_eqB, ↓x_neB, ↓x_eqNI, ↓x_neNI, ↓x_lenS, ↓x_lenL_l, ↓x_lenL_k, ↓x_lenL_t, ↓x_str, ↓x_intI, ↓x_intB, ↓x_divmod, ↓x_max2, ↓x_min2, ↓x_ixS, ↓x_slS, ↓x_slT, ↓x_slL_l, ↓x_slL_k, ↓x_inS, ↓x_newT, ↓x_newF, ↓x_si, ↓x_s1, ↓x_s0, ↓x_rpart, ↓x_part, ↓x_a1, ↓x_a2, ↓x_isiStr, ↓x_isiInt, ↓x_isiIntB, ↓x_isiIntS, ↓x_isiBB, ↓x_isiBI, ↓x_isiStrI, ↓x_isiNonI, ↓x_isiNonS, ↓x_isiT, ↓x_isiL, ↓x_var0, ↓x_varS, ↓x_ex, ↓x_aug0, gat, pick, Option.some.injEq, D.bl.injEq, D.int.injEq, D.str.injEq, D.tup.injEq, D.lst.injEq, List.cons.injEq, and_true, true_and, List.set_cons_zero, List.set_cons_succ, List.length_cons, List.length_nil, List.filterMap_cons, List.filterMap_nil, List.getElem?_cons_zero, List.getElem?_cons_succ, Option.bind_some, ↓reduceIte, if_true, if_false, Bool.false_eq_true, Bool.true_eq_false, decide_eq_true_eq, beq_self_eq_true, Bool.not_true, Bool.not_false, Bool.not_eq_true', decide_eq_false_iff_not, exists_eq_left', exists_eq_left, exists_eq, ↓x_dnT, ↓x_dnF, ↓gAsgL, ↓gMMDef, ↓gDSet, ↓gSItems, ↓x_nilL, ↓x_nilE, List.isEmpty_nil, List.isEmpty_cons, Bool.true_xor, Bool.false_xor, ↓gOrT, ↓gAndT, ↓gTryAs, ↓gTryO, ↓gRaise, ↓gCallX, ↓gMethX, ↓gMakeX, ↓gFldX, ↓x_inXs, Bool.false_xor, Bool.true_xor, ↓gOrS, ↓x_fmtRS, ↓x_afRS, ↓x_afRI, ↓x_stO, ↓x_zipS, ↓x_zipE, ↓x_zipSL, ↓x_zipST, ↓x_zipEL, ↓x_augix, ↓x_isB, ↓x_notB, ↓gLR1, ↓gLR2, ↓gDIxT, ↓gDGt1T, ↓gDSetT, ↓gDNewT, ↓gDIx, ↓gDGt1, ↓gDGt2, ↓gDIn, ↓gDSetd, ↓gDPop1, ↓gDPop2, ↓gTIdx, ↓gLKeys, ↓gDisp, ↓gFrD, ↓gFzD])
  obtain ⟨s0, rfl⟩ := Int.eq_ofNat_of_zero_le st0
  refine ⟨by decide, by omega, by omega, fun i ρ S' => ∃ (o' : Option MO) (M : Nat) (R : List Rw) (y5 : Option D), Mt.Tp (B + 3 + 5 * i) o' ∧ M ≤ s0 + 2999 * i ∧ R.length = i ∧ (∀ r ∈ R, RwOk r ∧ r.m ≤ M) ∧ Rise R ∧ S' = o' :: (R0 ++ [some (MO.lst (R.map rwD))]) ∧
    ρ = [some (.loc 0), some (.lst (xs.map D.str)), some (.int many), some (.int M), some (.loc (R0.length + 1)), y5], ⟨o3, s0, [], none, ht3.mono (by omega), by omega, rfl, fun r hr => (by cases hr), List.Pairwise.nil, rfl, rfl⟩, ?_, ?_⟩
  · rintro i d ρ S' hd ⟨o', M, R, y5, ht', hM, hRl, hR, hRi, rfl, rfl⟩
    have hi : i < many := by
      have := (List.getElem?_eq_some_iff.mp hd).1
      rw [x_rngL] at this
      omega
    refine ⟨trivial, _, x_bnm, ?_⟩
    have hgetS : ∀ (o2 : Option MO) (ds : List D), (o2 :: (R0 ++ [some (MO.lst ds)]))[R0.length + 1]? = some (some (MO.lst ds)) := fun o2 ds => by simp
    simp only [↓x_eqSS, ↓x_neSS, ↓gKGet, ↓x_kget, ↓x_ixE, at_last, ↓x_appE, ↓x_tyE, ↓x_itE, ↓x_lenE, ↓x_nePr, ↓x_eqPr, ↓x_neE, ↓x_lenr, ↓x_lenrI, ↓gRev, ↓x_par3, ↓x_par33, ↓x_fld, ↓x_fset, ↓x_mkF, ↓x_mk, ↓x_meth, ↓x_fldO, ↓x_fsetE, ↓x_fldE, ↓x_methO, ↓x_isiCO, ↓x_isiCN, ↓x_isiCT, ↓x_isiCLi, ↓x_isiCS, ↓x_isiCI, ↓x_own, ↓x_eqT2, ↓x_neT2, ↓x_neL4, ↓x_eqLN, ↓x_neNil, ↓x_gset, ↓x_lc, ↓x_for, ↓x_it, ↓x_rn1, ↓x_rn2, ↓x_enu, ↓x_zip, ↓x_itS, ↓x_itL, ↓x_itK, ↓x_itT, ↓x_rn1I, ↓x_rn2I, ↓x_enuL, ↓x_enuK, ↓x_zipL, ↓x_ixS0, ↓x_ixL, ↓x_ixT, ↓x_ixK, x_at0, x_at1, x_at2, x_at3, x_at4, ↓x_set00, ↓x_set01, ↓x_set02, ↓x_aug1, ↓x_aug2, ↓x_aug3, ↓x_aug4, ↓x_aug5, ↓x_aug6, ↓x_aug7, ↓x_aug8, ↓x_aug9, ↓x_aug10, ↓x_aug11, ↓x_aug12, ↓x_aug13, ↓x_aug14, ↓x_aug15, ↓x_aug16, ↓x_aug17, ↓x_aug18, ↓x_aug19, ↓x_aug20, ↓x_aug21, ↓x_aug22, ↓x_aug23, Int.reduceToNat, Int.reducePow, ↓gSeq, ↓gIfS, ↓gSet, ↓gAsg, ↓x_par, ↓x_par2, ↓gRet, ↓gRetN, ↓gNext, ↓gDrop, ↓gBreak, ↓gCont, ↓gDead, ↓gCB, ↓gB2, ↓gU, ↓gC, ↓Dl.gCons, ↓Dl.gNil, ↓Dl.gTup, ↓Dl.gLst, ↓gTest, ↓gOrB, ↓gAndB, ↓gNotB, ↓gAndV, ↓gOrV, ↓gNotV, ↓gIf, ↓gIx, ↓gSl, ↓gPart, ↓gNoP, ↓gMt, ↓gCall, ↓gArgs, ↓gIsN, ↓gNotN, ↓gChain, ↓x_fmtS, ↓x_afS, ↓x_afI, ↓x_js0, ↓x_jsc, ↓gJoined, ↓gYes, ↓x_bnm, ↓x_btp, ↓x_bn, ↓x_bc, ↓x_nnN, ↓x_nnI, ↓x_nnS, ↓x_nnB, ↓x_nnT, ↓x_nnL, ↓x_nnO, ↓x_nnl, ↓x_tyS, ↓x_tyL, ↓x_i2, ↓aSub, ↓aFdiv, ↓aMod, ↓aPow, ↓aShr, ↓aLt, ↓aLe, ↓aGt, ↓aGe, ↓x_addI, ↓x_addS, ↓x_mulI, ↓x_iaddS, ↓x_iaddI, ↓x_neg, ↓x_eqI, ↓x_neI, ↓x_eqS, ↓x_neS, ↓x_eqB, ↓x_neB, ↓x_eqNI, ↓x_neNI, ↓x_lenS, ↓x_lenL_l, ↓x_lenL_k, ↓x_lenL_t, ↓x_str, ↓x_intI, ↓x_intB, ↓x_divmod, ↓x_max2, ↓x_min2, ↓x_ixS, ↓x_slS, ↓x_slT, ↓x_slL_l, ↓x_slL_k, ↓x_inS, ↓x_newT, ↓x_newF, ↓x_si, ↓x_s1, ↓x_s0, ↓x_rpart, ↓x_part, ↓x_a1, ↓x_a2, ↓x_isiStr, ↓x_isiInt, ↓x_isiIntB, ↓x_isiIntS, ↓x_isiBB, ↓x_isiBI, ↓x_isiStrI, ↓x_isiNonI, ↓x_isiNonS, ↓x_isiT, ↓x_isiL, ↓x_var0, ↓x_varS, ↓x_ex, ↓x_aug0, gat, pick, Option.some.injEq, D.bl.injEq, D.int.injEq, D.str.injEq, D.tup.injEq, D.lst.injEq, List.cons.injEq, and_true, true_and, List.set_cons_zero, List.set_cons_succ, List.length_cons, List.length_nil, List.filterMap_cons, List.filterMap_nil, List.getElem?_cons_zero, List.getElem?_cons_succ, Option.bind_some, ↓reduceIte, if_true, if_false, Bool.false_eq_true, Bool.true_eq_false, decide_eq_true_eq, beq_self_eq_true, Bool.not_true, Bool.not_false, Bool.not_eq_true', decide_eq_false_iff_not, exists_eq_left', exists_eq_left, exists_eq, ↓x_dnT, ↓x_dnF, ↓gAsgL, ↓gMMDef, ↓gDSet, ↓gSItems, ↓x_nilL, ↓x_nilE, List.isEmpty_nil, List.isEmpty_cons, Bool.true_xor, Bool.false_xor, ↓gOrT, ↓gAndT, ↓gTryAs, ↓gTryO, ↓gRaise, ↓gCallX, ↓gMethX, ↓gMakeX, ↓gFldX, ↓x_inXs, Bool.false_xor, Bool.true_xor, ↓gOrS, ↓x_fmtRS, ↓x_afRS, ↓x_afRI, ↓x_stO, ↓x_zipS, ↓x_zipE, ↓x_zipSL, ↓x_zipST, ↓x_zipEL, ↓x_augix, ↓x_isB, ↓x_notB, ↓gLR1, ↓gLR2, ↓gDIxT, ↓gDGt1T, ↓gDSetT, ↓gDNewT, ↓gDIx, ↓gDGt1, ↓gDGt2, ↓gDIn, ↓gDSetd, ↓gDPop1, ↓gDPop2, ↓gTIdx, ↓gLKeys, ↓gDisp, ↓gFrD, ↓gFzD]
    refine Mt.draw_in (by decide) (by decide) ht' (by omega) fun u o4 hu1 hu2 ht4 => Mt.draw_in (by decide) (by decide) ht4 (by omega) fun v o5 hv1 hv2 ht5 => ⟨by decide, Mt.pickL_in (by simp) (by simp) ht5 (by omega) fun e o6 he ht6 => ?_⟩
    obtain ⟨z, rfl, z1⟩ : ∃ z : Nat, e = .int z ∧ z ≤ 2999 := by
      simp only [List.mem_cons, List.not_mem_nil, or_false] at he
      rcases he with rfl | rfl | rfl | rfl | rfl
      · exact ⟨0, rfl, by decide⟩
      · exact ⟨0, rfl, by decide⟩
      · exact ⟨1, rfl, by decide⟩
      · exact ⟨u.toNat, by rw [Int.toNat_of_nonneg hu1], by omega⟩
      · exact ⟨v.toNat, by rw [Int.toNat_of_nonneg hv1], by omega⟩
    (try simp only [↓x_eqSS, ↓x_neSS, ↓gKGet, ↓x_kget, ↓x_ixE, at_last, ↓x_appE, ↓x_tyE, ↓x_itE, ↓x_lenE, ↓x_nePr, ↓x_eqPr, ↓x_neE, ↓x_lenr, ↓x_lenrI, ↓gRev, ↓x_par3, ↓x_par33, ↓x_fld, ↓x_fset, ↓x_mkF, ↓x_mk, ↓x_meth, ↓x_fldO, ↓x_fsetE, ↓x_fldE, ↓x_methO, ↓x_isiCO, ↓x_isiCN, ↓x_isiCT, ↓x_isiCLi, ↓x_isiCS, ↓x_isiCI, ↓x_own, ↓x_eqT2, ↓x_neT2, ↓x_neL4, ↓x_eqLN, ↓x_neNil, ↓x_gset, ↓x_lc, ↓x_for, ↓x_it, ↓x_rn1, ↓x_rn2, ↓x_enu, ↓x_zip, ↓x_itS, ↓x_itL, ↓x_itK, ↓x_itT, ↓x_rn1I, ↓x_rn2I, ↓x_enuL, ↓x_enuK, ↓x_zipL, ↓x_ixS0, ↓x_ixL, ↓x_ixT, ↓x_ixK, x_at0, x_at1, x_at2, x_at3, x_at4, ↓x_set00, ↓x_set01, ↓x_set02, ↓x_aug1, ↓x_aug2, ↓x_aug3, ↓x_aug4, ↓x_aug5, ↓x_aug6, ↓x_aug7, ↓x_aug8, ↓x_aug9, ↓x_aug10, ↓x_aug11, ↓x_aug12, ↓x_aug13, ↓x_aug14, ↓x_aug15, ↓x_aug16, ↓x_aug17, ↓x_aug18, ↓x_aug19, ↓x_aug20, ↓x_aug21, ↓x_aug22, ↓x_aug23, Int.reduceToNat, Int.reducePow, ↓gSeq, ↓gIfS, ↓gSet, ↓gAsg, ↓x_par, ↓x_par2, ↓gRet, ↓gRetN, ↓gNext, ↓gDrop, ↓gBreak, ↓gCont, ↓gDead, ↓gCB, ↓gB2, ↓gU, ↓gC, ↓Dl.gCons, ↓Dl.gNil, ↓Dl.gTup, ↓Dl.gLst, ↓gTest, ↓gOrB, ↓gAndB, ↓gNotB, ↓gAndV, ↓gOrV, ↓gNotV, ↓gIf, ↓gIx, ↓gSl, ↓gPart, ↓gNoP, ↓gMt, ↓gCall, ↓gArgs, ↓gIsN, ↓gNotN, ↓gChain, ↓x_fmtS, ↓x_afS, ↓x_afI, ↓x_js0, ↓x_jsc, ↓gJoined, ↓gYes, ↓x_bnm, ↓x_btp, ↓x_bn, ↓x_bc, ↓x_nnN, ↓x_nnI, ↓x_nnS, ↓x_nnB, ↓x_nnT, ↓x_nnL, ↓x_nnO, ↓x_nnl, ↓x_tyS, ↓x_tyL, ↓x_i2, ↓aSub, ↓aFdiv, ↓aMod, ↓aPow, ↓aShr, ↓aLt, ↓aLe, ↓aGt, ↓aGe, ↓x_addI, ↓x_addS, ↓x_mulI, ↓x_iaddS, ↓x_iaddI, ↓x_neg, ↓x_eqI, ↓x_neI, ↓x_eqS, ↓x_neS, ↓x_eqB, ↓x_neB, ↓x_eqNI, ↓x_neNI, ↓x_lenS, ↓x_lenL_l, ↓x_lenL_k, ↓x_lenL_t, ↓x_str, ↓x_intI, ↓x_intB, ↓x_divmod, ↓x_max2, ↓x_min2, ↓x_ixS, ↓x_slS, ↓x_slT, ↓x_slL_l, ↓x_slL_k, ↓x_inS, ↓x_newT, ↓x_newF, ↓x_si, ↓x_s1, ↓x_s0, ↓x_rpart, ↓x_part, ↓x_a1, ↓x_a2, ↓x_isiStr, ↓x_isiInt, ↓x_isiIntB, ↓x_isiIntS, ↓x_isiBB, ↓x_isiBI, ↓x_isiStrI, ↓x_isiNonI, ↓x_isiNonS, ↓x_isiT, ↓x_isiL, ↓x_var0, ↓x_varS, ↓x_ex, ↓x_aug0, gat, pick, Option.some.injEq, D.bl.injEq, D.int.injEq, D.str.injEq, D.tup.injEq, D.lst.injEq, List.cons.injEq, and_true, true_and, List.set_cons_zero, List.set_cons_succ, List.length_cons, List.length_nil, List.filterMap_cons, List.filterMap_nil, List.getElem?_cons_zero, List.getElem?_cons_succ, Option.bind_some, ↓reduceIte, if_true, if_false, Bool.false_eq_true, Bool.true_eq_false, decide_eq_true_eq, beq_self_eq_true, Bool.not_true, Bool.not_false, Bool.not_eq_true', decide_eq_false_iff_not, exists_eq_left', exists_eq_left, exists_eq, ↓x_dnT, ↓x_dnF, ↓gAsgL, ↓gMMDef, ↓gDSet, ↓gSItems, ↓x_nilL, ↓x_nilE, List.isEmpty_nil, List.isEmpty_cons, Bool.true_xor, Bool.false_xor, ↓gOrT, ↓gAndT, ↓gTryAs, ↓gTryO, ↓gRaise, ↓gCallX, ↓gMethX, ↓gMakeX, ↓gFldX, ↓x_inXs, Bool.false_xor, Bool.true_xor, ↓gOrS, ↓x_fmtRS, ↓x_afRS, ↓x_afRI, ↓x_stO, ↓x_zipS, ↓x_zipE, ↓x_zipSL, ↓x_zipST, ↓x_zipEL, ↓x_augix, ↓x_isB, ↓x_notB, ↓gLR1, ↓gLR2, ↓gDIxT, ↓gDGt1T, ↓gDSetT, ↓gDNewT, ↓gDIx, ↓gDGt1, ↓gDGt2, ↓gDIn, ↓gDSetd, ↓gDPop1, ↓gDPop2, ↓gTIdx, ↓gLKeys, ↓gDisp, ↓gFrD, ↓gFzD])
    refine ⟨x_tyO (hgetS _ _), by decide, Mt.draw_in (by decide) (by decide) ht6 (by omega) fun b o7 hb1 hb2 ht7 => ?_⟩
    obtain ⟨wd, hwd, hat⟩ : ∃ wd : Str, WdOk wd ∧ atI [D.str (Str.ofString "on"), D.str (Str.ofString "off")] b = some (.str wd) := by
      by_cases c : b = 0
      · subst c; exact ⟨"on", .inl rfl, atI_lit (k := 0) rfl⟩
      · have : b = 1 := by omega
        subst this; exact ⟨"off", .inr rfl, atI_lit (k := 1) rfl⟩
    simp only [↓x_eqSS, ↓x_neSS, ↓gKGet, ↓x_kget, ↓x_ixE, at_last, ↓x_appE, ↓x_tyE, ↓x_itE, ↓x_lenE, ↓x_nePr, ↓x_eqPr, ↓x_neE, ↓x_lenr, ↓x_lenrI, ↓gRev, ↓x_par3, ↓x_par33, ↓x_fld, ↓x_fset, ↓x_mkF, ↓x_mk, ↓x_meth, ↓x_fldO, ↓x_fsetE, ↓x_fldE, ↓x_methO, ↓x_isiCO, ↓x_isiCN, ↓x_isiCT, ↓x_isiCLi, ↓x_isiCS, ↓x_isiCI, ↓x_own, ↓x_eqT2, ↓x_neT2, ↓x_neL4, ↓x_eqLN, ↓x_neNil, ↓x_gset, ↓x_lc, ↓x_for, ↓x_it, ↓x_rn1, ↓x_rn2, ↓x_enu, ↓x_zip, ↓x_itS, ↓x_itL, ↓x_itK, ↓x_itT, ↓x_rn1I, ↓x_rn2I, ↓x_enuL, ↓x_enuK, ↓x_zipL, ↓x_ixS0, ↓x_ixL, ↓x_ixT, ↓x_ixK, x_at0, x_at1, x_at2, x_at3, x_at4, ↓x_set00, ↓x_set01, ↓x_set02, ↓x_aug1, ↓x_aug2, ↓x_aug3, ↓x_aug4, ↓x_aug5, ↓x_aug6, ↓x_aug7, ↓x_aug8, ↓x_aug9, ↓x_aug10, ↓x_aug11, ↓x_aug12, ↓x_aug13, ↓x_aug14, ↓x_aug15, ↓x_aug16, ↓x_aug17, ↓x_aug18, ↓x_aug19, ↓x_aug20, ↓x_aug21, ↓x_aug22, ↓x_aug23, Int.reduceToNat, Int.reducePow, ↓gSeq, ↓gIfS, ↓gSet, ↓gAsg, ↓x_par, ↓x_par2, ↓gRet, ↓gRetN, ↓gNext, ↓gDrop, ↓gBreak, ↓gCont, ↓gDead, ↓gCB, ↓gB2, ↓gU, ↓gC, ↓Dl.gCons, ↓Dl.gNil, ↓Dl.gTup, ↓Dl.gLst, ↓gTest, ↓gOrB, ↓gAndB, ↓gNotB, ↓gAndV, ↓gOrV, ↓gNotV, ↓gIf, ↓gIx, ↓gSl, ↓gPart, ↓gNoP, ↓gMt, ↓gCall, ↓gArgs, ↓gIsN, ↓gNotN, ↓gChain, ↓x_fmtS, ↓x_afS, ↓x_afI, ↓x_js0, ↓x_jsc, ↓gJoined, ↓gYes, ↓x_bnm, ↓x_btp, ↓x_bn, ↓x_bc, ↓x_nnN, ↓x_nnI, ↓x_nnS, ↓x_nnB, ↓x_nnT, ↓x_nnL, ↓x_nnO, ↓x_nnl, ↓x_tyS, ↓x_tyL, ↓x_i2, ↓aSub, ↓aFdiv, ↓aMod, ↓aPow, ↓aShr, ↓aLt, ↓aLe, ↓aGt, ↓aGe, ↓x_addI, ↓x_addS, ↓x_mulI, ↓x_iaddS, ↓x_iaddI, ↓x_neg, ↓x_eqI, ↓x_neI, ↓x_eqS, ↓x_neS, ↓x_eqB, ↓x_neB, ↓x_eqNI, ↓x_neNI, ↓x_lenS, ↓x_lenL_l, ↓x_lenL_k, ↓x_lenL_t, ↓x_str, ↓x_intI, ↓x_intB, ↓x_divmod, ↓x_max2, ↓x_min2, ↓x_ixS, ↓x_slS, ↓x_slT, ↓x_slL_l, ↓x_slL_k, ↓x_inS, ↓x_newT, ↓x_newF, ↓x_si, ↓x_s1, ↓x_s0, ↓x_rpart, ↓x_part, ↓x_a1, ↓x_a2, ↓x_isiStr, ↓x_isiInt, ↓x_isiIntB, ↓x_isiIntS, ↓x_isiBB, ↓x_isiBI, ↓x_isiStrI, ↓x_isiNonI, ↓x_isiNonS, ↓x_isiT, ↓x_isiL, ↓x_var0, ↓x_varS, ↓x_ex, ↓x_aug0, gat, pick, Option.some.injEq, D.bl.injEq, D.int.injEq, D.str.injEq, D.tup.injEq, D.lst.injEq, List.cons.injEq, and_true, true_and, List.set_cons_zero, List.set_cons_succ, List.length_cons, List.length_nil, List.filterMap_cons, List.filterMap_nil, List.getElem?_cons_zero, List.getElem?_cons_succ, Option.bind_some, ↓reduceIte, if_true, if_false, Bool.false_eq_true, Bool.true_eq_false, decide_eq_true_eq, beq_self_eq_true, Bool.not_true, Bool.not_false, Bool.not_eq_true', decide_eq_false_iff_not, exists_eq_left', exists_eq_left, exists_eq, ↓x_dnT, ↓x_dnF, ↓gAsgL, ↓gMMDef, ↓gDSet, ↓gSItems, ↓x_nilL, ↓x_nilE, List.isEmpty_nil, List.isEmpty_cons, Bool.true_xor, Bool.false_xor, ↓gOrT, ↓gAndT, ↓gTryAs, ↓gTryO, ↓gRaise, ↓gCallX, ↓gMethX, ↓gMakeX, ↓gFldX, ↓x_inXs, Bool.false_xor, Bool.true_xor, ↓gOrS, ↓x_fmtRS, ↓x_afRS, ↓x_afRI, ↓x_stO, ↓x_zipS, ↓x_zipE, ↓x_zipSL, ↓x_zipST, ↓x_zipEL, ↓x_augix, ↓x_isB, ↓x_notB, ↓gLR1, ↓gLR2, ↓gDIxT, ↓gDGt1T, ↓gDSetT, ↓gDNewT, ↓gDIx, ↓gDGt1, ↓gDGt2, ↓gDIn, ↓gDSetd, ↓gDPop1, ↓gDPop2, ↓gTIdx, ↓gLKeys, ↓gDisp, ↓gFrD, ↓gFzD]
    refine ⟨_, hat, Mt.pickL_in (by simp; omega) (by simp; omega) ht7 (by omega) fun e o8 he ht8 => ?_⟩
    obtain ⟨x, hx, rfl⟩ := List.mem_map.mp he
    refine ⟨by decide, (x_app (hgetS _ _)).mpr ⟨by rw [List.length_map]; omega, ?_⟩⟩
    refine ⟨o8, M + z, R ++ [Rw.mk (M + z) wd x], _, ht8.mono (by omega), by omega, by simp [hRl], fun r hr => ?_, ?_, by simp, by omega, rfl⟩
    · rcases List.mem_append.mp hr with hr | hr
      · exact ⟨(hR r hr).1, by have := (hR r hr).2; omega⟩
      · rw [List.mem_singleton.mp hr]
        exact ⟨⟨by show M + z ≤ 1000000; omega, hwd, hxo x hx⟩, Nat.le_refl _⟩
    · refine List.pairwise_append.mpr ⟨hRi, List.pairwise_singleton _ _, fun r hr s hs => ?_⟩
      rw [List.mem_singleton.mp hs]
      show r.m ≤ M + z
      have := (hR r hr).2
      omega
  · rintro ρ S' ⟨o', M, R, y5, ht', hM, hRl, hR, hRi, rfl, rfl⟩
    refine ⟨trivial, ?_⟩
    simp only [↓x_eqSS, ↓x_neSS, ↓gKGet, ↓x_kget, ↓x_ixE, at_last, ↓x_appE, ↓x_tyE, ↓x_itE, ↓x_lenE, ↓x_nePr, ↓x_eqPr, ↓x_neE, ↓x_lenr, ↓x_lenrI, ↓gRev, ↓x_par3, ↓x_par33, ↓x_fld, ↓x_fset, ↓x_mkF, ↓x_mk, ↓x_meth, ↓x_fldO, ↓x_fsetE, ↓x_fldE, ↓x_methO, ↓x_isiCO, ↓x_isiCN, ↓x_isiCT, ↓x_isiCLi, ↓x_isiCS, ↓x_isiCI, ↓x_own, ↓x_eqT2, ↓x_neT2, ↓x_neL4, ↓x_eqLN, ↓x_neNil, ↓x_gset, ↓x_lc, ↓x_for, ↓x_it, ↓x_rn1, ↓x_rn2, ↓x_enu, ↓x_zip, ↓x_itS, ↓x_itL, ↓x_itK, ↓x_itT, ↓x_rn1I, ↓x_rn2I, ↓x_enuL, ↓x_enuK, ↓x_zipL, ↓x_ixS0, ↓x_ixL, ↓x_ixT, ↓x_ixK, x_at0, x_at1, x_at2, x_at3, x_at4, ↓x_set00, ↓x_set01, ↓x_set02, ↓x_aug1, ↓x_aug2, ↓x_aug3, ↓x_aug4, ↓x_aug5, ↓x_aug6, ↓x_aug7, ↓x_aug8, ↓x_aug9, ↓x_aug10, ↓x_aug11, ↓x_aug12, ↓x_aug13, ↓x_aug14, ↓x_aug15, ↓x_aug16, ↓x_aug17, ↓x_aug18, ↓x_aug19, ↓x_aug20, ↓x_aug21, ↓x_aug22, ↓x_aug23, Int.reduceToNat, Int.reducePow, ↓gSeq, ↓gIfS, ↓gSet, ↓gAsg, ↓x_par, ↓x_par2, ↓gRet, ↓gRetN, ↓gNext, ↓gDrop, ↓gBreak, ↓gCont, ↓gDead, ↓gCB, ↓gB2, ↓gU, ↓gC, ↓Dl.gCons, ↓Dl.gNil, ↓Dl.gTup, ↓Dl.gLst, ↓gTest, ↓gOrB, ↓gAndB, ↓gNotB, ↓gAndV, ↓gOrV, ↓gNotV, ↓gIf, ↓gIx, ↓gSl, ↓gPart, ↓gNoP, ↓gMt, ↓gCall, ↓gArgs, ↓gIsN, ↓gNotN, ↓gChain, ↓x_fmtS, ↓x_afS, ↓x_afI, ↓x_js0, ↓x_jsc, ↓gJoined, ↓gYes, ↓x_bnm, ↓x_btp, ↓x_bn, ↓x_bc, ↓x_nnN, ↓x_nnI, ↓x_nnS, ↓x_nnB, ↓x_nnT, ↓x_nnL, ↓x_nnO, ↓x_nnl, ↓x_tyS, ↓x_tyL, ↓x_i2, ↓aSub, ↓aFdiv, ↓aMod, ↓aPow, ↓aShr, ↓aLt, ↓aLe, ↓aGt, ↓aGe, ↓x_addI, ↓x_addS, ↓x_mulI, ↓x_iaddS, ↓x_iaddI, ↓x_neg, ↓x_eqI, ↓x_neI, ↓x_eqS, ↓x_neS, ↓x_eqB, ↓x_neB, ↓x_eqNI, ↓x_neNI, ↓x_lenS, ↓x_lenL_l, ↓x_lenL_k, ↓x_lenL_t, ↓x_str, ↓x_intI, ↓x_intB, ↓x_divmod, ↓x_max2, ↓x_min2, ↓x_ixS, ↓x_slS, ↓x_slT, ↓x_slL_l, ↓x_slL_k, ↓x_inS, ↓x_newT, ↓x_newF, ↓x_si, ↓x_s1, ↓x_s0, ↓x_rpart, ↓x_part, ↓x_a1, ↓x_a2, ↓x_isiStr, ↓x_isiInt, ↓x_isiIntB, ↓x_isiIntS, ↓x_isiBB, ↓x_isiBI, ↓x_isiStrI, ↓x_isiNonI, ↓x_isiNonS, ↓x_isiT, ↓x_isiL, ↓x_var0, ↓x_varS, ↓x_ex, ↓x_aug0, gat, pick, Option.some.injEq, D.bl.injEq, D.int.injEq, D.str.injEq, D.tup.injEq, D.lst.injEq, List.cons.injEq, and_true, true_and, List.set_cons_zero, List.set_cons_succ, List.length_cons, List.length_nil, List.filterMap_cons, List.filterMap_nil, List.getElem?_cons_zero, List.getElem?_cons_succ, Option.bind_some, ↓reduceIte, if_true, if_false, Bool.false_eq_true, Bool.true_eq_false, decide_eq_true_eq, beq_self_eq_true, Bool.not_true, Bool.not_false, Bool.not_eq_true', decide_eq_false_iff_not, exists_eq_left', exists_eq_left, exists_eq, ↓x_dnT, ↓x_dnF, ↓gAsgL, ↓gMMDef, ↓gDSet, ↓gSItems, ↓x_nilL, ↓x_nilE, List.isEmpty_nil, List.isEmpty_cons, Bool.true_xor, Bool.false_xor, ↓gOrT, ↓gAndT, ↓gTryAs, ↓gTryO, ↓gRaise, ↓gCallX, ↓gMethX, ↓gMakeX, ↓gFldX, ↓x_inXs, Bool.false_xor, Bool.true_xor, ↓gOrS, ↓x_fmtRS, ↓x_afRS, ↓x_afRI, ↓x_stO, ↓x_zipS, ↓x_zipE, ↓x_zipSL, ↓x_zipST, ↓x_zipEL, ↓x_augix, ↓x_isB, ↓x_notB, ↓gLR1, ↓gLR2, ↓gDIxT, ↓gDGt1T, ↓gDSetT, ↓gDNewT, ↓gDIx, ↓gDGt1, ↓gDGt2, ↓gDIn, ↓gDSetd, ↓gDPop1, ↓gDPop2, ↓gTIdx, ↓gLKeys, ↓gDisp, ↓gFrD, ↓gFzD]
    rw [x_rngL] at hRl ht' hM
    have hs2 : Sto.under (o' :: R0).length (o' :: R0) = true := tape_under ht' (by simpa using hs)
    have hq := h (.lst (R.map rwD)) o' ⟨R, rfl, by omega, fun r hr => ⟨(hR r hr).1, by have := (hR r hr).2; omega⟩, hRi⟩ (ht'.mono (by omega))
    exact (x_finE (S0 := o' :: R0) hs2).mpr ⟨und_rw, hq⟩
theorem shb_r {R : List Rw} (h : ∀ r ∈ R, RwOk r) : PyData.showableAll (R.map rwY) = true := by
  induction R with
  | nil => rfl
  | cons r R ih =>
    rw [List.map_cons, PyData.showableAll, ih fun q hq => h q (List.mem_cons_of_mem _ hq), Bool.and_true]
    have h1 := (h r List.mem_cons_self).1
    have := Mt.log2_small (i := (r.m : Nat)) (by omega) (by omega)
    rw [Int.natAbs_natCast] at this
    simp [PyData.showable, PyData.showableAll, this]
theorem nod_r : ∀ R : List Rw, PyData.hasDictAll (R.map rwY) = false
  | [] => rfl
  | r :: R => by simp [PyData.hasDictAll, PyData.hasDict, nod_r R]
theorem big_r {R : List Rw} (h : ∀ r ∈ R, RwOk r) (hl : R.length ≤ 1000) : (PyData.list (R.map rwY)).shown.length ≤ sizeLine := by
  have one : ∀ p ∈ R.map rwY, p.shown.length ≤ 400 := fun p hp => by
    obtain ⟨r, hr, rfl⟩ := List.mem_map.mp hp
    have hok := h r hr
    have hw : (PyData.str r.w).shown.length ≤ 100 := Nat.le_trans (shown_str (wd_ok hok.2.1).1 (wd_ok hok.2.1).2) (by decide)
    have hn : (PyData.str r.n).shown.length ≤ 100 := Nat.le_trans (shown_str (nm_ok hok.2.2) hok.2.2.2.1) (by decide)
    have hm : (PyData.int (r.m : Nat)).shown.length ≤ 100 := by
      rw [PyData.shown]
      show (PySem.Str.ofString (toString ((r.m : Nat) : Int))).length ≤ 100
      rw [PySem.ofString_length]
      have := hok.1
      exact Nat.le_trans (PySem.int_text_length_le10 (k := 8) (by decide) (by omega)) (by decide)
    have three : ∀ p ∈ [PyData.int (r.m : Nat), .str r.w, .str r.n], p.shown.length ≤ 100 := fun p hp => by
      simp only [List.mem_cons, List.not_mem_nil, or_false] at hp
      rcases hp with rfl | rfl | rfl
      · exact hm
      · exact hw
      · exact hn
    exact Nat.le_trans (shown_tuple three) (show (100 + 2) * 3 + 3 ≤ 400 by decide)
  have h1 := shown_list one
  rw [List.length_map] at h1
  have h3 : 1000000 ≤ sizeLine := by decide
  have h4 := Nat.mul_le_mul_left (400 + 2) hl
  omega
theorem show_rowsS {R : List Rw} {d : D} {S : Sto} {q : D → Sto → Prop} (h : ∀ r ∈ R, RwOk r) (hl : R.length ≤ 1000) (hd : toPyS S d = some (.list (R.map rwY))) (hq : q (.str (PyData.list (R.map rwY)).shown) S) : aRepr d S q :=
  (x_repr (p := .list (R.map rwY)) hd).mpr ⟨by rw [PyData.showable]; exact shb_r h, by rw [PyData.hasDict]; exact nod_r R, by rw [PyData.depth]; have := dep_rows R; omega, big_r h hl, hq⟩
theorem show_rows {R : List Rw} {S : Sto} {q : D → Sto → Prop} (h : ∀ r ∈ R, RwOk r) (hl : R.length ≤ 1000) (hq : q (.str (PyData.list (R.map rwY)).shown) S) : aRepr (.lst (R.map rwD)) S q := show_rowsS h hl (by simp [toPyS, toPy, rows_py]) hq
theorem ok_join {sep : Str} (hs : PyData.strOk sep = true) : ∀ ys : List Str, (∀ y ∈ ys, PyData.strOk y = true) → PyData.strOk (Txt.join sep ys) = true := by
  intro ys h
  show PyData.strOk (Builtin.Str.glued sep ys) = true
  rw [StrLaws.glued_eq_join]
  have go : ∀ ys : List Str, (∀ y ∈ ys, PyData.strOk y = true) → PyData.strOk (Str.join sep ys) = true := by
    intro ys
    induction ys with
    | nil => intro _; exact (by decide +kernel : PyData.strOk Str.empty = true)
    | cons x r ih =>
      intro h
      cases r with
      | nil => exact h x List.mem_cons_self
      | cons y r => exact Mt.ok_app (Mt.ok_app (h x List.mem_cons_self) hs) (ih fun z hz => h z (List.mem_cons_of_mem _ hz))
  exact go ys h
theorem bk_ok {b : Str} {R : List Rw} (hb : BaOk b) (h : ∀ r ∈ R, RwOk r) : PyData.strOk (bkT b R) = true := ok_join (by decide +kernel) _ fun y hy => by
  rcases List.mem_cons.mp hy with rfl | hy
  · exact (ba_ok hb).1
  · obtain ⟨r, hr, rfl⟩ := List.mem_map.mp hy
    exact (row_ok (h r hr)).2
theorem bk_last {S : Sto} {b : Str} {R : List Rw} {n : Nat} (e : n = S.length) : BkAt a (S ++ bk2 a n b R) n (n + 1) b R := by simpa using bk2_at (a := a) (X := []) (b := b) (R := R) (S := S) e
end
end Lw
namespace Lw
open PySem L2 Dl
section
variable {P : Program} {w : World} {K : PySem.W.Frag} {mg : Str → Option Value} {base : Heap} {a : Ad}
section
variable {S : Sto} {q : D → Sto → Prop} {b : Str} {R : List Rw} {n j : Nat}
theorem str_in {d : D} (h1 : BkIs a S d b R) (hO : BkOk b R) (h : q (.str (bkT b R)) S) : aStA [⟨a.C_Book, 3, sp_Book_str a⟩] 3 d S q := by
  obtain ⟨ks, ds, ho⟩ : ∃ ks ds, objOf S d = some (a.C_Book, ks, ds) := by
    rcases h1 with ⟨n, j, rfl, hB⟩ | rfl
    · exact ⟨_, _, bk_obj hB⟩
    · exact ⟨_, _, rfl⟩
  exact ⟨_, _, _, List.mem_singleton.mpr rfl, Nat.le_refl _, ho, d, b, R, rfl, h1, hO, _, rfl, h⟩
theorem len_in (h1 : BkAt a S n j b R) (hl : R.length ≤ 100000) (h : q (.int (R.length : Nat)) S) : aLenO a.C_Book (sp_Book_len a) (.loc n) S q := ⟨⟨_, _, bk_obj h1⟩, n, j, b, R, rfl, h1, _, rfl, by omega, by omega, h⟩
theorem notO_in (h1 : BkAt a S n j b R) (hl : R.length ≤ 100000) (h : q (.bl (!((R.length : Int) != 0))) S) : aNotO a.C_Book (sp_Book_len a) (.loc n) S q := ⟨⟨_, _, bk_obj h1⟩, n, j, b, R, rfl, h1, _, rfl, by omega, by omega, h⟩
theorem boO_in (h1 : BkAt a S n j b R) (hl : R.length ≤ 100000) (h : q (.bl ((R.length : Int) != 0)) S) : aBoO a.C_Book (sp_Book_len a) (.loc n) S q := ⟨⟨_, _, bk_obj h1⟩, n, j, b, R, rfl, h1, _, rfl, by omega, by omega, h⟩
theorem rows_in (h1 : BkAt a S n j b R) (hl : R.length ≤ 100000) (h : q (.lst (R.map rwD)) S) : aMeth a.C_Book (Str.ofString "rows") (.loc n) S (sp_Book_rows a [.loc n] S q) := (bk_meth h1 (by decide +kernel)).mpr ⟨n, j, b, R, rfl, h1, hl, h⟩
end
theorem frz2 {S0 X : Sto} {n : Nat} {b : Str} {R : List Rw} (e : n = S0.length) : frzD [n, n + 1] (.loc n) (S0 ++ bk2 a n b R ++ X) = some (bkV a b R, S0 ++ [none, none] ++ X) := by
  subst e
  have e1 : (S0 ++ bk2 a S0.length b R ++ X)[S0.length]? = some (some (bkO a b (S0.length + 1))) := by simp
  have e2 : (S0 ++ bk2 a S0.length b R ++ X).set S0.length none = S0 ++ [none, some (.lst (R.map rwD))] ++ X := by
    rw [List.append_assoc, List.set_append_right _ _ (Nat.le_refl _)]
    simp
  have e3 : (S0 ++ [none, some (MO.lst (R.map rwD))] ++ X)[S0.length + 1]? = some (some (.lst (R.map rwD))) := by simp
  have e4 : (S0 ++ [none, some (MO.lst (R.map rwD))] ++ X).set (S0.length + 1) none = S0 ++ [none, none] ++ X := by
    rw [List.append_assoc, List.set_append_right _ _ (by omega)]
    simp
  simp [frzD, e1, e2, e3, e4, MO.val, D.sb, D.sbs]
theorem rf__law_book (T : Txt K mg a) : ∀ ds S q, D.unders S.length ds = true → Sto.under S.length S = true → sp__law_book a ds S q → g__law_book K a { nx := fun _ S' => fin S.length q .non S', rt := fin S.length q } (startD N__law_book ds) S := by
  rintro ds S q hu hs ⟨b, R, rfl, hO, h⟩
  rw [st__law_book]
  simp only [g__law_book, ↓x_eqSS, ↓x_neSS, ↓gKGet, ↓x_kget, ↓x_ixE, at_last, ↓x_appE, ↓x_tyE, ↓x_itE, ↓x_lenE, ↓x_nePr, ↓x_eqPr, ↓x_neE, ↓x_lenr, ↓x_lenrI, ↓gRev, ↓x_par3, ↓x_par33, ↓x_fld, ↓x_fset, ↓x_mkF, ↓x_mk, ↓x_meth, ↓x_fldO, ↓x_fsetE, ↓x_fldE, ↓x_methO, ↓x_isiCO, ↓x_isiCN, ↓x_isiCT, ↓x_isiCLi, ↓x_isiCS, ↓x_isiCI, ↓x_own, ↓x_eqT2, ↓x_neT2, ↓x_neL4, ↓x_eqLN, ↓x_neNil, ↓x_gset, ↓x_lc, ↓x_for, ↓x_it, ↓x_rn1, ↓x_rn2, ↓x_enu, ↓x_zip, ↓x_itS, ↓x_itL, ↓x_itK, ↓x_itT, ↓x_rn1I, ↓x_rn2I, ↓x_enuL, ↓x_enuK, ↓x_zipL, ↓x_ixS0, ↓x_ixL, ↓x_ixT, ↓x_ixK, x_at0, x_at1, x_at2, x_at3, x_at4, ↓x_set00, ↓x_set01, ↓x_set02, ↓x_aug1, ↓x_aug2, ↓x_aug3, ↓x_aug4, ↓x_aug5, ↓x_aug6, ↓x_aug7, ↓x_aug8, ↓x_aug9, ↓x_aug10, ↓x_aug11, ↓x_aug12, ↓x_aug13, ↓x_aug14, ↓x_aug15, ↓x_aug16, ↓x_aug17, ↓x_aug18, ↓x_aug19, ↓x_aug20, ↓x_aug21, ↓x_aug22, ↓x_aug23, Int.reduceToNat, Int.reducePow, ↓gSeq, ↓gIfS, ↓gSet, ↓gAsg, ↓x_par, ↓x_par2, ↓gRet, ↓gRetN, ↓gNext, ↓gDrop, ↓gBreak, ↓gCont, ↓gDead, ↓gCB, ↓gB2, ↓gU, ↓gC, ↓Dl.gCons, ↓Dl.gNil, ↓Dl.gTup, ↓Dl.gLst, ↓gTest, ↓gOrB, ↓gAndB, ↓gNotB, ↓gAndV, ↓gOrV, ↓gNotV, ↓gIf, ↓gIx, ↓gSl, ↓gPart, ↓gNoP, ↓gMt, ↓gCall, ↓gArgs, ↓gIsN, ↓gNotN, ↓gChain, ↓x_fmtS, ↓x_afS, ↓x_afI, ↓x_js0, ↓x_jsc, ↓gJoined, ↓gYes, ↓x_bnm, ↓x_btp, ↓x_bn, ↓x_bc, ↓x_nnN, ↓x_nnI, ↓x_nnS, ↓x_nnB, ↓x_nnT, ↓x_nnL, ↓x_nnO, ↓x_nnl, ↓x_tyS, ↓x_tyL, ↓x_i2, ↓aSub, ↓aFdiv, ↓aMod, ↓aPow, ↓aShr, ↓aLt, ↓aLe, ↓aGt, ↓aGe, ↓x_addI, ↓x_addS, ↓x_mulI, ↓x_iaddS, ↓x_iaddI, ↓x_neg, ↓x_eqI, ↓x_neI, ↓x_eqS, ↓x_neS, ↓x_eqB, ↓x_neB, ↓x_eqNI, ↓x_neNI, ↓x_lenS, ↓x_lenL_l, ↓x_lenL_k, ↓x_lenL_t, ↓x_str, ↓x_intI, ↓x_intB, ↓x_divmod, ↓x_max2, ↓x_min2, ↓x_ixS, ↓x_slS, ↓x_slT, ↓x_slL_l, ↓x_slL_k, ↓x_inS, ↓x_newT, ↓x_newF, ↓x_si, ↓x_s1, ↓x_s0, ↓x_rpart, ↓x_part, ↓x_a1, ↓x_a2, ↓x_isiStr, ↓x_isiInt, ↓x_isiIntB, ↓x_isiIntS, ↓x_isiBB, ↓x_isiBI, ↓x_isiStrI, ↓x_isiNonI, ↓x_isiNonS, ↓x_isiT, ↓x_isiL, ↓x_var0, ↓x_varS, ↓x_ex, ↓x_aug0, gat, pick, Option.some.injEq, D.bl.injEq, D.int.injEq, D.str.injEq, D.tup.injEq, D.lst.injEq, List.cons.injEq, and_true, true_and, List.set_cons_zero, List.set_cons_succ, List.length_cons, List.length_nil, List.filterMap_cons, List.filterMap_nil, List.getElem?_cons_zero, List.getElem?_cons_succ, Option.bind_some, ↓reduceIte, if_true, if_false, Bool.false_eq_true, Bool.true_eq_false, decide_eq_true_eq, beq_self_eq_true, Bool.not_true, Bool.not_false, Bool.not_eq_true', decide_eq_false_iff_not, exists_eq_left', exists_eq_left, exists_eq, ↓x_dnT, ↓x_dnF, ↓gAsgL, ↓gMMDef, ↓gDSet, ↓gSItems, ↓x_nilL, ↓x_nilE, List.isEmpty_nil, List.isEmpty_cons, Bool.true_xor, Bool.false_xor, ↓gOrT, ↓gAndT, ↓gTryAs, ↓gTryO, ↓gRaise, ↓gCallX, ↓gMethX, ↓gMakeX, ↓gFldX, ↓x_inXs, Bool.false_xor, Bool.true_xor, ↓gOrS, ↓x_fmtRS, ↓x_afRS, ↓x_afRI, ↓x_stO, ↓x_zipS, ↓x_zipE, ↓x_zipSL, ↓x_zipST, ↓x_zipEL, ↓x_augix, ↓x_isB, ↓x_notB, ↓gLR1, ↓gLR2, ↓gDIxT, ↓gDGt1T, ↓gDSetT, ↓gDNewT, ↓gDIx, ↓gDGt1, ↓gDGt2, ↓gDIn, ↓gDSetd, ↓gDPop1, ↓gDPop2, ↓gTIdx, ↓gLKeys, ↓gDisp, ↓gFrD, ↓gFzD]
  refine ⟨rfl, rfl, S, b, rfl, rfl, rfl, ?_⟩
  have hr := hO.le
  refine ⟨fun i ρ S' => S' = S ++ bk2 a S.length b (R.take i) ∧ ∃ x3 x4 x5, ρ = [some (.str b), some (.lst (R.map rwD)), some (.loc S.length), x3, x4, x5], ⟨rfl, _, _, _, rfl⟩, ?_, ?_⟩
  · rintro i d ρ S' hd ⟨rfl, x3, x4, x5, rfl⟩
    rw [List.getElem?_map] at hd
    obtain ⟨r, hr, rfl⟩ := Option.map_eq_some_iff.mp hd
    refine ⟨trivial, _, x_b3, ?_⟩
    simp only [↓x_eqSS, ↓x_neSS, ↓gKGet, ↓x_kget, ↓x_ixE, at_last, ↓x_appE, ↓x_tyE, ↓x_itE, ↓x_lenE, ↓x_nePr, ↓x_eqPr, ↓x_neE, ↓x_lenr, ↓x_lenrI, ↓gRev, ↓x_par3, ↓x_par33, ↓x_fld, ↓x_fset, ↓x_mkF, ↓x_mk, ↓x_meth, ↓x_fldO, ↓x_fsetE, ↓x_fldE, ↓x_methO, ↓x_isiCO, ↓x_isiCN, ↓x_isiCT, ↓x_isiCLi, ↓x_isiCS, ↓x_isiCI, ↓x_own, ↓x_eqT2, ↓x_neT2, ↓x_neL4, ↓x_eqLN, ↓x_neNil, ↓x_gset, ↓x_lc, ↓x_for, ↓x_it, ↓x_rn1, ↓x_rn2, ↓x_enu, ↓x_zip, ↓x_itS, ↓x_itL, ↓x_itK, ↓x_itT, ↓x_rn1I, ↓x_rn2I, ↓x_enuL, ↓x_enuK, ↓x_zipL, ↓x_ixS0, ↓x_ixL, ↓x_ixT, ↓x_ixK, x_at0, x_at1, x_at2, x_at3, x_at4, ↓x_set00, ↓x_set01, ↓x_set02, ↓x_aug1, ↓x_aug2, ↓x_aug3, ↓x_aug4, ↓x_aug5, ↓x_aug6, ↓x_aug7, ↓x_aug8, ↓x_aug9, ↓x_aug10, ↓x_aug11, ↓x_aug12, ↓x_aug13, ↓x_aug14, ↓x_aug15, ↓x_aug16, ↓x_aug17, ↓x_aug18, ↓x_aug19, ↓x_aug20, ↓x_aug21, ↓x_aug22, ↓x_aug23, Int.reduceToNat, Int.reducePow, ↓gSeq, ↓gIfS, ↓gSet, ↓gAsg, ↓x_par, ↓x_par2, ↓gRet, ↓gRetN, ↓gNext, ↓gDrop, ↓gBreak, ↓gCont, ↓gDead, ↓gCB, ↓gB2, ↓gU, ↓gC, ↓Dl.gCons, ↓Dl.gNil, ↓Dl.gTup, ↓Dl.gLst, ↓gTest, ↓gOrB, ↓gAndB, ↓gNotB, ↓gAndV, ↓gOrV, ↓gNotV, ↓gIf, ↓gIx, ↓gSl, ↓gPart, ↓gNoP, ↓gMt, ↓gCall, ↓gArgs, ↓gIsN, ↓gNotN, ↓gChain, ↓x_fmtS, ↓x_afS, ↓x_afI, ↓x_js0, ↓x_jsc, ↓gJoined, ↓gYes, ↓x_bnm, ↓x_btp, ↓x_bn, ↓x_bc, ↓x_nnN, ↓x_nnI, ↓x_nnS, ↓x_nnB, ↓x_nnT, ↓x_nnL, ↓x_nnO, ↓x_nnl, ↓x_tyS, ↓x_tyL, ↓x_i2, ↓aSub, ↓aFdiv, ↓aMod, ↓aPow, ↓aShr, ↓aLt, ↓aLe, ↓aGt, ↓aGe, ↓x_addI, ↓x_addS, ↓x_mulI, ↓x_iaddS, ↓x_iaddI, ↓x_neg, ↓x_eqI, ↓x_neI, ↓x_eqS, ↓x_neS, ↓x_eqB, ↓x_neB, ↓x_eqNI, ↓x_neNI, ↓x_lenS, ↓x_lenL_l, ↓x_lenL_k, ↓x_lenL_t, ↓x_str, ↓x_intI, ↓x_intB, ↓x_divmod, ↓x_max2, ↓x_min2, ↓x_ixS, ↓x_slS, ↓x_slT, ↓x_slL_l, ↓x_slL_k, ↓x_inS, ↓x_newT, ↓x_newF, ↓x_si, ↓x_s1, ↓x_s0, ↓x_rpart, ↓x_part, ↓x_a1, ↓x_a2, ↓x_isiStr, ↓x_isiInt, ↓x_isiIntB, ↓x_isiIntS, ↓x_isiBB, ↓x_isiBI, ↓x_isiStrI, ↓x_isiNonI, ↓x_isiNonS, ↓x_isiT, ↓x_isiL, ↓x_var0, ↓x_varS, ↓x_ex, ↓x_aug0, gat, pick, Option.some.injEq, D.bl.injEq, D.int.injEq, D.str.injEq, D.tup.injEq, D.lst.injEq, List.cons.injEq, and_true, true_and, List.set_cons_zero, List.set_cons_succ, List.length_cons, List.length_nil, List.filterMap_cons, List.filterMap_nil, List.getElem?_cons_zero, List.getElem?_cons_succ, Option.bind_some, ↓reduceIte, if_true, if_false, Bool.false_eq_true, Bool.true_eq_false, decide_eq_true_eq, beq_self_eq_true, Bool.not_true, Bool.not_false, Bool.not_eq_true', decide_eq_false_iff_not, exists_eq_left', exists_eq_left, exists_eq, ↓x_dnT, ↓x_dnF, ↓gAsgL, ↓gMMDef, ↓gDSet, ↓gSItems, ↓x_nilL, ↓x_nilE, List.isEmpty_nil, List.isEmpty_cons, Bool.true_xor, Bool.false_xor, ↓gOrT, ↓gAndT, ↓gTryAs, ↓gTryO, ↓gRaise, ↓gCallX, ↓gMethX, ↓gMakeX, ↓gFldX, ↓x_inXs, Bool.false_xor, Bool.true_xor, ↓gOrS, ↓x_fmtRS, ↓x_afRS, ↓x_afRI, ↓x_stO, ↓x_zipS, ↓x_zipE, ↓x_zipSL, ↓x_zipST, ↓x_zipEL, ↓x_augix, ↓x_isB, ↓x_notB, ↓gLR1, ↓gLR2, ↓gDIxT, ↓gDGt1T, ↓gDSetT, ↓gDNewT, ↓gDIx, ↓gDGt1, ↓gDGt2, ↓gDIn, ↓gDSetd, ↓gDPop1, ↓gDPop2, ↓gTIdx, ↓gLKeys, ↓gDisp, ↓gFrD, ↓gFzD]
    have hB : BkAt a (S ++ bk2 a S.length b (R.take i)) S.length (S.length + 1) b (R.take i) := bk_last rfl
    refine ⟨_, _, bk_obj hB, by decide +kernel, _, _, b, R.take i, r.m, r.w, r.n, rfl, hB, by rw [List.length_take]; omega, fun _ => ?_, fun r' h' hlt => ?_⟩
    · have e := bk2_set (a := a) (X := []) (b := b) (R := R.take i) (R' := R.take i ++ [Rw.mk r.m r.w r.n]) (S := S) rfl
      rw [List.append_nil, List.append_nil] at e
      rw [e, take_snoc hr]
      exact ⟨rfl, _, _, _, rfl, rfl, rfl⟩
    · have := rise_take hO.ri hr r' (List.mem_of_getLast? h')
      omega
  · rintro ρ S' ⟨rfl, x3, x4, x5, rfl⟩
    refine ⟨trivial, ?_⟩
    rw [List.length_map, List.take_length]
    simp only [↓x_eqSS, ↓x_neSS, ↓gKGet, ↓x_kget, ↓x_ixE, at_last, ↓x_appE, ↓x_tyE, ↓x_itE, ↓x_lenE, ↓x_nePr, ↓x_eqPr, ↓x_neE, ↓x_lenr, ↓x_lenrI, ↓gRev, ↓x_par3, ↓x_par33, ↓x_fld, ↓x_fset, ↓x_mkF, ↓x_mk, ↓x_meth, ↓x_fldO, ↓x_fsetE, ↓x_fldE, ↓x_methO, ↓x_isiCO, ↓x_isiCN, ↓x_isiCT, ↓x_isiCLi, ↓x_isiCS, ↓x_isiCI, ↓x_own, ↓x_eqT2, ↓x_neT2, ↓x_neL4, ↓x_eqLN, ↓x_neNil, ↓x_gset, ↓x_lc, ↓x_for, ↓x_it, ↓x_rn1, ↓x_rn2, ↓x_enu, ↓x_zip, ↓x_itS, ↓x_itL, ↓x_itK, ↓x_itT, ↓x_rn1I, ↓x_rn2I, ↓x_enuL, ↓x_enuK, ↓x_zipL, ↓x_ixS0, ↓x_ixL, ↓x_ixT, ↓x_ixK, x_at0, x_at1, x_at2, x_at3, x_at4, ↓x_set00, ↓x_set01, ↓x_set02, ↓x_aug1, ↓x_aug2, ↓x_aug3, ↓x_aug4, ↓x_aug5, ↓x_aug6, ↓x_aug7, ↓x_aug8, ↓x_aug9, ↓x_aug10, ↓x_aug11, ↓x_aug12, ↓x_aug13, ↓x_aug14, ↓x_aug15, ↓x_aug16, ↓x_aug17, ↓x_aug18, ↓x_aug19, ↓x_aug20, ↓x_aug21, ↓x_aug22, ↓x_aug23, Int.reduceToNat, Int.reducePow, ↓gSeq, ↓gIfS, ↓gSet, ↓gAsg, ↓x_par, ↓x_par2, ↓gRet, ↓gRetN, ↓gNext, ↓gDrop, ↓gBreak, ↓gCont, ↓gDead, ↓gCB, ↓gB2, ↓gU, ↓gC, ↓Dl.gCons, ↓Dl.gNil, ↓Dl.gTup, ↓Dl.gLst, ↓gTest, ↓gOrB, ↓gAndB, ↓gNotB, ↓gAndV, ↓gOrV, ↓gNotV, ↓gIf, ↓gIx, ↓gSl, ↓gPart, ↓gNoP, ↓gMt, ↓gCall, ↓gArgs, ↓gIsN, ↓gNotN, ↓gChain, ↓x_fmtS, ↓x_afS, ↓x_afI, ↓x_js0, ↓x_jsc, ↓gJoined, ↓gYes, ↓x_bnm, ↓x_btp, ↓x_bn, ↓x_bc, ↓x_nnN, ↓x_nnI, ↓x_nnS, ↓x_nnB, ↓x_nnT, ↓x_nnL, ↓x_nnO, ↓x_nnl, ↓x_tyS, ↓x_tyL, ↓x_i2, ↓aSub, ↓aFdiv, ↓aMod, ↓aPow, ↓aShr, ↓aLt, ↓aLe, ↓aGt, ↓aGe, ↓x_addI, ↓x_addS, ↓x_mulI, ↓x_iaddS, ↓x_iaddI, ↓x_neg, ↓x_eqI, ↓x_neI, ↓x_eqS, ↓x_neS, ↓x_eqB, ↓x_neB, ↓x_eqNI, ↓x_neNI, ↓x_lenS, ↓x_lenL_l, ↓x_lenL_k, ↓x_lenL_t, ↓x_str, ↓x_intI, ↓x_intB, ↓x_divmod, ↓x_max2, ↓x_min2, ↓x_ixS, ↓x_slS, ↓x_slT, ↓x_slL_l, ↓x_slL_k, ↓x_inS, ↓x_newT, ↓x_newF, ↓x_si, ↓x_s1, ↓x_s0, ↓x_rpart, ↓x_part, ↓x_a1, ↓x_a2, ↓x_isiStr, ↓x_isiInt, ↓x_isiIntB, ↓x_isiIntS, ↓x_isiBB, ↓x_isiBI, ↓x_isiStrI, ↓x_isiNonI, ↓x_isiNonS, ↓x_isiT, ↓x_isiL, ↓x_var0, ↓x_varS, ↓x_ex, ↓x_aug0, gat, pick, Option.some.injEq, D.bl.injEq, D.int.injEq, D.str.injEq, D.tup.injEq, D.lst.injEq, List.cons.injEq, and_true, true_and, List.set_cons_zero, List.set_cons_succ, List.length_cons, List.length_nil, List.filterMap_cons, List.filterMap_nil, List.getElem?_cons_zero, List.getElem?_cons_succ, Option.bind_some, ↓reduceIte, if_true, if_false, Bool.false_eq_true, Bool.true_eq_false, decide_eq_true_eq, beq_self_eq_true, Bool.not_true, Bool.not_false, Bool.not_eq_true', decide_eq_false_iff_not, exists_eq_left', exists_eq_left, exists_eq, ↓x_dnT, ↓x_dnF, ↓gAsgL, ↓gMMDef, ↓gDSet, ↓gSItems, ↓x_nilL, ↓x_nilE, List.isEmpty_nil, List.isEmpty_cons, Bool.true_xor, Bool.false_xor, ↓gOrT, ↓gAndT, ↓gTryAs, ↓gTryO, ↓gRaise, ↓gCallX, ↓gMethX, ↓gMakeX, ↓gFldX, ↓x_inXs, Bool.false_xor, Bool.true_xor, ↓gOrS, ↓x_fmtRS, ↓x_afRS, ↓x_afRI, ↓x_stO, ↓x_zipS, ↓x_zipE, ↓x_zipSL, ↓x_zipST, ↓x_zipEL, ↓x_augix, ↓x_isB, ↓x_notB, ↓gLR1, ↓gLR2, ↓gDIxT, ↓gDGt1T, ↓gDSetT, ↓gDNewT, ↓gDIx, ↓gDGt1, ↓gDGt2, ↓gDIn, ↓gDSetd, ↓gDPop1, ↓gDPop2, ↓gTIdx, ↓gLKeys, ↓gDisp, ↓gFrD, ↓gFzD]
    have e := frz2 (a := a) (X := []) (b := b) (R := R) (S0 := S) rfl
    rw [List.append_nil, List.append_nil] at e
    refine ⟨_, _, _, e, ?_⟩
    unfold fin
    rw [List.take_left]
    exact ⟨hs, (by simp [D.under, D.unders, und_rw] : D.under S.length (bkV a b R) = true), h⟩
theorem r__law_backward (T : Txt K mg a) : ∀ ds S q, sp__law_backward a ds S q → g__law_backward K a { nx := fun _ S' => q .non S', rt := q } (startD N__law_backward ds) S := by
  rintro ds S q ⟨n, j, b, R, r, m, rfl, hB, hl, hr, hm, h⟩
  rw [st__law_backward]
  simp only [g__law_backward, ↓x_eqSS, ↓x_neSS, ↓gKGet, ↓x_kget, ↓x_ixE, at_last, ↓x_appE, ↓x_tyE, ↓x_itE, ↓x_lenE, ↓x_nePr, ↓x_eqPr, ↓x_neE, ↓x_lenr, ↓x_lenrI, ↓gRev, ↓x_par3, ↓x_par33, ↓x_fld, ↓x_fset, ↓x_mkF, ↓x_mk, ↓x_meth, ↓x_fldO, ↓x_fsetE, ↓x_fldE, ↓x_methO, ↓x_isiCO, ↓x_isiCN, ↓x_isiCT, ↓x_isiCLi, ↓x_isiCS, ↓x_isiCI, ↓x_own, ↓x_eqT2, ↓x_neT2, ↓x_neL4, ↓x_eqLN, ↓x_neNil, ↓x_gset, ↓x_lc, ↓x_for, ↓x_it, ↓x_rn1, ↓x_rn2, ↓x_enu, ↓x_zip, ↓x_itS, ↓x_itL, ↓x_itK, ↓x_itT, ↓x_rn1I, ↓x_rn2I, ↓x_enuL, ↓x_enuK, ↓x_zipL, ↓x_ixS0, ↓x_ixL, ↓x_ixT, ↓x_ixK, x_at0, x_at1, x_at2, x_at3, x_at4, ↓x_set00, ↓x_set01, ↓x_set02, ↓x_aug1, ↓x_aug2, ↓x_aug3, ↓x_aug4, ↓x_aug5, ↓x_aug6, ↓x_aug7, ↓x_aug8, ↓x_aug9, ↓x_aug10, ↓x_aug11, ↓x_aug12, ↓x_aug13, ↓x_aug14, ↓x_aug15, ↓x_aug16, ↓x_aug17, ↓x_aug18, ↓x_aug19, ↓x_aug20, ↓x_aug21, ↓x_aug22, ↓x_aug23, Int.reduceToNat, Int.reducePow, ↓gSeq, ↓gIfS, ↓gSet, ↓gAsg, ↓x_par, ↓x_par2, ↓gRet, ↓gRetN, ↓gNext, ↓gDrop, ↓gBreak, ↓gCont, ↓gDead, ↓gCB, ↓gB2, ↓gU, ↓gC, ↓Dl.gCons, ↓Dl.gNil, ↓Dl.gTup, ↓Dl.gLst, ↓gTest, ↓gOrB, ↓gAndB, ↓gNotB, ↓gAndV, ↓gOrV, ↓gNotV, ↓gIf, ↓gIx, ↓gSl, ↓gPart, ↓gNoP, ↓gMt, ↓gCall, ↓gArgs, ↓gIsN, ↓gNotN, ↓gChain, ↓x_fmtS, ↓x_afS, ↓x_afI, ↓x_js0, ↓x_jsc, ↓gJoined, ↓gYes, ↓x_bnm, ↓x_btp, ↓x_bn, ↓x_bc, ↓x_nnN, ↓x_nnI, ↓x_nnS, ↓x_nnB, ↓x_nnT, ↓x_nnL, ↓x_nnO, ↓x_nnl, ↓x_tyS, ↓x_tyL, ↓x_i2, ↓aSub, ↓aFdiv, ↓aMod, ↓aPow, ↓aShr, ↓aLt, ↓aLe, ↓aGt, ↓aGe, ↓x_addI, ↓x_addS, ↓x_mulI, ↓x_iaddS, ↓x_iaddI, ↓x_neg, ↓x_eqI, ↓x_neI, ↓x_eqS, ↓x_neS, ↓x_eqB, ↓x_neB, ↓x_eqNI, ↓x_neNI, ↓x_lenS, ↓x_lenL_l, ↓x_lenL_k, ↓x_lenL_t, ↓x_str, ↓x_intI, ↓x_intB, ↓x_divmod, ↓x_max2, ↓x_min2, ↓x_ixS, ↓x_slS, ↓x_slT, ↓x_slL_l, ↓x_slL_k, ↓x_inS, ↓x_newT, ↓x_newF, ↓x_si, ↓x_s1, ↓x_s0, ↓x_rpart, ↓x_part, ↓x_a1, ↓x_a2, ↓x_isiStr, ↓x_isiInt, ↓x_isiIntB, ↓x_isiIntS, ↓x_isiBB, ↓x_isiBI, ↓x_isiStrI, ↓x_isiNonI, ↓x_isiNonS, ↓x_isiT, ↓x_isiL, ↓x_var0, ↓x_varS, ↓x_ex, ↓x_aug0, gat, pick, Option.some.injEq, D.bl.injEq, D.int.injEq, D.str.injEq, D.tup.injEq, D.lst.injEq, List.cons.injEq, and_true, true_and, List.set_cons_zero, List.set_cons_succ, List.length_cons, List.length_nil, List.filterMap_cons, List.filterMap_nil, List.getElem?_cons_zero, List.getElem?_cons_succ, Option.bind_some, ↓reduceIte, if_true, if_false, Bool.false_eq_true, Bool.true_eq_false, decide_eq_true_eq, beq_self_eq_true, Bool.not_true, Bool.not_false, Bool.not_eq_true', decide_eq_false_iff_not, exists_eq_left', exists_eq_left, exists_eq, ↓x_dnT, ↓x_dnF, ↓gAsgL, ↓gMMDef, ↓gDSet, ↓gSItems, ↓x_nilL, ↓x_nilE, List.isEmpty_nil, List.isEmpty_cons, Bool.true_xor, Bool.false_xor, ↓gOrT, ↓gAndT, ↓gTryAs, ↓gTryO, ↓gRaise, ↓gCallX, ↓gMethX, ↓gMakeX, ↓gFldX, ↓x_inXs, Bool.false_xor, Bool.true_xor, ↓gOrS, ↓x_fmtRS, ↓x_afRS, ↓x_afRI, ↓x_stO, ↓x_zipS, ↓x_zipE, ↓x_zipSL, ↓x_zipST, ↓x_zipEL, ↓x_augix, ↓x_isB, ↓x_notB, ↓gLR1, ↓gLR2, ↓gDIxT, ↓gDGt1T, ↓gDSetT, ↓gDNewT, ↓gDIx, ↓gDGt1, ↓gDGt2, ↓gDIn, ↓gDSetd, ↓gDPop1, ↓gDPop2, ↓gTIdx, ↓gLKeys, ↓gDisp, ↓gFrD, ↓gFzD]
  refine ⟨_, _, bk_obj hB, by decide +kernel, n, j, b, R, m, _, _, rfl, hB, by omega, fun hle => absurd (hle r hr) (by omega), fun r' h' _ => ?_⟩
  rw [hr] at h'
  cases h'
  refine ⟨true, T.xm_Backward_Backward, fun _ => ?_, fun z => nomatch z⟩
  rw [if_neg (fun z => by cases z)]
  exact ⟨_, _, _, _, rfl, ⟨T.xL_Backward, T.xn_Backward_minute⟩, rfl, x_isX1 T.xL_Backward rfl T.xk_Backward_RuntimeError (x_isX1 T.xL_Backward rfl T.xk_Backward_ValueError ⟨by decide, h⟩)⟩
theorem rf__law_looks (T : Txt K mg a) : ∀ ds S q, D.unders S.length ds = true → Sto.under S.length S = true → sp__law_looks a ds S q → g__law_looks K a { nx := fun _ S' => fin S.length q .non S', rt := fin S.length q } (startD N__law_looks ds) S := by
  rintro ds S q hu hs ⟨n, j, b, R, rfl, hB, hO, h⟩
  rw [st__law_looks]
  simp only [g__law_looks, ↓x_eqSS, ↓x_neSS, ↓gKGet, ↓x_kget, ↓x_ixE, at_last, ↓x_appE, ↓x_tyE, ↓x_itE, ↓x_lenE, ↓x_nePr, ↓x_eqPr, ↓x_neE, ↓x_lenr, ↓x_lenrI, ↓gRev, ↓x_par3, ↓x_par33, ↓x_fld, ↓x_fset, ↓x_mkF, ↓x_mk, ↓x_meth, ↓x_fldO, ↓x_fsetE, ↓x_fldE, ↓x_methO, ↓x_isiCO, ↓x_isiCN, ↓x_isiCT, ↓x_isiCLi, ↓x_isiCS, ↓x_isiCI, ↓x_own, ↓x_eqT2, ↓x_neT2, ↓x_neL4, ↓x_eqLN, ↓x_neNil, ↓x_gset, ↓x_lc, ↓x_for, ↓x_it, ↓x_rn1, ↓x_rn2, ↓x_enu, ↓x_zip, ↓x_itS, ↓x_itL, ↓x_itK, ↓x_itT, ↓x_rn1I, ↓x_rn2I, ↓x_enuL, ↓x_enuK, ↓x_zipL, ↓x_ixS0, ↓x_ixL, ↓x_ixT, ↓x_ixK, x_at0, x_at1, x_at2, x_at3, x_at4, ↓x_set00, ↓x_set01, ↓x_set02, ↓x_aug1, ↓x_aug2, ↓x_aug3, ↓x_aug4, ↓x_aug5, ↓x_aug6, ↓x_aug7, ↓x_aug8, ↓x_aug9, ↓x_aug10, ↓x_aug11, ↓x_aug12, ↓x_aug13, ↓x_aug14, ↓x_aug15, ↓x_aug16, ↓x_aug17, ↓x_aug18, ↓x_aug19, ↓x_aug20, ↓x_aug21, ↓x_aug22, ↓x_aug23, Int.reduceToNat, Int.reducePow, ↓gSeq, ↓gIfS, ↓gSet, ↓gAsg, ↓x_par, ↓x_par2, ↓gRet, ↓gRetN, ↓gNext, ↓gDrop, ↓gBreak, ↓gCont, ↓gDead, ↓gCB, ↓gB2, ↓gU, ↓gC, ↓Dl.gCons, ↓Dl.gNil, ↓Dl.gTup, ↓Dl.gLst, ↓gTest, ↓gOrB, ↓gAndB, ↓gNotB, ↓gAndV, ↓gOrV, ↓gNotV, ↓gIf, ↓gIx, ↓gSl, ↓gPart, ↓gNoP, ↓gMt, ↓gCall, ↓gArgs, ↓gIsN, ↓gNotN, ↓gChain, ↓x_fmtS, ↓x_afS, ↓x_afI, ↓x_js0, ↓x_jsc, ↓gJoined, ↓gYes, ↓x_bnm, ↓x_btp, ↓x_bn, ↓x_bc, ↓x_nnN, ↓x_nnI, ↓x_nnS, ↓x_nnB, ↓x_nnT, ↓x_nnL, ↓x_nnO, ↓x_nnl, ↓x_tyS, ↓x_tyL, ↓x_i2, ↓aSub, ↓aFdiv, ↓aMod, ↓aPow, ↓aShr, ↓aLt, ↓aLe, ↓aGt, ↓aGe, ↓x_addI, ↓x_addS, ↓x_mulI, ↓x_iaddS, ↓x_iaddI, ↓x_neg, ↓x_eqI, ↓x_neI, ↓x_eqS, ↓x_neS, ↓x_eqB, ↓x_neB, ↓x_eqNI, ↓x_neNI, ↓x_lenS, ↓x_lenL_l, ↓x_lenL_k, ↓x_lenL_t, ↓x_str, ↓x_intI, ↓x_intB, ↓x_divmod, ↓x_max2, ↓x_min2, ↓x_ixS, ↓x_slS, ↓x_slT, ↓x_slL_l, ↓x_slL_k, ↓x_inS, ↓x_newT, ↓x_newF, ↓x_si, ↓x_s1, ↓x_s0, ↓x_rpart, ↓x_part, ↓x_a1, ↓x_a2, ↓x_isiStr, ↓x_isiInt, ↓x_isiIntB, ↓x_isiIntS, ↓x_isiBB, ↓x_isiBI, ↓x_isiStrI, ↓x_isiNonI, ↓x_isiNonS, ↓x_isiT, ↓x_isiL, ↓x_var0, ↓x_varS, ↓x_ex, ↓x_aug0, gat, pick, Option.some.injEq, D.bl.injEq, D.int.injEq, D.str.injEq, D.tup.injEq, D.lst.injEq, List.cons.injEq, and_true, true_and, List.set_cons_zero, List.set_cons_succ, List.length_cons, List.length_nil, List.filterMap_cons, List.filterMap_nil, List.getElem?_cons_zero, List.getElem?_cons_succ, Option.bind_some, ↓reduceIte, if_true, if_false, Bool.false_eq_true, Bool.true_eq_false, decide_eq_true_eq, beq_self_eq_true, Bool.not_true, Bool.not_false, Bool.not_eq_true', decide_eq_false_iff_not, exists_eq_left', exists_eq_left, exists_eq, ↓x_dnT, ↓x_dnF, ↓gAsgL, ↓gMMDef, ↓gDSet, ↓gSItems, ↓x_nilL, ↓x_nilE, List.isEmpty_nil, List.isEmpty_cons, Bool.true_xor, Bool.false_xor, ↓gOrT, ↓gAndT, ↓gTryAs, ↓gTryO, ↓gRaise, ↓gCallX, ↓gMethX, ↓gMakeX, ↓gFldX, ↓x_inXs, Bool.false_xor, Bool.true_xor, ↓gOrS, ↓x_fmtRS, ↓x_afRS, ↓x_afRI, ↓x_stO, ↓x_zipS, ↓x_zipE, ↓x_zipSL, ↓x_zipST, ↓x_zipEL, ↓x_augix, ↓x_isB, ↓x_notB, ↓gLR1, ↓gLR2, ↓gDIxT, ↓gDGt1T, ↓gDSetT, ↓gDNewT, ↓gDIx, ↓gDGt1, ↓gDGt2, ↓gDIn, ↓gDSetd, ↓gDPop1, ↓gDPop2, ↓gTIdx, ↓gLKeys, ↓gDisp, ↓gFrD, ↓gFzD]
  have hl := hO.le
  have hX : ∀ X, BkAt a (S ++ X) n j b R := fun X => hB.app
  refine (bk_meth hB (by decide +kernel)).mpr ⟨n, j, b, R, rfl, hB, by omega, ?_⟩
  refine show_rowsS hO.ro hl (by simp [toPyS, rows_py]) (show_rows hO.ro hl (x_neSS.mpr ⟨_, rfl, ?_⟩))
  rw [if_neg (by simp)]
  refine len_in (hX _) (by omega) ?_
  simp only [↓x_eqSS, ↓x_neSS, ↓gKGet, ↓x_kget, ↓x_ixE, at_last, ↓x_appE, ↓x_tyE, ↓x_itE, ↓x_lenE, ↓x_nePr, ↓x_eqPr, ↓x_neE, ↓x_lenr, ↓x_lenrI, ↓gRev, ↓x_par3, ↓x_par33, ↓x_fld, ↓x_fset, ↓x_mkF, ↓x_mk, ↓x_meth, ↓x_fldO, ↓x_fsetE, ↓x_fldE, ↓x_methO, ↓x_isiCO, ↓x_isiCN, ↓x_isiCT, ↓x_isiCLi, ↓x_isiCS, ↓x_isiCI, ↓x_own, ↓x_eqT2, ↓x_neT2, ↓x_neL4, ↓x_eqLN, ↓x_neNil, ↓x_gset, ↓x_lc, ↓x_for, ↓x_it, ↓x_rn1, ↓x_rn2, ↓x_enu, ↓x_zip, ↓x_itS, ↓x_itL, ↓x_itK, ↓x_itT, ↓x_rn1I, ↓x_rn2I, ↓x_enuL, ↓x_enuK, ↓x_zipL, ↓x_ixS0, ↓x_ixL, ↓x_ixT, ↓x_ixK, x_at0, x_at1, x_at2, x_at3, x_at4, ↓x_set00, ↓x_set01, ↓x_set02, ↓x_aug1, ↓x_aug2, ↓x_aug3, ↓x_aug4, ↓x_aug5, ↓x_aug6, ↓x_aug7, ↓x_aug8, ↓x_aug9, ↓x_aug10, ↓x_aug11, ↓x_aug12, ↓x_aug13, ↓x_aug14, ↓x_aug15, ↓x_aug16, ↓x_aug17, ↓x_aug18, ↓x_aug19, ↓x_aug20, ↓x_aug21, ↓x_aug22, ↓x_aug23, Int.reduceToNat, Int.reducePow, ↓gSeq, ↓gIfS, ↓gSet, ↓gAsg, ↓x_par, ↓x_par2, ↓gRet, ↓gRetN, ↓gNext, ↓gDrop, ↓gBreak, ↓gCont, ↓gDead, ↓gCB, ↓gB2, ↓gU, ↓gC, ↓Dl.gCons, ↓Dl.gNil, ↓Dl.gTup, ↓Dl.gLst, ↓gTest, ↓gOrB, ↓gAndB, ↓gNotB, ↓gAndV, ↓gOrV, ↓gNotV, ↓gIf, ↓gIx, ↓gSl, ↓gPart, ↓gNoP, ↓gMt, ↓gCall, ↓gArgs, ↓gIsN, ↓gNotN, ↓gChain, ↓x_fmtS, ↓x_afS, ↓x_afI, ↓x_js0, ↓x_jsc, ↓gJoined, ↓gYes, ↓x_bnm, ↓x_btp, ↓x_bn, ↓x_bc, ↓x_nnN, ↓x_nnI, ↓x_nnS, ↓x_nnB, ↓x_nnT, ↓x_nnL, ↓x_nnO, ↓x_nnl, ↓x_tyS, ↓x_tyL, ↓x_i2, ↓aSub, ↓aFdiv, ↓aMod, ↓aPow, ↓aShr, ↓aLt, ↓aLe, ↓aGt, ↓aGe, ↓x_addI, ↓x_addS, ↓x_mulI, ↓x_iaddS, ↓x_iaddI, ↓x_neg, ↓x_eqI, ↓x_neI, ↓x_eqS, ↓x_neS, ↓x_eqB, ↓x_neB, ↓x_eqNI, ↓x_neNI, ↓x_lenS, ↓x_lenL_l, ↓x_lenL_k, ↓x_lenL_t, ↓x_str, ↓x_intI, ↓x_intB, ↓x_divmod, ↓x_max2, ↓x_min2, ↓x_ixS, ↓x_slS, ↓x_slT, ↓x_slL_l, ↓x_slL_k, ↓x_inS, ↓x_newT, ↓x_newF, ↓x_si, ↓x_s1, ↓x_s0, ↓x_rpart, ↓x_part, ↓x_a1, ↓x_a2, ↓x_isiStr, ↓x_isiInt, ↓x_isiIntB, ↓x_isiIntS, ↓x_isiBB, ↓x_isiBI, ↓x_isiStrI, ↓x_isiNonI, ↓x_isiNonS, ↓x_isiT, ↓x_isiL, ↓x_var0, ↓x_varS, ↓x_ex, ↓x_aug0, gat, pick, Option.some.injEq, D.bl.injEq, D.int.injEq, D.str.injEq, D.tup.injEq, D.lst.injEq, List.cons.injEq, and_true, true_and, List.set_cons_zero, List.set_cons_succ, List.length_cons, List.length_nil, List.filterMap_cons, List.filterMap_nil, List.getElem?_cons_zero, List.getElem?_cons_succ, Option.bind_some, ↓reduceIte, if_true, if_false, Bool.false_eq_true, Bool.true_eq_false, decide_eq_true_eq, beq_self_eq_true, Bool.not_true, Bool.not_false, Bool.not_eq_true', decide_eq_false_iff_not, exists_eq_left', exists_eq_left, exists_eq, ↓x_dnT, ↓x_dnF, ↓gAsgL, ↓gMMDef, ↓gDSet, ↓gSItems, ↓x_nilL, ↓x_nilE, List.isEmpty_nil, List.isEmpty_cons, Bool.true_xor, Bool.false_xor, ↓gOrT, ↓gAndT, ↓gTryAs, ↓gTryO, ↓gRaise, ↓gCallX, ↓gMethX, ↓gMakeX, ↓gFldX, ↓x_inXs, Bool.false_xor, Bool.true_xor, ↓gOrS, ↓x_fmtRS, ↓x_afRS, ↓x_afRI, ↓x_stO, ↓x_zipS, ↓x_zipE, ↓x_zipSL, ↓x_zipST, ↓x_zipEL, ↓x_augix, ↓x_isB, ↓x_notB, ↓gLR1, ↓gLR2, ↓gDIxT, ↓gDGt1T, ↓gDSetT, ↓gDNewT, ↓gDIx, ↓gDGt1, ↓gDGt2, ↓gDIn, ↓gDSetd, ↓gDPop1, ↓gDPop2, ↓gTIdx, ↓gLKeys, ↓gDisp, ↓gFrD, ↓gFzD]
  rw [List.length_map, if_neg (by simp), bk_bank T (hX _)]
  refine x_neS.mpr ⟨(ba_ok hO.ba).1, (ba_ok hO.ba).1, _, rfl, ?_⟩
  rw [if_neg (by simp)]
  refine str_in (.inl ⟨n, j, rfl, hX _⟩) hO ⟨b, R, rfl, hO.ba, hO.ro, hl, x_neS.mpr ⟨bk_ok hO.ba hO.ro, bk_ok hO.ba hO.ro, _, rfl, ?_⟩⟩
  rw [if_neg (by simp)]
  have hs' : 100000 ≤ sizeLine := by decide
  have hX2 : ∀ d, BkAt a (S ++ [some d]) n j b R := fun d => hX [some d]
  refine ⟨x_tyO (ds := R.map rwD) (by simp), by decide, x_appE.mpr ⟨by rw [List.length_map]; omega, x_tyO (ds := R.map rwD ++ [.tup [.int 0, .str "on", .str "a"]]) (by simp), ?_⟩⟩
  refine ⟨_, _, rfl, rfl, (by simp : (S ++ [some (MO.lst (R.map rwD ++ [.tup [.int 0, .str "on", .str "a"]]))])[S.length]? = some (some (.lst (R.map rwD ++ [.tup [.int 0, .str "on", .str "a"]])))), ?_⟩
  have setE : ∀ (x y : Option MO), (S ++ [x]).set S.length y = S ++ [y] := fun x y => by simp
  rw [setE]
  generalize (List.map rwD R ++ [D.tup [D.int 0, D.str (Str.ofString "on"), D.str (Str.ofString "a")]]).reverse = Z
  have key : ((R.length : Int) != 0) = !(R.map rwD).isEmpty := by cases R <;> simp <;> omega
  refine notO_in (hX2 _) (by omega) ⟨by omega, x_neB.mpr ⟨_, rfl, ?_⟩⟩
  rw [if_neg (by rw [key]; simp)]
  refine boO_in (hX2 _) (by omega) ⟨by omega, x_neB.mpr ⟨_, rfl, ?_⟩⟩
  rw [if_neg (by rw [key]; simp)]
  unfold gFmtA gVar
  refine ⟨_, rfl, str_in (.inl ⟨n, j, rfl, hX2 _⟩) hO ⟨b, R, rfl, hO.ba, hO.ro, hl, x_neS.mpr ⟨bk_ok hO.ba hO.ro, bk_ok hO.ba hO.ro, _, rfl, ?_⟩⟩⟩
  rw [if_neg (by simp)]
  refine rows_in (hX2 _) (by omega) (show_rows hO.ro hl (show_rows hO.ro hl (x_eqSS.mpr ?_)))
  rw [x_finB hs]
  simpa using h
end
end Lw
namespace Lw
open PySem L2 Dl
section
variable {P : Program} {w : World} {K : PySem.W.Frag} {mg : Str → Option Value} {base : Heap} {a : Ad}
theorem sIx_neg1 {n d : Nat} (h : 1 ≤ n) : HT.sIx n d (some (-1)) = n - 1 := by
  unfold HT.sIx
  simp
  omega
theorem cutD_init {ds : List D} (h : 1 ≤ ds.length) : cutD ds none (some (-1)) = ds.dropLast := by
  unfold cutD
  rw [sIx_neg1 h, HT.sIx_none, List.drop_zero, Nat.sub_zero, List.dropLast_eq_take]
theorem cutD_mid {ds : List D} (k l : Int) (i j : Nat) (hk : k = (i : Int)) (hl : l = (j : Int)) (hj : j ≤ ds.length) (hi : i ≤ j) : cutD ds (some k) (some l) = (ds.drop i).take (j - i) := by
  subst hk hl
  unfold cutD
  rw [HT.sIx_nat, HT.sIx_nat, Nat.min_eq_left hj, Nat.min_eq_left (Nat.le_trans hi hj)]
theorem cutS_init {x : Str} (h : 1 ≤ x.length) : (cutS x none (some (-1))).cps.toList = x.cps.toList.dropLast := by
  have hl : x.cps.toList.length = x.length := Array.length_toList
  unfold cutS
  rw [List.toList_toArray, sIx_neg1 h, HT.sIx_none, List.drop_zero, Nat.sub_zero, List.dropLast_eq_take, hl]
theorem cutS_end {x : Str} (h : 1 ≤ x.length) : (cutS x (some (-1)) none).cps.toList = x.cps.toList.drop (x.length - 1) := by
  have hl : x.cps.toList.length = x.length := Array.length_toList
  unfold cutS
  rw [List.toList_toArray, sIx_neg1 h, HT.sIx_none, List.take_of_length_le (by rw [List.length_drop, hl]; exact Nat.le_refl _)]
/-- a name with another last letter -/
theorem nm_last {x : Str} (h : NmOk x) {c : Nat} (hc : 97 ≤ c ∧ c ≤ 122) (hne : x.cps.toList.getLast? ≠ some c) : NmOk (cutS x none (some (-1)) ++ ⟨#[c]⟩) ∧ cutS x none (some (-1)) ++ ⟨#[c]⟩ ≠ x := by
  have hl : x.cps.toList.length = x.length := Array.length_toList
  have e1 := cutS_init h.1
  have e2 : (cutS x none (some (-1)) ++ (⟨#[c]⟩ : Str)).cps.toList = x.cps.toList.dropLast ++ [c] := by
    show ((cutS x none (some (-1))).cps ++ #[c]).toList = _
    rw [Array.toList_append, e1]
  have e3 : (cutS x none (some (-1)) ++ (⟨#[c]⟩ : Str)).length = x.length := by
    show (cutS x none (some (-1)) ++ (⟨#[c]⟩ : Str)).cps.size = _
    rw [← Array.length_toList, e2, List.length_append, List.length_dropLast, hl]
    have := h.1
    simp
    omega
  refine ⟨⟨by rw [e3]; exact h.1, by rw [e3]; exact h.2.1, fun z hz => ?_⟩, fun e => hne ?_⟩
  · rw [e2] at hz
    rcases List.mem_append.mp hz with hz | hz
    · exact h.2.2 z (List.dropLast_subset _ hz)
    · rw [List.mem_singleton.mp hz]; exact hc
  · rw [← e, e2]
    simp
theorem rise_iff {R : List Rw} : Rise R ↔ (R.map (·.m)).Pairwise (· ≤ ·) := by rw [List.pairwise_map]; exact Iff.rfl
theorem rise_of {R R' : List Rw} (h : Rise R) (e : R'.map (·.m) = R.map (·.m)) : Rise R' := by rw [rise_iff, e, ← rise_iff]; exact h
abbrev obD (a : Ad) (b : Str) (R : List Rw) (p : Str × List Rw) : D := .tup [bkV a p.1 p.2, .bl (decide (p.1 = b ∧ p.2 = R))]
structure Oth (b : Str) (R : List Rw) (L : List (Str × List Rw)) (n : Nat) : Prop where
  le : L.length ≤ n
  hd : L[0]? = some (b, R)
  ok : ∀ p ∈ L, BkOk p.1 p.2
theorem Oth.snoc {b b' : Str} {R R' : List Rw} {L : List (Str × List Rw)} {n : Nat} (h : Oth b R L n) (hO : BkOk b' R') : Oth b R (L ++ [(b', R')]) (n + 1) :=
  ⟨by rw [List.length_append]; have := h.le; simp; omega, by rw [List.getElem?_append_left (List.getElem?_eq_some_iff.mp h.hd).1]; exact h.hd, fun p hp => by
    rcases List.mem_append.mp hp with hp | hp
    · exact h.ok p hp
    · rw [List.mem_singleton.mp hp]; exact hO⟩
theorem pd_snoc {b b' : Str} {R R' : List Rw} {L : List (Str × List Rw)} (hne : ¬ (b' = b ∧ R' = R)) : L.map (obD a b R) ++ [.tup [bkV a b' R', .bl false]] = (L ++ [(b', R')]).map (obD a b R) := by simp [hne]
theorem ot_app {b b' : Str} {R R' : List Rw} {L : List (Str × List Rw)} {o : Option MO} {R0 : Sto} {n : Nat} {q : D → Sto → Prop} (hL : Oth b R L n) (hn : n ≤ 1000) (hne : ¬ (b' = b ∧ R' = R)) (h : q .non (o :: (R0 ++ [some (.lst ((L ++ [(b', R')]).map (obD a b R)))]))) :
    aAppend (.loc (R0.length + 1)) [.tup [bkV a b' R', .bl false]] (o :: (R0 ++ [some (.lst (L.map (obD a b R)))])) q := by
  have hs' : 100000 ≤ sizeLine := by decide
  refine (x_app (ds := L.map (obD a b R)) (by simp)).mpr ⟨by rw [List.length_map]; have := hL.le; omega, ?_⟩
  rw [pd_snoc hne]
  have e : (o :: (R0 ++ [some (MO.lst (L.map (obD a b R)))])).set (R0.length + 1) (some (.lst ((L ++ [(b', R')]).map (obD a b R)))) = o :: (R0 ++ [some (.lst ((L ++ [(b', R')]).map (obD a b R)))]) := by simp
  rw [e]
  exact h
theorem ot_ty {b : Str} {R : List Rw} {L : List (Str × List Rw)} {o : Option MO} {R0 : Sto} : isTy "list" (o :: (R0 ++ [some (.lst (L.map (obD a b R)))])) (.loc (R0.length + 1)) = true := x_tyO (ds := L.map (obD a b R)) (by simp)
theorem split_at {R : List Rw} {k : Nat} {r : Rw} (h : R[k]? = some r) : R = R.take k ++ [r] ++ R.drop (k + 1) := by
  obtain ⟨hk, e⟩ := List.getElem?_eq_some_iff.mp h
  have := List.take_append_drop k R
  rw [List.drop_eq_getElem_cons hk, e] at this
  rw [List.append_assoc]
  exact this.symm
theorem chg_ok {b : Str} {R : List Rw} {k : Nat} {r x : Rw} (hO : BkOk b R) (h : R[k]? = some r) (hx : RwOk x) (hm : x.m = r.m) : BkOk b (R.take k ++ [x] ++ R.drop (k + 1)) := by
  have hs := split_at h
  refine ⟨hO.ba, fun y hy => ?_, rise_of hO.ri ?_, ?_⟩
  · simp only [List.mem_append, List.mem_singleton] at hy
    rcases hy with (hy | hy) | hy
    · exact hO.ro y (List.take_subset _ _ hy)
    · rw [hy]; exact hx
    · exact hO.ro y (List.drop_subset _ _ hy)
  · conv => rhs; rw [hs]
    simp [hm]
  · have e : (R.take k ++ [x] ++ R.drop (k + 1)).length = R.length := by
      conv => rhs; rw [hs]
      simp
    rw [e]; exact hO.le
theorem chg_ne {R : List Rw} {k : Nat} {r x : Rw} (h : R[k]? = some r) (hx : x ≠ r) : R.take k ++ [x] ++ R.drop (k + 1) ≠ R := fun e => by
  have hs := split_at h
  have e2 := e.trans hs
  rw [List.append_assoc, List.append_assoc] at e2
  have e3 := List.append_cancel_left e2
  simp at e3
  exact hx e3
theorem cut_a {R : List Rw} {k : Nat} : cutD (R.map rwD) none (some (k : Int)) = (R.take k).map rwD := by rw [cutD_to _ k rfl, List.map_take]
theorem cut_b {R : List Rw} {k : Nat} : cutD (R.map rwD) (some ((k : Int) + 1)) none = (R.drop (k + 1)).map rwD := by rw [cutD_from _ (k + 1) (by omega), List.map_drop]
theorem cut_i {R : List Rw} (h : 0 < R.length) : cutD (R.map rwD) none (some (-1)) = R.dropLast.map rwD := by rw [cutD_init (by rw [List.length_map]; exact h), List.map_dropLast]
theorem row_sh {r : Rw} (h : RwOk r) : SeqAt.shaped (rwY r) = true := by
  simp [SeqAt.shaped, PyData.canLay0, PyData.canLayAll0, PyData.depth, PyData.depthAll, nm_ok h.2.2, (wd_ok h.2.1).1]
theorem row_eqv (r s : Rw) : PyData.eqv (rwY r) (rwY s) = decide (r = s) := by
  have := eqv_rows [r] [s]
  simpa [PyData.eqvAll] using this
theorem a_ok : NmOk (Str.ofString "a") := ⟨by decide +kernel, by decide +kernel, by decide +kernel⟩
theorem r_oth_c123 (T : Txt K mg a) {b : Str} {R : List Rw} {L : List (Str × List Rw)} {o : Option MO} {R0 : Sto} {x4 x5 x6 x7 x8 x9 x10 x11 : Option D} {q : D → Sto → Prop} (hO : BkOk b R) (hl : R.length ≤ 20) (hL : Oth b R L 10)
    (h : ∀ L', Oth b R L' 40 → q (.loc (R0.length + 1)) (o :: (R0 ++ [some (.lst (L'.map (obD a b R)))]))) : g__law_otherwise_c123 K a { nx := fun _ S' => q .non S', rt := q } [some (.loc 0), some (.str b), some (.lst (R.map rwD)), some (.loc (R0.length + 1)), x4, x5, x6, x7, x8, x9, x10, x11] (o :: (R0 ++ [some (.lst (L.map (obD a b R)))])) := by
  simp only [g__law_otherwise_c123, ↓x_eqSS, ↓x_neSS, ↓gKGet, ↓x_kget, ↓x_ixE, at_last, ↓x_appE, ↓x_tyE, ↓x_itE, ↓x_lenE, ↓x_nePr, ↓x_eqPr, ↓x_neE, ↓x_lenr, ↓x_lenrI, ↓gRev, ↓x_par3, ↓x_par33, ↓x_fld, ↓x_fset, ↓x_mkF, ↓x_mk, ↓x_meth, ↓x_fldO, ↓x_fsetE, ↓x_fldE, ↓x_methO, ↓x_isiCO, ↓x_isiCN, ↓x_isiCT, ↓x_isiCLi, ↓x_isiCS, ↓x_isiCI, ↓x_own, ↓x_eqT2, ↓x_neT2, ↓x_neL4, ↓x_eqLN, ↓x_neNil, ↓x_gset, ↓x_lc, ↓x_for, ↓x_it, ↓x_rn1, ↓x_rn2, ↓x_enu, ↓x_zip, ↓x_itS, ↓x_itL, ↓x_itK, ↓x_itT, ↓x_rn1I, ↓x_rn2I, ↓x_enuL, ↓x_enuK, ↓x_zipL, ↓x_ixS0, ↓x_ixL, ↓x_ixT, ↓x_ixK, x_at0, x_at1, x_at2, x_at3, x_at4, ↓x_set00, ↓x_set01, ↓x_set02, ↓x_aug1, ↓x_aug2, ↓x_aug3, ↓x_aug4, ↓x_aug5, ↓x_aug6, ↓x_aug7, ↓x_aug8, ↓x_aug9, ↓x_aug10, ↓x_aug11, ↓x_aug12, ↓x_aug13, ↓x_aug14, ↓x_aug15, ↓x_aug16, ↓x_aug17, ↓x_aug18, ↓x_aug19, ↓x_aug20, ↓x_aug21, ↓x_aug22, ↓x_aug23, Int.reduceToNat, Int.reducePow, ↓gSeq, ↓gIfS, ↓gSet, ↓gAsg, ↓x_par, ↓x_par2, ↓gRet, ↓gRetN, ↓gNext, ↓gDrop, ↓gBreak, ↓gCont, ↓gDead, ↓gCB, ↓gB2, ↓gU, ↓gC, ↓Dl.gCons, ↓Dl.gNil, ↓Dl.gTup, ↓Dl.gLst, ↓gTest, ↓gOrB, ↓gAndB, ↓gNotB, ↓gAndV, ↓gOrV, ↓gNotV, ↓gIf, ↓gIx, ↓gSl, ↓gPart, ↓gNoP, ↓gMt, ↓gCall, ↓gArgs, ↓gIsN, ↓gNotN, ↓gChain, ↓x_fmtS, ↓x_afS, ↓x_afI, ↓x_js0, ↓x_jsc, ↓gJoined, ↓gYes, ↓x_bnm, ↓x_btp, ↓x_bn, ↓x_bc, ↓x_nnN, ↓x_nnI, ↓x_nnS, ↓x_nnB, ↓x_nnT, ↓x_nnL, ↓x_nnO, ↓x_nnl, ↓x_tyS, ↓x_tyL, ↓x_i2, ↓aSub, ↓aFdiv, ↓aMod, ↓aPow, ↓aShr, ↓aLt, ↓aLe, ↓aGt, ↓aGe, ↓x_addI, ↓x_addS, ↓x_mulI, ↓x_iaddS, ↓x_iaddI, ↓x_neg, ↓x_eqI, ↓x_neI, ↓x_eqS, ↓x_neS, ↓x_eqB, ↓x_neB, ↓x_eqNI, ↓x_neNI, ↓x_lenS, ↓x_lenL_l, ↓x_lenL_k, ↓x_lenL_t, ↓x_str, ↓x_intI, ↓x_intB, ↓x_divmod, ↓x_max2, ↓x_min2, ↓x_ixS, ↓x_slS, ↓x_slT, ↓x_slL_l, ↓x_slL_k, ↓x_inS, ↓x_newT, ↓x_newF, ↓x_si, ↓x_s1, ↓x_s0, ↓x_rpart, ↓x_part, ↓x_a1, ↓x_a2, ↓x_isiStr, ↓x_isiInt, ↓x_isiIntB, ↓x_isiIntS, ↓x_isiBB, ↓x_isiBI, ↓x_isiStrI, ↓x_isiNonI, ↓x_isiNonS, ↓x_isiT, ↓x_isiL, ↓x_var0, ↓x_varS, ↓x_ex, ↓x_aug0, gat, pick, Option.some.injEq, D.bl.injEq, D.int.injEq, D.str.injEq, D.tup.injEq, D.lst.injEq, List.cons.injEq, and_true, true_and, List.set_cons_zero, List.set_cons_succ, List.length_cons, List.length_nil, List.filterMap_cons, List.filterMap_nil, List.getElem?_cons_zero, List.getElem?_cons_succ, Option.bind_some, ↓reduceIte, if_true, if_false, Bool.false_eq_true, Bool.true_eq_false, decide_eq_true_eq, beq_self_eq_true, Bool.not_true, Bool.not_false, Bool.not_eq_true', decide_eq_false_iff_not, exists_eq_left', exists_eq_left, exists_eq, ↓x_dnT, ↓x_dnF, ↓gAsgL, ↓gMMDef, ↓gDSet, ↓gSItems, ↓x_nilL, ↓x_nilE, List.isEmpty_nil, List.isEmpty_cons, Bool.true_xor, Bool.false_xor, ↓gOrT, ↓gAndT, ↓gTryAs, ↓gTryO, ↓gRaise, ↓gCallX, ↓gMethX, ↓gMakeX, ↓gFldX, ↓x_inXs, Bool.false_xor, Bool.true_xor, ↓gOrS, ↓x_fmtRS, ↓x_afRS, ↓x_afRI, ↓x_stO, ↓x_zipS, ↓x_zipE, ↓x_zipSL, ↓x_zipST, ↓x_zipEL, ↓x_augix, ↓x_isB, ↓x_notB, ↓gLR1, ↓gLR2, ↓gDIxT, ↓gDGt1T, ↓gDSetT, ↓gDNewT, ↓gDIx, ↓gDGt1, ↓gDGt2, ↓gDIn, ↓gDSetd, ↓gDPop1, ↓gDPop2, ↓gTIdx, ↓gLKeys, ↓gDisp, ↓gFrD, ↓gFzD]
  have hs' : 100000 ≤ sizeLine := by decide
  rw [List.length_map]
  refine ⟨by omega, by omega, ?_⟩
  refine ⟨fun i ρ S' => ∃ (L' : List (Str × List Rw)) (y5 : Option D), Oth b R L' (10 + i) ∧ S' = o :: (R0 ++ [some (.lst (L'.map (obD a b R)))]) ∧ ρ = [some (.loc 0), some (.str b), some (.lst (R.map rwD)), some (.loc (R0.length + 1)), x4, y5, x6, x7, x8, x9, x10, x11], ⟨L, _, hL, rfl, rfl⟩, ?_, ?_⟩
  · rintro i d ρ S' hd ⟨L', y5, hL', rfl, rfl⟩
    have hi : i < R.length - 1 := by
      have := (List.getElem?_eq_some_iff.mp hd).1
      rw [x_rngL] at this
      omega
    rw [x_rng, if_pos (by omega)] at hd
    cases hd
    refine ⟨trivial, _, x_bnm, ?_⟩
    simp only [↓x_eqSS, ↓x_neSS, ↓gKGet, ↓x_kget, ↓x_ixE, at_last, ↓x_appE, ↓x_tyE, ↓x_itE, ↓x_lenE, ↓x_nePr, ↓x_eqPr, ↓x_neE, ↓x_lenr, ↓x_lenrI, ↓gRev, ↓x_par3, ↓x_par33, ↓x_fld, ↓x_fset, ↓x_mkF, ↓x_mk, ↓x_meth, ↓x_fldO, ↓x_fsetE, ↓x_fldE, ↓x_methO, ↓x_isiCO, ↓x_isiCN, ↓x_isiCT, ↓x_isiCLi, ↓x_isiCS, ↓x_isiCI, ↓x_own, ↓x_eqT2, ↓x_neT2, ↓x_neL4, ↓x_eqLN, ↓x_neNil, ↓x_gset, ↓x_lc, ↓x_for, ↓x_it, ↓x_rn1, ↓x_rn2, ↓x_enu, ↓x_zip, ↓x_itS, ↓x_itL, ↓x_itK, ↓x_itT, ↓x_rn1I, ↓x_rn2I, ↓x_enuL, ↓x_enuK, ↓x_zipL, ↓x_ixS0, ↓x_ixL, ↓x_ixT, ↓x_ixK, x_at0, x_at1, x_at2, x_at3, x_at4, ↓x_set00, ↓x_set01, ↓x_set02, ↓x_aug1, ↓x_aug2, ↓x_aug3, ↓x_aug4, ↓x_aug5, ↓x_aug6, ↓x_aug7, ↓x_aug8, ↓x_aug9, ↓x_aug10, ↓x_aug11, ↓x_aug12, ↓x_aug13, ↓x_aug14, ↓x_aug15, ↓x_aug16, ↓x_aug17, ↓x_aug18, ↓x_aug19, ↓x_aug20, ↓x_aug21, ↓x_aug22, ↓x_aug23, Int.reduceToNat, Int.reducePow, ↓gSeq, ↓gIfS, ↓gSet, ↓gAsg, ↓x_par, ↓x_par2, ↓gRet, ↓gRetN, ↓gNext, ↓gDrop, ↓gBreak, ↓gCont, ↓gDead, ↓gCB, ↓gB2, ↓gU, ↓gC, ↓Dl.gCons, ↓Dl.gNil, ↓Dl.gTup, ↓Dl.gLst, ↓gTest, ↓gOrB, ↓gAndB, ↓gNotB, ↓gAndV, ↓gOrV, ↓gNotV, ↓gIf, ↓gIx, ↓gSl, ↓gPart, ↓gNoP, ↓gMt, ↓gCall, ↓gArgs, ↓gIsN, ↓gNotN, ↓gChain, ↓x_fmtS, ↓x_afS, ↓x_afI, ↓x_js0, ↓x_jsc, ↓gJoined, ↓gYes, ↓x_bnm, ↓x_btp, ↓x_bn, ↓x_bc, ↓x_nnN, ↓x_nnI, ↓x_nnS, ↓x_nnB, ↓x_nnT, ↓x_nnL, ↓x_nnO, ↓x_nnl, ↓x_tyS, ↓x_tyL, ↓x_i2, ↓aSub, ↓aFdiv, ↓aMod, ↓aPow, ↓aShr, ↓aLt, ↓aLe, ↓aGt, ↓aGe, ↓x_addI, ↓x_addS, ↓x_mulI, ↓x_iaddS, ↓x_iaddI, ↓x_neg, ↓x_eqI, ↓x_neI, ↓x_eqS, ↓x_neS, ↓x_eqB, ↓x_neB, ↓x_eqNI, ↓x_neNI, ↓x_lenS, ↓x_lenL_l, ↓x_lenL_k, ↓x_lenL_t, ↓x_str, ↓x_intI, ↓x_intB, ↓x_divmod, ↓x_max2, ↓x_min2, ↓x_ixS, ↓x_slS, ↓x_slT, ↓x_slL_l, ↓x_slL_k, ↓x_inS, ↓x_newT, ↓x_newF, ↓x_si, ↓x_s1, ↓x_s0, ↓x_rpart, ↓x_part, ↓x_a1, ↓x_a2, ↓x_isiStr, ↓x_isiInt, ↓x_isiIntB, ↓x_isiIntS, ↓x_isiBB, ↓x_isiBI, ↓x_isiStrI, ↓x_isiNonI, ↓x_isiNonS, ↓x_isiT, ↓x_isiL, ↓x_var0, ↓x_varS, ↓x_ex, ↓x_aug0, gat, pick, Option.some.injEq, D.bl.injEq, D.int.injEq, D.str.injEq, D.tup.injEq, D.lst.injEq, List.cons.injEq, and_true, true_and, List.set_cons_zero, List.set_cons_succ, List.length_cons, List.length_nil, List.filterMap_cons, List.filterMap_nil, List.getElem?_cons_zero, List.getElem?_cons_succ, Option.bind_some, ↓reduceIte, if_true, if_false, Bool.false_eq_true, Bool.true_eq_false, decide_eq_true_eq, beq_self_eq_true, Bool.not_true, Bool.not_false, Bool.not_eq_true', decide_eq_false_iff_not, exists_eq_left', exists_eq_left, exists_eq, ↓x_dnT, ↓x_dnF, ↓gAsgL, ↓gMMDef, ↓gDSet, ↓gSItems, ↓x_nilL, ↓x_nilE, List.isEmpty_nil, List.isEmpty_cons, Bool.true_xor, Bool.false_xor, ↓gOrT, ↓gAndT, ↓gTryAs, ↓gTryO, ↓gRaise, ↓gCallX, ↓gMethX, ↓gMakeX, ↓gFldX, ↓x_inXs, Bool.false_xor, Bool.true_xor, ↓gOrS, ↓x_fmtRS, ↓x_afRS, ↓x_afRI, ↓x_stO, ↓x_zipS, ↓x_zipE, ↓x_zipSL, ↓x_zipST, ↓x_zipEL, ↓x_augix, ↓x_isB, ↓x_notB, ↓gLR1, ↓gLR2, ↓gDIxT, ↓gDGt1T, ↓gDSetT, ↓gDNewT, ↓gDIx, ↓gDGt1, ↓gDGt2, ↓gDIn, ↓gDSetd, ↓gDPop1, ↓gDPop2, ↓gTIdx, ↓gLKeys, ↓gDisp, ↓gFrD, ↓gFzD]
    rw [show (0 : Int) + (i : Nat) = (i : Nat) by omega, show ((i : Nat) : Int) + 1 = ((i + 1 : Nat) : Int) by omega, show ((i : Nat) : Int) + 2 = ((i + 2 : Nat) : Int) by omega]
    obtain ⟨r, hr⟩ : ∃ r, R[i]? = some r := ⟨R[i]'(by omega), List.getElem?_eq_getElem (by omega)⟩
    obtain ⟨s, hsr⟩ : ∃ r, R[i + 1]? = some r := ⟨R[i + 1]'(by omega), List.getElem?_eq_getElem (by omega)⟩
    have g1 : atI (R.map rwD) ((i : Nat) : Int) = some (rwD r) := atI_lit (by rw [List.getElem?_map, hr]; rfl)
    have g2 : atI (R.map rwD) ((i + 1 : Nat) : Int) = some (rwD s) := atI_lit (by rw [List.getElem?_map, hsr]; rfl)
    refine ⟨_, g1, x_ixT.mpr ⟨_, atI_lit (k := 0) rfl, _, g2, x_ixT.mpr ⟨_, atI_lit (k := 0) rfl, x_eqI.mpr ⟨_, rfl, ?_⟩⟩⟩⟩
    have stay : ∃ (L'' : List (Str × List Rw)) (y5 : Option D), Oth b R L'' (10 + (i + 1)) ∧ o :: (R0 ++ [some (MO.lst (L'.map (obD a b R)))]) = o :: (R0 ++ [some (MO.lst (L''.map (obD a b R)))]) ∧ some (D.int ((i : Nat) : Int)) = y5 := ⟨L', _, ⟨by have := hL'.le; omega, hL'.hd, hL'.ok⟩, rfl, rfl⟩
    by_cases c : ((r.m : Nat) : Int) = (s.m : Nat)
    · rw [if_pos (decide_eq_true c)]
      refine ⟨_, g1, _, g2, (x_ne (p := rwY r) (p' := rwY s) (by simp [toPyS, toPy, toPys]) (by simp [toPyS, toPy, toPys])).mpr ⟨row_sh (hO.ro r (List.mem_of_getElem? hr)), row_sh (hO.ro s (List.mem_of_getElem? hsr)), _, rfl, ?_⟩⟩
      rw [row_eqv]
      by_cases c2 : r = s
      · rw [if_neg (by simp [c2])]
        exact stay
      rw [if_pos (by simp [c2])]
      have hR2 : R = R.take i ++ [r, s] ++ R.drop (i + 2) := by
        have h1 := split_at hr
        have h2 : R.drop (i + 1) = s :: R.drop (i + 2) := by
          obtain ⟨hk, e⟩ := List.getElem?_eq_some_iff.mp hsr
          rw [List.drop_eq_getElem_cons hk, e]
        rw [h2] at h1
        simpa using h1
      have hO2 : BkOk b (R.take i ++ [s, r] ++ R.drop (i + 2)) := by
        refine ⟨hO.ba, fun y hy => ?_, rise_of hO.ri ?_, ?_⟩
        · simp only [List.mem_append, List.mem_cons, List.not_mem_nil, or_false] at hy
          rcases hy with (hy | hy | hy) | hy
          · exact hO.ro y (List.take_subset _ _ hy)
          · rw [hy]; exact hO.ro s (List.mem_of_getElem? hsr)
          · rw [hy]; exact hO.ro r (List.mem_of_getElem? hr)
          · exact hO.ro y (List.drop_subset _ _ hy)
        · have hm : s.m = r.m := by omega
          conv => rhs; rw [hR2]
          simp [hm]
        · have e : (R.take i ++ [s, r] ++ R.drop (i + 2)).length = R.length := by
            conv => rhs; rw [hR2]
            simp
          rw [e]; exact hO.le
      have hne : R.take i ++ [s, r] ++ R.drop (i + 2) ≠ R := fun e => by
        have e2 := e.trans hR2
        rw [List.append_assoc, List.append_assoc] at e2
        have e3 := List.append_cancel_left e2
        simp at e3
        exact c2 e3.1.symm
      have q1 : cutD (R.map rwD) (some ((i : Nat) : Int)) (some ((i + 2 : Nat) : Int)) = [rwD r, rwD s] := by
        rw [cutD_mid _ _ i (i + 2) rfl rfl (by rw [List.length_map]; omega) (by omega), ← List.map_drop]
        have h2 : R.drop i = r :: s :: R.drop (i + 2) := by
          obtain ⟨hk, e⟩ := List.getElem?_eq_some_iff.mp hr
          obtain ⟨hk2, e2⟩ := List.getElem?_eq_some_iff.mp hsr
          rw [List.drop_eq_getElem_cons hk, e, List.drop_eq_getElem_cons hk2, e2]
        rw [h2]
        simp
      have q2 : cutD (R.map rwD) (some ((i + 2 : Nat) : Int)) none = (R.drop (i + 2)).map rwD := by rw [cutD_from _ (i + 2) rfl, List.map_drop]
      rw [q1, q2, cut_a]
      have hl1 : ((R.take i).map rwD).length ≤ 20 := by rw [List.length_map, List.length_take]; omega
      have hl2 : ((R.drop (i + 2)).map rwD).length ≤ 20 := by rw [List.length_map, List.length_drop]; omega
      refine ⟨ot_ty, _, rfl, rfl, x_newT.mpr (x_addLL.mpr ⟨by simp only [List.reverse_cons, List.reverse_nil, List.nil_append, List.cons_append, List.length_cons, List.length_nil]; omega, x_newT.mpr (x_addLL.mpr ⟨by rw [List.length_append]; simp only [List.reverse_cons, List.reverse_nil, List.nil_append, List.cons_append, List.length_cons, List.length_nil]; omega, x_newT.mpr ⟨b, R.take i ++ [s, r] ++ R.drop (i + 2), by simp, hO2, by omega, ot_app hL' (by omega) (fun z => hne z.2) ⟨_, _, hL'.snoc hO2, rfl, rfl⟩⟩⟩)⟩)⟩
    · rw [if_neg (by simp [c])]
      exact stay
  · rintro ρ S' ⟨L', y5, hL', rfl, rfl⟩
    rw [x_rngL] at hL'
    refine ⟨trivial, ?_⟩
    simp only [↓x_eqSS, ↓x_neSS, ↓gKGet, ↓x_kget, ↓x_ixE, at_last, ↓x_appE, ↓x_tyE, ↓x_itE, ↓x_lenE, ↓x_nePr, ↓x_eqPr, ↓x_neE, ↓x_lenr, ↓x_lenrI, ↓gRev, ↓x_par3, ↓x_par33, ↓x_fld, ↓x_fset, ↓x_mkF, ↓x_mk, ↓x_meth, ↓x_fldO, ↓x_fsetE, ↓x_fldE, ↓x_methO, ↓x_isiCO, ↓x_isiCN, ↓x_isiCT, ↓x_isiCLi, ↓x_isiCS, ↓x_isiCI, ↓x_own, ↓x_eqT2, ↓x_neT2, ↓x_neL4, ↓x_eqLN, ↓x_neNil, ↓x_gset, ↓x_lc, ↓x_for, ↓x_it, ↓x_rn1, ↓x_rn2, ↓x_enu, ↓x_zip, ↓x_itS, ↓x_itL, ↓x_itK, ↓x_itT, ↓x_rn1I, ↓x_rn2I, ↓x_enuL, ↓x_enuK, ↓x_zipL, ↓x_ixS0, ↓x_ixL, ↓x_ixT, ↓x_ixK, x_at0, x_at1, x_at2, x_at3, x_at4, ↓x_set00, ↓x_set01, ↓x_set02, ↓x_aug1, ↓x_aug2, ↓x_aug3, ↓x_aug4, ↓x_aug5, ↓x_aug6, ↓x_aug7, ↓x_aug8, ↓x_aug9, ↓x_aug10, ↓x_aug11, ↓x_aug12, ↓x_aug13, ↓x_aug14, ↓x_aug15, ↓x_aug16, ↓x_aug17, ↓x_aug18, ↓x_aug19, ↓x_aug20, ↓x_aug21, ↓x_aug22, ↓x_aug23, Int.reduceToNat, Int.reducePow, ↓gSeq, ↓gIfS, ↓gSet, ↓gAsg, ↓x_par, ↓x_par2, ↓gRet, ↓gRetN, ↓gNext, ↓gDrop, ↓gBreak, ↓gCont, ↓gDead, ↓gCB, ↓gB2, ↓gU, ↓gC, ↓Dl.gCons, ↓Dl.gNil, ↓Dl.gTup, ↓Dl.gLst, ↓gTest, ↓gOrB, ↓gAndB, ↓gNotB, ↓gAndV, ↓gOrV, ↓gNotV, ↓gIf, ↓gIx, ↓gSl, ↓gPart, ↓gNoP, ↓gMt, ↓gCall, ↓gArgs, ↓gIsN, ↓gNotN, ↓gChain, ↓x_fmtS, ↓x_afS, ↓x_afI, ↓x_js0, ↓x_jsc, ↓gJoined, ↓gYes, ↓x_bnm, ↓x_btp, ↓x_bn, ↓x_bc, ↓x_nnN, ↓x_nnI, ↓x_nnS, ↓x_nnB, ↓x_nnT, ↓x_nnL, ↓x_nnO, ↓x_nnl, ↓x_tyS, ↓x_tyL, ↓x_i2, ↓aSub, ↓aFdiv, ↓aMod, ↓aPow, ↓aShr, ↓aLt, ↓aLe, ↓aGt, ↓aGe, ↓x_addI, ↓x_addS, ↓x_mulI, ↓x_iaddS, ↓x_iaddI, ↓x_neg, ↓x_eqI, ↓x_neI, ↓x_eqS, ↓x_neS, ↓x_eqB, ↓x_neB, ↓x_eqNI, ↓x_neNI, ↓x_lenS, ↓x_lenL_l, ↓x_lenL_k, ↓x_lenL_t, ↓x_str, ↓x_intI, ↓x_intB, ↓x_divmod, ↓x_max2, ↓x_min2, ↓x_ixS, ↓x_slS, ↓x_slT, ↓x_slL_l, ↓x_slL_k, ↓x_inS, ↓x_newT, ↓x_newF, ↓x_si, ↓x_s1, ↓x_s0, ↓x_rpart, ↓x_part, ↓x_a1, ↓x_a2, ↓x_isiStr, ↓x_isiInt, ↓x_isiIntB, ↓x_isiIntS, ↓x_isiBB, ↓x_isiBI, ↓x_isiStrI, ↓x_isiNonI, ↓x_isiNonS, ↓x_isiT, ↓x_isiL, ↓x_var0, ↓x_varS, ↓x_ex, ↓x_aug0, gat, pick, Option.some.injEq, D.bl.injEq, D.int.injEq, D.str.injEq, D.tup.injEq, D.lst.injEq, List.cons.injEq, and_true, true_and, List.set_cons_zero, List.set_cons_succ, List.length_cons, List.length_nil, List.filterMap_cons, List.filterMap_nil, List.getElem?_cons_zero, List.getElem?_cons_succ, Option.bind_some, ↓reduceIte, if_true, if_false, Bool.false_eq_true, Bool.true_eq_false, decide_eq_true_eq, beq_self_eq_true, Bool.not_true, Bool.not_false, Bool.not_eq_true', decide_eq_false_iff_not, exists_eq_left', exists_eq_left, exists_eq, ↓x_dnT, ↓x_dnF, ↓gAsgL, ↓gMMDef, ↓gDSet, ↓gSItems, ↓x_nilL, ↓x_nilE, List.isEmpty_nil, List.isEmpty_cons, Bool.true_xor, Bool.false_xor, ↓gOrT, ↓gAndT, ↓gTryAs, ↓gTryO, ↓gRaise, ↓gCallX, ↓gMethX, ↓gMakeX, ↓gFldX, ↓x_inXs, Bool.false_xor, Bool.true_xor, ↓gOrS, ↓x_fmtRS, ↓x_afRS, ↓x_afRI, ↓x_stO, ↓x_zipS, ↓x_zipE, ↓x_zipSL, ↓x_zipST, ↓x_zipEL, ↓x_augix, ↓x_isB, ↓x_notB, ↓gLR1, ↓gLR2, ↓gDIxT, ↓gDGt1T, ↓gDSetT, ↓gDNewT, ↓gDIx, ↓gDGt1, ↓gDGt2, ↓gDIn, ↓gDSetd, ↓gDPop1, ↓gDPop2, ↓gTIdx, ↓gLKeys, ↓gDisp, ↓gFrD, ↓gFzD]
    exact h L' ⟨by have := hL'.le; omega, hL'.hd, hL'.ok⟩
theorem r_oth_c114 (T : Txt K mg a) {b : Str} {R : List Rw} {L : List (Str × List Rw)} {o : Option MO} {R0 : Sto} {M : Nat} {B : Int} {x5 x6 x7 x8 x9 x10 x11 : Option D} {q : D → Sto → Prop} (hO : BkOk b R) (hl : R.length ≤ 20) (hR : ∀ r ∈ R, r.m ≤ 990000) (hM : M ≤ 990000) (hM2 : ∀ r ∈ R, r.m ≤ M) (hL : Oth b R L 3) (ht : Mt.Tp B o) (hB : B + 10 ≤ 10 ^ 12)
    (h : ∀ o' L', Mt.Tp (B + 1) o' → Oth b R L' 40 → q (.loc (R0.length + 1)) (o' :: (R0 ++ [some (.lst (L'.map (obD a b R)))]))) : g__law_otherwise_c114 K a { nx := fun _ S' => q .non S', rt := q } [some (.loc 0), some (.str b), some (.lst (R.map rwD)), some (.loc (R0.length + 1)), some (.int (M : Nat)), x5, x6, x7, x8, x9, x10, x11] (o :: (R0 ++ [some (.lst (L.map (obD a b R)))])) := by
  simp only [g__law_otherwise_c114, ↓x_eqSS, ↓x_neSS, ↓gKGet, ↓x_kget, ↓x_ixE, at_last, ↓x_appE, ↓x_tyE, ↓x_itE, ↓x_lenE, ↓x_nePr, ↓x_eqPr, ↓x_neE, ↓x_lenr, ↓x_lenrI, ↓gRev, ↓x_par3, ↓x_par33, ↓x_fld, ↓x_fset, ↓x_mkF, ↓x_mk, ↓x_meth, ↓x_fldO, ↓x_fsetE, ↓x_fldE, ↓x_methO, ↓x_isiCO, ↓x_isiCN, ↓x_isiCT, ↓x_isiCLi, ↓x_isiCS, ↓x_isiCI, ↓x_own, ↓x_eqT2, ↓x_neT2, ↓x_neL4, ↓x_eqLN, ↓x_neNil, ↓x_gset, ↓x_lc, ↓x_for, ↓x_it, ↓x_rn1, ↓x_rn2, ↓x_enu, ↓x_zip, ↓x_itS, ↓x_itL, ↓x_itK, ↓x_itT, ↓x_rn1I, ↓x_rn2I, ↓x_enuL, ↓x_enuK, ↓x_zipL, ↓x_ixS0, ↓x_ixL, ↓x_ixT, ↓x_ixK, x_at0, x_at1, x_at2, x_at3, x_at4, ↓x_set00, ↓x_set01, ↓x_set02, ↓x_aug1, ↓x_aug2, ↓x_aug3, ↓x_aug4, ↓x_aug5, ↓x_aug6, ↓x_aug7, ↓x_aug8, ↓x_aug9, ↓x_aug10, ↓x_aug11, ↓x_aug12, ↓x_aug13, ↓x_aug14, ↓x_aug15, ↓x_aug16, ↓x_aug17, ↓x_aug18, ↓x_aug19, ↓x_aug20, ↓x_aug21, ↓x_aug22, ↓x_aug23, Int.reduceToNat, Int.reducePow, ↓gSeq, ↓gIfS, ↓gSet, ↓gAsg, ↓x_par, ↓x_par2, ↓gRet, ↓gRetN, ↓gNext, ↓gDrop, ↓gBreak, ↓gCont, ↓gDead, ↓gCB, ↓gB2, ↓gU, ↓gC, ↓Dl.gCons, ↓Dl.gNil, ↓Dl.gTup, ↓Dl.gLst, ↓gTest, ↓gOrB, ↓gAndB, ↓gNotB, ↓gAndV, ↓gOrV, ↓gNotV, ↓gIf, ↓gIx, ↓gSl, ↓gPart, ↓gNoP, ↓gMt, ↓gCall, ↓gArgs, ↓gIsN, ↓gNotN, ↓gChain, ↓x_fmtS, ↓x_afS, ↓x_afI, ↓x_js0, ↓x_jsc, ↓gJoined, ↓gYes, ↓x_bnm, ↓x_btp, ↓x_bn, ↓x_bc, ↓x_nnN, ↓x_nnI, ↓x_nnS, ↓x_nnB, ↓x_nnT, ↓x_nnL, ↓x_nnO, ↓x_nnl, ↓x_tyS, ↓x_tyL, ↓x_i2, ↓aSub, ↓aFdiv, ↓aMod, ↓aPow, ↓aShr, ↓aLt, ↓aLe, ↓aGt, ↓aGe, ↓x_addI, ↓x_addS, ↓x_mulI, ↓x_iaddS, ↓x_iaddI, ↓x_neg, ↓x_eqI, ↓x_neI, ↓x_eqS, ↓x_neS, ↓x_eqB, ↓x_neB, ↓x_eqNI, ↓x_neNI, ↓x_lenS, ↓x_lenL_l, ↓x_lenL_k, ↓x_lenL_t, ↓x_str, ↓x_intI, ↓x_intB, ↓x_divmod, ↓x_max2, ↓x_min2, ↓x_ixS, ↓x_slS, ↓x_slT, ↓x_slL_l, ↓x_slL_k, ↓x_inS, ↓x_newT, ↓x_newF, ↓x_si, ↓x_s1, ↓x_s0, ↓x_rpart, ↓x_part, ↓x_a1, ↓x_a2, ↓x_isiStr, ↓x_isiInt, ↓x_isiIntB, ↓x_isiIntS, ↓x_isiBB, ↓x_isiBI, ↓x_isiStrI, ↓x_isiNonI, ↓x_isiNonS, ↓x_isiT, ↓x_isiL, ↓x_var0, ↓x_varS, ↓x_ex, ↓x_aug0, gat, pick, Option.some.injEq, D.bl.injEq, D.int.injEq, D.str.injEq, D.tup.injEq, D.lst.injEq, List.cons.injEq, and_true, true_and, List.set_cons_zero, List.set_cons_succ, List.length_cons, List.length_nil, List.filterMap_cons, List.filterMap_nil, List.getElem?_cons_zero, List.getElem?_cons_succ, Option.bind_some, ↓reduceIte, if_true, if_false, Bool.false_eq_true, Bool.true_eq_false, decide_eq_true_eq, beq_self_eq_true, Bool.not_true, Bool.not_false, Bool.not_eq_true', decide_eq_false_iff_not, exists_eq_left', exists_eq_left, exists_eq, ↓x_dnT, ↓x_dnF, ↓gAsgL, ↓gMMDef, ↓gDSet, ↓gSItems, ↓x_nilL, ↓x_nilE, List.isEmpty_nil, List.isEmpty_cons, Bool.true_xor, Bool.false_xor, ↓gOrT, ↓gAndT, ↓gTryAs, ↓gTryO, ↓gRaise, ↓gCallX, ↓gMethX, ↓gMakeX, ↓gFldX, ↓x_inXs, Bool.false_xor, Bool.true_xor, ↓gOrS, ↓x_fmtRS, ↓x_afRS, ↓x_afRI, ↓x_stO, ↓x_zipS, ↓x_zipE, ↓x_zipSL, ↓x_zipST, ↓x_zipEL, ↓x_augix, ↓x_isB, ↓x_notB, ↓gLR1, ↓gLR2, ↓gDIxT, ↓gDGt1T, ↓gDSetT, ↓gDNewT, ↓gDIx, ↓gDGt1, ↓gDGt2, ↓gDIn, ↓gDSetd, ↓gDPop1, ↓gDPop2, ↓gTIdx, ↓gLKeys, ↓gDisp, ↓gFrD, ↓gFzD]
  have hs' : 100000 ≤ sizeLine := by decide
  refine ⟨by omega, ?_⟩
  by_cases he : R = []
  · subst he
    rw [if_neg (by simp)]
    exact r_oth_c123 T hO (by simp) ⟨by have := hL.le; omega, hL.hd, hL.ok⟩ fun L' h' => h o L' (ht.mono (by omega)) h'
  have hpos : 0 < R.length := List.length_pos_iff.mpr he
  rw [if_pos (by cases R <;> simp_all)]
  refine Mt.draw_in (by rw [List.length_map]; omega) (by rw [List.length_map]; omega) ht (by omega) fun k o1 k0 k1 ht1 => ?_
  rw [List.length_map] at k1
  obtain ⟨k, rfl⟩ := Int.eq_ofNat_of_zero_le k0
  obtain ⟨r, hr⟩ : ∃ r, R[k]? = some r := ⟨R[k]'(by omega), List.getElem?_eq_getElem (by omega)⟩
  refine x_ixL.mpr ⟨rwD r, atI_lit (by rw [List.getElem?_map, hr]; rfl), ?_⟩
  refine ⟨_, x_b3, ?_⟩
  simp only [↓x_eqSS, ↓x_neSS, ↓gKGet, ↓x_kget, ↓x_ixE, at_last, ↓x_appE, ↓x_tyE, ↓x_itE, ↓x_lenE, ↓x_nePr, ↓x_eqPr, ↓x_neE, ↓x_lenr, ↓x_lenrI, ↓gRev, ↓x_par3, ↓x_par33, ↓x_fld, ↓x_fset, ↓x_mkF, ↓x_mk, ↓x_meth, ↓x_fldO, ↓x_fsetE, ↓x_fldE, ↓x_methO, ↓x_isiCO, ↓x_isiCN, ↓x_isiCT, ↓x_isiCLi, ↓x_isiCS, ↓x_isiCI, ↓x_own, ↓x_eqT2, ↓x_neT2, ↓x_neL4, ↓x_eqLN, ↓x_neNil, ↓x_gset, ↓x_lc, ↓x_for, ↓x_it, ↓x_rn1, ↓x_rn2, ↓x_enu, ↓x_zip, ↓x_itS, ↓x_itL, ↓x_itK, ↓x_itT, ↓x_rn1I, ↓x_rn2I, ↓x_enuL, ↓x_enuK, ↓x_zipL, ↓x_ixS0, ↓x_ixL, ↓x_ixT, ↓x_ixK, x_at0, x_at1, x_at2, x_at3, x_at4, ↓x_set00, ↓x_set01, ↓x_set02, ↓x_aug1, ↓x_aug2, ↓x_aug3, ↓x_aug4, ↓x_aug5, ↓x_aug6, ↓x_aug7, ↓x_aug8, ↓x_aug9, ↓x_aug10, ↓x_aug11, ↓x_aug12, ↓x_aug13, ↓x_aug14, ↓x_aug15, ↓x_aug16, ↓x_aug17, ↓x_aug18, ↓x_aug19, ↓x_aug20, ↓x_aug21, ↓x_aug22, ↓x_aug23, Int.reduceToNat, Int.reducePow, ↓gSeq, ↓gIfS, ↓gSet, ↓gAsg, ↓x_par, ↓x_par2, ↓gRet, ↓gRetN, ↓gNext, ↓gDrop, ↓gBreak, ↓gCont, ↓gDead, ↓gCB, ↓gB2, ↓gU, ↓gC, ↓Dl.gCons, ↓Dl.gNil, ↓Dl.gTup, ↓Dl.gLst, ↓gTest, ↓gOrB, ↓gAndB, ↓gNotB, ↓gAndV, ↓gOrV, ↓gNotV, ↓gIf, ↓gIx, ↓gSl, ↓gPart, ↓gNoP, ↓gMt, ↓gCall, ↓gArgs, ↓gIsN, ↓gNotN, ↓gChain, ↓x_fmtS, ↓x_afS, ↓x_afI, ↓x_js0, ↓x_jsc, ↓gJoined, ↓gYes, ↓x_bnm, ↓x_btp, ↓x_bn, ↓x_bc, ↓x_nnN, ↓x_nnI, ↓x_nnS, ↓x_nnB, ↓x_nnT, ↓x_nnL, ↓x_nnO, ↓x_nnl, ↓x_tyS, ↓x_tyL, ↓x_i2, ↓aSub, ↓aFdiv, ↓aMod, ↓aPow, ↓aShr, ↓aLt, ↓aLe, ↓aGt, ↓aGe, ↓x_addI, ↓x_addS, ↓x_mulI, ↓x_iaddS, ↓x_iaddI, ↓x_neg, ↓x_eqI, ↓x_neI, ↓x_eqS, ↓x_neS, ↓x_eqB, ↓x_neB, ↓x_eqNI, ↓x_neNI, ↓x_lenS, ↓x_lenL_l, ↓x_lenL_k, ↓x_lenL_t, ↓x_str, ↓x_intI, ↓x_intB, ↓x_divmod, ↓x_max2, ↓x_min2, ↓x_ixS, ↓x_slS, ↓x_slT, ↓x_slL_l, ↓x_slL_k, ↓x_inS, ↓x_newT, ↓x_newF, ↓x_si, ↓x_s1, ↓x_s0, ↓x_rpart, ↓x_part, ↓x_a1, ↓x_a2, ↓x_isiStr, ↓x_isiInt, ↓x_isiIntB, ↓x_isiIntS, ↓x_isiBB, ↓x_isiBI, ↓x_isiStrI, ↓x_isiNonI, ↓x_isiNonS, ↓x_isiT, ↓x_isiL, ↓x_var0, ↓x_varS, ↓x_ex, ↓x_aug0, gat, pick, Option.some.injEq, D.bl.injEq, D.int.injEq, D.str.injEq, D.tup.injEq, D.lst.injEq, List.cons.injEq, and_true, true_and, List.set_cons_zero, List.set_cons_succ, List.length_cons, List.length_nil, List.filterMap_cons, List.filterMap_nil, List.getElem?_cons_zero, List.getElem?_cons_succ, Option.bind_some, ↓reduceIte, if_true, if_false, Bool.false_eq_true, Bool.true_eq_false, decide_eq_true_eq, beq_self_eq_true, Bool.not_true, Bool.not_false, Bool.not_eq_true', decide_eq_false_iff_not, exists_eq_left', exists_eq_left, exists_eq, ↓x_dnT, ↓x_dnF, ↓gAsgL, ↓gMMDef, ↓gDSet, ↓gSItems, ↓x_nilL, ↓x_nilE, List.isEmpty_nil, List.isEmpty_cons, Bool.true_xor, Bool.false_xor, ↓gOrT, ↓gAndT, ↓gTryAs, ↓gTryO, ↓gRaise, ↓gCallX, ↓gMethX, ↓gMakeX, ↓gFldX, ↓x_inXs, Bool.false_xor, Bool.true_xor, ↓gOrS, ↓x_fmtRS, ↓x_afRS, ↓x_afRI, ↓x_stO, ↓x_zipS, ↓x_zipE, ↓x_zipSL, ↓x_zipST, ↓x_zipEL, ↓x_augix, ↓x_isB, ↓x_notB, ↓gLR1, ↓gLR2, ↓gDIxT, ↓gDGt1T, ↓gDSetT, ↓gDNewT, ↓gDIx, ↓gDGt1, ↓gDGt2, ↓gDIn, ↓gDSetd, ↓gDPop1, ↓gDPop2, ↓gTIdx, ↓gLKeys, ↓gDisp, ↓gFrD, ↓gFzD]
  have hrO := hO.ro r (List.mem_of_getElem? hr)
  have hRl := (List.getElem?_eq_some_iff.mp hr).1
  rw [cut_a, cut_b, cut_i hpos]
  have lens : (R.take k).length ≤ 20 ∧ (R.drop (k + 1)).length ≤ 20 ∧ R.dropLast.length ≤ 20 := ⟨by rw [List.length_take]; omega, by rw [List.length_drop]; omega, by rw [List.length_dropLast]; omega⟩
  have del : BkOk b (R.take k ++ R.drop (k + 1)) := by
    refine ⟨hO.ba, fun y hy => ?_, ?_, by rw [List.length_append]; omega⟩
    · rcases List.mem_append.mp hy with hy | hy
      · exact hO.ro y (List.take_subset _ _ hy)
      · exact hO.ro y (List.drop_subset _ _ hy)
    · refine List.Pairwise.sublist ?_ hO.ri
      conv => rhs; rw [split_at hr]
      rw [List.append_assoc]
      exact List.Sublist.append (List.Sublist.refl _) (List.sublist_cons_self _ _)
  refine ⟨ot_ty, x_addLL.mpr ⟨by rw [List.length_map, List.length_map]; omega, x_newT.mpr ⟨b, _, by rw [← List.map_append], del, by omega, ot_app hL (by omega) (fun z => ?_) ?_⟩⟩⟩
  · have e := congrArg List.length z.2
    rw [List.length_append, List.length_take, List.length_drop] at e
    omega
  have hL1 := hL.snoc del
  obtain ⟨w', hw', hwne, hwat⟩ : ∃ w' : Str, WdOk w' ∧ w' ≠ r.w ∧ atI [D.str (Str.ofString "on"), D.str (Str.ofString "off")] (if r.w = Str.ofString "on" then 1 else 0) = some (.str w') := by
    rcases hrO.2.1 with e | e <;> rw [e]
    · exact ⟨"off", .inr rfl, by decide +kernel, by rw [if_pos rfl]; exact atI_lit (k := 1) rfl⟩
    · exact ⟨"on", .inl rfl, by decide +kernel, by rw [if_neg (by decide +kernel)]; exact atI_lit (k := 0) rfl⟩
  refine ⟨by omega, (wd_ok hrO.2.1).1, by decide +kernel, _, hwat, by omega, ot_ty, by omega, ?_⟩
  have hT : BkOk b (R.take k ++ [Rw.mk r.m w' r.n] ++ R.drop (k + 1)) := chg_ok hO hr ⟨hrO.1, hw', hrO.2.2⟩ rfl
  refine x_addLL.mpr ⟨by rw [List.length_map]; simp; omega, x_newT.mpr (x_addLL.mpr ⟨by rw [List.length_map]; simp; omega, x_newT.mpr ⟨b, R.take k ++ [Rw.mk r.m w' r.n] ++ R.drop (k + 1), by simp, hT, by omega, ot_app hL1 (by omega) (fun z => chg_ne hr (fun e => hwne (congrArg Rw.w e)) z.2) ?_⟩⟩)⟩
  have hL2 := hL1.snoc hT
  have hN := hrO.2.2
  obtain ⟨c, hc1, hc2, hc3⟩ : ∃ c : Nat, (97 ≤ c ∧ c ≤ 122) ∧ r.n.cps.toList.getLast? ≠ some c ∧ atI (Str.ofString "az").cps.toList (if cutS r.n (some (-1)) none = Str.ofString "a" then 1 else 0) = some c := by
    have he := cutS_end hN.1
    have hl' : r.n.cps.toList.length = r.n.length := Array.length_toList
    by_cases ca : cutS r.n (some (-1)) none = Str.ofString "a"
    · refine ⟨122, by decide, fun z => ?_, by rw [if_pos ca]; exact atI_lit (k := 1) rfl⟩
      rw [ca] at he
      rw [List.getLast?_eq_getElem?, hl'] at z
      have z2 : (r.n.cps.toList.drop (r.n.length - 1))[0]? = some 122 := by rw [List.getElem?_drop]; simpa using z
      rw [← he] at z2
      exact absurd z2 (by decide +kernel)
    · refine ⟨97, by decide, fun z => ca ?_, by rw [if_neg ca]; exact atI_lit (k := 0) rfl⟩
      refine str_ext ?_
      rw [he]
      have h1 := hN.1
      rw [List.getLast?_eq_getElem?, hl'] at z
      obtain ⟨hk, e⟩ := List.getElem?_eq_some_iff.mp z
      rw [List.drop_eq_getElem_cons hk, e, List.drop_eq_nil_of_le (by omega)]
      decide +kernel
  obtain ⟨hn1, hn2⟩ := nm_last hN hc1 hc2
  have hz := hN.2.1
  have hcl : (cutS r.n none (some (-1))).length ≤ r.n.length := Mt.cut_len
  refine ⟨by omega, by omega, Mt.strOk_cut (nm_ok hN), by decide +kernel, by decide, c, hc3, Nat.le_trans (Nat.add_le_add_left (show (⟨#[c]⟩ : Str).length ≤ 1 from Nat.le_refl _) _) (by omega), by omega, ot_ty, by omega, ?_⟩
  have hU : BkOk b (R.take k ++ [Rw.mk r.m r.w (cutS r.n none (some (-1)) ++ ⟨#[c]⟩)] ++ R.drop (k + 1)) := chg_ok hO hr ⟨hrO.1, hrO.2.1, hn1⟩ rfl
  refine x_addLL.mpr ⟨by rw [List.length_map]; simp; omega, x_newT.mpr (x_addLL.mpr ⟨by rw [List.length_map]; simp; omega, x_newT.mpr ⟨b, _, (by simp : [D.str b, _] = [D.str b, D.lst ((R.take k ++ [Rw.mk r.m r.w (cutS r.n none (some (-1)) ++ ⟨#[c]⟩)] ++ R.drop (k + 1)).map rwD)]), hU, by omega, ot_app hL2 (by omega) (fun z => chg_ne hr (fun e => hn2 (congrArg Rw.n e)) z.2) ?_⟩⟩)⟩
  have hL3 := hL2.snoc hU
  obtain ⟨rl, hrl⟩ : ∃ rl, R.getLast? = some rl := ⟨R.getLast he, List.getLast?_eq_some_getLast he⟩
  have hrlO := hO.ro rl (List.mem_of_getLast? hrl)
  have gl : (R.map rwD).getLast? = some (rwD rl) := by rw [List.getLast?_map, hrl]; rfl
  have hX : BkOk b (R.dropLast ++ [Rw.mk (M + 1) rl.w rl.n]) := by
    refine ⟨hO.ba, fun y hy => ?_, ?_, by rw [List.length_append]; simp only [List.length_cons, List.length_nil]; omega⟩
    · rcases List.mem_append.mp hy with hy | hy
      · exact hO.ro y (List.dropLast_subset _ hy)
      · rw [List.mem_singleton.mp hy]
        exact ⟨by show M + 1 ≤ 1000000; omega, hrlO.2.1, hrlO.2.2⟩
    · refine List.pairwise_append.mpr ⟨List.Pairwise.sublist (List.dropLast_sublist _) hO.ri, List.pairwise_singleton _ _, fun y hy s hs => ?_⟩
      rw [List.mem_singleton.mp hs]
      have := hM2 y (List.dropLast_subset _ hy)
      show y.m ≤ M + 1
      omega
  have hXne : R.dropLast ++ [Rw.mk (M + 1) rl.w rl.n] ≠ R := fun e => by
    have : Rw.mk (M + 1) rl.w rl.n ∈ R := by
      rw [← e]
      exact List.mem_append_right _ (List.mem_singleton.mpr rfl)
    have := hM2 _ this
    have : M + 1 ≤ M := this
    omega
  refine ⟨ot_ty, _, gl, x_ixT.mpr ⟨_, atI_lit (k := 1) rfl, _, gl, x_ixT.mpr ⟨_, atI_lit (k := 2) rfl, by omega, by omega, ?_⟩⟩⟩
  refine x_addLL.mpr ⟨by rw [List.length_map]; simp only [List.length_cons, List.length_nil]; omega, x_newT.mpr ⟨b, R.dropLast ++ [Rw.mk (M + 1) rl.w rl.n], by simp, hX, by omega, ot_app hL3 (by omega) (fun z => hXne z.2) ?_⟩⟩
  have hL4 := hL3.snoc hX
  exact r_oth_c123 T hO hl ⟨by have := hL4.le; omega, hL4.hd, hL4.ok⟩ fun L' h' => h o1 L' ht1 h'
theorem rf__law_otherwise (T : Txt K mg a) : ∀ ds S q, D.unders S.length ds = true → Sto.under S.length S = true → sp__law_otherwise a ds S q → g__law_otherwise K a { nx := fun _ S' => fin S.length q .non S', rt := fin S.length q } (startD N__law_otherwise ds) S := by
  rintro ds S q hu hs ⟨b, R, ⟨hO, hl, hR⟩, o, R0, B, rfl, rfl, ht, hB, h⟩
  rw [st__law_otherwise]
  simp only [g__law_otherwise, ↓x_eqSS, ↓x_neSS, ↓gKGet, ↓x_kget, ↓x_ixE, at_last, ↓x_appE, ↓x_tyE, ↓x_itE, ↓x_lenE, ↓x_nePr, ↓x_eqPr, ↓x_neE, ↓x_lenr, ↓x_lenrI, ↓gRev, ↓x_par3, ↓x_par33, ↓x_fld, ↓x_fset, ↓x_mkF, ↓x_mk, ↓x_meth, ↓x_fldO, ↓x_fsetE, ↓x_fldE, ↓x_methO, ↓x_isiCO, ↓x_isiCN, ↓x_isiCT, ↓x_isiCLi, ↓x_isiCS, ↓x_isiCI, ↓x_own, ↓x_eqT2, ↓x_neT2, ↓x_neL4, ↓x_eqLN, ↓x_neNil, ↓x_gset, ↓x_lc, ↓x_for, ↓x_it, ↓x_rn1, ↓x_rn2, ↓x_enu, ↓x_zip, ↓x_itS, ↓x_itL, ↓x_itK, ↓x_itT, ↓x_rn1I, ↓x_rn2I, ↓x_enuL, ↓x_enuK, ↓x_zipL, ↓x_ixS0, ↓x_ixL, ↓x_ixT, ↓x_ixK, x_at0, x_at1, x_at2, x_at3, x_at4, ↓x_set00, ↓x_set01, ↓x_set02, ↓x_aug1, ↓x_aug2, ↓x_aug3, ↓x_aug4, ↓x_aug5, ↓x_aug6, ↓x_aug7, ↓x_aug8, ↓x_aug9, ↓x_aug10, ↓x_aug11, ↓x_aug12, ↓x_aug13, ↓x_aug14, ↓x_aug15, ↓x_aug16, ↓x_aug17, ↓x_aug18, ↓x_aug19, ↓x_aug20, ↓x_aug21, ↓x_aug22, ↓x_aug23, Int.reduceToNat, Int.reducePow, ↓gSeq, ↓gIfS, ↓gSet, ↓gAsg, ↓x_par, ↓x_par2, ↓gRet, ↓gRetN, ↓gNext, ↓gDrop, ↓gBreak, ↓gCont, ↓gDead, ↓gCB, ↓gB2, ↓gU, ↓gC, ↓Dl.gCons, ↓Dl.gNil, ↓Dl.gTup, ↓Dl.gLst, ↓gTest, ↓gOrB, ↓gAndB, ↓gNotB, ↓gAndV, ↓gOrV, ↓gNotV, ↓gIf, ↓gIx, ↓gSl, ↓gPart, ↓gNoP, ↓gMt, ↓gCall, ↓gArgs, ↓gIsN, ↓gNotN, ↓gChain, ↓x_fmtS, ↓x_afS, ↓x_afI, ↓x_js0, ↓x_jsc, ↓gJoined, ↓gYes, ↓x_bnm, ↓x_btp, ↓x_bn, ↓x_bc, ↓x_nnN, ↓x_nnI, ↓x_nnS, ↓x_nnB, ↓x_nnT, ↓x_nnL, ↓x_nnO, ↓x_nnl, ↓x_tyS, ↓x_tyL, ↓x_i2, ↓aSub, ↓aFdiv, ↓aMod, ↓aPow, ↓aShr, ↓aLt, ↓aLe, ↓aGt, ↓aGe, ↓x_addI, ↓x_addS, ↓x_mulI, ↓x_iaddS, ↓x_iaddI, ↓x_neg, ↓x_eqI, ↓x_neI, ↓x_eqS, ↓x_neS, ↓x_eqB, ↓x_neB, ↓x_eqNI, ↓x_neNI, ↓x_lenS, ↓x_lenL_l, ↓x_lenL_k, ↓x_lenL_t, ↓x_str, ↓x_intI, ↓x_intB, ↓x_divmod, ↓x_max2, ↓x_min2, ↓x_ixS, ↓x_slS, ↓x_slT, ↓x_slL_l, ↓x_slL_k, ↓x_inS, ↓x_newT, ↓x_newF, ↓x_si, ↓x_s1, ↓x_s0, ↓x_rpart, ↓x_part, ↓x_a1, ↓x_a2, ↓x_isiStr, ↓x_isiInt, ↓x_isiIntB, ↓x_isiIntS, ↓x_isiBB, ↓x_isiBI, ↓x_isiStrI, ↓x_isiNonI, ↓x_isiNonS, ↓x_isiT, ↓x_isiL, ↓x_var0, ↓x_varS, ↓x_ex, ↓x_aug0, gat, pick, Option.some.injEq, D.bl.injEq, D.int.injEq, D.str.injEq, D.tup.injEq, D.lst.injEq, List.cons.injEq, and_true, true_and, List.set_cons_zero, List.set_cons_succ, List.length_cons, List.length_nil, List.filterMap_cons, List.filterMap_nil, List.getElem?_cons_zero, List.getElem?_cons_succ, Option.bind_some, ↓reduceIte, if_true, if_false, Bool.false_eq_true, Bool.true_eq_false, decide_eq_true_eq, beq_self_eq_true, Bool.not_true, Bool.not_false, Bool.not_eq_true', decide_eq_false_iff_not, exists_eq_left', exists_eq_left, exists_eq, ↓x_dnT, ↓x_dnF, ↓gAsgL, ↓gMMDef, ↓gDSet, ↓gSItems, ↓x_nilL, ↓x_nilE, List.isEmpty_nil, List.isEmpty_cons, Bool.true_xor, Bool.false_xor, ↓gOrT, ↓gAndT, ↓gTryAs, ↓gTryO, ↓gRaise, ↓gCallX, ↓gMethX, ↓gMakeX, ↓gFldX, ↓x_inXs, Bool.false_xor, Bool.true_xor, ↓gOrS, ↓x_fmtRS, ↓x_afRS, ↓x_afRI, ↓x_stO, ↓x_zipS, ↓x_zipE, ↓x_zipSL, ↓x_zipST, ↓x_zipEL, ↓x_augix, ↓x_isB, ↓x_notB, ↓gLR1, ↓gLR2, ↓gDIxT, ↓gDGt1T, ↓gDSetT, ↓gDNewT, ↓gDIx, ↓gDGt1, ↓gDGt2, ↓gDIn, ↓gDSetd, ↓gDPop1, ↓gDPop2, ↓gTIdx, ↓gLKeys, ↓gDisp, ↓gFrD, ↓gFzD]
  have hs' : 100000 ≤ sizeLine := by decide
  obtain ⟨b', hb', hne, hat⟩ : ∃ b' : Str, BaOk b' ∧ b' ≠ b ∧ atI [D.str (Str.ofString "near"), D.str (Str.ofString "far")] (if b = Str.ofString "near" then 1 else 0) = some (.str b') := by
    rcases hO.ba with rfl | rfl
    · exact ⟨"far", .inr rfl, by decide +kernel, by rw [if_pos rfl]; exact atI_lit (k := 1) rfl⟩
    · exact ⟨"near", .inl rfl, by decide +kernel, by rw [if_neg (by decide +kernel)]; exact atI_lit (k := 0) rfl⟩
  refine ⟨b, R, rfl, hO, by omega, by omega, (ba_ok hO.ba).1, by decide +kernel, _, hat, b', R, rfl, ⟨hb', hO.ro, hO.ri, hO.le⟩, by omega, by omega, ?_⟩
  refine lc_on (F := rwD) (L := R) (fun r => some (.int (r.m : Nat))) trivial (by omega) (fun r hr acc R1 hac hR1 => ⟨_, x_bnm, ?_⟩) ?_
  · simp only [wipeD, ↓x_eqSS, ↓x_neSS, ↓gKGet, ↓x_kget, ↓x_ixE, at_last, ↓x_appE, ↓x_tyE, ↓x_itE, ↓x_lenE, ↓x_nePr, ↓x_eqPr, ↓x_neE, ↓x_lenr, ↓x_lenrI, ↓gRev, ↓x_par3, ↓x_par33, ↓x_fld, ↓x_fset, ↓x_mkF, ↓x_mk, ↓x_meth, ↓x_fldO, ↓x_fsetE, ↓x_fldE, ↓x_methO, ↓x_isiCO, ↓x_isiCN, ↓x_isiCT, ↓x_isiCLi, ↓x_isiCS, ↓x_isiCI, ↓x_own, ↓x_eqT2, ↓x_neT2, ↓x_neL4, ↓x_eqLN, ↓x_neNil, ↓x_gset, ↓x_lc, ↓x_for, ↓x_it, ↓x_rn1, ↓x_rn2, ↓x_enu, ↓x_zip, ↓x_itS, ↓x_itL, ↓x_itK, ↓x_itT, ↓x_rn1I, ↓x_rn2I, ↓x_enuL, ↓x_enuK, ↓x_zipL, ↓x_ixS0, ↓x_ixL, ↓x_ixT, ↓x_ixK, x_at0, x_at1, x_at2, x_at3, x_at4, ↓x_set00, ↓x_set01, ↓x_set02, ↓x_aug1, ↓x_aug2, ↓x_aug3, ↓x_aug4, ↓x_aug5, ↓x_aug6, ↓x_aug7, ↓x_aug8, ↓x_aug9, ↓x_aug10, ↓x_aug11, ↓x_aug12, ↓x_aug13, ↓x_aug14, ↓x_aug15, ↓x_aug16, ↓x_aug17, ↓x_aug18, ↓x_aug19, ↓x_aug20, ↓x_aug21, ↓x_aug22, ↓x_aug23, Int.reduceToNat, Int.reducePow, ↓gSeq, ↓gIfS, ↓gSet, ↓gAsg, ↓x_par, ↓x_par2, ↓gRet, ↓gRetN, ↓gNext, ↓gDrop, ↓gBreak, ↓gCont, ↓gDead, ↓gCB, ↓gB2, ↓gU, ↓gC, ↓Dl.gCons, ↓Dl.gNil, ↓Dl.gTup, ↓Dl.gLst, ↓gTest, ↓gOrB, ↓gAndB, ↓gNotB, ↓gAndV, ↓gOrV, ↓gNotV, ↓gIf, ↓gIx, ↓gSl, ↓gPart, ↓gNoP, ↓gMt, ↓gCall, ↓gArgs, ↓gIsN, ↓gNotN, ↓gChain, ↓x_fmtS, ↓x_afS, ↓x_afI, ↓x_js0, ↓x_jsc, ↓gJoined, ↓gYes, ↓x_bnm, ↓x_btp, ↓x_bn, ↓x_bc, ↓x_nnN, ↓x_nnI, ↓x_nnS, ↓x_nnB, ↓x_nnT, ↓x_nnL, ↓x_nnO, ↓x_nnl, ↓x_tyS, ↓x_tyL, ↓x_i2, ↓aSub, ↓aFdiv, ↓aMod, ↓aPow, ↓aShr, ↓aLt, ↓aLe, ↓aGt, ↓aGe, ↓x_addI, ↓x_addS, ↓x_mulI, ↓x_iaddS, ↓x_iaddI, ↓x_neg, ↓x_eqI, ↓x_neI, ↓x_eqS, ↓x_neS, ↓x_eqB, ↓x_neB, ↓x_eqNI, ↓x_neNI, ↓x_lenS, ↓x_lenL_l, ↓x_lenL_k, ↓x_lenL_t, ↓x_str, ↓x_intI, ↓x_intB, ↓x_divmod, ↓x_max2, ↓x_min2, ↓x_ixS, ↓x_slS, ↓x_slT, ↓x_slL_l, ↓x_slL_k, ↓x_inS, ↓x_newT, ↓x_newF, ↓x_si, ↓x_s1, ↓x_s0, ↓x_rpart, ↓x_part, ↓x_a1, ↓x_a2, ↓x_isiStr, ↓x_isiInt, ↓x_isiIntB, ↓x_isiIntS, ↓x_isiBB, ↓x_isiBI, ↓x_isiStrI, ↓x_isiNonI, ↓x_isiNonS, ↓x_isiT, ↓x_isiL, ↓x_var0, ↓x_varS, ↓x_ex, ↓x_aug0, gat, pick, Option.some.injEq, D.bl.injEq, D.int.injEq, D.str.injEq, D.tup.injEq, D.lst.injEq, List.cons.injEq, and_true, true_and, List.set_cons_zero, List.set_cons_succ, List.length_cons, List.length_nil, List.filterMap_cons, List.filterMap_nil, List.getElem?_cons_zero, List.getElem?_cons_succ, Option.bind_some, ↓reduceIte, if_true, if_false, Bool.false_eq_true, Bool.true_eq_false, decide_eq_true_eq, beq_self_eq_true, Bool.not_true, Bool.not_false, Bool.not_eq_true', decide_eq_false_iff_not, exists_eq_left', exists_eq_left, exists_eq, ↓x_dnT, ↓x_dnF, ↓gAsgL, ↓gMMDef, ↓gDSet, ↓gSItems, ↓x_nilL, ↓x_nilE, List.isEmpty_nil, List.isEmpty_cons, Bool.true_xor, Bool.false_xor, ↓gOrT, ↓gAndT, ↓gTryAs, ↓gTryO, ↓gRaise, ↓gCallX, ↓gMethX, ↓gMakeX, ↓gFldX, ↓x_inXs, Bool.false_xor, Bool.true_xor, ↓gOrS, ↓x_fmtRS, ↓x_afRS, ↓x_afRI, ↓x_stO, ↓x_zipS, ↓x_zipE, ↓x_zipSL, ↓x_zipST, ↓x_zipEL, ↓x_augix, ↓x_isB, ↓x_notB, ↓gLR1, ↓gLR2, ↓gDIxT, ↓gDGt1T, ↓gDSetT, ↓gDNewT, ↓gDIx, ↓gDGt1, ↓gDGt2, ↓gDIn, ↓gDSetd, ↓gDPop1, ↓gDPop2, ↓gTIdx, ↓gLKeys, ↓gDisp, ↓gFrD, ↓gFzD]
    exact ⟨hac, hR1⟩
  rw [x_newT, fm_some]
  refine ⟨by omega, x_addLL.mpr ⟨by simp; omega, x_newT.mpr ⟨(R.map fun r => ((r.m : Nat) : Int)) ++ [0], rfl, by simp [seqOf], by simp, fun m hm1 hm2 => ?_⟩⟩⟩
  obtain ⟨M, rfl, hM1, hM3⟩ : ∃ M : Nat, m = (M : Nat) ∧ M ≤ 990000 ∧ ∀ r ∈ R, r.m ≤ M := by
    have h0 : 0 ≤ m := hm2 0 (by simp)
    refine ⟨m.toNat, by omega, ?_, fun r hr => ?_⟩
    · rcases List.mem_append.mp hm1 with z | z
      · obtain ⟨r, hr, rfl⟩ := List.mem_map.mp z
        have := hR r hr
        simpa using this
      · rw [List.mem_singleton.mp z]; decide
    · have := hm2 (r.m : Nat) (List.mem_append_left _ (List.mem_map.mpr ⟨r, hr, rfl⟩))
      omega
  have hL2 : Oth b R [(b, R), (b', R)] 2 := ⟨by simp, rfl, fun p hp => by
    simp only [List.mem_cons, List.not_mem_nil, or_false] at hp
    rcases hp with rfl | rfl
    · exact hO
    · exact ⟨hb', hO.ro, hO.ri, hO.le⟩⟩
  have hAne : R ++ [Rw.mk M "on" "a"] ≠ R := fun e => by
    have := congrArg List.length e
    rw [List.length_append] at this
    simp only [List.length_cons, List.length_nil] at this
    omega
  have hA : BkOk b (R ++ [Rw.mk M "on" "a"]) := by
    refine ⟨hO.ba, fun y hy => ?_, ?_, by rw [List.length_append]; simp only [List.length_cons, List.length_nil]; omega⟩
    · rcases List.mem_append.mp hy with hy | hy
      · exact hO.ro y hy
      · rw [List.mem_singleton.mp hy]
        exact ⟨by show M ≤ 1000000; omega, .inl rfl, a_ok⟩
    · refine List.pairwise_append.mpr ⟨hO.ri, List.pairwise_singleton _ _, fun y hy s hs => ?_⟩
      rw [List.mem_singleton.mp hs]
      exact hM3 y hy
  have e0 : o :: (R0 ++ [some (MO.lst [D.tup [bkV a b R, D.bl true], D.tup [bkV a b' R, D.bl false]])]) = o :: (R0 ++ [some (MO.lst ([(b, R), (b', R)].map (obD a b R)))]) := by simp [hne]
  simp only [List.cons_append, List.length_cons]
  rw [e0]
  refine ⟨ot_ty, by omega, by omega, x_addLL.mpr ⟨by rw [List.length_map]; simp only [List.length_cons, List.length_nil]; omega, x_newT.mpr ⟨b, R ++ [Rw.mk M "on" "a"], by simp, hA, by omega, ?_⟩⟩⟩
  refine ot_app hL2 (by omega) (fun z => hAne z.2) ?_
  refine r_oth_c114 T (q := fin (R0.length + 1) q) hO hl hR hM1 hM3 (hL2.snoc hA) ht (by omega) fun o' L' ht' hL' => ?_
  have hs2 : Sto.under (o' :: R0).length (o' :: R0) = true := tape_under ht' (by simpa using hs)
  have hq := h (.lst (L'.map (obD a b R))) o' ⟨L', rfl, by have := hL'.le; omega, hL'.hd, hL'.ok⟩ (ht'.mono (by omega))
  refine (x_finE (S0 := o' :: R0) hs2).mpr ⟨?_, hq⟩
  clear hq hL' hA hL2 e0
  induction L' with
  | nil => rfl
  | cons p L' ih => simp [D.unders, D.under, und_rw] at ih ⊢; exact ih
end
end Lw
namespace Lw
open PySem L2 Dl
section
variable {P : Program} {w : World} {K : PySem.W.Frag} {mg : Str → Option Value} {base : Heap} {a : Ad}
abbrev stB (a : Ad) (o : Option MO) (G : Sto) (b : Str) (R : List Rw) (X : Sto) : Sto := o :: (G ++ bk2 a (G.length + 1) b R ++ X)
section
variable {o : Option MO} {G X : Sto} {b : Str} {R R' : List Rw}
theorem stB_at : BkAt a (stB a o G b R X) (G.length + 1) (G.length + 1 + 1) b R := bk2_at (a := a) (S := o :: G) (X := X) (b := b) (R := R) rfl
theorem stB_set : (stB a o G b R X).set (G.length + 1 + 1) (some (.lst (R'.map rwD))) = stB a o G b R' X := bk2_set (a := a) (S := o :: G) (X := X) (b := b) (R := R) (R' := R') rfl
theorem stB_frz : frzD [G.length + 1, G.length + 1 + 1] (.loc (G.length + 1)) (stB a o G b R X) = some (bkV a b R, o :: (G ++ [none, none] ++ X)) := frz2 (a := a) (S0 := o :: G) (X := X) (b := b) (R := R) rfl
theorem stB_held {hs : List D} : (stB a o G b R [some (.lst hs)])[G.length + 3]? = some (some (.lst hs)) := by simp
theorem stB_app {hs hs' : List D} : (stB a o G b R [some (.lst hs)]).set (G.length + 3) (some (.lst hs')) = stB a o G b R [some (.lst hs')] := by
  simp [List.set_append]
end
abbrev csK (a : Ad) : List EqE := [⟨a.C_Book, 1, sp_Book_eq a⟩]
section
variable {m : Nat → Addr} {N : Nat} {Hv : Hp}
theorem obj_two {C C' : Addr} {ks ks' : List Str} {ds ds' : List D} {v : V} (r : Rep K m N Hv (.obj C ks ds) v) (r' : Rep K m N Hv (.obj C' ks' ds') v) : C = C' ∧ ks = ks' ∧ ∃ vs, Reps K m N Hv ds vs ∧ Reps K m N Hv ds' vs := by
  simp only [Rep] at r r'
  obtain ⟨x, dx, vs, rfl, h1, h2, h3⟩ := r
  obtain ⟨y, dy, us, e, g1, g2, g3⟩ := r'
  cases e
  rw [h1] at g1
  injection g1 with g1
  injection g1 with e1 e2 e3
  obtain ⟨e4, e5⟩ := zip_inj e3 h2 g2
  subst e1 e4 e5
  exact ⟨rfl, rfl, vs, h3, g3⟩
theorem lst_two {ds ds' : List D} {v : V} (r : Rep K m N Hv (.lst ds) v) (r' : Rep K m N Hv (.lst ds') v) : ∃ vs, Reps K m N Hv ds vs ∧ Reps K m N Hv ds' vs := by
  simp only [Rep] at r r'
  obtain ⟨x, vs, rfl, h1, h2⟩ := r
  obtain ⟨y, us, e, g1, g2⟩ := r'
  cases e
  rw [h1] at g1
  injection g1 with g1
  injection g1 with e1
  subst e1
  exact ⟨vs, h2, g2⟩
theorem tup_two (sq : ∀ a vs us, SqT K Hv a vs → SqT K Hv a us → vs = us) {ds ds' : List D} {v : V} (r : Rep K m N Hv (.tup ds) v) (r' : Rep K m N Hv (.tup ds') v) : ∃ vs, Reps K m N Hv ds vs ∧ Reps K m N Hv ds' vs := by
  simp only [Rep] at r r'
  obtain ⟨x, vs, rfl, h1, h2⟩ := r
  obtain ⟨y, us, e, g1, g2⟩ := r'
  cases e
  have := sq _ _ _ h1 g1
  subst this
  exact ⟨vs, h2, g2⟩
theorem rows_inj (sq : ∀ a vs us, SqT K Hv a vs → SqT K Hv a us → vs = us) : ∀ {R R' : List Rw} {vs : List V}, Reps K m N Hv (R.map rwD) vs → Reps K m N Hv (R'.map rwD) vs → R = R'
  | [], [], _, _, _ => rfl
  | [], s :: ss, vs, h, h' => by
    obtain ⟨v, q, e, _⟩ := h'
    rw [show vs = [] from h] at e
    cases e
  | r :: rs, [], vs, h, h' => by
    obtain ⟨v, q, e, _⟩ := h
    rw [show vs = [] from h'] at e
    cases e
  | r :: rs, s :: ss, vs, h, h' => by
    obtain ⟨v, q, e, h1, h2⟩ := h
    obtain ⟨v', q', e', g1, g2⟩ := h'
    rw [e] at e'
    cases e'
    obtain ⟨us, z, z'⟩ := tup_two sq h1 g1
    have := flats_inj z z' rfl rfl
    simp only [List.cons.injEq, D.str.injEq, D.int.injEq, and_true] at this
    obtain ⟨e1, e2, e3⟩ := this
    rw [rows_inj sq h2 g2]
    obtain ⟨m1, w1, n1⟩ := r
    obtain ⟨m2, w2, n2⟩ := s
    simp only at e1 e2 e3
    rw [e2, e3, show m1 = m2 by omega]
end
theorem bk_inj {b b' : Str} {R R' : List Rw} (hne : ¬ (b = b' ∧ R = R')) : NotSame (bkV a b R) (bkV a b' R') := fun K m N Hv v sq r1 r2 => by
  obtain ⟨_, _, vs, q, q'⟩ := obj_two r1 r2
  obtain ⟨v1, t1, e1, a1, b1⟩ := q
  obtain ⟨v2, t2, e2, a2, b2⟩ := q'
  rw [e1] at e2
  cases e2
  obtain ⟨w1, u1, d1, g1, _⟩ := b1
  obtain ⟨w2, u2, d2, g2, _⟩ := b2
  rw [d1] at d2
  cases d2
  have hb := flat_inj a1 a2 rfl rfl
  cases hb
  obtain ⟨us, z, z'⟩ := lst_two g1 g2
  exact hne ⟨rfl, rows_inj sq z z'⟩
section
variable {b b' : Str} {R R' : List Rw}
theorem keqj (h : BkOk b R) (h' : BkOk b' R') : EqJ K (csK a) 3 (bkV a b R) (bkV a b' R') (decide (b = b' ∧ R = R')) := by
  refine EqJ.own (c := ⟨a.C_Book, 1, sp_Book_eq a⟩) (List.mem_singleton.mpr rfl) (show 1 ≤ 3 by decide) (.inr ⟨_, _, _, rfl, .inl rfl⟩) (fun S' => ⟨b, R, _, _, rfl, .inl ⟨b', R', rfl, h, h', rfl⟩, rfl, rfl⟩) ?_
  by_cases c : b = b' ∧ R = R'
  · exact .inl (decide_eq_true c)
  · exact .inr (.inr (bk_inj c))
theorem keqX {e : D} {t : String} (h : e.bk = some t) : EqJ K (csK a) 3 (bkV a b R) e false :=
  EqJ.own (c := ⟨a.C_Book, 1, sp_Book_eq a⟩) (List.mem_singleton.mpr rfl) (show 1 ≤ 3 by decide) (.inl ⟨t, h⟩) (fun S' => ⟨b, R, _, _, rfl, .inr ⟨⟨t, h⟩, rfl⟩, rfl, rfl⟩) (.inr (.inl ⟨t, h⟩))
theorem keqR {e : D} {t : String} (h : e.bk = some t) : EqJ K (csK a) 3 e (bkV a b R) false :=
  EqJ.rev (c := ⟨a.C_Book, 1, sp_Book_eq a⟩) (List.mem_singleton.mpr rfl) (show 1 ≤ 3 by decide) h (fun S' => ⟨b, R, _, _, rfl, .inr ⟨⟨t, h⟩, rfl⟩, rfl, rfl⟩)
theorem kne (h : BkOk b R) (h' : BkOk b' R') {S : Sto} {q : D → Sto → Prop} (hq : q (.bl (!decide (b = b' ∧ R = R'))) S) : aNeA K (csK a) 3 (bkV a b R) (bkV a b' R') S q :=
  ⟨⟨a.C_Book, 1, sp_Book_eq a⟩, _, _, _, List.mem_singleton.mpr rfl, (show 1 ≤ 3 by decide), rfl, .inr ⟨_, _, _, rfl, .inl rfl⟩, fun S' => ⟨b, R, _, _, rfl, .inl ⟨b', R', rfl, h, h', rfl⟩, rfl, rfl⟩, hq⟩
end
abbrev hD (R : List Rw) (i : Nat) : D := .tup [.lst ((R.take i).map rwD), .str (PyData.list ((R.take i).map rwY)).shown]
theorem ok_take {b : Str} {R : List Rw} (h : BkOk b R) (i : Nat) : BkOk b (R.take i) := ⟨h.ba, fun r hr => h.ro r (List.take_subset i R hr), List.Pairwise.sublist (List.take_sublist i R) h.ri, by rw [List.length_take]; have := h.le; omega⟩
theorem its_false {S : Sto} {x : D} {ds : List D} (h : ∀ d ∈ ds, EqJ K (csK a) 3 d x false) : ItsA K (csK a) 3 S (.lst ds) x ds (fun _ => false) := ⟨rfl, fun i d hd => h d (List.mem_of_getElem? hd)⟩
theorem r_law_c148 (T : Txt K mg a) {b : Str} {R : List Rw} {L : List (Str × List Rw)} {S : Sto} {y0 y1 y2 y4 y7 y8 y9 y10 y11 y12 y14 y15 y16 y17 : Option D} {E : DE} (hO : BkOk b R) (hl : R.length ≤ 1000) (hL : L.length ≤ 100) (h0 : L[0]? = some (b, R)) (hok : ∀ p ∈ L, BkOk p.1 p.2)
    (h : ∀ y14 y15 y16, E.nx [y0, y1, y2, some (.str b), y4, some (.lst (R.map rwD)), some (bkV a b R), y7, y8, y9, y10, y11, y12, some (.lst (L.map (obD a b R))), y14, y15, y16, y17] S) :
    g_law_c148 K a E [y0, y1, y2, some (.str b), y4, some (.lst (R.map rwD)), some (bkV a b R), y7, y8, y9, y10, y11, y12, some (.lst (L.map (obD a b R))), y14, y15, y16, y17] S := by
  simp only [g_law_c148, ↓x_eqSS, ↓x_neSS, ↓gKGet, ↓x_kget, ↓x_ixE, at_last, ↓x_appE, ↓x_tyE, ↓x_itE, ↓x_lenE, ↓x_nePr, ↓x_eqPr, ↓x_neE, ↓x_lenr, ↓x_lenrI, ↓gRev, ↓x_par3, ↓x_par33, ↓x_fld, ↓x_fset, ↓x_mkF, ↓x_mk, ↓x_meth, ↓x_fldO, ↓x_fsetE, ↓x_fldE, ↓x_methO, ↓x_isiCO, ↓x_isiCN, ↓x_isiCT, ↓x_isiCLi, ↓x_isiCS, ↓x_isiCI, ↓x_own, ↓x_eqT2, ↓x_neT2, ↓x_neL4, ↓x_eqLN, ↓x_neNil, ↓x_gset, ↓x_lc, ↓x_for, ↓x_it, ↓x_rn1, ↓x_rn2, ↓x_enu, ↓x_zip, ↓x_itS, ↓x_itL, ↓x_itK, ↓x_itT, ↓x_rn1I, ↓x_rn2I, ↓x_enuL, ↓x_enuK, ↓x_zipL, ↓x_ixS0, ↓x_ixL, ↓x_ixT, ↓x_ixK, x_at0, x_at1, x_at2, x_at3, x_at4, ↓x_set00, ↓x_set01, ↓x_set02, ↓x_aug1, ↓x_aug2, ↓x_aug3, ↓x_aug4, ↓x_aug5, ↓x_aug6, ↓x_aug7, ↓x_aug8, ↓x_aug9, ↓x_aug10, ↓x_aug11, ↓x_aug12, ↓x_aug13, ↓x_aug14, ↓x_aug15, ↓x_aug16, ↓x_aug17, ↓x_aug18, ↓x_aug19, ↓x_aug20, ↓x_aug21, ↓x_aug22, ↓x_aug23, Int.reduceToNat, Int.reducePow, ↓gSeq, ↓gIfS, ↓gSet, ↓gAsg, ↓x_par, ↓x_par2, ↓gRet, ↓gRetN, ↓gNext, ↓gDrop, ↓gBreak, ↓gCont, ↓gDead, ↓gCB, ↓gB2, ↓gU, ↓gC, ↓Dl.gCons, ↓Dl.gNil, ↓Dl.gTup, ↓Dl.gLst, ↓gTest, ↓gOrB, ↓gAndB, ↓gNotB, ↓gAndV, ↓gOrV, ↓gNotV, ↓gIf, ↓gIx, ↓gSl, ↓gPart, ↓gNoP, ↓gMt, ↓gCall, ↓gArgs, ↓gIsN, ↓gNotN, ↓gChain, ↓x_fmtS, ↓x_afS, ↓x_afI, ↓x_js0, ↓x_jsc, ↓gJoined, ↓gYes, ↓x_bnm, ↓x_btp, ↓x_bn, ↓x_bc, ↓x_nnN, ↓x_nnI, ↓x_nnS, ↓x_nnB, ↓x_nnT, ↓x_nnL, ↓x_nnO, ↓x_nnl, ↓x_tyS, ↓x_tyL, ↓x_i2, ↓aSub, ↓aFdiv, ↓aMod, ↓aPow, ↓aShr, ↓aLt, ↓aLe, ↓aGt, ↓aGe, ↓x_addI, ↓x_addS, ↓x_mulI, ↓x_iaddS, ↓x_iaddI, ↓x_neg, ↓x_eqI, ↓x_neI, ↓x_eqS, ↓x_neS, ↓x_eqB, ↓x_neB, ↓x_eqNI, ↓x_neNI, ↓x_lenS, ↓x_lenL_l, ↓x_lenL_k, ↓x_lenL_t, ↓x_str, ↓x_intI, ↓x_intB, ↓x_divmod, ↓x_max2, ↓x_min2, ↓x_ixS, ↓x_slS, ↓x_slT, ↓x_slL_l, ↓x_slL_k, ↓x_inS, ↓x_newT, ↓x_newF, ↓x_si, ↓x_s1, ↓x_s0, ↓x_rpart, ↓x_part, ↓x_a1, ↓x_a2, ↓x_isiStr, ↓x_isiInt, ↓x_isiIntB, ↓x_isiIntS, ↓x_isiBB, ↓x_isiBI, ↓x_isiStrI, ↓x_isiNonI, ↓x_isiNonS, ↓x_isiT, ↓x_isiL, ↓x_var0, ↓x_varS, ↓x_ex, ↓x_aug0, gat, pick, Option.some.injEq, D.bl.injEq, D.int.injEq, D.str.injEq, D.tup.injEq, D.lst.injEq, List.cons.injEq, and_true, true_and, List.set_cons_zero, List.set_cons_succ, List.length_cons, List.length_nil, List.filterMap_cons, List.filterMap_nil, List.getElem?_cons_zero, List.getElem?_cons_succ, Option.bind_some, ↓reduceIte, if_true, if_false, Bool.false_eq_true, Bool.true_eq_false, decide_eq_true_eq, beq_self_eq_true, Bool.not_true, Bool.not_false, Bool.not_eq_true', decide_eq_false_iff_not, exists_eq_left', exists_eq_left, exists_eq, ↓x_dnT, ↓x_dnF, ↓gAsgL, ↓gMMDef, ↓gDSet, ↓gSItems, ↓x_nilL, ↓x_nilE, List.isEmpty_nil, List.isEmpty_cons, Bool.true_xor, Bool.false_xor, ↓gOrT, ↓gAndT, ↓gTryAs, ↓gTryO, ↓gRaise, ↓gCallX, ↓gMethX, ↓gMakeX, ↓gFldX, ↓x_inXs, Bool.false_xor, Bool.true_xor, ↓gOrS, ↓x_fmtRS, ↓x_afRS, ↓x_afRI, ↓x_stO, ↓x_zipS, ↓x_zipE, ↓x_zipSL, ↓x_zipST, ↓x_zipEL, ↓x_augix, ↓x_isB, ↓x_notB, ↓gLR1, ↓gLR2, ↓gDIxT, ↓gDGt1T, ↓gDSetT, ↓gDNewT, ↓gDIx, ↓gDGt1, ↓gDGt2, ↓gDIn, ↓gDSetd, ↓gDPop1, ↓gDPop2, ↓gTIdx, ↓gLKeys, ↓gDisp, ↓gFrD, ↓gFzD]
  have hs' : 100000 ≤ sizeLine := by decide
  have he : ∀ p ∈ L, EqJ K (csK a) 3 (bkV a p.1 p.2) (bkV a b R) (decide (p.1 = b ∧ p.2 = R)) := fun p hp => keqj (hok p hp) hO
  refine lc_on (F := obD a b R) (L := L) (fun p => if decide (p.1 = b ∧ p.2 = R) = true then none else some (bkV a p.1 p.2)) trivial (by omega) (fun p hp acc R1 hac hR1 => ⟨_, x_b2, ?_⟩) ?_
  · simp only [wipeD, ↓x_eqSS, ↓x_neSS, ↓gKGet, ↓x_kget, ↓x_ixE, at_last, ↓x_appE, ↓x_tyE, ↓x_itE, ↓x_lenE, ↓x_nePr, ↓x_eqPr, ↓x_neE, ↓x_lenr, ↓x_lenrI, ↓gRev, ↓x_par3, ↓x_par33, ↓x_fld, ↓x_fset, ↓x_mkF, ↓x_mk, ↓x_meth, ↓x_fldO, ↓x_fsetE, ↓x_fldE, ↓x_methO, ↓x_isiCO, ↓x_isiCN, ↓x_isiCT, ↓x_isiCLi, ↓x_isiCS, ↓x_isiCI, ↓x_own, ↓x_eqT2, ↓x_neT2, ↓x_neL4, ↓x_eqLN, ↓x_neNil, ↓x_gset, ↓x_lc, ↓x_for, ↓x_it, ↓x_rn1, ↓x_rn2, ↓x_enu, ↓x_zip, ↓x_itS, ↓x_itL, ↓x_itK, ↓x_itT, ↓x_rn1I, ↓x_rn2I, ↓x_enuL, ↓x_enuK, ↓x_zipL, ↓x_ixS0, ↓x_ixL, ↓x_ixT, ↓x_ixK, x_at0, x_at1, x_at2, x_at3, x_at4, ↓x_set00, ↓x_set01, ↓x_set02, ↓x_aug1, ↓x_aug2, ↓x_aug3, ↓x_aug4, ↓x_aug5, ↓x_aug6, ↓x_aug7, ↓x_aug8, ↓x_aug9, ↓x_aug10, ↓x_aug11, ↓x_aug12, ↓x_aug13, ↓x_aug14, ↓x_aug15, ↓x_aug16, ↓x_aug17, ↓x_aug18, ↓x_aug19, ↓x_aug20, ↓x_aug21, ↓x_aug22, ↓x_aug23, Int.reduceToNat, Int.reducePow, ↓gSeq, ↓gIfS, ↓gSet, ↓gAsg, ↓x_par, ↓x_par2, ↓gRet, ↓gRetN, ↓gNext, ↓gDrop, ↓gBreak, ↓gCont, ↓gDead, ↓gCB, ↓gB2, ↓gU, ↓gC, ↓Dl.gCons, ↓Dl.gNil, ↓Dl.gTup, ↓Dl.gLst, ↓gTest, ↓gOrB, ↓gAndB, ↓gNotB, ↓gAndV, ↓gOrV, ↓gNotV, ↓gIf, ↓gIx, ↓gSl, ↓gPart, ↓gNoP, ↓gMt, ↓gCall, ↓gArgs, ↓gIsN, ↓gNotN, ↓gChain, ↓x_fmtS, ↓x_afS, ↓x_afI, ↓x_js0, ↓x_jsc, ↓gJoined, ↓gYes, ↓x_bnm, ↓x_btp, ↓x_bn, ↓x_bc, ↓x_nnN, ↓x_nnI, ↓x_nnS, ↓x_nnB, ↓x_nnT, ↓x_nnL, ↓x_nnO, ↓x_nnl, ↓x_tyS, ↓x_tyL, ↓x_i2, ↓aSub, ↓aFdiv, ↓aMod, ↓aPow, ↓aShr, ↓aLt, ↓aLe, ↓aGt, ↓aGe, ↓x_addI, ↓x_addS, ↓x_mulI, ↓x_iaddS, ↓x_iaddI, ↓x_neg, ↓x_eqI, ↓x_neI, ↓x_eqS, ↓x_neS, ↓x_eqB, ↓x_neB, ↓x_eqNI, ↓x_neNI, ↓x_lenS, ↓x_lenL_l, ↓x_lenL_k, ↓x_lenL_t, ↓x_str, ↓x_intI, ↓x_intB, ↓x_divmod, ↓x_max2, ↓x_min2, ↓x_ixS, ↓x_slS, ↓x_slT, ↓x_slL_l, ↓x_slL_k, ↓x_inS, ↓x_newT, ↓x_newF, ↓x_si, ↓x_s1, ↓x_s0, ↓x_rpart, ↓x_part, ↓x_a1, ↓x_a2, ↓x_isiStr, ↓x_isiInt, ↓x_isiIntB, ↓x_isiIntS, ↓x_isiBB, ↓x_isiBI, ↓x_isiStrI, ↓x_isiNonI, ↓x_isiNonS, ↓x_isiT, ↓x_isiL, ↓x_var0, ↓x_varS, ↓x_ex, ↓x_aug0, gat, pick, Option.some.injEq, D.bl.injEq, D.int.injEq, D.str.injEq, D.tup.injEq, D.lst.injEq, List.cons.injEq, and_true, true_and, List.set_cons_zero, List.set_cons_succ, List.length_cons, List.length_nil, List.filterMap_cons, List.filterMap_nil, List.getElem?_cons_zero, List.getElem?_cons_succ, Option.bind_some, ↓reduceIte, if_true, if_false, Bool.false_eq_true, Bool.true_eq_false, decide_eq_true_eq, beq_self_eq_true, Bool.not_true, Bool.not_false, Bool.not_eq_true', decide_eq_false_iff_not, exists_eq_left', exists_eq_left, exists_eq, ↓x_dnT, ↓x_dnF, ↓gAsgL, ↓gMMDef, ↓gDSet, ↓gSItems, ↓x_nilL, ↓x_nilE, List.isEmpty_nil, List.isEmpty_cons, Bool.true_xor, Bool.false_xor, ↓gOrT, ↓gAndT, ↓gTryAs, ↓gTryO, ↓gRaise, ↓gCallX, ↓gMethX, ↓gMakeX, ↓gFldX, ↓x_inXs, Bool.false_xor, Bool.true_xor, ↓gOrS, ↓x_fmtRS, ↓x_afRS, ↓x_afRI, ↓x_stO, ↓x_zipS, ↓x_zipE, ↓x_zipSL, ↓x_zipST, ↓x_zipEL, ↓x_augix, ↓x_isB, ↓x_notB, ↓gLR1, ↓gLR2, ↓gDIxT, ↓gDGt1T, ↓gDSetT, ↓gDNewT, ↓gDIx, ↓gDGt1, ↓gDGt2, ↓gDIn, ↓gDSetd, ↓gDPop1, ↓gDPop2, ↓gTIdx, ↓gLKeys, ↓gDisp, ↓gFrD, ↓gFzD]
    cases hz : decide (p.1 = b ∧ p.2 = R) with
    | true =>
      rw [hz] at hR1
      rw [if_neg (fun z => z (of_decide_eq_true hz))]
      simpa using hR1
    | false =>
      rw [hz] at hR1
      rw [if_pos (of_decide_eq_false hz)]
      exact ⟨hac, hR1⟩
  rw [x_newT]
  refine ⟨Nat.le_refl _, bkV a b R, b, R, rfl, .inr rfl, hO, _, rfl, by omega, ?_⟩
  generalize hF : L.filterMap (fun p => if decide (p.1 = b ∧ p.2 = R) = true then none else some (bkV a p.1 p.2)) = F
  have hFl : F.length ≤ 100 := by rw [← hF]; exact Nat.le_trans (List.length_filterMap_le _ _) hL
  have hFe : ∀ d ∈ F ++ [D.non, D.str (bkT b R), D.lst (R.map rwD), D.str b, D.int (R.map rwD).length], EqJ K (csK a) 3 d (bkV a b R) false := fun d hd => by
    rcases List.mem_append.mp hd with hd | hd
    · rw [← hF] at hd
      obtain ⟨p, hp, e⟩ := List.mem_filterMap.mp hd
      by_cases c : p.1 = b ∧ p.2 = R
      · rw [if_pos (decide_eq_true c)] at e; cases e
      · rw [if_neg (by simpa using c)] at e
        cases e
        have := he p hp
        rwa [decide_eq_false c] at this
    · simp only [List.mem_cons, List.not_mem_nil, or_false] at hd
      rcases hd with rfl | rfl | rfl | rfl | rfl <;> exact keqR rfl
  refine x_addLL.mpr ⟨by simp only [List.length_cons, List.length_nil]; omega, x_newT.mpr ?_⟩
  have hQl : (F ++ [D.non, D.str (bkT b R), D.lst (R.map rwD), D.str b, D.int (R.map rwD).length]).length ≤ 200 := by
    rw [List.length_append]
    simp only [List.length_cons, List.length_nil]
    omega
  generalize F ++ [D.non, D.str (bkT b R), D.lst (R.map rwD), D.str b, D.int (R.map rwD).length] = Q at hFe hQl ⊢
  refine ⟨_, _, its_false hFe, ?_⟩
  have noany : ∀ n, ((List.range n).any fun _ => false) = false := fun n => by simp
  rw [noany]
  refine ⟨false, rfl, ?_⟩
  rw [if_neg (by decide)]
  refine ⟨false, keqX rfl, false, rfl, ?_⟩
  rw [if_neg (by decide)]
  have self : EqJ K (csK a) 3 (bkV a b R) (bkV a b R) true := by
    have := keqj (K := K) (a := a) hO hO
    rwa [decide_eq_true ⟨rfl, rfl⟩] at this
  refine ⟨by omega, x_addLL.mpr ⟨by simp only [List.length_cons, List.length_nil]; omega, x_newT.mpr ⟨Q ++ [bkV a b R], (fun i => decide (i = Q.length)), ⟨rfl, fun i d hd => ?_⟩, ?_⟩⟩⟩
  · by_cases c : i = Q.length
    · subst c
      simp at hd
      rw [← hd, show (fun i => decide (i = Q.length)) Q.length = true by simp]
      exact self
    · rw [show (fun i => decide (i = Q.length)) i = false from decide_eq_false c]
      have hi := (List.getElem?_eq_some_iff.mp hd).1
      rw [List.length_append] at hi
      simp only [List.length_cons, List.length_nil] at hi
      rw [List.getElem?_append_left (by omega)] at hd
      exact hFe d (List.mem_of_getElem? hd)
  have yes : ((List.range (Q ++ [bkV a b R]).length).any fun i => decide (i = Q.length)) = true := by
    rw [List.any_eq_true]
    exact ⟨Q.length, by simp, by simp⟩
  rw [yes]
  refine ⟨true, rfl, ?_⟩
  rw [if_neg (by decide)]
  refine ⟨_, atI_lit (k := 0) (by rw [List.getElem?_map, h0]; rfl), x_ixT.mpr ⟨_, atI_lit (k := 0) rfl, by omega, [bkV a b R], fun _ => true, ⟨rfl, fun i d hd => ?_⟩, ?_⟩⟩
  · match i, hd with
    | 0, hd => cases hd; exact self
  refine ⟨false, by simp, ?_⟩
  rw [if_neg (by decide)]
  exact h _ _ _
theorem r_law_c144 (T : Txt K mg a) {b : Str} {R : List Rw} {o : Option MO} {B : Int} {G X : Sto} {y0 y2 y4 y7 y8 y9 y10 y11 y12 y13 y14 y15 y16 y17 : Option D} {E : DE} (hO : BkOk b R) (hl : R.length ≤ 20) (hR : ∀ r ∈ R, r.m ≤ 990000) (ht : Mt.Tp B o) (hB : B + 10 ≤ 10 ^ 12)
    (h : ∀ o' G' y6 y13 y14 y15 y16, Mt.Tp (B + 10) o' → E.nx [y0, some (.loc 0), y2, some (.str b), y4, some (.lst (R.map rwD)), y6, y7, y8, y9, y10, y11, y12, y13, y14, y15, y16, y17] (o' :: G')) :
    g_law_c144 K a E [y0, some (.loc 0), y2, some (.str b), y4, some (.lst (R.map rwD)), some (.loc (G.length + 1)), y7, y8, y9, y10, y11, y12, y13, y14, y15, y16, y17] (stB a o G b R X) := by
  simp only [g_law_c144, ↓x_eqSS, ↓x_neSS, ↓gKGet, ↓x_kget, ↓x_ixE, at_last, ↓x_appE, ↓x_tyE, ↓x_itE, ↓x_lenE, ↓x_nePr, ↓x_eqPr, ↓x_neE, ↓x_lenr, ↓x_lenrI, ↓gRev, ↓x_par3, ↓x_par33, ↓x_fld, ↓x_fset, ↓x_mkF, ↓x_mk, ↓x_meth, ↓x_fldO, ↓x_fsetE, ↓x_fldE, ↓x_methO, ↓x_isiCO, ↓x_isiCN, ↓x_isiCT, ↓x_isiCLi, ↓x_isiCS, ↓x_isiCI, ↓x_own, ↓x_eqT2, ↓x_neT2, ↓x_neL4, ↓x_eqLN, ↓x_neNil, ↓x_gset, ↓x_lc, ↓x_for, ↓x_it, ↓x_rn1, ↓x_rn2, ↓x_enu, ↓x_zip, ↓x_itS, ↓x_itL, ↓x_itK, ↓x_itT, ↓x_rn1I, ↓x_rn2I, ↓x_enuL, ↓x_enuK, ↓x_zipL, ↓x_ixS0, ↓x_ixL, ↓x_ixT, ↓x_ixK, x_at0, x_at1, x_at2, x_at3, x_at4, ↓x_set00, ↓x_set01, ↓x_set02, ↓x_aug1, ↓x_aug2, ↓x_aug3, ↓x_aug4, ↓x_aug5, ↓x_aug6, ↓x_aug7, ↓x_aug8, ↓x_aug9, ↓x_aug10, ↓x_aug11, ↓x_aug12, ↓x_aug13, ↓x_aug14, ↓x_aug15, ↓x_aug16, ↓x_aug17, ↓x_aug18, ↓x_aug19, ↓x_aug20, ↓x_aug21, ↓x_aug22, ↓x_aug23, Int.reduceToNat, Int.reducePow, ↓gSeq, ↓gIfS, ↓gSet, ↓gAsg, ↓x_par, ↓x_par2, ↓gRet, ↓gRetN, ↓gNext, ↓gDrop, ↓gBreak, ↓gCont, ↓gDead, ↓gCB, ↓gB2, ↓gU, ↓gC, ↓Dl.gCons, ↓Dl.gNil, ↓Dl.gTup, ↓Dl.gLst, ↓gTest, ↓gOrB, ↓gAndB, ↓gNotB, ↓gAndV, ↓gOrV, ↓gNotV, ↓gIf, ↓gIx, ↓gSl, ↓gPart, ↓gNoP, ↓gMt, ↓gCall, ↓gArgs, ↓gIsN, ↓gNotN, ↓gChain, ↓x_fmtS, ↓x_afS, ↓x_afI, ↓x_js0, ↓x_jsc, ↓gJoined, ↓gYes, ↓x_bnm, ↓x_btp, ↓x_bn, ↓x_bc, ↓x_nnN, ↓x_nnI, ↓x_nnS, ↓x_nnB, ↓x_nnT, ↓x_nnL, ↓x_nnO, ↓x_nnl, ↓x_tyS, ↓x_tyL, ↓x_i2, ↓aSub, ↓aFdiv, ↓aMod, ↓aPow, ↓aShr, ↓aLt, ↓aLe, ↓aGt, ↓aGe, ↓x_addI, ↓x_addS, ↓x_mulI, ↓x_iaddS, ↓x_iaddI, ↓x_neg, ↓x_eqI, ↓x_neI, ↓x_eqS, ↓x_neS, ↓x_eqB, ↓x_neB, ↓x_eqNI, ↓x_neNI, ↓x_lenS, ↓x_lenL_l, ↓x_lenL_k, ↓x_lenL_t, ↓x_str, ↓x_intI, ↓x_intB, ↓x_divmod, ↓x_max2, ↓x_min2, ↓x_ixS, ↓x_slS, ↓x_slT, ↓x_slL_l, ↓x_slL_k, ↓x_inS, ↓x_newT, ↓x_newF, ↓x_si, ↓x_s1, ↓x_s0, ↓x_rpart, ↓x_part, ↓x_a1, ↓x_a2, ↓x_isiStr, ↓x_isiInt, ↓x_isiIntB, ↓x_isiIntS, ↓x_isiBB, ↓x_isiBI, ↓x_isiStrI, ↓x_isiNonI, ↓x_isiNonS, ↓x_isiT, ↓x_isiL, ↓x_var0, ↓x_varS, ↓x_ex, ↓x_aug0, gat, pick, Option.some.injEq, D.bl.injEq, D.int.injEq, D.str.injEq, D.tup.injEq, D.lst.injEq, List.cons.injEq, and_true, true_and, List.set_cons_zero, List.set_cons_succ, List.length_cons, List.length_nil, List.filterMap_cons, List.filterMap_nil, List.getElem?_cons_zero, List.getElem?_cons_succ, Option.bind_some, ↓reduceIte, if_true, if_false, Bool.false_eq_true, Bool.true_eq_false, decide_eq_true_eq, beq_self_eq_true, Bool.not_true, Bool.not_false, Bool.not_eq_true', decide_eq_false_iff_not, exists_eq_left', exists_eq_left, exists_eq, ↓x_dnT, ↓x_dnF, ↓gAsgL, ↓gMMDef, ↓gDSet, ↓gSItems, ↓x_nilL, ↓x_nilE, List.isEmpty_nil, List.isEmpty_cons, Bool.true_xor, Bool.false_xor, ↓gOrT, ↓gAndT, ↓gTryAs, ↓gTryO, ↓gRaise, ↓gCallX, ↓gMethX, ↓gMakeX, ↓gFldX, ↓x_inXs, Bool.false_xor, Bool.true_xor, ↓gOrS, ↓x_fmtRS, ↓x_afRS, ↓x_afRI, ↓x_stO, ↓x_zipS, ↓x_zipE, ↓x_zipSL, ↓x_zipST, ↓x_zipEL, ↓x_augix, ↓x_isB, ↓x_notB, ↓gLR1, ↓gLR2, ↓gDIxT, ↓gDGt1T, ↓gDSetT, ↓gDNewT, ↓gDIx, ↓gDGt1, ↓gDGt2, ↓gDIn, ↓gDSetd, ↓gDPop1, ↓gDPop2, ↓gTIdx, ↓gLKeys, ↓gDisp, ↓gFrD, ↓gFzD]
  have hs' : 100000 ≤ sizeLine := by decide
  refine ⟨b, R, ⟨hO, hl, hR⟩, Mt.tk_in (R0 := G ++ bk2 a (G.length + 1) b R ++ X) ht (by omega) fun d o1 ⟨L, hd, hL, h0, hok⟩ ht1 => ?_⟩
  subst hd
  refine ⟨_, _, _, _, rfl, stB_frz (o := o1), ?_⟩
  refine x_itL.mpr ?_
  refine for_on (F := obD a b R) (L := L) (fun i ρ S' => ∃ y14 y15, S' = o1 :: (G ++ [none, none] ++ X) ∧ ρ = [y0, some (.loc 0), y2, some (.str b), y4, some (.lst (R.map rwD)), some (bkV a b R), y7, y8, y9, y10, y11, y12, some (.lst (L.map (obD a b R))), y14, y15, y16, y17]) ⟨_, _, rfl, rfl⟩ ?_ ?_
  · rintro i p ρ S' hp ⟨y14, y15, rfl, rfl⟩
    have hpO := hok p (List.mem_of_getElem? hp)
    refine ⟨trivial, _, x_b2, ?_⟩
    simp only [↓x_eqSS, ↓x_neSS, ↓gKGet, ↓x_kget, ↓x_ixE, at_last, ↓x_appE, ↓x_tyE, ↓x_itE, ↓x_lenE, ↓x_nePr, ↓x_eqPr, ↓x_neE, ↓x_lenr, ↓x_lenrI, ↓gRev, ↓x_par3, ↓x_par33, ↓x_fld, ↓x_fset, ↓x_mkF, ↓x_mk, ↓x_meth, ↓x_fldO, ↓x_fsetE, ↓x_fldE, ↓x_methO, ↓x_isiCO, ↓x_isiCN, ↓x_isiCT, ↓x_isiCLi, ↓x_isiCS, ↓x_isiCI, ↓x_own, ↓x_eqT2, ↓x_neT2, ↓x_neL4, ↓x_eqLN, ↓x_neNil, ↓x_gset, ↓x_lc, ↓x_for, ↓x_it, ↓x_rn1, ↓x_rn2, ↓x_enu, ↓x_zip, ↓x_itS, ↓x_itL, ↓x_itK, ↓x_itT, ↓x_rn1I, ↓x_rn2I, ↓x_enuL, ↓x_enuK, ↓x_zipL, ↓x_ixS0, ↓x_ixL, ↓x_ixT, ↓x_ixK, x_at0, x_at1, x_at2, x_at3, x_at4, ↓x_set00, ↓x_set01, ↓x_set02, ↓x_aug1, ↓x_aug2, ↓x_aug3, ↓x_aug4, ↓x_aug5, ↓x_aug6, ↓x_aug7, ↓x_aug8, ↓x_aug9, ↓x_aug10, ↓x_aug11, ↓x_aug12, ↓x_aug13, ↓x_aug14, ↓x_aug15, ↓x_aug16, ↓x_aug17, ↓x_aug18, ↓x_aug19, ↓x_aug20, ↓x_aug21, ↓x_aug22, ↓x_aug23, Int.reduceToNat, Int.reducePow, ↓gSeq, ↓gIfS, ↓gSet, ↓gAsg, ↓x_par, ↓x_par2, ↓gRet, ↓gRetN, ↓gNext, ↓gDrop, ↓gBreak, ↓gCont, ↓gDead, ↓gCB, ↓gB2, ↓gU, ↓gC, ↓Dl.gCons, ↓Dl.gNil, ↓Dl.gTup, ↓Dl.gLst, ↓gTest, ↓gOrB, ↓gAndB, ↓gNotB, ↓gAndV, ↓gOrV, ↓gNotV, ↓gIf, ↓gIx, ↓gSl, ↓gPart, ↓gNoP, ↓gMt, ↓gCall, ↓gArgs, ↓gIsN, ↓gNotN, ↓gChain, ↓x_fmtS, ↓x_afS, ↓x_afI, ↓x_js0, ↓x_jsc, ↓gJoined, ↓gYes, ↓x_bnm, ↓x_btp, ↓x_bn, ↓x_bc, ↓x_nnN, ↓x_nnI, ↓x_nnS, ↓x_nnB, ↓x_nnT, ↓x_nnL, ↓x_nnO, ↓x_nnl, ↓x_tyS, ↓x_tyL, ↓x_i2, ↓aSub, ↓aFdiv, ↓aMod, ↓aPow, ↓aShr, ↓aLt, ↓aLe, ↓aGt, ↓aGe, ↓x_addI, ↓x_addS, ↓x_mulI, ↓x_iaddS, ↓x_iaddI, ↓x_neg, ↓x_eqI, ↓x_neI, ↓x_eqS, ↓x_neS, ↓x_eqB, ↓x_neB, ↓x_eqNI, ↓x_neNI, ↓x_lenS, ↓x_lenL_l, ↓x_lenL_k, ↓x_lenL_t, ↓x_str, ↓x_intI, ↓x_intB, ↓x_divmod, ↓x_max2, ↓x_min2, ↓x_ixS, ↓x_slS, ↓x_slT, ↓x_slL_l, ↓x_slL_k, ↓x_inS, ↓x_newT, ↓x_newF, ↓x_si, ↓x_s1, ↓x_s0, ↓x_rpart, ↓x_part, ↓x_a1, ↓x_a2, ↓x_isiStr, ↓x_isiInt, ↓x_isiIntB, ↓x_isiIntS, ↓x_isiBB, ↓x_isiBI, ↓x_isiStrI, ↓x_isiNonI, ↓x_isiNonS, ↓x_isiT, ↓x_isiL, ↓x_var0, ↓x_varS, ↓x_ex, ↓x_aug0, gat, pick, Option.some.injEq, D.bl.injEq, D.int.injEq, D.str.injEq, D.tup.injEq, D.lst.injEq, List.cons.injEq, and_true, true_and, List.set_cons_zero, List.set_cons_succ, List.length_cons, List.length_nil, List.filterMap_cons, List.filterMap_nil, List.getElem?_cons_zero, List.getElem?_cons_succ, Option.bind_some, ↓reduceIte, if_true, if_false, Bool.false_eq_true, Bool.true_eq_false, decide_eq_true_eq, beq_self_eq_true, Bool.not_true, Bool.not_false, Bool.not_eq_true', decide_eq_false_iff_not, exists_eq_left', exists_eq_left, exists_eq, ↓x_dnT, ↓x_dnF, ↓gAsgL, ↓gMMDef, ↓gDSet, ↓gSItems, ↓x_nilL, ↓x_nilE, List.isEmpty_nil, List.isEmpty_cons, Bool.true_xor, Bool.false_xor, ↓gOrT, ↓gAndT, ↓gTryAs, ↓gTryO, ↓gRaise, ↓gCallX, ↓gMethX, ↓gMakeX, ↓gFldX, ↓x_inXs, Bool.false_xor, Bool.true_xor, ↓gOrS, ↓x_fmtRS, ↓x_afRS, ↓x_afRI, ↓x_stO, ↓x_zipS, ↓x_zipE, ↓x_zipSL, ↓x_zipST, ↓x_zipEL, ↓x_augix, ↓x_isB, ↓x_notB, ↓gLR1, ↓gLR2, ↓gDIxT, ↓gDGt1T, ↓gDSetT, ↓gDNewT, ↓gDIx, ↓gDGt1, ↓gDGt2, ↓gDIn, ↓gDSetd, ↓gDPop1, ↓gDPop2, ↓gTIdx, ↓gLKeys, ↓gDisp, ↓gFrD, ↓gFzD]
    have same : decide (p.1 = b ∧ p.2 = R) = decide (b = p.1 ∧ R = p.2) := decide_eq_decide.mpr ⟨fun h => ⟨h.1.symm, h.2.symm⟩, fun h => ⟨h.1.symm, h.2.symm⟩⟩
    rw [same]
    generalize hz : decide (b = p.1 ∧ R = p.2) = z
    refine ⟨z, hz ▸ keqj hO hpO, x_neB.mpr ⟨false, by simp, ?_⟩⟩
    rw [if_neg (by decide)]
    refine ⟨z, by rw [← hz, ← same]; exact keqj hpO hO, x_neB.mpr ⟨false, by simp, ?_⟩⟩
    rw [if_neg (by decide)]
    refine kne hO hpO ?_
    rw [hz]
    refine x_eqB.mpr ⟨false, by cases z <;> rfl, ?_⟩
    rw [if_neg (by decide)]
    exact ⟨_, _, rfl, rfl, rfl⟩
  · rintro ρ S' ⟨y14, y15, rfl, rfl⟩
    refine ⟨trivial, ?_⟩
    simp only [↓x_eqSS, ↓x_neSS, ↓gKGet, ↓x_kget, ↓x_ixE, at_last, ↓x_appE, ↓x_tyE, ↓x_itE, ↓x_lenE, ↓x_nePr, ↓x_eqPr, ↓x_neE, ↓x_lenr, ↓x_lenrI, ↓gRev, ↓x_par3, ↓x_par33, ↓x_fld, ↓x_fset, ↓x_mkF, ↓x_mk, ↓x_meth, ↓x_fldO, ↓x_fsetE, ↓x_fldE, ↓x_methO, ↓x_isiCO, ↓x_isiCN, ↓x_isiCT, ↓x_isiCLi, ↓x_isiCS, ↓x_isiCI, ↓x_own, ↓x_eqT2, ↓x_neT2, ↓x_neL4, ↓x_eqLN, ↓x_neNil, ↓x_gset, ↓x_lc, ↓x_for, ↓x_it, ↓x_rn1, ↓x_rn2, ↓x_enu, ↓x_zip, ↓x_itS, ↓x_itL, ↓x_itK, ↓x_itT, ↓x_rn1I, ↓x_rn2I, ↓x_enuL, ↓x_enuK, ↓x_zipL, ↓x_ixS0, ↓x_ixL, ↓x_ixT, ↓x_ixK, x_at0, x_at1, x_at2, x_at3, x_at4, ↓x_set00, ↓x_set01, ↓x_set02, ↓x_aug1, ↓x_aug2, ↓x_aug3, ↓x_aug4, ↓x_aug5, ↓x_aug6, ↓x_aug7, ↓x_aug8, ↓x_aug9, ↓x_aug10, ↓x_aug11, ↓x_aug12, ↓x_aug13, ↓x_aug14, ↓x_aug15, ↓x_aug16, ↓x_aug17, ↓x_aug18, ↓x_aug19, ↓x_aug20, ↓x_aug21, ↓x_aug22, ↓x_aug23, Int.reduceToNat, Int.reducePow, ↓gSeq, ↓gIfS, ↓gSet, ↓gAsg, ↓x_par, ↓x_par2, ↓gRet, ↓gRetN, ↓gNext, ↓gDrop, ↓gBreak, ↓gCont, ↓gDead, ↓gCB, ↓gB2, ↓gU, ↓gC, ↓Dl.gCons, ↓Dl.gNil, ↓Dl.gTup, ↓Dl.gLst, ↓gTest, ↓gOrB, ↓gAndB, ↓gNotB, ↓gAndV, ↓gOrV, ↓gNotV, ↓gIf, ↓gIx, ↓gSl, ↓gPart, ↓gNoP, ↓gMt, ↓gCall, ↓gArgs, ↓gIsN, ↓gNotN, ↓gChain, ↓x_fmtS, ↓x_afS, ↓x_afI, ↓x_js0, ↓x_jsc, ↓gJoined, ↓gYes, ↓x_bnm, ↓x_btp, ↓x_bn, ↓x_bc, ↓x_nnN, ↓x_nnI, ↓x_nnS, ↓x_nnB, ↓x_nnT, ↓x_nnL, ↓x_nnO, ↓x_nnl, ↓x_tyS, ↓x_tyL, ↓x_i2, ↓aSub, ↓aFdiv, ↓aMod, ↓aPow, ↓aShr, ↓aLt, ↓aLe, ↓aGt, ↓aGe, ↓x_addI, ↓x_addS, ↓x_mulI, ↓x_iaddS, ↓x_iaddI, ↓x_neg, ↓x_eqI, ↓x_neI, ↓x_eqS, ↓x_neS, ↓x_eqB, ↓x_neB, ↓x_eqNI, ↓x_neNI, ↓x_lenS, ↓x_lenL_l, ↓x_lenL_k, ↓x_lenL_t, ↓x_str, ↓x_intI, ↓x_intB, ↓x_divmod, ↓x_max2, ↓x_min2, ↓x_ixS, ↓x_slS, ↓x_slT, ↓x_slL_l, ↓x_slL_k, ↓x_inS, ↓x_newT, ↓x_newF, ↓x_si, ↓x_s1, ↓x_s0, ↓x_rpart, ↓x_part, ↓x_a1, ↓x_a2, ↓x_isiStr, ↓x_isiInt, ↓x_isiIntB, ↓x_isiIntS, ↓x_isiBB, ↓x_isiBI, ↓x_isiStrI, ↓x_isiNonI, ↓x_isiNonS, ↓x_isiT, ↓x_isiL, ↓x_var0, ↓x_varS, ↓x_ex, ↓x_aug0, gat, pick, Option.some.injEq, D.bl.injEq, D.int.injEq, D.str.injEq, D.tup.injEq, D.lst.injEq, List.cons.injEq, and_true, true_and, List.set_cons_zero, List.set_cons_succ, List.length_cons, List.length_nil, List.filterMap_cons, List.filterMap_nil, List.getElem?_cons_zero, List.getElem?_cons_succ, Option.bind_some, ↓reduceIte, if_true, if_false, Bool.false_eq_true, Bool.true_eq_false, decide_eq_true_eq, beq_self_eq_true, Bool.not_true, Bool.not_false, Bool.not_eq_true', decide_eq_false_iff_not, exists_eq_left', exists_eq_left, exists_eq, ↓x_dnT, ↓x_dnF, ↓gAsgL, ↓gMMDef, ↓gDSet, ↓gSItems, ↓x_nilL, ↓x_nilE, List.isEmpty_nil, List.isEmpty_cons, Bool.true_xor, Bool.false_xor, ↓gOrT, ↓gAndT, ↓gTryAs, ↓gTryO, ↓gRaise, ↓gCallX, ↓gMethX, ↓gMakeX, ↓gFldX, ↓x_inXs, Bool.false_xor, Bool.true_xor, ↓gOrS, ↓x_fmtRS, ↓x_afRS, ↓x_afRI, ↓x_stO, ↓x_zipS, ↓x_zipE, ↓x_zipSL, ↓x_zipST, ↓x_zipEL, ↓x_augix, ↓x_isB, ↓x_notB, ↓gLR1, ↓gLR2, ↓gDIxT, ↓gDGt1T, ↓gDSetT, ↓gDNewT, ↓gDIx, ↓gDGt1, ↓gDGt2, ↓gDIn, ↓gDSetd, ↓gDPop1, ↓gDPop2, ↓gTIdx, ↓gLKeys, ↓gDisp, ↓gFrD, ↓gFzD]
    exact r_law_c148 T hO (by omega) hL h0 hok fun y14 y15 y16 => h _ _ _ _ _ _ _ ht1
theorem r_law (T : Txt K mg a) : ∀ ds S q, sp_law ds S q → g_law K a { nx := fun _ S' => q .non S', rt := q } (startD N_law ds) S := by
  rintro ds S q ⟨ns, rfl, rfl, h⟩
  rw [st_law]
  simp only [g_law, ↓x_eqSS, ↓x_neSS, ↓gKGet, ↓x_kget, ↓x_ixE, at_last, ↓x_appE, ↓x_tyE, ↓x_itE, ↓x_lenE, ↓x_nePr, ↓x_eqPr, ↓x_neE, ↓x_lenr, ↓x_lenrI, ↓gRev, ↓x_par3, ↓x_par33, ↓x_fld, ↓x_fset, ↓x_mkF, ↓x_mk, ↓x_meth, ↓x_fldO, ↓x_fsetE, ↓x_fldE, ↓x_methO, ↓x_isiCO, ↓x_isiCN, ↓x_isiCT, ↓x_isiCLi, ↓x_isiCS, ↓x_isiCI, ↓x_own, ↓x_eqT2, ↓x_neT2, ↓x_neL4, ↓x_eqLN, ↓x_neNil, ↓x_gset, ↓x_lc, ↓x_for, ↓x_it, ↓x_rn1, ↓x_rn2, ↓x_enu, ↓x_zip, ↓x_itS, ↓x_itL, ↓x_itK, ↓x_itT, ↓x_rn1I, ↓x_rn2I, ↓x_enuL, ↓x_enuK, ↓x_zipL, ↓x_ixS0, ↓x_ixL, ↓x_ixT, ↓x_ixK, x_at0, x_at1, x_at2, x_at3, x_at4, ↓x_set00, ↓x_set01, ↓x_set02, ↓x_aug1, ↓x_aug2, ↓x_aug3, ↓x_aug4, ↓x_aug5, ↓x_aug6, ↓x_aug7, ↓x_aug8, ↓x_aug9, ↓x_aug10, ↓x_aug11, ↓x_aug12, ↓x_aug13, ↓x_aug14, ↓x_aug15, ↓x_aug16, ↓x_aug17, ↓x_aug18, ↓x_aug19, ↓x_aug20, ↓x_aug21, ↓x_aug22, ↓x_aug23, Int.reduceToNat, Int.reducePow, ↓gSeq, ↓gIfS, ↓gSet, ↓gAsg, ↓x_par, ↓x_par2, ↓gRet, ↓gRetN, ↓gNext, ↓gDrop, ↓gBreak, ↓gCont, ↓gDead, ↓gCB, ↓gB2, ↓gU, ↓gC, ↓Dl.gCons, ↓Dl.gNil, ↓Dl.gTup, ↓Dl.gLst, ↓gTest, ↓gOrB, ↓gAndB, ↓gNotB, ↓gAndV, ↓gOrV, ↓gNotV, ↓gIf, ↓gIx, ↓gSl, ↓gPart, ↓gNoP, ↓gMt, ↓gCall, ↓gArgs, ↓gIsN, ↓gNotN, ↓gChain, ↓x_fmtS, ↓x_afS, ↓x_afI, ↓x_js0, ↓x_jsc, ↓gJoined, ↓gYes, ↓x_bnm, ↓x_btp, ↓x_bn, ↓x_bc, ↓x_nnN, ↓x_nnI, ↓x_nnS, ↓x_nnB, ↓x_nnT, ↓x_nnL, ↓x_nnO, ↓x_nnl, ↓x_tyS, ↓x_tyL, ↓x_i2, ↓aSub, ↓aFdiv, ↓aMod, ↓aPow, ↓aShr, ↓aLt, ↓aLe, ↓aGt, ↓aGe, ↓x_addI, ↓x_addS, ↓x_mulI, ↓x_iaddS, ↓x_iaddI, ↓x_neg, ↓x_eqI, ↓x_neI, ↓x_eqS, ↓x_neS, ↓x_eqB, ↓x_neB, ↓x_eqNI, ↓x_neNI, ↓x_lenS, ↓x_lenL_l, ↓x_lenL_k, ↓x_lenL_t, ↓x_str, ↓x_intI, ↓x_intB, ↓x_divmod, ↓x_max2, ↓x_min2, ↓x_ixS, ↓x_slS, ↓x_slT, ↓x_slL_l, ↓x_slL_k, ↓x_inS, ↓x_newT, ↓x_newF, ↓x_si, ↓x_s1, ↓x_s0, ↓x_rpart, ↓x_part, ↓x_a1, ↓x_a2, ↓x_isiStr, ↓x_isiInt, ↓x_isiIntB, ↓x_isiIntS, ↓x_isiBB, ↓x_isiBI, ↓x_isiStrI, ↓x_isiNonI, ↓x_isiNonS, ↓x_isiT, ↓x_isiL, ↓x_var0, ↓x_varS, ↓x_ex, ↓x_aug0, gat, pick, Option.some.injEq, D.bl.injEq, D.int.injEq, D.str.injEq, D.tup.injEq, D.lst.injEq, List.cons.injEq, and_true, true_and, List.set_cons_zero, List.set_cons_succ, List.length_cons, List.length_nil, List.filterMap_cons, List.filterMap_nil, List.getElem?_cons_zero, List.getElem?_cons_succ, Option.bind_some, ↓reduceIte, if_true, if_false, Bool.false_eq_true, Bool.true_eq_false, decide_eq_true_eq, beq_self_eq_true, Bool.not_true, Bool.not_false, Bool.not_eq_true', decide_eq_false_iff_not, exists_eq_left', exists_eq_left, exists_eq, ↓x_dnT, ↓x_dnF, ↓gAsgL, ↓gMMDef, ↓gDSet, ↓gSItems, ↓x_nilL, ↓x_nilE, List.isEmpty_nil, List.isEmpty_cons, Bool.true_xor, Bool.false_xor, ↓gOrT, ↓gAndT, ↓gTryAs, ↓gTryO, ↓gRaise, ↓gCallX, ↓gMethX, ↓gMakeX, ↓gFldX, ↓x_inXs, Bool.false_xor, Bool.true_xor, ↓gOrS, ↓x_fmtRS, ↓x_afRS, ↓x_afRI, ↓x_stO, ↓x_zipS, ↓x_zipE, ↓x_zipSL, ↓x_zipST, ↓x_zipEL, ↓x_augix, ↓x_isB, ↓x_notB, ↓gLR1, ↓gLR2, ↓gDIxT, ↓gDGt1T, ↓gDSetT, ↓gDNewT, ↓gDIx, ↓gDGt1, ↓gDGt2, ↓gDIn, ↓gDSetd, ↓gDPop1, ↓gDPop2, ↓gTIdx, ↓gLKeys, ↓gDisp, ↓gFrD, ↓gFzD]
  have t15 := Mt.ten15
  have hs' : 100000 ≤ sizeLine := by decide
  refine ⟨ns, rfl, rfl, by decide, by decide, ?_⟩
  refine ⟨fun i ρ S' => ∃ (o : Option MO) (G : Sto) (y2 y3 y4 y5 y6 y7 y8 y9 y10 y11 y12 y13 y14 y15 y16 y17 : Option D), Mt.Tp (5000 * i) o ∧ S' = o :: G ∧ ρ = [some (.ksq (ns.map .int)), some (.loc 0), y2, y3, y4, y5, y6, y7, y8, y9, y10, y11, y12, y13, y14, y15, y16, y17], ⟨_, [], _, _, _, _, _, _, _, _, _, _, _, _, _, _, _, _, ⟨ns.take 63, 0, 0, rfl, by decide, by decide, by decide⟩, rfl, rfl⟩, ?_, ?_⟩
  · rintro i d0 ρ S' hd ⟨o, G, y2, y3, y4, y5, y6, y7, y8, y9, y10, y11, y12, y13, y14, y15, y16, y17, ht, rfl, rfl⟩
    have hi : i < 2 := by
      have := (List.getElem?_eq_some_iff.mp hd).1
      rwa [x_rngL] at this
    refine ⟨trivial, _, x_bnm, ?_⟩
    simp only [↓x_eqSS, ↓x_neSS, ↓gKGet, ↓x_kget, ↓x_ixE, at_last, ↓x_appE, ↓x_tyE, ↓x_itE, ↓x_lenE, ↓x_nePr, ↓x_eqPr, ↓x_neE, ↓x_lenr, ↓x_lenrI, ↓gRev, ↓x_par3, ↓x_par33, ↓x_fld, ↓x_fset, ↓x_mkF, ↓x_mk, ↓x_meth, ↓x_fldO, ↓x_fsetE, ↓x_fldE, ↓x_methO, ↓x_isiCO, ↓x_isiCN, ↓x_isiCT, ↓x_isiCLi, ↓x_isiCS, ↓x_isiCI, ↓x_own, ↓x_eqT2, ↓x_neT2, ↓x_neL4, ↓x_eqLN, ↓x_neNil, ↓x_gset, ↓x_lc, ↓x_for, ↓x_it, ↓x_rn1, ↓x_rn2, ↓x_enu, ↓x_zip, ↓x_itS, ↓x_itL, ↓x_itK, ↓x_itT, ↓x_rn1I, ↓x_rn2I, ↓x_enuL, ↓x_enuK, ↓x_zipL, ↓x_ixS0, ↓x_ixL, ↓x_ixT, ↓x_ixK, x_at0, x_at1, x_at2, x_at3, x_at4, ↓x_set00, ↓x_set01, ↓x_set02, ↓x_aug1, ↓x_aug2, ↓x_aug3, ↓x_aug4, ↓x_aug5, ↓x_aug6, ↓x_aug7, ↓x_aug8, ↓x_aug9, ↓x_aug10, ↓x_aug11, ↓x_aug12, ↓x_aug13, ↓x_aug14, ↓x_aug15, ↓x_aug16, ↓x_aug17, ↓x_aug18, ↓x_aug19, ↓x_aug20, ↓x_aug21, ↓x_aug22, ↓x_aug23, Int.reduceToNat, Int.reducePow, ↓gSeq, ↓gIfS, ↓gSet, ↓gAsg, ↓x_par, ↓x_par2, ↓gRet, ↓gRetN, ↓gNext, ↓gDrop, ↓gBreak, ↓gCont, ↓gDead, ↓gCB, ↓gB2, ↓gU, ↓gC, ↓Dl.gCons, ↓Dl.gNil, ↓Dl.gTup, ↓Dl.gLst, ↓gTest, ↓gOrB, ↓gAndB, ↓gNotB, ↓gAndV, ↓gOrV, ↓gNotV, ↓gIf, ↓gIx, ↓gSl, ↓gPart, ↓gNoP, ↓gMt, ↓gCall, ↓gArgs, ↓gIsN, ↓gNotN, ↓gChain, ↓x_fmtS, ↓x_afS, ↓x_afI, ↓x_js0, ↓x_jsc, ↓gJoined, ↓gYes, ↓x_bnm, ↓x_btp, ↓x_bn, ↓x_bc, ↓x_nnN, ↓x_nnI, ↓x_nnS, ↓x_nnB, ↓x_nnT, ↓x_nnL, ↓x_nnO, ↓x_nnl, ↓x_tyS, ↓x_tyL, ↓x_i2, ↓aSub, ↓aFdiv, ↓aMod, ↓aPow, ↓aShr, ↓aLt, ↓aLe, ↓aGt, ↓aGe, ↓x_addI, ↓x_addS, ↓x_mulI, ↓x_iaddS, ↓x_iaddI, ↓x_neg, ↓x_eqI, ↓x_neI, ↓x_eqS, ↓x_neS, ↓x_eqB, ↓x_neB, ↓x_eqNI, ↓x_neNI, ↓x_lenS, ↓x_lenL_l, ↓x_lenL_k, ↓x_lenL_t, ↓x_str, ↓x_intI, ↓x_intB, ↓x_divmod, ↓x_max2, ↓x_min2, ↓x_ixS, ↓x_slS, ↓x_slT, ↓x_slL_l, ↓x_slL_k, ↓x_inS, ↓x_newT, ↓x_newF, ↓x_si, ↓x_s1, ↓x_s0, ↓x_rpart, ↓x_part, ↓x_a1, ↓x_a2, ↓x_isiStr, ↓x_isiInt, ↓x_isiIntB, ↓x_isiIntS, ↓x_isiBB, ↓x_isiBI, ↓x_isiStrI, ↓x_isiNonI, ↓x_isiNonS, ↓x_isiT, ↓x_isiL, ↓x_var0, ↓x_varS, ↓x_ex, ↓x_aug0, gat, pick, Option.some.injEq, D.bl.injEq, D.int.injEq, D.str.injEq, D.tup.injEq, D.lst.injEq, List.cons.injEq, and_true, true_and, List.set_cons_zero, List.set_cons_succ, List.length_cons, List.length_nil, List.filterMap_cons, List.filterMap_nil, List.getElem?_cons_zero, List.getElem?_cons_succ, Option.bind_some, ↓reduceIte, if_true, if_false, Bool.false_eq_true, Bool.true_eq_false, decide_eq_true_eq, beq_self_eq_true, Bool.not_true, Bool.not_false, Bool.not_eq_true', decide_eq_false_iff_not, exists_eq_left', exists_eq_left, exists_eq, ↓x_dnT, ↓x_dnF, ↓gAsgL, ↓gMMDef, ↓gDSet, ↓gSItems, ↓x_nilL, ↓x_nilE, List.isEmpty_nil, List.isEmpty_cons, Bool.true_xor, Bool.false_xor, ↓gOrT, ↓gAndT, ↓gTryAs, ↓gTryO, ↓gRaise, ↓gCallX, ↓gMethX, ↓gMakeX, ↓gFldX, ↓x_inXs, Bool.false_xor, Bool.true_xor, ↓gOrS, ↓x_fmtRS, ↓x_afRS, ↓x_afRI, ↓x_stO, ↓x_zipS, ↓x_zipE, ↓x_zipSL, ↓x_zipST, ↓x_zipEL, ↓x_augix, ↓x_isB, ↓x_notB, ↓gLR1, ↓gLR2, ↓gDIxT, ↓gDGt1T, ↓gDSetT, ↓gDNewT, ↓gDIx, ↓gDGt1, ↓gDGt2, ↓gDIn, ↓gDSetd, ↓gDPop1, ↓gDPop2, ↓gTIdx, ↓gLKeys, ↓gDisp, ↓gFrD, ↓gFzD]
    refine ⟨by decide, Mt.draw_in (by decide) (by decide) ht (by omega) fun b o1 hb1 hb2 ht1 => ?_⟩
    obtain ⟨bb, hbb, hat⟩ : ∃ bb : Str, BaOk bb ∧ atI [D.str (Str.ofString "near"), D.str (Str.ofString "far")] b = some (.str bb) := by
      by_cases c : b = 0
      · subst c; exact ⟨"near", .inl rfl, atI_lit (k := 0) rfl⟩
      · have : b = 1 := by omega
        subst this; exact ⟨"far", .inr rfl, atI_lit (k := 1) rfl⟩
    simp only [↓x_eqSS, ↓x_neSS, ↓gKGet, ↓x_kget, ↓x_ixE, at_last, ↓x_appE, ↓x_tyE, ↓x_itE, ↓x_lenE, ↓x_nePr, ↓x_eqPr, ↓x_neE, ↓x_lenr, ↓x_lenrI, ↓gRev, ↓x_par3, ↓x_par33, ↓x_fld, ↓x_fset, ↓x_mkF, ↓x_mk, ↓x_meth, ↓x_fldO, ↓x_fsetE, ↓x_fldE, ↓x_methO, ↓x_isiCO, ↓x_isiCN, ↓x_isiCT, ↓x_isiCLi, ↓x_isiCS, ↓x_isiCI, ↓x_own, ↓x_eqT2, ↓x_neT2, ↓x_neL4, ↓x_eqLN, ↓x_neNil, ↓x_gset, ↓x_lc, ↓x_for, ↓x_it, ↓x_rn1, ↓x_rn2, ↓x_enu, ↓x_zip, ↓x_itS, ↓x_itL, ↓x_itK, ↓x_itT, ↓x_rn1I, ↓x_rn2I, ↓x_enuL, ↓x_enuK, ↓x_zipL, ↓x_ixS0, ↓x_ixL, ↓x_ixT, ↓x_ixK, x_at0, x_at1, x_at2, x_at3, x_at4, ↓x_set00, ↓x_set01, ↓x_set02, ↓x_aug1, ↓x_aug2, ↓x_aug3, ↓x_aug4, ↓x_aug5, ↓x_aug6, ↓x_aug7, ↓x_aug8, ↓x_aug9, ↓x_aug10, ↓x_aug11, ↓x_aug12, ↓x_aug13, ↓x_aug14, ↓x_aug15, ↓x_aug16, ↓x_aug17, ↓x_aug18, ↓x_aug19, ↓x_aug20, ↓x_aug21, ↓x_aug22, ↓x_aug23, Int.reduceToNat, Int.reducePow, ↓gSeq, ↓gIfS, ↓gSet, ↓gAsg, ↓x_par, ↓x_par2, ↓gRet, ↓gRetN, ↓gNext, ↓gDrop, ↓gBreak, ↓gCont, ↓gDead, ↓gCB, ↓gB2, ↓gU, ↓gC, ↓Dl.gCons, ↓Dl.gNil, ↓Dl.gTup, ↓Dl.gLst, ↓gTest, ↓gOrB, ↓gAndB, ↓gNotB, ↓gAndV, ↓gOrV, ↓gNotV, ↓gIf, ↓gIx, ↓gSl, ↓gPart, ↓gNoP, ↓gMt, ↓gCall, ↓gArgs, ↓gIsN, ↓gNotN, ↓gChain, ↓x_fmtS, ↓x_afS, ↓x_afI, ↓x_js0, ↓x_jsc, ↓gJoined, ↓gYes, ↓x_bnm, ↓x_btp, ↓x_bn, ↓x_bc, ↓x_nnN, ↓x_nnI, ↓x_nnS, ↓x_nnB, ↓x_nnT, ↓x_nnL, ↓x_nnO, ↓x_nnl, ↓x_tyS, ↓x_tyL, ↓x_i2, ↓aSub, ↓aFdiv, ↓aMod, ↓aPow, ↓aShr, ↓aLt, ↓aLe, ↓aGt, ↓aGe, ↓x_addI, ↓x_addS, ↓x_mulI, ↓x_iaddS, ↓x_iaddI, ↓x_neg, ↓x_eqI, ↓x_neI, ↓x_eqS, ↓x_neS, ↓x_eqB, ↓x_neB, ↓x_eqNI, ↓x_neNI, ↓x_lenS, ↓x_lenL_l, ↓x_lenL_k, ↓x_lenL_t, ↓x_str, ↓x_intI, ↓x_intB, ↓x_divmod, ↓x_max2, ↓x_min2, ↓x_ixS, ↓x_slS, ↓x_slT, ↓x_slL_l, ↓x_slL_k, ↓x_inS, ↓x_newT, ↓x_newF, ↓x_si, ↓x_s1, ↓x_s0, ↓x_rpart, ↓x_part, ↓x_a1, ↓x_a2, ↓x_isiStr, ↓x_isiInt, ↓x_isiIntB, ↓x_isiIntS, ↓x_isiBB, ↓x_isiBI, ↓x_isiStrI, ↓x_isiNonI, ↓x_isiNonS, ↓x_isiT, ↓x_isiL, ↓x_var0, ↓x_varS, ↓x_ex, ↓x_aug0, gat, pick, Option.some.injEq, D.bl.injEq, D.int.injEq, D.str.injEq, D.tup.injEq, D.lst.injEq, List.cons.injEq, and_true, true_and, List.set_cons_zero, List.set_cons_succ, List.length_cons, List.length_nil, List.filterMap_cons, List.filterMap_nil, List.getElem?_cons_zero, List.getElem?_cons_succ, Option.bind_some, ↓reduceIte, if_true, if_false, Bool.false_eq_true, Bool.true_eq_false, decide_eq_true_eq, beq_self_eq_true, Bool.not_true, Bool.not_false, Bool.not_eq_true', decide_eq_false_iff_not, exists_eq_left', exists_eq_left, exists_eq, ↓x_dnT, ↓x_dnF, ↓gAsgL, ↓gMMDef, ↓gDSet, ↓gSItems, ↓x_nilL, ↓x_nilE, List.isEmpty_nil, List.isEmpty_cons, Bool.true_xor, Bool.false_xor, ↓gOrT, ↓gAndT, ↓gTryAs, ↓gTryO, ↓gRaise, ↓gCallX, ↓gMethX, ↓gMakeX, ↓gFldX, ↓x_inXs, Bool.false_xor, Bool.true_xor, ↓gOrS, ↓x_fmtRS, ↓x_afRS, ↓x_afRI, ↓x_stO, ↓x_zipS, ↓x_zipE, ↓x_zipSL, ↓x_zipST, ↓x_zipEL, ↓x_augix, ↓x_isB, ↓x_notB, ↓gLR1, ↓gLR2, ↓gDIxT, ↓gDGt1T, ↓gDSetT, ↓gDNewT, ↓gDIx, ↓gDGt1, ↓gDGt2, ↓gDIn, ↓gDSetd, ↓gDPop1, ↓gDPop2, ↓gTIdx, ↓gLKeys, ↓gDisp, ↓gFrD, ↓gFzD]
    refine ⟨_, hat, 4, by decide, by decide, Mt.tk_in ht1 (by omega) fun d o2 ⟨xs, hxs, hxl, hxn, hxo⟩ ht2 => ?_⟩
    subst hxs
    refine Mt.draw_in (by omega) (by omega) ht2 (by omega) fun c o4 hc1 hc2 ht4 => ?_
    obtain ⟨many, rfl⟩ := Int.eq_ofNat_of_zero_le hc1
    refine ⟨xs, many, ⟨by omega, by omega, hxo⟩, by omega, Mt.tk_in ht4 (by omega) fun d o5 ⟨R, hR1, hRl, hR0, hRi⟩ ht5 => ?_⟩
    subst hR1
    have hR := fun r hr => (hR0 r hr).1
    have hl : R.length ≤ 20 := by omega
    have hO : BkOk bb R := ⟨hbb, hR, hRi, by omega⟩
    refine ⟨rfl, rfl, o5 :: G, bb, rfl, rfl, rfl, ?_⟩
    simp only [↓x_eqSS, ↓x_neSS, ↓gKGet, ↓x_kget, ↓x_ixE, at_last, ↓x_appE, ↓x_tyE, ↓x_itE, ↓x_lenE, ↓x_nePr, ↓x_eqPr, ↓x_neE, ↓x_lenr, ↓x_lenrI, ↓gRev, ↓x_par3, ↓x_par33, ↓x_fld, ↓x_fset, ↓x_mkF, ↓x_mk, ↓x_meth, ↓x_fldO, ↓x_fsetE, ↓x_fldE, ↓x_methO, ↓x_isiCO, ↓x_isiCN, ↓x_isiCT, ↓x_isiCLi, ↓x_isiCS, ↓x_isiCI, ↓x_own, ↓x_eqT2, ↓x_neT2, ↓x_neL4, ↓x_eqLN, ↓x_neNil, ↓x_gset, ↓x_lc, ↓x_for, ↓x_it, ↓x_rn1, ↓x_rn2, ↓x_enu, ↓x_zip, ↓x_itS, ↓x_itL, ↓x_itK, ↓x_itT, ↓x_rn1I, ↓x_rn2I, ↓x_enuL, ↓x_enuK, ↓x_zipL, ↓x_ixS0, ↓x_ixL, ↓x_ixT, ↓x_ixK, x_at0, x_at1, x_at2, x_at3, x_at4, ↓x_set00, ↓x_set01, ↓x_set02, ↓x_aug1, ↓x_aug2, ↓x_aug3, ↓x_aug4, ↓x_aug5, ↓x_aug6, ↓x_aug7, ↓x_aug8, ↓x_aug9, ↓x_aug10, ↓x_aug11, ↓x_aug12, ↓x_aug13, ↓x_aug14, ↓x_aug15, ↓x_aug16, ↓x_aug17, ↓x_aug18, ↓x_aug19, ↓x_aug20, ↓x_aug21, ↓x_aug22, ↓x_aug23, Int.reduceToNat, Int.reducePow, ↓gSeq, ↓gIfS, ↓gSet, ↓gAsg, ↓x_par, ↓x_par2, ↓gRet, ↓gRetN, ↓gNext, ↓gDrop, ↓gBreak, ↓gCont, ↓gDead, ↓gCB, ↓gB2, ↓gU, ↓gC, ↓Dl.gCons, ↓Dl.gNil, ↓Dl.gTup, ↓Dl.gLst, ↓gTest, ↓gOrB, ↓gAndB, ↓gNotB, ↓gAndV, ↓gOrV, ↓gNotV, ↓gIf, ↓gIx, ↓gSl, ↓gPart, ↓gNoP, ↓gMt, ↓gCall, ↓gArgs, ↓gIsN, ↓gNotN, ↓gChain, ↓x_fmtS, ↓x_afS, ↓x_afI, ↓x_js0, ↓x_jsc, ↓gJoined, ↓gYes, ↓x_bnm, ↓x_btp, ↓x_bn, ↓x_bc, ↓x_nnN, ↓x_nnI, ↓x_nnS, ↓x_nnB, ↓x_nnT, ↓x_nnL, ↓x_nnO, ↓x_nnl, ↓x_tyS, ↓x_tyL, ↓x_i2, ↓aSub, ↓aFdiv, ↓aMod, ↓aPow, ↓aShr, ↓aLt, ↓aLe, ↓aGt, ↓aGe, ↓x_addI, ↓x_addS, ↓x_mulI, ↓x_iaddS, ↓x_iaddI, ↓x_neg, ↓x_eqI, ↓x_neI, ↓x_eqS, ↓x_neS, ↓x_eqB, ↓x_neB, ↓x_eqNI, ↓x_neNI, ↓x_lenS, ↓x_lenL_l, ↓x_lenL_k, ↓x_lenL_t, ↓x_str, ↓x_intI, ↓x_intB, ↓x_divmod, ↓x_max2, ↓x_min2, ↓x_ixS, ↓x_slS, ↓x_slT, ↓x_slL_l, ↓x_slL_k, ↓x_inS, ↓x_newT, ↓x_newF, ↓x_si, ↓x_s1, ↓x_s0, ↓x_rpart, ↓x_part, ↓x_a1, ↓x_a2, ↓x_isiStr, ↓x_isiInt, ↓x_isiIntB, ↓x_isiIntS, ↓x_isiBB, ↓x_isiBI, ↓x_isiStrI, ↓x_isiNonI, ↓x_isiNonS, ↓x_isiT, ↓x_isiL, ↓x_var0, ↓x_varS, ↓x_ex, ↓x_aug0, gat, pick, Option.some.injEq, D.bl.injEq, D.int.injEq, D.str.injEq, D.tup.injEq, D.lst.injEq, List.cons.injEq, and_true, true_and, List.set_cons_zero, List.set_cons_succ, List.length_cons, List.length_nil, List.filterMap_cons, List.filterMap_nil, List.getElem?_cons_zero, List.getElem?_cons_succ, Option.bind_some, ↓reduceIte, if_true, if_false, Bool.false_eq_true, Bool.true_eq_false, decide_eq_true_eq, beq_self_eq_true, Bool.not_true, Bool.not_false, Bool.not_eq_true', decide_eq_false_iff_not, exists_eq_left', exists_eq_left, exists_eq, ↓x_dnT, ↓x_dnF, ↓gAsgL, ↓gMMDef, ↓gDSet, ↓gSItems, ↓x_nilL, ↓x_nilE, List.isEmpty_nil, List.isEmpty_cons, Bool.true_xor, Bool.false_xor, ↓gOrT, ↓gAndT, ↓gTryAs, ↓gTryO, ↓gRaise, ↓gCallX, ↓gMethX, ↓gMakeX, ↓gFldX, ↓x_inXs, Bool.false_xor, Bool.true_xor, ↓gOrS, ↓x_fmtRS, ↓x_afRS, ↓x_afRI, ↓x_stO, ↓x_zipS, ↓x_zipE, ↓x_zipSL, ↓x_zipST, ↓x_zipEL, ↓x_augix, ↓x_isB, ↓x_notB, ↓gLR1, ↓gLR2, ↓gDIxT, ↓gDGt1T, ↓gDSetT, ↓gDNewT, ↓gDIx, ↓gDGt1, ↓gDGt2, ↓gDIn, ↓gDSetd, ↓gDPop1, ↓gDPop2, ↓gTIdx, ↓gLKeys, ↓gDisp, ↓gFrD, ↓gFzD]
    rw [List.length_map]
    refine ⟨by omega, by omega, by omega, ?_⟩
    have hcell : (o5 :: G ++ bk2 a (G.length + 1) bb []).length = G.length + 3 := by simp
    rw [hcell]
    refine ⟨fun j ρ S' => ∃ (o' : Option MO) (z8 z9 z10 z11 z12 : Option D), Mt.Tp (5000 * i + 1100 + j) o' ∧ S' = stB a o' G bb (R.take j) [some (.lst ((List.range j).map (hD R)))] ∧ ρ = [some (.ksq (ns.map .int)), some (.loc 0), some d0, some (.str bb), some (.lst (xs.map D.str)), some (.lst (R.map rwD)), some (.loc (G.length + 1)), some (.loc (G.length + 3)), z8, z9, z10, z11, z12, y13, y14, y15, y16, y17], ⟨o5, _, _, _, _, _, ht5.mono (by omega), rfl, rfl⟩, ?_, ?_⟩
    · rintro j d ρ S' hd ⟨o', z8, z9, z10, z11, z12, ht', rfl, rfl⟩
      have hj : j < R.length := by
        have := (List.getElem?_eq_some_iff.mp hd).1
        rw [x_rngL] at this
        omega
      rw [x_rng, if_pos (by omega)] at hd
      cases hd
      refine ⟨trivial, _, x_bnm, ?_⟩
      simp only [↓x_eqSS, ↓x_neSS, ↓gKGet, ↓x_kget, ↓x_ixE, at_last, ↓x_appE, ↓x_tyE, ↓x_itE, ↓x_lenE, ↓x_nePr, ↓x_eqPr, ↓x_neE, ↓x_lenr, ↓x_lenrI, ↓gRev, ↓x_par3, ↓x_par33, ↓x_fld, ↓x_fset, ↓x_mkF, ↓x_mk, ↓x_meth, ↓x_fldO, ↓x_fsetE, ↓x_fldE, ↓x_methO, ↓x_isiCO, ↓x_isiCN, ↓x_isiCT, ↓x_isiCLi, ↓x_isiCS, ↓x_isiCI, ↓x_own, ↓x_eqT2, ↓x_neT2, ↓x_neL4, ↓x_eqLN, ↓x_neNil, ↓x_gset, ↓x_lc, ↓x_for, ↓x_it, ↓x_rn1, ↓x_rn2, ↓x_enu, ↓x_zip, ↓x_itS, ↓x_itL, ↓x_itK, ↓x_itT, ↓x_rn1I, ↓x_rn2I, ↓x_enuL, ↓x_enuK, ↓x_zipL, ↓x_ixS0, ↓x_ixL, ↓x_ixT, ↓x_ixK, x_at0, x_at1, x_at2, x_at3, x_at4, ↓x_set00, ↓x_set01, ↓x_set02, ↓x_aug1, ↓x_aug2, ↓x_aug3, ↓x_aug4, ↓x_aug5, ↓x_aug6, ↓x_aug7, ↓x_aug8, ↓x_aug9, ↓x_aug10, ↓x_aug11, ↓x_aug12, ↓x_aug13, ↓x_aug14, ↓x_aug15, ↓x_aug16, ↓x_aug17, ↓x_aug18, ↓x_aug19, ↓x_aug20, ↓x_aug21, ↓x_aug22, ↓x_aug23, Int.reduceToNat, Int.reducePow, ↓gSeq, ↓gIfS, ↓gSet, ↓gAsg, ↓x_par, ↓x_par2, ↓gRet, ↓gRetN, ↓gNext, ↓gDrop, ↓gBreak, ↓gCont, ↓gDead, ↓gCB, ↓gB2, ↓gU, ↓gC, ↓Dl.gCons, ↓Dl.gNil, ↓Dl.gTup, ↓Dl.gLst, ↓gTest, ↓gOrB, ↓gAndB, ↓gNotB, ↓gAndV, ↓gOrV, ↓gNotV, ↓gIf, ↓gIx, ↓gSl, ↓gPart, ↓gNoP, ↓gMt, ↓gCall, ↓gArgs, ↓gIsN, ↓gNotN, ↓gChain, ↓x_fmtS, ↓x_afS, ↓x_afI, ↓x_js0, ↓x_jsc, ↓gJoined, ↓gYes, ↓x_bnm, ↓x_btp, ↓x_bn, ↓x_bc, ↓x_nnN, ↓x_nnI, ↓x_nnS, ↓x_nnB, ↓x_nnT, ↓x_nnL, ↓x_nnO, ↓x_nnl, ↓x_tyS, ↓x_tyL, ↓x_i2, ↓aSub, ↓aFdiv, ↓aMod, ↓aPow, ↓aShr, ↓aLt, ↓aLe, ↓aGt, ↓aGe, ↓x_addI, ↓x_addS, ↓x_mulI, ↓x_iaddS, ↓x_iaddI, ↓x_neg, ↓x_eqI, ↓x_neI, ↓x_eqS, ↓x_neS, ↓x_eqB, ↓x_neB, ↓x_eqNI, ↓x_neNI, ↓x_lenS, ↓x_lenL_l, ↓x_lenL_k, ↓x_lenL_t, ↓x_str, ↓x_intI, ↓x_intB, ↓x_divmod, ↓x_max2, ↓x_min2, ↓x_ixS, ↓x_slS, ↓x_slT, ↓x_slL_l, ↓x_slL_k, ↓x_inS, ↓x_newT, ↓x_newF, ↓x_si, ↓x_s1, ↓x_s0, ↓x_rpart, ↓x_part, ↓x_a1, ↓x_a2, ↓x_isiStr, ↓x_isiInt, ↓x_isiIntB, ↓x_isiIntS, ↓x_isiBB, ↓x_isiBI, ↓x_isiStrI, ↓x_isiNonI, ↓x_isiNonS, ↓x_isiT, ↓x_isiL, ↓x_var0, ↓x_varS, ↓x_ex, ↓x_aug0, gat, pick, Option.some.injEq, D.bl.injEq, D.int.injEq, D.str.injEq, D.tup.injEq, D.lst.injEq, List.cons.injEq, and_true, true_and, List.set_cons_zero, List.set_cons_succ, List.length_cons, List.length_nil, List.filterMap_cons, List.filterMap_nil, List.getElem?_cons_zero, List.getElem?_cons_succ, Option.bind_some, ↓reduceIte, if_true, if_false, Bool.false_eq_true, Bool.true_eq_false, decide_eq_true_eq, beq_self_eq_true, Bool.not_true, Bool.not_false, Bool.not_eq_true', decide_eq_false_iff_not, exists_eq_left', exists_eq_left, exists_eq, ↓x_dnT, ↓x_dnF, ↓gAsgL, ↓gMMDef, ↓gDSet, ↓gSItems, ↓x_nilL, ↓x_nilE, List.isEmpty_nil, List.isEmpty_cons, Bool.true_xor, Bool.false_xor, ↓gOrT, ↓gAndT, ↓gTryAs, ↓gTryO, ↓gRaise, ↓gCallX, ↓gMethX, ↓gMakeX, ↓gFldX, ↓x_inXs, Bool.false_xor, Bool.true_xor, ↓gOrS, ↓x_fmtRS, ↓x_afRS, ↓x_afRI, ↓x_stO, ↓x_zipS, ↓x_zipE, ↓x_zipSL, ↓x_zipST, ↓x_zipEL, ↓x_augix, ↓x_isB, ↓x_notB, ↓gLR1, ↓gLR2, ↓gDIxT, ↓gDGt1T, ↓gDSetT, ↓gDNewT, ↓gDIx, ↓gDGt1, ↓gDGt2, ↓gDIn, ↓gDSetd, ↓gDPop1, ↓gDPop2, ↓gTIdx, ↓gLKeys, ↓gDisp, ↓gFrD, ↓gFzD]
      rw [show (0 : Int) + (j : Nat) = (j : Nat) by omega]
      obtain ⟨r, hr⟩ : ∃ r, R[j]? = some r := ⟨R[j]'(by omega), List.getElem?_eq_getElem (by omega)⟩
      have hrO := hR r (List.mem_of_getElem? hr)
      refine ⟨_, atI_lit (by rw [List.getElem?_map, hr]; rfl), _, x_b3, ?_⟩
      simp only [↓x_eqSS, ↓x_neSS, ↓gKGet, ↓x_kget, ↓x_ixE, at_last, ↓x_appE, ↓x_tyE, ↓x_itE, ↓x_lenE, ↓x_nePr, ↓x_eqPr, ↓x_neE, ↓x_lenr, ↓x_lenrI, ↓gRev, ↓x_par3, ↓x_par33, ↓x_fld, ↓x_fset, ↓x_mkF, ↓x_mk, ↓x_meth, ↓x_fldO, ↓x_fsetE, ↓x_fldE, ↓x_methO, ↓x_isiCO, ↓x_isiCN, ↓x_isiCT, ↓x_isiCLi, ↓x_isiCS, ↓x_isiCI, ↓x_own, ↓x_eqT2, ↓x_neT2, ↓x_neL4, ↓x_eqLN, ↓x_neNil, ↓x_gset, ↓x_lc, ↓x_for, ↓x_it, ↓x_rn1, ↓x_rn2, ↓x_enu, ↓x_zip, ↓x_itS, ↓x_itL, ↓x_itK, ↓x_itT, ↓x_rn1I, ↓x_rn2I, ↓x_enuL, ↓x_enuK, ↓x_zipL, ↓x_ixS0, ↓x_ixL, ↓x_ixT, ↓x_ixK, x_at0, x_at1, x_at2, x_at3, x_at4, ↓x_set00, ↓x_set01, ↓x_set02, ↓x_aug1, ↓x_aug2, ↓x_aug3, ↓x_aug4, ↓x_aug5, ↓x_aug6, ↓x_aug7, ↓x_aug8, ↓x_aug9, ↓x_aug10, ↓x_aug11, ↓x_aug12, ↓x_aug13, ↓x_aug14, ↓x_aug15, ↓x_aug16, ↓x_aug17, ↓x_aug18, ↓x_aug19, ↓x_aug20, ↓x_aug21, ↓x_aug22, ↓x_aug23, Int.reduceToNat, Int.reducePow, ↓gSeq, ↓gIfS, ↓gSet, ↓gAsg, ↓x_par, ↓x_par2, ↓gRet, ↓gRetN, ↓gNext, ↓gDrop, ↓gBreak, ↓gCont, ↓gDead, ↓gCB, ↓gB2, ↓gU, ↓gC, ↓Dl.gCons, ↓Dl.gNil, ↓Dl.gTup, ↓Dl.gLst, ↓gTest, ↓gOrB, ↓gAndB, ↓gNotB, ↓gAndV, ↓gOrV, ↓gNotV, ↓gIf, ↓gIx, ↓gSl, ↓gPart, ↓gNoP, ↓gMt, ↓gCall, ↓gArgs, ↓gIsN, ↓gNotN, ↓gChain, ↓x_fmtS, ↓x_afS, ↓x_afI, ↓x_js0, ↓x_jsc, ↓gJoined, ↓gYes, ↓x_bnm, ↓x_btp, ↓x_bn, ↓x_bc, ↓x_nnN, ↓x_nnI, ↓x_nnS, ↓x_nnB, ↓x_nnT, ↓x_nnL, ↓x_nnO, ↓x_nnl, ↓x_tyS, ↓x_tyL, ↓x_i2, ↓aSub, ↓aFdiv, ↓aMod, ↓aPow, ↓aShr, ↓aLt, ↓aLe, ↓aGt, ↓aGe, ↓x_addI, ↓x_addS, ↓x_mulI, ↓x_iaddS, ↓x_iaddI, ↓x_neg, ↓x_eqI, ↓x_neI, ↓x_eqS, ↓x_neS, ↓x_eqB, ↓x_neB, ↓x_eqNI, ↓x_neNI, ↓x_lenS, ↓x_lenL_l, ↓x_lenL_k, ↓x_lenL_t, ↓x_str, ↓x_intI, ↓x_intB, ↓x_divmod, ↓x_max2, ↓x_min2, ↓x_ixS, ↓x_slS, ↓x_slT, ↓x_slL_l, ↓x_slL_k, ↓x_inS, ↓x_newT, ↓x_newF, ↓x_si, ↓x_s1, ↓x_s0, ↓x_rpart, ↓x_part, ↓x_a1, ↓x_a2, ↓x_isiStr, ↓x_isiInt, ↓x_isiIntB, ↓x_isiIntS, ↓x_isiBB, ↓x_isiBI, ↓x_isiStrI, ↓x_isiNonI, ↓x_isiNonS, ↓x_isiT, ↓x_isiL, ↓x_var0, ↓x_varS, ↓x_ex, ↓x_aug0, gat, pick, Option.some.injEq, D.bl.injEq, D.int.injEq, D.str.injEq, D.tup.injEq, D.lst.injEq, List.cons.injEq, and_true, true_and, List.set_cons_zero, List.set_cons_succ, List.length_cons, List.length_nil, List.filterMap_cons, List.filterMap_nil, List.getElem?_cons_zero, List.getElem?_cons_succ, Option.bind_some, ↓reduceIte, if_true, if_false, Bool.false_eq_true, Bool.true_eq_false, decide_eq_true_eq, beq_self_eq_true, Bool.not_true, Bool.not_false, Bool.not_eq_true', decide_eq_false_iff_not, exists_eq_left', exists_eq_left, exists_eq, ↓x_dnT, ↓x_dnF, ↓gAsgL, ↓gMMDef, ↓gDSet, ↓gSItems, ↓x_nilL, ↓x_nilE, List.isEmpty_nil, List.isEmpty_cons, Bool.true_xor, Bool.false_xor, ↓gOrT, ↓gAndT, ↓gTryAs, ↓gTryO, ↓gRaise, ↓gCallX, ↓gMethX, ↓gMakeX, ↓gFldX, ↓x_inXs, Bool.false_xor, Bool.true_xor, ↓gOrS, ↓x_fmtRS, ↓x_afRS, ↓x_afRI, ↓x_stO, ↓x_zipS, ↓x_zipE, ↓x_zipSL, ↓x_zipST, ↓x_zipEL, ↓x_augix, ↓x_isB, ↓x_notB, ↓gLR1, ↓gLR2, ↓gDIxT, ↓gDGt1T, ↓gDSetT, ↓gDNewT, ↓gDIx, ↓gDGt1, ↓gDGt2, ↓gDIn, ↓gDSetd, ↓gDPop1, ↓gDPop2, ↓gTIdx, ↓gLKeys, ↓gDisp, ↓gFrD, ↓gFzD]
      have hT := ok_take hO j
      have hTl : (R.take j).length ≤ 20 := by rw [List.length_take]; omega
      rw [cut_a]
      refine ⟨x_tyO stB_held, rows_in stB_at (by omega) (show_rows hT.ro hT.le ⟨by omega, (x_app stB_held).mpr ⟨by rw [List.length_map, List.length_range]; omega, ?_⟩⟩)⟩
      rw [stB_app, show (List.range j).map (hD R) ++ [.tup [.lst ((R.take j).map rwD), .str (PyData.list ((R.take j).map rwY)).shown]] = (List.range (j + 1)).map (hD R) by rw [List.range_succ, List.map_append]; rfl]
      refine ⟨_, _, bb, R.take j, rfl, stB_at, hT, true, rfl, ?_⟩
      rw [if_neg (by decide)]
      refine ⟨_, _, bk_obj stB_at, by decide +kernel, _, _, bb, R.take j, r.m, r.w, r.n, rfl, stB_at, by omega, fun _ => ?_, fun r' h' hlt => absurd (rise_take hRi hr r' (List.mem_of_getLast? h')) (by omega)⟩
      rw [stB_set, show R.take j ++ [Rw.mk r.m r.w r.n] = R.take (j + 1) from (take_snoc hr).symm]
      dsimp only
      rw [if_neg (by decide)]
      by_cases hm : 0 < r.m
      · rw [if_pos (by omega)]
        refine Mt.draw_in (R0 := G ++ bk2 a (G.length + 1) bb (R.take (j + 1)) ++ [some (MO.lst ((List.range (j + 1)).map (hD R)))]) (by omega) (by have := hrO.1; omega) ht' (by omega) fun x o2 x0 x1 ht2 => ?_
        simp only [↓x_eqSS, ↓x_neSS, ↓gKGet, ↓x_kget, ↓x_ixE, at_last, ↓x_appE, ↓x_tyE, ↓x_itE, ↓x_lenE, ↓x_nePr, ↓x_eqPr, ↓x_neE, ↓x_lenr, ↓x_lenrI, ↓gRev, ↓x_par3, ↓x_par33, ↓x_fld, ↓x_fset, ↓x_mkF, ↓x_mk, ↓x_meth, ↓x_fldO, ↓x_fsetE, ↓x_fldE, ↓x_methO, ↓x_isiCO, ↓x_isiCN, ↓x_isiCT, ↓x_isiCLi, ↓x_isiCS, ↓x_isiCI, ↓x_own, ↓x_eqT2, ↓x_neT2, ↓x_neL4, ↓x_eqLN, ↓x_neNil, ↓x_gset, ↓x_lc, ↓x_for, ↓x_it, ↓x_rn1, ↓x_rn2, ↓x_enu, ↓x_zip, ↓x_itS, ↓x_itL, ↓x_itK, ↓x_itT, ↓x_rn1I, ↓x_rn2I, ↓x_enuL, ↓x_enuK, ↓x_zipL, ↓x_ixS0, ↓x_ixL, ↓x_ixT, ↓x_ixK, x_at0, x_at1, x_at2, x_at3, x_at4, ↓x_set00, ↓x_set01, ↓x_set02, ↓x_aug1, ↓x_aug2, ↓x_aug3, ↓x_aug4, ↓x_aug5, ↓x_aug6, ↓x_aug7, ↓x_aug8, ↓x_aug9, ↓x_aug10, ↓x_aug11, ↓x_aug12, ↓x_aug13, ↓x_aug14, ↓x_aug15, ↓x_aug16, ↓x_aug17, ↓x_aug18, ↓x_aug19, ↓x_aug20, ↓x_aug21, ↓x_aug22, ↓x_aug23, Int.reduceToNat, Int.reducePow, ↓gSeq, ↓gIfS, ↓gSet, ↓gAsg, ↓x_par, ↓x_par2, ↓gRet, ↓gRetN, ↓gNext, ↓gDrop, ↓gBreak, ↓gCont, ↓gDead, ↓gCB, ↓gB2, ↓gU, ↓gC, ↓Dl.gCons, ↓Dl.gNil, ↓Dl.gTup, ↓Dl.gLst, ↓gTest, ↓gOrB, ↓gAndB, ↓gNotB, ↓gAndV, ↓gOrV, ↓gNotV, ↓gIf, ↓gIx, ↓gSl, ↓gPart, ↓gNoP, ↓gMt, ↓gCall, ↓gArgs, ↓gIsN, ↓gNotN, ↓gChain, ↓x_fmtS, ↓x_afS, ↓x_afI, ↓x_js0, ↓x_jsc, ↓gJoined, ↓gYes, ↓x_bnm, ↓x_btp, ↓x_bn, ↓x_bc, ↓x_nnN, ↓x_nnI, ↓x_nnS, ↓x_nnB, ↓x_nnT, ↓x_nnL, ↓x_nnO, ↓x_nnl, ↓x_tyS, ↓x_tyL, ↓x_i2, ↓aSub, ↓aFdiv, ↓aMod, ↓aPow, ↓aShr, ↓aLt, ↓aLe, ↓aGt, ↓aGe, ↓x_addI, ↓x_addS, ↓x_mulI, ↓x_iaddS, ↓x_iaddI, ↓x_neg, ↓x_eqI, ↓x_neI, ↓x_eqS, ↓x_neS, ↓x_eqB, ↓x_neB, ↓x_eqNI, ↓x_neNI, ↓x_lenS, ↓x_lenL_l, ↓x_lenL_k, ↓x_lenL_t, ↓x_str, ↓x_intI, ↓x_intB, ↓x_divmod, ↓x_max2, ↓x_min2, ↓x_ixS, ↓x_slS, ↓x_slT, ↓x_slL_l, ↓x_slL_k, ↓x_inS, ↓x_newT, ↓x_newF, ↓x_si, ↓x_s1, ↓x_s0, ↓x_rpart, ↓x_part, ↓x_a1, ↓x_a2, ↓x_isiStr, ↓x_isiInt, ↓x_isiIntB, ↓x_isiIntS, ↓x_isiBB, ↓x_isiBI, ↓x_isiStrI, ↓x_isiNonI, ↓x_isiNonS, ↓x_isiT, ↓x_isiL, ↓x_var0, ↓x_varS, ↓x_ex, ↓x_aug0, gat, pick, Option.some.injEq, D.bl.injEq, D.int.injEq, D.str.injEq, D.tup.injEq, D.lst.injEq, List.cons.injEq, and_true, true_and, List.set_cons_zero, List.set_cons_succ, List.length_cons, List.length_nil, List.filterMap_cons, List.filterMap_nil, List.getElem?_cons_zero, List.getElem?_cons_succ, Option.bind_some, ↓reduceIte, if_true, if_false, Bool.false_eq_true, Bool.true_eq_false, decide_eq_true_eq, beq_self_eq_true, Bool.not_true, Bool.not_false, Bool.not_eq_true', decide_eq_false_iff_not, exists_eq_left', exists_eq_left, exists_eq, ↓x_dnT, ↓x_dnF, ↓gAsgL, ↓gMMDef, ↓gDSet, ↓gSItems, ↓x_nilL, ↓x_nilE, List.isEmpty_nil, List.isEmpty_cons, Bool.true_xor, Bool.false_xor, ↓gOrT, ↓gAndT, ↓gTryAs, ↓gTryO, ↓gRaise, ↓gCallX, ↓gMethX, ↓gMakeX, ↓gFldX, ↓x_inXs, Bool.false_xor, Bool.true_xor, ↓gOrS, ↓x_fmtRS, ↓x_afRS, ↓x_afRI, ↓x_stO, ↓x_zipS, ↓x_zipE, ↓x_zipSL, ↓x_zipST, ↓x_zipEL, ↓x_augix, ↓x_isB, ↓x_notB, ↓gLR1, ↓gLR2, ↓gDIxT, ↓gDGt1T, ↓gDSetT, ↓gDNewT, ↓gDIx, ↓gDGt1, ↓gDGt2, ↓gDIn, ↓gDSetd, ↓gDPop1, ↓gDPop2, ↓gTIdx, ↓gLKeys, ↓gDisp, ↓gFrD, ↓gFzD]
        obtain ⟨mm, hmm⟩ := Int.eq_ofNat_of_zero_le (show 0 ≤ (r.m : Int) - 1 - x by omega)
        refine ⟨_, _, bb, R.take (j + 1), r, mm, by rw [hmm], stB_at (o := o2), by rw [List.length_take]; omega, by rw [take_snoc hr]; simp, by omega, by omega, ?_⟩
        refine (x_ne (p := .tuple [.int (r.m : Nat), .bool true, .bool false]) (p' := .tuple [.int (r.m : Nat), .bool true, .bool false]) (by simp [toPyS, toPy, toPys]) (by simp [toPyS, toPy, toPys])).mpr ⟨by simp [SeqAt.shaped, PyData.canLay0, PyData.canLayAll0, PyData.depth, PyData.depthAll], by simp [SeqAt.shaped, PyData.canLay0, PyData.canLayAll0, PyData.depth, PyData.depthAll], false, by simp [PyData.eqv, PyData.eqvAll], ?_⟩
        rw [if_neg (by decide)]
        exact ⟨o2, _, _, _, _, _, ht2.mono (by omega), rfl, rfl, rfl, rfl, rfl, rfl⟩
      · rw [if_neg (by omega)]
        exact ⟨o', _, _, _, _, _, ht'.mono (by omega), rfl, rfl, rfl, rfl, rfl, rfl⟩
    · rintro ρ S' ⟨o', z8, z9, z10, z11, z12, ht', rfl, rfl⟩
      rw [x_rngL] at ht' ⊢
      rw [show ((R.length : Nat) : Int).toNat = R.length by omega, List.take_length] at *
      refine ⟨trivial, ?_⟩
      simp only [↓x_eqSS, ↓x_neSS, ↓gKGet, ↓x_kget, ↓x_ixE, at_last, ↓x_appE, ↓x_tyE, ↓x_itE, ↓x_lenE, ↓x_nePr, ↓x_eqPr, ↓x_neE, ↓x_lenr, ↓x_lenrI, ↓gRev, ↓x_par3, ↓x_par33, ↓x_fld, ↓x_fset, ↓x_mkF, ↓x_mk, ↓x_meth, ↓x_fldO, ↓x_fsetE, ↓x_fldE, ↓x_methO, ↓x_isiCO, ↓x_isiCN, ↓x_isiCT, ↓x_isiCLi, ↓x_isiCS, ↓x_isiCI, ↓x_own, ↓x_eqT2, ↓x_neT2, ↓x_neL4, ↓x_eqLN, ↓x_neNil, ↓x_gset, ↓x_lc, ↓x_for, ↓x_it, ↓x_rn1, ↓x_rn2, ↓x_enu, ↓x_zip, ↓x_itS, ↓x_itL, ↓x_itK, ↓x_itT, ↓x_rn1I, ↓x_rn2I, ↓x_enuL, ↓x_enuK, ↓x_zipL, ↓x_ixS0, ↓x_ixL, ↓x_ixT, ↓x_ixK, x_at0, x_at1, x_at2, x_at3, x_at4, ↓x_set00, ↓x_set01, ↓x_set02, ↓x_aug1, ↓x_aug2, ↓x_aug3, ↓x_aug4, ↓x_aug5, ↓x_aug6, ↓x_aug7, ↓x_aug8, ↓x_aug9, ↓x_aug10, ↓x_aug11, ↓x_aug12, ↓x_aug13, ↓x_aug14, ↓x_aug15, ↓x_aug16, ↓x_aug17, ↓x_aug18, ↓x_aug19, ↓x_aug20, ↓x_aug21, ↓x_aug22, ↓x_aug23, Int.reduceToNat, Int.reducePow, ↓gSeq, ↓gIfS, ↓gSet, ↓gAsg, ↓x_par, ↓x_par2, ↓gRet, ↓gRetN, ↓gNext, ↓gDrop, ↓gBreak, ↓gCont, ↓gDead, ↓gCB, ↓gB2, ↓gU, ↓gC, ↓Dl.gCons, ↓Dl.gNil, ↓Dl.gTup, ↓Dl.gLst, ↓gTest, ↓gOrB, ↓gAndB, ↓gNotB, ↓gAndV, ↓gOrV, ↓gNotV, ↓gIf, ↓gIx, ↓gSl, ↓gPart, ↓gNoP, ↓gMt, ↓gCall, ↓gArgs, ↓gIsN, ↓gNotN, ↓gChain, ↓x_fmtS, ↓x_afS, ↓x_afI, ↓x_js0, ↓x_jsc, ↓gJoined, ↓gYes, ↓x_bnm, ↓x_btp, ↓x_bn, ↓x_bc, ↓x_nnN, ↓x_nnI, ↓x_nnS, ↓x_nnB, ↓x_nnT, ↓x_nnL, ↓x_nnO, ↓x_nnl, ↓x_tyS, ↓x_tyL, ↓x_i2, ↓aSub, ↓aFdiv, ↓aMod, ↓aPow, ↓aShr, ↓aLt, ↓aLe, ↓aGt, ↓aGe, ↓x_addI, ↓x_addS, ↓x_mulI, ↓x_iaddS, ↓x_iaddI, ↓x_neg, ↓x_eqI, ↓x_neI, ↓x_eqS, ↓x_neS, ↓x_eqB, ↓x_neB, ↓x_eqNI, ↓x_neNI, ↓x_lenS, ↓x_lenL_l, ↓x_lenL_k, ↓x_lenL_t, ↓x_str, ↓x_intI, ↓x_intB, ↓x_divmod, ↓x_max2, ↓x_min2, ↓x_ixS, ↓x_slS, ↓x_slT, ↓x_slL_l, ↓x_slL_k, ↓x_inS, ↓x_newT, ↓x_newF, ↓x_si, ↓x_s1, ↓x_s0, ↓x_rpart, ↓x_part, ↓x_a1, ↓x_a2, ↓x_isiStr, ↓x_isiInt, ↓x_isiIntB, ↓x_isiIntS, ↓x_isiBB, ↓x_isiBI, ↓x_isiStrI, ↓x_isiNonI, ↓x_isiNonS, ↓x_isiT, ↓x_isiL, ↓x_var0, ↓x_varS, ↓x_ex, ↓x_aug0, gat, pick, Option.some.injEq, D.bl.injEq, D.int.injEq, D.str.injEq, D.tup.injEq, D.lst.injEq, List.cons.injEq, and_true, true_and, List.set_cons_zero, List.set_cons_succ, List.length_cons, List.length_nil, List.filterMap_cons, List.filterMap_nil, List.getElem?_cons_zero, List.getElem?_cons_succ, Option.bind_some, ↓reduceIte, if_true, if_false, Bool.false_eq_true, Bool.true_eq_false, decide_eq_true_eq, beq_self_eq_true, Bool.not_true, Bool.not_false, Bool.not_eq_true', decide_eq_false_iff_not, exists_eq_left', exists_eq_left, exists_eq, ↓x_dnT, ↓x_dnF, ↓gAsgL, ↓gMMDef, ↓gDSet, ↓gSItems, ↓x_nilL, ↓x_nilE, List.isEmpty_nil, List.isEmpty_cons, Bool.true_xor, Bool.false_xor, ↓gOrT, ↓gAndT, ↓gTryAs, ↓gTryO, ↓gRaise, ↓gCallX, ↓gMethX, ↓gMakeX, ↓gFldX, ↓x_inXs, Bool.false_xor, Bool.true_xor, ↓gOrS, ↓x_fmtRS, ↓x_afRS, ↓x_afRI, ↓x_stO, ↓x_zipS, ↓x_zipE, ↓x_zipSL, ↓x_zipST, ↓x_zipEL, ↓x_augix, ↓x_isB, ↓x_notB, ↓gLR1, ↓gLR2, ↓gDIxT, ↓gDGt1T, ↓gDSetT, ↓gDNewT, ↓gDIx, ↓gDGt1, ↓gDGt2, ↓gDIn, ↓gDSetd, ↓gDPop1, ↓gDPop2, ↓gTIdx, ↓gLKeys, ↓gDisp, ↓gFrD, ↓gFzD]
      refine ⟨_, _, bb, R, rfl, stB_at, hO, true, rfl, ?_⟩
      rw [if_neg (by decide)]
      refine (x_itO (ds := (List.range R.length).map (hD R)) (by simp only [seqOf, stB_held])).mpr ?_
      refine lc_on (F := hD R) (L := List.range R.length) (fun _ => none) (by simp only [seqOf, stB_held]) (by rw [List.length_range]; omega) (fun k hk acc R1 hac hR1 => ⟨_, x_b2, ?_⟩) ?_
      · simp only [wipeD, ↓x_eqSS, ↓x_neSS, ↓gKGet, ↓x_kget, ↓x_ixE, at_last, ↓x_appE, ↓x_tyE, ↓x_itE, ↓x_lenE, ↓x_nePr, ↓x_eqPr, ↓x_neE, ↓x_lenr, ↓x_lenrI, ↓gRev, ↓x_par3, ↓x_par33, ↓x_fld, ↓x_fset, ↓x_mkF, ↓x_mk, ↓x_meth, ↓x_fldO, ↓x_fsetE, ↓x_fldE, ↓x_methO, ↓x_isiCO, ↓x_isiCN, ↓x_isiCT, ↓x_isiCLi, ↓x_isiCS, ↓x_isiCI, ↓x_own, ↓x_eqT2, ↓x_neT2, ↓x_neL4, ↓x_eqLN, ↓x_neNil, ↓x_gset, ↓x_lc, ↓x_for, ↓x_it, ↓x_rn1, ↓x_rn2, ↓x_enu, ↓x_zip, ↓x_itS, ↓x_itL, ↓x_itK, ↓x_itT, ↓x_rn1I, ↓x_rn2I, ↓x_enuL, ↓x_enuK, ↓x_zipL, ↓x_ixS0, ↓x_ixL, ↓x_ixT, ↓x_ixK, x_at0, x_at1, x_at2, x_at3, x_at4, ↓x_set00, ↓x_set01, ↓x_set02, ↓x_aug1, ↓x_aug2, ↓x_aug3, ↓x_aug4, ↓x_aug5, ↓x_aug6, ↓x_aug7, ↓x_aug8, ↓x_aug9, ↓x_aug10, ↓x_aug11, ↓x_aug12, ↓x_aug13, ↓x_aug14, ↓x_aug15, ↓x_aug16, ↓x_aug17, ↓x_aug18, ↓x_aug19, ↓x_aug20, ↓x_aug21, ↓x_aug22, ↓x_aug23, Int.reduceToNat, Int.reducePow, ↓gSeq, ↓gIfS, ↓gSet, ↓gAsg, ↓x_par, ↓x_par2, ↓gRet, ↓gRetN, ↓gNext, ↓gDrop, ↓gBreak, ↓gCont, ↓gDead, ↓gCB, ↓gB2, ↓gU, ↓gC, ↓Dl.gCons, ↓Dl.gNil, ↓Dl.gTup, ↓Dl.gLst, ↓gTest, ↓gOrB, ↓gAndB, ↓gNotB, ↓gAndV, ↓gOrV, ↓gNotV, ↓gIf, ↓gIx, ↓gSl, ↓gPart, ↓gNoP, ↓gMt, ↓gCall, ↓gArgs, ↓gIsN, ↓gNotN, ↓gChain, ↓x_fmtS, ↓x_afS, ↓x_afI, ↓x_js0, ↓x_jsc, ↓gJoined, ↓gYes, ↓x_bnm, ↓x_btp, ↓x_bn, ↓x_bc, ↓x_nnN, ↓x_nnI, ↓x_nnS, ↓x_nnB, ↓x_nnT, ↓x_nnL, ↓x_nnO, ↓x_nnl, ↓x_tyS, ↓x_tyL, ↓x_i2, ↓aSub, ↓aFdiv, ↓aMod, ↓aPow, ↓aShr, ↓aLt, ↓aLe, ↓aGt, ↓aGe, ↓x_addI, ↓x_addS, ↓x_mulI, ↓x_iaddS, ↓x_iaddI, ↓x_neg, ↓x_eqI, ↓x_neI, ↓x_eqS, ↓x_neS, ↓x_eqB, ↓x_neB, ↓x_eqNI, ↓x_neNI, ↓x_lenS, ↓x_lenL_l, ↓x_lenL_k, ↓x_lenL_t, ↓x_str, ↓x_intI, ↓x_intB, ↓x_divmod, ↓x_max2, ↓x_min2, ↓x_ixS, ↓x_slS, ↓x_slT, ↓x_slL_l, ↓x_slL_k, ↓x_inS, ↓x_newT, ↓x_newF, ↓x_si, ↓x_s1, ↓x_s0, ↓x_rpart, ↓x_part, ↓x_a1, ↓x_a2, ↓x_isiStr, ↓x_isiInt, ↓x_isiIntB, ↓x_isiIntS, ↓x_isiBB, ↓x_isiBI, ↓x_isiStrI, ↓x_isiNonI, ↓x_isiNonS, ↓x_isiT, ↓x_isiL, ↓x_var0, ↓x_varS, ↓x_ex, ↓x_aug0, gat, pick, Option.some.injEq, D.bl.injEq, D.int.injEq, D.str.injEq, D.tup.injEq, D.lst.injEq, List.cons.injEq, and_true, true_and, List.set_cons_zero, List.set_cons_succ, List.length_cons, List.length_nil, List.filterMap_cons, List.filterMap_nil, List.getElem?_cons_zero, List.getElem?_cons_succ, Option.bind_some, ↓reduceIte, if_true, if_false, Bool.false_eq_true, Bool.true_eq_false, decide_eq_true_eq, beq_self_eq_true, Bool.not_true, Bool.not_false, Bool.not_eq_true', decide_eq_false_iff_not, exists_eq_left', exists_eq_left, exists_eq, ↓x_dnT, ↓x_dnF, ↓gAsgL, ↓gMMDef, ↓gDSet, ↓gSItems, ↓x_nilL, ↓x_nilE, List.isEmpty_nil, List.isEmpty_cons, Bool.true_xor, Bool.false_xor, ↓gOrT, ↓gAndT, ↓gTryAs, ↓gTryO, ↓gRaise, ↓gCallX, ↓gMethX, ↓gMakeX, ↓gFldX, ↓x_inXs, Bool.false_xor, Bool.true_xor, ↓gOrS, ↓x_fmtRS, ↓x_afRS, ↓x_afRI, ↓x_stO, ↓x_zipS, ↓x_zipE, ↓x_zipSL, ↓x_zipST, ↓x_zipEL, ↓x_augix, ↓x_isB, ↓x_notB, ↓gLR1, ↓gLR2, ↓gDIxT, ↓gDGt1T, ↓gDSetT, ↓gDNewT, ↓gDIx, ↓gDGt1, ↓gDGt2, ↓gDIn, ↓gDSetd, ↓gDPop1, ↓gDPop2, ↓gTIdx, ↓gLKeys, ↓gDisp, ↓gFrD, ↓gFzD]
        have hT := ok_take hO k
        refine show_rows hT.ro hT.le (x_neSS.mpr ⟨false, by simp, ?_⟩)
        rw [if_neg (by decide)]
        simpa using hR1
      rw [x_newT, fm_none]
      refine ⟨by omega, (x_ne (p := .list []) (p' := .list []) (by simp [toPyS, toPy, toPys]) (by simp [toPyS, toPy, toPys])).mpr ⟨by decide, by decide, false, by simp [PyData.eqv, PyData.eqvAll], ?_⟩⟩
      rw [if_neg (by decide)]
      exact r_law_c144 T hO hl (fun r hr => (hR0 r hr).2) ht' (by omega) fun o' G' y6 y13 y14 y15 y16 ht6 => ⟨o', G', _, _, _, _, _, _, _, _, _, _, _, _, _, _, _, _, ht6.mono (by omega), rfl, rfl⟩
  · rintro ρ S' ⟨o, G, y2, y3, y4, y5, y6, y7, y8, y9, y10, y11, y12, y13, y14, y15, y16, y17, ht, rfl, rfl⟩
    refine ⟨trivial, ?_⟩
    simp only [↓x_eqSS, ↓x_neSS, ↓gKGet, ↓x_kget, ↓x_ixE, at_last, ↓x_appE, ↓x_tyE, ↓x_itE, ↓x_lenE, ↓x_nePr, ↓x_eqPr, ↓x_neE, ↓x_lenr, ↓x_lenrI, ↓gRev, ↓x_par3, ↓x_par33, ↓x_fld, ↓x_fset, ↓x_mkF, ↓x_mk, ↓x_meth, ↓x_fldO, ↓x_fsetE, ↓x_fldE, ↓x_methO, ↓x_isiCO, ↓x_isiCN, ↓x_isiCT, ↓x_isiCLi, ↓x_isiCS, ↓x_isiCI, ↓x_own, ↓x_eqT2, ↓x_neT2, ↓x_neL4, ↓x_eqLN, ↓x_neNil, ↓x_gset, ↓x_lc, ↓x_for, ↓x_it, ↓x_rn1, ↓x_rn2, ↓x_enu, ↓x_zip, ↓x_itS, ↓x_itL, ↓x_itK, ↓x_itT, ↓x_rn1I, ↓x_rn2I, ↓x_enuL, ↓x_enuK, ↓x_zipL, ↓x_ixS0, ↓x_ixL, ↓x_ixT, ↓x_ixK, x_at0, x_at1, x_at2, x_at3, x_at4, ↓x_set00, ↓x_set01, ↓x_set02, ↓x_aug1, ↓x_aug2, ↓x_aug3, ↓x_aug4, ↓x_aug5, ↓x_aug6, ↓x_aug7, ↓x_aug8, ↓x_aug9, ↓x_aug10, ↓x_aug11, ↓x_aug12, ↓x_aug13, ↓x_aug14, ↓x_aug15, ↓x_aug16, ↓x_aug17, ↓x_aug18, ↓x_aug19, ↓x_aug20, ↓x_aug21, ↓x_aug22, ↓x_aug23, Int.reduceToNat, Int.reducePow, ↓gSeq, ↓gIfS, ↓gSet, ↓gAsg, ↓x_par, ↓x_par2, ↓gRet, ↓gRetN, ↓gNext, ↓gDrop, ↓gBreak, ↓gCont, ↓gDead, ↓gCB, ↓gB2, ↓gU, ↓gC, ↓Dl.gCons, ↓Dl.gNil, ↓Dl.gTup, ↓Dl.gLst, ↓gTest, ↓gOrB, ↓gAndB, ↓gNotB, ↓gAndV, ↓gOrV, ↓gNotV, ↓gIf, ↓gIx, ↓gSl, ↓gPart, ↓gNoP, ↓gMt, ↓gCall, ↓gArgs, ↓gIsN, ↓gNotN, ↓gChain, ↓x_fmtS, ↓x_afS, ↓x_afI, ↓x_js0, ↓x_jsc, ↓gJoined, ↓gYes, ↓x_bnm, ↓x_btp, ↓x_bn, ↓x_bc, ↓x_nnN, ↓x_nnI, ↓x_nnS, ↓x_nnB, ↓x_nnT, ↓x_nnL, ↓x_nnO, ↓x_nnl, ↓x_tyS, ↓x_tyL, ↓x_i2, ↓aSub, ↓aFdiv, ↓aMod, ↓aPow, ↓aShr, ↓aLt, ↓aLe, ↓aGt, ↓aGe, ↓x_addI, ↓x_addS, ↓x_mulI, ↓x_iaddS, ↓x_iaddI, ↓x_neg, ↓x_eqI, ↓x_neI, ↓x_eqS, ↓x_neS, ↓x_eqB, ↓x_neB, ↓x_eqNI, ↓x_neNI, ↓x_lenS, ↓x_lenL_l, ↓x_lenL_k, ↓x_lenL_t, ↓x_str, ↓x_intI, ↓x_intB, ↓x_divmod, ↓x_max2, ↓x_min2, ↓x_ixS, ↓x_slS, ↓x_slT, ↓x_slL_l, ↓x_slL_k, ↓x_inS, ↓x_newT, ↓x_newF, ↓x_si, ↓x_s1, ↓x_s0, ↓x_rpart, ↓x_part, ↓x_a1, ↓x_a2, ↓x_isiStr, ↓x_isiInt, ↓x_isiIntB, ↓x_isiIntS, ↓x_isiBB, ↓x_isiBI, ↓x_isiStrI, ↓x_isiNonI, ↓x_isiNonS, ↓x_isiT, ↓x_isiL, ↓x_var0, ↓x_varS, ↓x_ex, ↓x_aug0, gat, pick, Option.some.injEq, D.bl.injEq, D.int.injEq, D.str.injEq, D.tup.injEq, D.lst.injEq, List.cons.injEq, and_true, true_and, List.set_cons_zero, List.set_cons_succ, List.length_cons, List.length_nil, List.filterMap_cons, List.filterMap_nil, List.getElem?_cons_zero, List.getElem?_cons_succ, Option.bind_some, ↓reduceIte, if_true, if_false, Bool.false_eq_true, Bool.true_eq_false, decide_eq_true_eq, beq_self_eq_true, Bool.not_true, Bool.not_false, Bool.not_eq_true', decide_eq_false_iff_not, exists_eq_left', exists_eq_left, exists_eq, ↓x_dnT, ↓x_dnF, ↓gAsgL, ↓gMMDef, ↓gDSet, ↓gSItems, ↓x_nilL, ↓x_nilE, List.isEmpty_nil, List.isEmpty_cons, Bool.true_xor, Bool.false_xor, ↓gOrT, ↓gAndT, ↓gTryAs, ↓gTryO, ↓gRaise, ↓gCallX, ↓gMethX, ↓gMakeX, ↓gFldX, ↓x_inXs, Bool.false_xor, Bool.true_xor, ↓gOrS, ↓x_fmtRS, ↓x_afRS, ↓x_afRI, ↓x_stO, ↓x_zipS, ↓x_zipE, ↓x_zipSL, ↓x_zipST, ↓x_zipEL, ↓x_augix, ↓x_isB, ↓x_notB, ↓gLR1, ↓gLR2, ↓gDIxT, ↓gDGt1T, ↓gDSetT, ↓gDNewT, ↓gDIx, ↓gDGt1, ↓gDGt2, ↓gDIn, ↓gDSetd, ↓gDPop1, ↓gDPop2, ↓gTIdx, ↓gLKeys, ↓gDisp, ↓gFrD, ↓gFzD]
    exact h _
end
end Lw
namespace Lw
open PySem L2 Dl
section
variable {P : Program} {w : World} {K : PySem.W.Frag} {mg : Str → Option Value} {base : Heap} {a : Ad}
theorem ok_show_clock (T : Txt K mg a) : Fnc P w K mg base "show_clock" s_show_clock dv_show_clock 1 ps_show_clock (sp_show_clock a) :=
  fnc_of0 T.b_show_clock sc_show_clock (by intro ds S q h; first | (cases h with | inl h => (first | (obtain ⟨rfl, _⟩ := h; rfl) | (obtain ⟨_, _, _, _, ⟨_, _, rfl, _⟩, _⟩ := h; rfl) | (obtain ⟨_, rfl, _⟩ := h; rfl) | (obtain ⟨_, _, rfl, _⟩ := h; rfl) | (obtain ⟨_, _, _, rfl, _⟩ := h; rfl) | (obtain ⟨_, _, _, _, rfl, _⟩ := h; rfl) | (obtain ⟨_, _, _, _, _, rfl, _⟩ := h; rfl) | (obtain ⟨_, _, _, _, _, _, rfl, _⟩ := h; rfl) | (obtain ⟨_, _, _, _, _, _, _, rfl, _⟩ := h; rfl) | (obtain ⟨_, _, _, _, _, _, _, _, rfl, _⟩ := h; rfl) | (obtain ⟨_, _, _, _, _, _, _, _, _, rfl, _⟩ := h; rfl) | (obtain ⟨_, _, _, _, _, _, _, _, _, _, rfl, _⟩ := h; rfl) | (obtain ⟨_, _, _, _, _, _, _, _, _, _, _, rfl, _⟩ := h; rfl) | (obtain ⟨_, _, _, _, _, _, _, _, _, _, _, _, rfl, _⟩ := h; rfl) | (obtain ⟨_, _, _, _, _, _, _, _, _, _, _, _, _, rfl, _⟩ := h; rfl) | exact Mt.tk_len rfl h | (obtain ⟨_, h⟩ := h; exact Mt.tk_len rfl h) | (obtain ⟨_, _, h⟩ := h; exact Mt.tk_len rfl h) | (obtain ⟨_, _, _, h⟩ := h; exact Mt.tk_len rfl h) | (obtain ⟨_, _, _, _, h⟩ := h; exact Mt.tk_len rfl h) | (obtain ⟨_, _, _, _, _, h⟩ := h; exact Mt.tk_len rfl h) | (obtain ⟨_, _, _, _, _, _, h⟩ := h; exact Mt.tk_len rfl h) | (obtain ⟨_, _, _, _, _, _, _, h⟩ := h; exact Mt.tk_len rfl h) | (obtain ⟨_, _, _, _, _, _, _, _, h⟩ := h; exact Mt.tk_len rfl h) | (obtain ⟨_, _, _, _, _, _, _, _, _, h⟩ := h; exact Mt.tk_len rfl h) | (obtain ⟨_, _, _, _, _, _, _, _, _, _, h⟩ := h; exact Mt.tk_len rfl h) | (obtain ⟨_, _, _, _, _, _, _, _, _, _, _, h⟩ := h; exact Mt.tk_len rfl h) | (obtain ⟨_, _, _, _, _, _, _, _, _, _, _, _, h⟩ := h; exact Mt.tk_len rfl h) | (obtain ⟨_, _, _, _, _, _, _, _, _, _, _, _, _, h⟩ := h; exact Mt.tk_len rfl h) | (obtain ⟨_, _, _, _, _, _, _, _, _, _, _, _, _, _, h⟩ := h; exact Mt.tk_len rfl h) | (obtain ⟨_, _, _, _, _, _, _, _, _, _, _, _, _, _, _, h⟩ := h; exact Mt.tk_len rfl h)) | inr h => (first | (obtain ⟨rfl, _⟩ := h; rfl) | (obtain ⟨_, _, _, _, ⟨_, _, rfl, _⟩, _⟩ := h; rfl) | (obtain ⟨_, rfl, _⟩ := h; rfl) | (obtain ⟨_, _, rfl, _⟩ := h; rfl) | (obtain ⟨_, _, _, rfl, _⟩ := h; rfl) | (obtain ⟨_, _, _, _, rfl, _⟩ := h; rfl) | (obtain ⟨_, _, _, _, _, rfl, _⟩ := h; rfl) | (obtain ⟨_, _, _, _, _, _, rfl, _⟩ := h; rfl) | (obtain ⟨_, _, _, _, _, _, _, rfl, _⟩ := h; rfl) | (obtain ⟨_, _, _, _, _, _, _, _, rfl, _⟩ := h; rfl) | (obtain ⟨_, _, _, _, _, _, _, _, _, rfl, _⟩ := h; rfl) | (obtain ⟨_, _, _, _, _, _, _, _, _, _, rfl, _⟩ := h; rfl) | (obtain ⟨_, _, _, _, _, _, _, _, _, _, _, rfl, _⟩ := h; rfl) | (obtain ⟨_, _, _, _, _, _, _, _, _, _, _, _, rfl, _⟩ := h; rfl) | (obtain ⟨_, _, _, _, _, _, _, _, _, _, _, _, _, rfl, _⟩ := h; rfl) | exact Mt.tk_len rfl h | (obtain ⟨_, h⟩ := h; exact Mt.tk_len rfl h) | (obtain ⟨_, _, h⟩ := h; exact Mt.tk_len rfl h) | (obtain ⟨_, _, _, h⟩ := h; exact Mt.tk_len rfl h) | (obtain ⟨_, _, _, _, h⟩ := h; exact Mt.tk_len rfl h) | (obtain ⟨_, _, _, _, _, h⟩ := h; exact Mt.tk_len rfl h) | (obtain ⟨_, _, _, _, _, _, h⟩ := h; exact Mt.tk_len rfl h) | (obtain ⟨_, _, _, _, _, _, _, h⟩ := h; exact Mt.tk_len rfl h) | (obtain ⟨_, _, _, _, _, _, _, _, h⟩ := h; exact Mt.tk_len rfl h) | (obtain ⟨_, _, _, _, _, _, _, _, _, h⟩ := h; exact Mt.tk_len rfl h) | (obtain ⟨_, _, _, _, _, _, _, _, _, _, h⟩ := h; exact Mt.tk_len rfl h) | (obtain ⟨_, _, _, _, _, _, _, _, _, _, _, h⟩ := h; exact Mt.tk_len rfl h) | (obtain ⟨_, _, _, _, _, _, _, _, _, _, _, _, h⟩ := h; exact Mt.tk_len rfl h) | (obtain ⟨_, _, _, _, _, _, _, _, _, _, _, _, _, h⟩ := h; exact Mt.tk_len rfl h) | (obtain ⟨_, _, _, _, _, _, _, _, _, _, _, _, _, _, h⟩ := h; exact Mt.tk_len rfl h) | (obtain ⟨_, _, _, _, _, _, _, _, _, _, _, _, _, _, _, h⟩ := h; exact Mt.tk_len rfl h))) | (first | (obtain ⟨rfl, _⟩ := h; rfl) | (obtain ⟨_, _, _, _, ⟨_, _, rfl, _⟩, _⟩ := h; rfl) | (obtain ⟨_, rfl, _⟩ := h; rfl) | (obtain ⟨_, _, rfl, _⟩ := h; rfl) | (obtain ⟨_, _, _, rfl, _⟩ := h; rfl) | (obtain ⟨_, _, _, _, rfl, _⟩ := h; rfl) | (obtain ⟨_, _, _, _, _, rfl, _⟩ := h; rfl) | (obtain ⟨_, _, _, _, _, _, rfl, _⟩ := h; rfl) | (obtain ⟨_, _, _, _, _, _, _, rfl, _⟩ := h; rfl) | (obtain ⟨_, _, _, _, _, _, _, _, rfl, _⟩ := h; rfl) | (obtain ⟨_, _, _, _, _, _, _, _, _, rfl, _⟩ := h; rfl) | (obtain ⟨_, _, _, _, _, _, _, _, _, _, rfl, _⟩ := h; rfl) | (obtain ⟨_, _, _, _, _, _, _, _, _, _, _, rfl, _⟩ := h; rfl) | (obtain ⟨_, _, _, _, _, _, _, _, _, _, _, _, rfl, _⟩ := h; rfl) | (obtain ⟨_, _, _, _, _, _, _, _, _, _, _, _, _, rfl, _⟩ := h; rfl) | exact Mt.tk_len rfl h | (obtain ⟨_, h⟩ := h; exact Mt.tk_len rfl h) | (obtain ⟨_, _, h⟩ := h; exact Mt.tk_len rfl h) | (obtain ⟨_, _, _, h⟩ := h; exact Mt.tk_len rfl h) | (obtain ⟨_, _, _, _, h⟩ := h; exact Mt.tk_len rfl h) | (obtain ⟨_, _, _, _, _, h⟩ := h; exact Mt.tk_len rfl h) | (obtain ⟨_, _, _, _, _, _, h⟩ := h; exact Mt.tk_len rfl h) | (obtain ⟨_, _, _, _, _, _, _, h⟩ := h; exact Mt.tk_len rfl h) | (obtain ⟨_, _, _, _, _, _, _, _, h⟩ := h; exact Mt.tk_len rfl h) | (obtain ⟨_, _, _, _, _, _, _, _, _, h⟩ := h; exact Mt.tk_len rfl h) | (obtain ⟨_, _, _, _, _, _, _, _, _, _, h⟩ := h; exact Mt.tk_len rfl h) | (obtain ⟨_, _, _, _, _, _, _, _, _, _, _, h⟩ := h; exact Mt.tk_len rfl h) | (obtain ⟨_, _, _, _, _, _, _, _, _, _, _, _, h⟩ := h; exact Mt.tk_len rfl h) | (obtain ⟨_, _, _, _, _, _, _, _, _, _, _, _, _, h⟩ := h; exact Mt.tk_len rfl h) | (obtain ⟨_, _, _, _, _, _, _, _, _, _, _, _, _, _, h⟩ := h; exact Mt.tk_len rfl h) | (obtain ⟨_, _, _, _, _, _, _, _, _, _, _, _, _, _, _, h⟩ := h; exact Mt.tk_len rfl h))) (g_show_clock K a) (fun f cdv A outer s H E hr => t_show_clock T  hr) (fun ds S q _ _ h => r_show_clock ds S q h)
theorem ok_show_time (T : Txt K mg a) : Fnc P w K mg base "show_time" s_show_time dv_show_time 2 ps_show_time (sp_show_time a) :=
  fnc_of0 T.b_show_time sc_show_time (by intro ds S q h; first | (cases h with | inl h => (first | (obtain ⟨rfl, _⟩ := h; rfl) | (obtain ⟨_, _, _, _, ⟨_, _, rfl, _⟩, _⟩ := h; rfl) | (obtain ⟨_, rfl, _⟩ := h; rfl) | (obtain ⟨_, _, rfl, _⟩ := h; rfl) | (obtain ⟨_, _, _, rfl, _⟩ := h; rfl) | (obtain ⟨_, _, _, _, rfl, _⟩ := h; rfl) | (obtain ⟨_, _, _, _, _, rfl, _⟩ := h; rfl) | (obtain ⟨_, _, _, _, _, _, rfl, _⟩ := h; rfl) | (obtain ⟨_, _, _, _, _, _, _, rfl, _⟩ := h; rfl) | (obtain ⟨_, _, _, _, _, _, _, _, rfl, _⟩ := h; rfl) | (obtain ⟨_, _, _, _, _, _, _, _, _, rfl, _⟩ := h; rfl) | (obtain ⟨_, _, _, _, _, _, _, _, _, _, rfl, _⟩ := h; rfl) | (obtain ⟨_, _, _, _, _, _, _, _, _, _, _, rfl, _⟩ := h; rfl) | (obtain ⟨_, _, _, _, _, _, _, _, _, _, _, _, rfl, _⟩ := h; rfl) | (obtain ⟨_, _, _, _, _, _, _, _, _, _, _, _, _, rfl, _⟩ := h; rfl) | exact Mt.tk_len rfl h | (obtain ⟨_, h⟩ := h; exact Mt.tk_len rfl h) | (obtain ⟨_, _, h⟩ := h; exact Mt.tk_len rfl h) | (obtain ⟨_, _, _, h⟩ := h; exact Mt.tk_len rfl h) | (obtain ⟨_, _, _, _, h⟩ := h; exact Mt.tk_len rfl h) | (obtain ⟨_, _, _, _, _, h⟩ := h; exact Mt.tk_len rfl h) | (obtain ⟨_, _, _, _, _, _, h⟩ := h; exact Mt.tk_len rfl h) | (obtain ⟨_, _, _, _, _, _, _, h⟩ := h; exact Mt.tk_len rfl h) | (obtain ⟨_, _, _, _, _, _, _, _, h⟩ := h; exact Mt.tk_len rfl h) | (obtain ⟨_, _, _, _, _, _, _, _, _, h⟩ := h; exact Mt.tk_len rfl h) | (obtain ⟨_, _, _, _, _, _, _, _, _, _, h⟩ := h; exact Mt.tk_len rfl h) | (obtain ⟨_, _, _, _, _, _, _, _, _, _, _, h⟩ := h; exact Mt.tk_len rfl h) | (obtain ⟨_, _, _, _, _, _, _, _, _, _, _, _, h⟩ := h; exact Mt.tk_len rfl h) | (obtain ⟨_, _, _, _, _, _, _, _, _, _, _, _, _, h⟩ := h; exact Mt.tk_len rfl h) | (obtain ⟨_, _, _, _, _, _, _, _, _, _, _, _, _, _, h⟩ := h; exact Mt.tk_len rfl h) | (obtain ⟨_, _, _, _, _, _, _, _, _, _, _, _, _, _, _, h⟩ := h; exact Mt.tk_len rfl h)) | inr h => (first | (obtain ⟨rfl, _⟩ := h; rfl) | (obtain ⟨_, _, _, _, ⟨_, _, rfl, _⟩, _⟩ := h; rfl) | (obtain ⟨_, rfl, _⟩ := h; rfl) | (obtain ⟨_, _, rfl, _⟩ := h; rfl) | (obtain ⟨_, _, _, rfl, _⟩ := h; rfl) | (obtain ⟨_, _, _, _, rfl, _⟩ := h; rfl) | (obtain ⟨_, _, _, _, _, rfl, _⟩ := h; rfl) | (obtain ⟨_, _, _, _, _, _, rfl, _⟩ := h; rfl) | (obtain ⟨_, _, _, _, _, _, _, rfl, _⟩ := h; rfl) | (obtain ⟨_, _, _, _, _, _, _, _, rfl, _⟩ := h; rfl) | (obtain ⟨_, _, _, _, _, _, _, _, _, rfl, _⟩ := h; rfl) | (obtain ⟨_, _, _, _, _, _, _, _, _, _, rfl, _⟩ := h; rfl) | (obtain ⟨_, _, _, _, _, _, _, _, _, _, _, rfl, _⟩ := h; rfl) | (obtain ⟨_, _, _, _, _, _, _, _, _, _, _, _, rfl, _⟩ := h; rfl) | (obtain ⟨_, _, _, _, _, _, _, _, _, _, _, _, _, rfl, _⟩ := h; rfl) | exact Mt.tk_len rfl h | (obtain ⟨_, h⟩ := h; exact Mt.tk_len rfl h) | (obtain ⟨_, _, h⟩ := h; exact Mt.tk_len rfl h) | (obtain ⟨_, _, _, h⟩ := h; exact Mt.tk_len rfl h) | (obtain ⟨_, _, _, _, h⟩ := h; exact Mt.tk_len rfl h) | (obtain ⟨_, _, _, _, _, h⟩ := h; exact Mt.tk_len rfl h) | (obtain ⟨_, _, _, _, _, _, h⟩ := h; exact Mt.tk_len rfl h) | (obtain ⟨_, _, _, _, _, _, _, h⟩ := h; exact Mt.tk_len rfl h) | (obtain ⟨_, _, _, _, _, _, _, _, h⟩ := h; exact Mt.tk_len rfl h) | (obtain ⟨_, _, _, _, _, _, _, _, _, h⟩ := h; exact Mt.tk_len rfl h) | (obtain ⟨_, _, _, _, _, _, _, _, _, _, h⟩ := h; exact Mt.tk_len rfl h) | (obtain ⟨_, _, _, _, _, _, _, _, _, _, _, h⟩ := h; exact Mt.tk_len rfl h) | (obtain ⟨_, _, _, _, _, _, _, _, _, _, _, _, h⟩ := h; exact Mt.tk_len rfl h) | (obtain ⟨_, _, _, _, _, _, _, _, _, _, _, _, _, h⟩ := h; exact Mt.tk_len rfl h) | (obtain ⟨_, _, _, _, _, _, _, _, _, _, _, _, _, _, h⟩ := h; exact Mt.tk_len rfl h) | (obtain ⟨_, _, _, _, _, _, _, _, _, _, _, _, _, _, _, h⟩ := h; exact Mt.tk_len rfl h))) | (first | (obtain ⟨rfl, _⟩ := h; rfl) | (obtain ⟨_, _, _, _, ⟨_, _, rfl, _⟩, _⟩ := h; rfl) | (obtain ⟨_, rfl, _⟩ := h; rfl) | (obtain ⟨_, _, rfl, _⟩ := h; rfl) | (obtain ⟨_, _, _, rfl, _⟩ := h; rfl) | (obtain ⟨_, _, _, _, rfl, _⟩ := h; rfl) | (obtain ⟨_, _, _, _, _, rfl, _⟩ := h; rfl) | (obtain ⟨_, _, _, _, _, _, rfl, _⟩ := h; rfl) | (obtain ⟨_, _, _, _, _, _, _, rfl, _⟩ := h; rfl) | (obtain ⟨_, _, _, _, _, _, _, _, rfl, _⟩ := h; rfl) | (obtain ⟨_, _, _, _, _, _, _, _, _, rfl, _⟩ := h; rfl) | (obtain ⟨_, _, _, _, _, _, _, _, _, _, rfl, _⟩ := h; rfl) | (obtain ⟨_, _, _, _, _, _, _, _, _, _, _, rfl, _⟩ := h; rfl) | (obtain ⟨_, _, _, _, _, _, _, _, _, _, _, _, rfl, _⟩ := h; rfl) | (obtain ⟨_, _, _, _, _, _, _, _, _, _, _, _, _, rfl, _⟩ := h; rfl) | exact Mt.tk_len rfl h | (obtain ⟨_, h⟩ := h; exact Mt.tk_len rfl h) | (obtain ⟨_, _, h⟩ := h; exact Mt.tk_len rfl h) | (obtain ⟨_, _, _, h⟩ := h; exact Mt.tk_len rfl h) | (obtain ⟨_, _, _, _, h⟩ := h; exact Mt.tk_len rfl h) | (obtain ⟨_, _, _, _, _, h⟩ := h; exact Mt.tk_len rfl h) | (obtain ⟨_, _, _, _, _, _, h⟩ := h; exact Mt.tk_len rfl h) | (obtain ⟨_, _, _, _, _, _, _, h⟩ := h; exact Mt.tk_len rfl h) | (obtain ⟨_, _, _, _, _, _, _, _, h⟩ := h; exact Mt.tk_len rfl h) | (obtain ⟨_, _, _, _, _, _, _, _, _, h⟩ := h; exact Mt.tk_len rfl h) | (obtain ⟨_, _, _, _, _, _, _, _, _, _, h⟩ := h; exact Mt.tk_len rfl h) | (obtain ⟨_, _, _, _, _, _, _, _, _, _, _, h⟩ := h; exact Mt.tk_len rfl h) | (obtain ⟨_, _, _, _, _, _, _, _, _, _, _, _, h⟩ := h; exact Mt.tk_len rfl h) | (obtain ⟨_, _, _, _, _, _, _, _, _, _, _, _, _, h⟩ := h; exact Mt.tk_len rfl h) | (obtain ⟨_, _, _, _, _, _, _, _, _, _, _, _, _, _, h⟩ := h; exact Mt.tk_len rfl h) | (obtain ⟨_, _, _, _, _, _, _, _, _, _, _, _, _, _, _, h⟩ := h; exact Mt.tk_len rfl h))) (g_show_time K a) (fun f cdv A outer s H E hr => t_show_time T (ok_show_clock T) hr) (fun ds S q _ _ h => r_show_time ds S q h)
theorem ok_Book_init (T : Txt K mg a) : CFn P w K mg base "Book" a.C_Book "Book.__init__" s_Book_init dv_Book_init 1 ps_Book_init (sp_Book_init a) :=
  cfn_of0 T.mC_Book T.b_Book_init sc_Book_init (by intro ds S q h; obtain ⟨_, _, rfl, _⟩ := h; rfl) (g_Book_init K a) (fun f cdv A outer s H E hr => t_Book_init T  hr) (fun ds S q _ _ h => r_Book_init T ds S q h)
theorem ok_Book_write (T : Txt K mg a) : MFnX P w K mg base a.C_Book "write" "Book.write" s_Book_write dv_Book_write 3 ps_Book_write (sp_Book_write a) :=
  mfnX_of0 T.cl_Book T.b_Book_write sc_Book_write (by intro ds S q qx h; obtain ⟨_, _, _, _, _, _, _, rfl, _⟩ := h; rfl) (g_Book_write K a) (fun f cdv A outer s H E U hr tk => t_Book_write T  hr tk) (fun ds S q qx hu hs h => r_Book_write T ds S q qx hu hs h)
theorem ok_Book_rows_live (T : Txt K mg a) : MFn P w K mg base a.C_Book "rows" "Book.rows" s_Book_rows dv_Book_rows 1 ps_Book_rows (sp_Book_rows_live a) :=
  mfn_of0 T.cl_Book T.b_Book_rows sc_Book_rows (by intro ds S q h; first | (cases h with | inl h => (first | (obtain ⟨rfl, _⟩ := h; rfl) | (obtain ⟨_, _, _, _, ⟨_, _, rfl, _⟩, _⟩ := h; rfl) | (obtain ⟨_, rfl, _⟩ := h; rfl) | (obtain ⟨_, _, rfl, _⟩ := h; rfl) | (obtain ⟨_, _, _, rfl, _⟩ := h; rfl) | (obtain ⟨_, _, _, _, rfl, _⟩ := h; rfl) | (obtain ⟨_, _, _, _, _, rfl, _⟩ := h; rfl) | (obtain ⟨_, _, _, _, _, _, rfl, _⟩ := h; rfl) | (obtain ⟨_, _, _, _, _, _, _, rfl, _⟩ := h; rfl) | (obtain ⟨_, _, _, _, _, _, _, _, rfl, _⟩ := h; rfl) | (obtain ⟨_, _, _, _, _, _, _, _, _, rfl, _⟩ := h; rfl) | (obtain ⟨_, _, _, _, _, _, _, _, _, _, rfl, _⟩ := h; rfl) | (obtain ⟨_, _, _, _, _, _, _, _, _, _, _, rfl, _⟩ := h; rfl) | (obtain ⟨_, _, _, _, _, _, _, _, _, _, _, _, rfl, _⟩ := h; rfl) | (obtain ⟨_, _, _, _, _, _, _, _, _, _, _, _, _, rfl, _⟩ := h; rfl) | exact Mt.tk_len rfl h | (obtain ⟨_, h⟩ := h; exact Mt.tk_len rfl h) | (obtain ⟨_, _, h⟩ := h; exact Mt.tk_len rfl h) | (obtain ⟨_, _, _, h⟩ := h; exact Mt.tk_len rfl h) | (obtain ⟨_, _, _, _, h⟩ := h; exact Mt.tk_len rfl h) | (obtain ⟨_, _, _, _, _, h⟩ := h; exact Mt.tk_len rfl h) | (obtain ⟨_, _, _, _, _, _, h⟩ := h; exact Mt.tk_len rfl h) | (obtain ⟨_, _, _, _, _, _, _, h⟩ := h; exact Mt.tk_len rfl h) | (obtain ⟨_, _, _, _, _, _, _, _, h⟩ := h; exact Mt.tk_len rfl h) | (obtain ⟨_, _, _, _, _, _, _, _, _, h⟩ := h; exact Mt.tk_len rfl h) | (obtain ⟨_, _, _, _, _, _, _, _, _, _, h⟩ := h; exact Mt.tk_len rfl h) | (obtain ⟨_, _, _, _, _, _, _, _, _, _, _, h⟩ := h; exact Mt.tk_len rfl h) | (obtain ⟨_, _, _, _, _, _, _, _, _, _, _, _, h⟩ := h; exact Mt.tk_len rfl h) | (obtain ⟨_, _, _, _, _, _, _, _, _, _, _, _, _, h⟩ := h; exact Mt.tk_len rfl h) | (obtain ⟨_, _, _, _, _, _, _, _, _, _, _, _, _, _, h⟩ := h; exact Mt.tk_len rfl h) | (obtain ⟨_, _, _, _, _, _, _, _, _, _, _, _, _, _, _, h⟩ := h; exact Mt.tk_len rfl h)) | inr h => (first | (obtain ⟨rfl, _⟩ := h; rfl) | (obtain ⟨_, _, _, _, ⟨_, _, rfl, _⟩, _⟩ := h; rfl) | (obtain ⟨_, rfl, _⟩ := h; rfl) | (obtain ⟨_, _, rfl, _⟩ := h; rfl) | (obtain ⟨_, _, _, rfl, _⟩ := h; rfl) | (obtain ⟨_, _, _, _, rfl, _⟩ := h; rfl) | (obtain ⟨_, _, _, _, _, rfl, _⟩ := h; rfl) | (obtain ⟨_, _, _, _, _, _, rfl, _⟩ := h; rfl) | (obtain ⟨_, _, _, _, _, _, _, rfl, _⟩ := h; rfl) | (obtain ⟨_, _, _, _, _, _, _, _, rfl, _⟩ := h; rfl) | (obtain ⟨_, _, _, _, _, _, _, _, _, rfl, _⟩ := h; rfl) | (obtain ⟨_, _, _, _, _, _, _, _, _, _, rfl, _⟩ := h; rfl) | (obtain ⟨_, _, _, _, _, _, _, _, _, _, _, rfl, _⟩ := h; rfl) | (obtain ⟨_, _, _, _, _, _, _, _, _, _, _, _, rfl, _⟩ := h; rfl) | (obtain ⟨_, _, _, _, _, _, _, _, _, _, _, _, _, rfl, _⟩ := h; rfl) | exact Mt.tk_len rfl h | (obtain ⟨_, h⟩ := h; exact Mt.tk_len rfl h) | (obtain ⟨_, _, h⟩ := h; exact Mt.tk_len rfl h) | (obtain ⟨_, _, _, h⟩ := h; exact Mt.tk_len rfl h) | (obtain ⟨_, _, _, _, h⟩ := h; exact Mt.tk_len rfl h) | (obtain ⟨_, _, _, _, _, h⟩ := h; exact Mt.tk_len rfl h) | (obtain ⟨_, _, _, _, _, _, h⟩ := h; exact Mt.tk_len rfl h) | (obtain ⟨_, _, _, _, _, _, _, h⟩ := h; exact Mt.tk_len rfl h) | (obtain ⟨_, _, _, _, _, _, _, _, h⟩ := h; exact Mt.tk_len rfl h) | (obtain ⟨_, _, _, _, _, _, _, _, _, h⟩ := h; exact Mt.tk_len rfl h) | (obtain ⟨_, _, _, _, _, _, _, _, _, _, h⟩ := h; exact Mt.tk_len rfl h) | (obtain ⟨_, _, _, _, _, _, _, _, _, _, _, h⟩ := h; exact Mt.tk_len rfl h) | (obtain ⟨_, _, _, _, _, _, _, _, _, _, _, _, h⟩ := h; exact Mt.tk_len rfl h) | (obtain ⟨_, _, _, _, _, _, _, _, _, _, _, _, _, h⟩ := h; exact Mt.tk_len rfl h) | (obtain ⟨_, _, _, _, _, _, _, _, _, _, _, _, _, _, h⟩ := h; exact Mt.tk_len rfl h) | (obtain ⟨_, _, _, _, _, _, _, _, _, _, _, _, _, _, _, h⟩ := h; exact Mt.tk_len rfl h))) | (first | (obtain ⟨rfl, _⟩ := h; rfl) | (obtain ⟨_, _, _, _, ⟨_, _, rfl, _⟩, _⟩ := h; rfl) | (obtain ⟨_, rfl, _⟩ := h; rfl) | (obtain ⟨_, _, rfl, _⟩ := h; rfl) | (obtain ⟨_, _, _, rfl, _⟩ := h; rfl) | (obtain ⟨_, _, _, _, rfl, _⟩ := h; rfl) | (obtain ⟨_, _, _, _, _, rfl, _⟩ := h; rfl) | (obtain ⟨_, _, _, _, _, _, rfl, _⟩ := h; rfl) | (obtain ⟨_, _, _, _, _, _, _, rfl, _⟩ := h; rfl) | (obtain ⟨_, _, _, _, _, _, _, _, rfl, _⟩ := h; rfl) | (obtain ⟨_, _, _, _, _, _, _, _, _, rfl, _⟩ := h; rfl) | (obtain ⟨_, _, _, _, _, _, _, _, _, _, rfl, _⟩ := h; rfl) | (obtain ⟨_, _, _, _, _, _, _, _, _, _, _, rfl, _⟩ := h; rfl) | (obtain ⟨_, _, _, _, _, _, _, _, _, _, _, _, rfl, _⟩ := h; rfl) | (obtain ⟨_, _, _, _, _, _, _, _, _, _, _, _, _, rfl, _⟩ := h; rfl) | exact Mt.tk_len rfl h | (obtain ⟨_, h⟩ := h; exact Mt.tk_len rfl h) | (obtain ⟨_, _, h⟩ := h; exact Mt.tk_len rfl h) | (obtain ⟨_, _, _, h⟩ := h; exact Mt.tk_len rfl h) | (obtain ⟨_, _, _, _, h⟩ := h; exact Mt.tk_len rfl h) | (obtain ⟨_, _, _, _, _, h⟩ := h; exact Mt.tk_len rfl h) | (obtain ⟨_, _, _, _, _, _, h⟩ := h; exact Mt.tk_len rfl h) | (obtain ⟨_, _, _, _, _, _, _, h⟩ := h; exact Mt.tk_len rfl h) | (obtain ⟨_, _, _, _, _, _, _, _, h⟩ := h; exact Mt.tk_len rfl h) | (obtain ⟨_, _, _, _, _, _, _, _, _, h⟩ := h; exact Mt.tk_len rfl h) | (obtain ⟨_, _, _, _, _, _, _, _, _, _, h⟩ := h; exact Mt.tk_len rfl h) | (obtain ⟨_, _, _, _, _, _, _, _, _, _, _, h⟩ := h; exact Mt.tk_len rfl h) | (obtain ⟨_, _, _, _, _, _, _, _, _, _, _, _, h⟩ := h; exact Mt.tk_len rfl h) | (obtain ⟨_, _, _, _, _, _, _, _, _, _, _, _, _, h⟩ := h; exact Mt.tk_len rfl h) | (obtain ⟨_, _, _, _, _, _, _, _, _, _, _, _, _, _, h⟩ := h; exact Mt.tk_len rfl h) | (obtain ⟨_, _, _, _, _, _, _, _, _, _, _, _, _, _, _, h⟩ := h; exact Mt.tk_len rfl h))) (g_Book_rows K a) (fun f cdv A outer s H E hr => t_Book_rows T  hr) (fun ds S q _ _ h => r_Book_rows_live T ds S q h)
theorem ok_Book_rows (T : Txt K mg a) : MFn P w K mg base a.C_Book "rows" "Book.rows" s_Book_rows dv_Book_rows 1 ps_Book_rows (sp_Book_rows a) :=
  mfn_of T.cl_Book T.b_Book_rows sc_Book_rows (by intro ds S q h; obtain ⟨_, _, _, _, rfl, _⟩ := h; rfl) (g_Book_rows K a) (fun f cdv A outer s H E hr => t_Book_rows T  hr) (rf_Book_rows T)
theorem ok_Book_len (T : Txt K mg a) : MFn P w K mg base a.C_Book "__len__" "Book.__len__" s_Book_len dv_Book_len 1 ps_Book_len (sp_Book_len a) :=
  mfn_of0 T.cl_Book T.b_Book_len sc_Book_len (by intro ds S q h; obtain ⟨_, _, _, _, rfl, _⟩ := h; rfl) (g_Book_len K a) (fun f cdv A outer s H E hr => t_Book_len T  hr) (fun ds S q _ _ h => r_Book_len T ds S q h)
theorem ok_Book_eq (T : Txt K mg a) : MFn P w K mg base a.C_Book "__eq__" "Book.__eq__" s_Book_eq dv_Book_eq 1 ps_Book_eq (sp_Book_eq a) :=
  mfn_of0 T.cl_Book T.b_Book_eq sc_Book_eq (by intro ds S q h; obtain ⟨_, _, _, _, rfl, _⟩ := h; rfl) (g_Book_eq K a) (fun f cdv A outer s H E hr => t_Book_eq T  hr) (fun ds S q _ _ h => r_Book_eq T ds S q h)
theorem ok_Book_str (T : Txt K mg a) : MFn P w K mg base a.C_Book "__str__" "Book.__str__" s_Book_str dv_Book_str 3 ps_Book_str (sp_Book_str a) :=
  mfn_of T.cl_Book T.b_Book_str sc_Book_str (by intro ds S q h; obtain ⟨_, _, _, rfl, _⟩ := h; rfl) (g_Book_str K a) (fun f cdv A outer s H E hr => t_Book_str T (ok_show_time T) hr) (rf_Book_str T)
theorem ok__law_feed (T : Txt K mg a) : Fnc P w K mg base "_law_feed" s__law_feed dv__law_feed 1 ps__law_feed (sp__law_feed a) :=
  fnc_of0 T.b__law_feed sc__law_feed (by intro ds S q h; first | (cases h with | inl h => (first | (obtain ⟨rfl, _⟩ := h; rfl) | (obtain ⟨_, _, _, _, ⟨_, _, rfl, _⟩, _⟩ := h; rfl) | (obtain ⟨_, rfl, _⟩ := h; rfl) | (obtain ⟨_, _, rfl, _⟩ := h; rfl) | (obtain ⟨_, _, _, rfl, _⟩ := h; rfl) | (obtain ⟨_, _, _, _, rfl, _⟩ := h; rfl) | (obtain ⟨_, _, _, _, _, rfl, _⟩ := h; rfl) | (obtain ⟨_, _, _, _, _, _, rfl, _⟩ := h; rfl) | (obtain ⟨_, _, _, _, _, _, _, rfl, _⟩ := h; rfl) | (obtain ⟨_, _, _, _, _, _, _, _, rfl, _⟩ := h; rfl) | (obtain ⟨_, _, _, _, _, _, _, _, _, rfl, _⟩ := h; rfl) | (obtain ⟨_, _, _, _, _, _, _, _, _, _, rfl, _⟩ := h; rfl) | (obtain ⟨_, _, _, _, _, _, _, _, _, _, _, rfl, _⟩ := h; rfl) | (obtain ⟨_, _, _, _, _, _, _, _, _, _, _, _, rfl, _⟩ := h; rfl) | (obtain ⟨_, _, _, _, _, _, _, _, _, _, _, _, _, rfl, _⟩ := h; rfl) | exact Mt.tk_len rfl h | (obtain ⟨_, h⟩ := h; exact Mt.tk_len rfl h) | (obtain ⟨_, _, h⟩ := h; exact Mt.tk_len rfl h) | (obtain ⟨_, _, _, h⟩ := h; exact Mt.tk_len rfl h) | (obtain ⟨_, _, _, _, h⟩ := h; exact Mt.tk_len rfl h) | (obtain ⟨_, _, _, _, _, h⟩ := h; exact Mt.tk_len rfl h) | (obtain ⟨_, _, _, _, _, _, h⟩ := h; exact Mt.tk_len rfl h) | (obtain ⟨_, _, _, _, _, _, _, h⟩ := h; exact Mt.tk_len rfl h) | (obtain ⟨_, _, _, _, _, _, _, _, h⟩ := h; exact Mt.tk_len rfl h) | (obtain ⟨_, _, _, _, _, _, _, _, _, h⟩ := h; exact Mt.tk_len rfl h) | (obtain ⟨_, _, _, _, _, _, _, _, _, _, h⟩ := h; exact Mt.tk_len rfl h) | (obtain ⟨_, _, _, _, _, _, _, _, _, _, _, h⟩ := h; exact Mt.tk_len rfl h) | (obtain ⟨_, _, _, _, _, _, _, _, _, _, _, _, h⟩ := h; exact Mt.tk_len rfl h) | (obtain ⟨_, _, _, _, _, _, _, _, _, _, _, _, _, h⟩ := h; exact Mt.tk_len rfl h) | (obtain ⟨_, _, _, _, _, _, _, _, _, _, _, _, _, _, h⟩ := h; exact Mt.tk_len rfl h) | (obtain ⟨_, _, _, _, _, _, _, _, _, _, _, _, _, _, _, h⟩ := h; exact Mt.tk_len rfl h)) | inr h => (first | (obtain ⟨rfl, _⟩ := h; rfl) | (obtain ⟨_, _, _, _, ⟨_, _, rfl, _⟩, _⟩ := h; rfl) | (obtain ⟨_, rfl, _⟩ := h; rfl) | (obtain ⟨_, _, rfl, _⟩ := h; rfl) | (obtain ⟨_, _, _, rfl, _⟩ := h; rfl) | (obtain ⟨_, _, _, _, rfl, _⟩ := h; rfl) | (obtain ⟨_, _, _, _, _, rfl, _⟩ := h; rfl) | (obtain ⟨_, _, _, _, _, _, rfl, _⟩ := h; rfl) | (obtain ⟨_, _, _, _, _, _, _, rfl, _⟩ := h; rfl) | (obtain ⟨_, _, _, _, _, _, _, _, rfl, _⟩ := h; rfl) | (obtain ⟨_, _, _, _, _, _, _, _, _, rfl, _⟩ := h; rfl) | (obtain ⟨_, _, _, _, _, _, _, _, _, _, rfl, _⟩ := h; rfl) | (obtain ⟨_, _, _, _, _, _, _, _, _, _, _, rfl, _⟩ := h; rfl) | (obtain ⟨_, _, _, _, _, _, _, _, _, _, _, _, rfl, _⟩ := h; rfl) | (obtain ⟨_, _, _, _, _, _, _, _, _, _, _, _, _, rfl, _⟩ := h; rfl) | exact Mt.tk_len rfl h | (obtain ⟨_, h⟩ := h; exact Mt.tk_len rfl h) | (obtain ⟨_, _, h⟩ := h; exact Mt.tk_len rfl h) | (obtain ⟨_, _, _, h⟩ := h; exact Mt.tk_len rfl h) | (obtain ⟨_, _, _, _, h⟩ := h; exact Mt.tk_len rfl h) | (obtain ⟨_, _, _, _, _, h⟩ := h; exact Mt.tk_len rfl h) | (obtain ⟨_, _, _, _, _, _, h⟩ := h; exact Mt.tk_len rfl h) | (obtain ⟨_, _, _, _, _, _, _, h⟩ := h; exact Mt.tk_len rfl h) | (obtain ⟨_, _, _, _, _, _, _, _, h⟩ := h; exact Mt.tk_len rfl h) | (obtain ⟨_, _, _, _, _, _, _, _, _, h⟩ := h; exact Mt.tk_len rfl h) | (obtain ⟨_, _, _, _, _, _, _, _, _, _, h⟩ := h; exact Mt.tk_len rfl h) | (obtain ⟨_, _, _, _, _, _, _, _, _, _, _, h⟩ := h; exact Mt.tk_len rfl h) | (obtain ⟨_, _, _, _, _, _, _, _, _, _, _, _, h⟩ := h; exact Mt.tk_len rfl h) | (obtain ⟨_, _, _, _, _, _, _, _, _, _, _, _, _, h⟩ := h; exact Mt.tk_len rfl h) | (obtain ⟨_, _, _, _, _, _, _, _, _, _, _, _, _, _, h⟩ := h; exact Mt.tk_len rfl h) | (obtain ⟨_, _, _, _, _, _, _, _, _, _, _, _, _, _, _, h⟩ := h; exact Mt.tk_len rfl h))) | (first | (obtain ⟨rfl, _⟩ := h; rfl) | (obtain ⟨_, _, _, _, ⟨_, _, rfl, _⟩, _⟩ := h; rfl) | (obtain ⟨_, rfl, _⟩ := h; rfl) | (obtain ⟨_, _, rfl, _⟩ := h; rfl) | (obtain ⟨_, _, _, rfl, _⟩ := h; rfl) | (obtain ⟨_, _, _, _, rfl, _⟩ := h; rfl) | (obtain ⟨_, _, _, _, _, rfl, _⟩ := h; rfl) | (obtain ⟨_, _, _, _, _, _, rfl, _⟩ := h; rfl) | (obtain ⟨_, _, _, _, _, _, _, rfl, _⟩ := h; rfl) | (obtain ⟨_, _, _, _, _, _, _, _, rfl, _⟩ := h; rfl) | (obtain ⟨_, _, _, _, _, _, _, _, _, rfl, _⟩ := h; rfl) | (obtain ⟨_, _, _, _, _, _, _, _, _, _, rfl, _⟩ := h; rfl) | (obtain ⟨_, _, _, _, _, _, _, _, _, _, _, rfl, _⟩ := h; rfl) | (obtain ⟨_, _, _, _, _, _, _, _, _, _, _, _, rfl, _⟩ := h; rfl) | (obtain ⟨_, _, _, _, _, _, _, _, _, _, _, _, _, rfl, _⟩ := h; rfl) | exact Mt.tk_len rfl h | (obtain ⟨_, h⟩ := h; exact Mt.tk_len rfl h) | (obtain ⟨_, _, h⟩ := h; exact Mt.tk_len rfl h) | (obtain ⟨_, _, _, h⟩ := h; exact Mt.tk_len rfl h) | (obtain ⟨_, _, _, _, h⟩ := h; exact Mt.tk_len rfl h) | (obtain ⟨_, _, _, _, _, h⟩ := h; exact Mt.tk_len rfl h) | (obtain ⟨_, _, _, _, _, _, h⟩ := h; exact Mt.tk_len rfl h) | (obtain ⟨_, _, _, _, _, _, _, h⟩ := h; exact Mt.tk_len rfl h) | (obtain ⟨_, _, _, _, _, _, _, _, h⟩ := h; exact Mt.tk_len rfl h) | (obtain ⟨_, _, _, _, _, _, _, _, _, h⟩ := h; exact Mt.tk_len rfl h) | (obtain ⟨_, _, _, _, _, _, _, _, _, _, h⟩ := h; exact Mt.tk_len rfl h) | (obtain ⟨_, _, _, _, _, _, _, _, _, _, _, h⟩ := h; exact Mt.tk_len rfl h) | (obtain ⟨_, _, _, _, _, _, _, _, _, _, _, _, h⟩ := h; exact Mt.tk_len rfl h) | (obtain ⟨_, _, _, _, _, _, _, _, _, _, _, _, _, h⟩ := h; exact Mt.tk_len rfl h) | (obtain ⟨_, _, _, _, _, _, _, _, _, _, _, _, _, _, h⟩ := h; exact Mt.tk_len rfl h) | (obtain ⟨_, _, _, _, _, _, _, _, _, _, _, _, _, _, _, h⟩ := h; exact Mt.tk_len rfl h))) (g__law_feed K a) (fun f cdv A outer s H E hr => t__law_feed T  hr) (fun ds S q _ _ h => r__law_feed ds S q h)
theorem ok__law_draw (T : Txt K mg a) : Fnc P w K mg base "_law_draw" s__law_draw dv__law_draw 1 ps__law_draw (sp__law_draw a) :=
  fnc_of0 T.b__law_draw sc__law_draw (by intro ds S q h; first | (cases h with | inl h => (first | (obtain ⟨rfl, _⟩ := h; rfl) | (obtain ⟨_, _, _, _, ⟨_, _, rfl, _⟩, _⟩ := h; rfl) | (obtain ⟨_, rfl, _⟩ := h; rfl) | (obtain ⟨_, _, rfl, _⟩ := h; rfl) | (obtain ⟨_, _, _, rfl, _⟩ := h; rfl) | (obtain ⟨_, _, _, _, rfl, _⟩ := h; rfl) | (obtain ⟨_, _, _, _, _, rfl, _⟩ := h; rfl) | (obtain ⟨_, _, _, _, _, _, rfl, _⟩ := h; rfl) | (obtain ⟨_, _, _, _, _, _, _, rfl, _⟩ := h; rfl) | (obtain ⟨_, _, _, _, _, _, _, _, rfl, _⟩ := h; rfl) | (obtain ⟨_, _, _, _, _, _, _, _, _, rfl, _⟩ := h; rfl) | (obtain ⟨_, _, _, _, _, _, _, _, _, _, rfl, _⟩ := h; rfl) | (obtain ⟨_, _, _, _, _, _, _, _, _, _, _, rfl, _⟩ := h; rfl) | (obtain ⟨_, _, _, _, _, _, _, _, _, _, _, _, rfl, _⟩ := h; rfl) | (obtain ⟨_, _, _, _, _, _, _, _, _, _, _, _, _, rfl, _⟩ := h; rfl) | exact Mt.tk_len rfl h | (obtain ⟨_, h⟩ := h; exact Mt.tk_len rfl h) | (obtain ⟨_, _, h⟩ := h; exact Mt.tk_len rfl h) | (obtain ⟨_, _, _, h⟩ := h; exact Mt.tk_len rfl h) | (obtain ⟨_, _, _, _, h⟩ := h; exact Mt.tk_len rfl h) | (obtain ⟨_, _, _, _, _, h⟩ := h; exact Mt.tk_len rfl h) | (obtain ⟨_, _, _, _, _, _, h⟩ := h; exact Mt.tk_len rfl h) | (obtain ⟨_, _, _, _, _, _, _, h⟩ := h; exact Mt.tk_len rfl h) | (obtain ⟨_, _, _, _, _, _, _, _, h⟩ := h; exact Mt.tk_len rfl h) | (obtain ⟨_, _, _, _, _, _, _, _, _, h⟩ := h; exact Mt.tk_len rfl h) | (obtain ⟨_, _, _, _, _, _, _, _, _, _, h⟩ := h; exact Mt.tk_len rfl h) | (obtain ⟨_, _, _, _, _, _, _, _, _, _, _, h⟩ := h; exact Mt.tk_len rfl h) | (obtain ⟨_, _, _, _, _, _, _, _, _, _, _, _, h⟩ := h; exact Mt.tk_len rfl h) | (obtain ⟨_, _, _, _, _, _, _, _, _, _, _, _, _, h⟩ := h; exact Mt.tk_len rfl h) | (obtain ⟨_, _, _, _, _, _, _, _, _, _, _, _, _, _, h⟩ := h; exact Mt.tk_len rfl h) | (obtain ⟨_, _, _, _, _, _, _, _, _, _, _, _, _, _, _, h⟩ := h; exact Mt.tk_len rfl h)) | inr h => (first | (obtain ⟨rfl, _⟩ := h; rfl) | (obtain ⟨_, _, _, _, ⟨_, _, rfl, _⟩, _⟩ := h; rfl) | (obtain ⟨_, rfl, _⟩ := h; rfl) | (obtain ⟨_, _, rfl, _⟩ := h; rfl) | (obtain ⟨_, _, _, rfl, _⟩ := h; rfl) | (obtain ⟨_, _, _, _, rfl, _⟩ := h; rfl) | (obtain ⟨_, _, _, _, _, rfl, _⟩ := h; rfl) | (obtain ⟨_, _, _, _, _, _, rfl, _⟩ := h; rfl) | (obtain ⟨_, _, _, _, _, _, _, rfl, _⟩ := h; rfl) | (obtain ⟨_, _, _, _, _, _, _, _, rfl, _⟩ := h; rfl) | (obtain ⟨_, _, _, _, _, _, _, _, _, rfl, _⟩ := h; rfl) | (obtain ⟨_, _, _, _, _, _, _, _, _, _, rfl, _⟩ := h; rfl) | (obtain ⟨_, _, _, _, _, _, _, _, _, _, _, rfl, _⟩ := h; rfl) | (obtain ⟨_, _, _, _, _, _, _, _, _, _, _, _, rfl, _⟩ := h; rfl) | (obtain ⟨_, _, _, _, _, _, _, _, _, _, _, _, _, rfl, _⟩ := h; rfl) | exact Mt.tk_len rfl h | (obtain ⟨_, h⟩ := h; exact Mt.tk_len rfl h) | (obtain ⟨_, _, h⟩ := h; exact Mt.tk_len rfl h) | (obtain ⟨_, _, _, h⟩ := h; exact Mt.tk_len rfl h) | (obtain ⟨_, _, _, _, h⟩ := h; exact Mt.tk_len rfl h) | (obtain ⟨_, _, _, _, _, h⟩ := h; exact Mt.tk_len rfl h) | (obtain ⟨_, _, _, _, _, _, h⟩ := h; exact Mt.tk_len rfl h) | (obtain ⟨_, _, _, _, _, _, _, h⟩ := h; exact Mt.tk_len rfl h) | (obtain ⟨_, _, _, _, _, _, _, _, h⟩ := h; exact Mt.tk_len rfl h) | (obtain ⟨_, _, _, _, _, _, _, _, _, h⟩ := h; exact Mt.tk_len rfl h) | (obtain ⟨_, _, _, _, _, _, _, _, _, _, h⟩ := h; exact Mt.tk_len rfl h) | (obtain ⟨_, _, _, _, _, _, _, _, _, _, _, h⟩ := h; exact Mt.tk_len rfl h) | (obtain ⟨_, _, _, _, _, _, _, _, _, _, _, _, h⟩ := h; exact Mt.tk_len rfl h) | (obtain ⟨_, _, _, _, _, _, _, _, _, _, _, _, _, h⟩ := h; exact Mt.tk_len rfl h) | (obtain ⟨_, _, _, _, _, _, _, _, _, _, _, _, _, _, h⟩ := h; exact Mt.tk_len rfl h) | (obtain ⟨_, _, _, _, _, _, _, _, _, _, _, _, _, _, _, h⟩ := h; exact Mt.tk_len rfl h))) | (first | (obtain ⟨rfl, _⟩ := h; rfl) | (obtain ⟨_, _, _, _, ⟨_, _, rfl, _⟩, _⟩ := h; rfl) | (obtain ⟨_, rfl, _⟩ := h; rfl) | (obtain ⟨_, _, rfl, _⟩ := h; rfl) | (obtain ⟨_, _, _, rfl, _⟩ := h; rfl) | (obtain ⟨_, _, _, _, rfl, _⟩ := h; rfl) | (obtain ⟨_, _, _, _, _, rfl, _⟩ := h; rfl) | (obtain ⟨_, _, _, _, _, _, rfl, _⟩ := h; rfl) | (obtain ⟨_, _, _, _, _, _, _, rfl, _⟩ := h; rfl) | (obtain ⟨_, _, _, _, _, _, _, _, rfl, _⟩ := h; rfl) | (obtain ⟨_, _, _, _, _, _, _, _, _, rfl, _⟩ := h; rfl) | (obtain ⟨_, _, _, _, _, _, _, _, _, _, rfl, _⟩ := h; rfl) | (obtain ⟨_, _, _, _, _, _, _, _, _, _, _, rfl, _⟩ := h; rfl) | (obtain ⟨_, _, _, _, _, _, _, _, _, _, _, _, rfl, _⟩ := h; rfl) | (obtain ⟨_, _, _, _, _, _, _, _, _, _, _, _, _, rfl, _⟩ := h; rfl) | exact Mt.tk_len rfl h | (obtain ⟨_, h⟩ := h; exact Mt.tk_len rfl h) | (obtain ⟨_, _, h⟩ := h; exact Mt.tk_len rfl h) | (obtain ⟨_, _, _, h⟩ := h; exact Mt.tk_len rfl h) | (obtain ⟨_, _, _, _, h⟩ := h; exact Mt.tk_len rfl h) | (obtain ⟨_, _, _, _, _, h⟩ := h; exact Mt.tk_len rfl h) | (obtain ⟨_, _, _, _, _, _, h⟩ := h; exact Mt.tk_len rfl h) | (obtain ⟨_, _, _, _, _, _, _, h⟩ := h; exact Mt.tk_len rfl h) | (obtain ⟨_, _, _, _, _, _, _, _, h⟩ := h; exact Mt.tk_len rfl h) | (obtain ⟨_, _, _, _, _, _, _, _, _, h⟩ := h; exact Mt.tk_len rfl h) | (obtain ⟨_, _, _, _, _, _, _, _, _, _, h⟩ := h; exact Mt.tk_len rfl h) | (obtain ⟨_, _, _, _, _, _, _, _, _, _, _, h⟩ := h; exact Mt.tk_len rfl h) | (obtain ⟨_, _, _, _, _, _, _, _, _, _, _, _, h⟩ := h; exact Mt.tk_len rfl h) | (obtain ⟨_, _, _, _, _, _, _, _, _, _, _, _, _, h⟩ := h; exact Mt.tk_len rfl h) | (obtain ⟨_, _, _, _, _, _, _, _, _, _, _, _, _, _, h⟩ := h; exact Mt.tk_len rfl h) | (obtain ⟨_, _, _, _, _, _, _, _, _, _, _, _, _, _, _, h⟩ := h; exact Mt.tk_len rfl h))) (g__law_draw K a) (fun f cdv A outer s H E hr => t__law_draw T  hr) (fun ds S q _ _ h => r__law_draw ds S q h)
theorem ok__law_of (T : Txt K mg a) : Fnc P w K mg base "_law_of" s__law_of dv__law_of 2 ps__law_of (sp__law_of a) :=
  fnc_of0 T.b__law_of sc__law_of (by intro ds S q h; first | (cases h with | inl h => (first | (obtain ⟨rfl, _⟩ := h; rfl) | (obtain ⟨_, _, _, _, ⟨_, _, rfl, _⟩, _⟩ := h; rfl) | (obtain ⟨_, rfl, _⟩ := h; rfl) | (obtain ⟨_, _, rfl, _⟩ := h; rfl) | (obtain ⟨_, _, _, rfl, _⟩ := h; rfl) | (obtain ⟨_, _, _, _, rfl, _⟩ := h; rfl) | (obtain ⟨_, _, _, _, _, rfl, _⟩ := h; rfl) | (obtain ⟨_, _, _, _, _, _, rfl, _⟩ := h; rfl) | (obtain ⟨_, _, _, _, _, _, _, rfl, _⟩ := h; rfl) | (obtain ⟨_, _, _, _, _, _, _, _, rfl, _⟩ := h; rfl) | (obtain ⟨_, _, _, _, _, _, _, _, _, rfl, _⟩ := h; rfl) | (obtain ⟨_, _, _, _, _, _, _, _, _, _, rfl, _⟩ := h; rfl) | (obtain ⟨_, _, _, _, _, _, _, _, _, _, _, rfl, _⟩ := h; rfl) | (obtain ⟨_, _, _, _, _, _, _, _, _, _, _, _, rfl, _⟩ := h; rfl) | (obtain ⟨_, _, _, _, _, _, _, _, _, _, _, _, _, rfl, _⟩ := h; rfl) | exact Mt.tk_len rfl h | (obtain ⟨_, h⟩ := h; exact Mt.tk_len rfl h) | (obtain ⟨_, _, h⟩ := h; exact Mt.tk_len rfl h) | (obtain ⟨_, _, _, h⟩ := h; exact Mt.tk_len rfl h) | (obtain ⟨_, _, _, _, h⟩ := h; exact Mt.tk_len rfl h) | (obtain ⟨_, _, _, _, _, h⟩ := h; exact Mt.tk_len rfl h) | (obtain ⟨_, _, _, _, _, _, h⟩ := h; exact Mt.tk_len rfl h) | (obtain ⟨_, _, _, _, _, _, _, h⟩ := h; exact Mt.tk_len rfl h) | (obtain ⟨_, _, _, _, _, _, _, _, h⟩ := h; exact Mt.tk_len rfl h) | (obtain ⟨_, _, _, _, _, _, _, _, _, h⟩ := h; exact Mt.tk_len rfl h) | (obtain ⟨_, _, _, _, _, _, _, _, _, _, h⟩ := h; exact Mt.tk_len rfl h) | (obtain ⟨_, _, _, _, _, _, _, _, _, _, _, h⟩ := h; exact Mt.tk_len rfl h) | (obtain ⟨_, _, _, _, _, _, _, _, _, _, _, _, h⟩ := h; exact Mt.tk_len rfl h) | (obtain ⟨_, _, _, _, _, _, _, _, _, _, _, _, _, h⟩ := h; exact Mt.tk_len rfl h) | (obtain ⟨_, _, _, _, _, _, _, _, _, _, _, _, _, _, h⟩ := h; exact Mt.tk_len rfl h) | (obtain ⟨_, _, _, _, _, _, _, _, _, _, _, _, _, _, _, h⟩ := h; exact Mt.tk_len rfl h)) | inr h => (first | (obtain ⟨rfl, _⟩ := h; rfl) | (obtain ⟨_, _, _, _, ⟨_, _, rfl, _⟩, _⟩ := h; rfl) | (obtain ⟨_, rfl, _⟩ := h; rfl) | (obtain ⟨_, _, rfl, _⟩ := h; rfl) | (obtain ⟨_, _, _, rfl, _⟩ := h; rfl) | (obtain ⟨_, _, _, _, rfl, _⟩ := h; rfl) | (obtain ⟨_, _, _, _, _, rfl, _⟩ := h; rfl) | (obtain ⟨_, _, _, _, _, _, rfl, _⟩ := h; rfl) | (obtain ⟨_, _, _, _, _, _, _, rfl, _⟩ := h; rfl) | (obtain ⟨_, _, _, _, _, _, _, _, rfl, _⟩ := h; rfl) | (obtain ⟨_, _, _, _, _, _, _, _, _, rfl, _⟩ := h; rfl) | (obtain ⟨_, _, _, _, _, _, _, _, _, _, rfl, _⟩ := h; rfl) | (obtain ⟨_, _, _, _, _, _, _, _, _, _, _, rfl, _⟩ := h; rfl) | (obtain ⟨_, _, _, _, _, _, _, _, _, _, _, _, rfl, _⟩ := h; rfl) | (obtain ⟨_, _, _, _, _, _, _, _, _, _, _, _, _, rfl, _⟩ := h; rfl) | exact Mt.tk_len rfl h | (obtain ⟨_, h⟩ := h; exact Mt.tk_len rfl h) | (obtain ⟨_, _, h⟩ := h; exact Mt.tk_len rfl h) | (obtain ⟨_, _, _, h⟩ := h; exact Mt.tk_len rfl h) | (obtain ⟨_, _, _, _, h⟩ := h; exact Mt.tk_len rfl h) | (obtain ⟨_, _, _, _, _, h⟩ := h; exact Mt.tk_len rfl h) | (obtain ⟨_, _, _, _, _, _, h⟩ := h; exact Mt.tk_len rfl h) | (obtain ⟨_, _, _, _, _, _, _, h⟩ := h; exact Mt.tk_len rfl h) | (obtain ⟨_, _, _, _, _, _, _, _, h⟩ := h; exact Mt.tk_len rfl h) | (obtain ⟨_, _, _, _, _, _, _, _, _, h⟩ := h; exact Mt.tk_len rfl h) | (obtain ⟨_, _, _, _, _, _, _, _, _, _, h⟩ := h; exact Mt.tk_len rfl h) | (obtain ⟨_, _, _, _, _, _, _, _, _, _, _, h⟩ := h; exact Mt.tk_len rfl h) | (obtain ⟨_, _, _, _, _, _, _, _, _, _, _, _, h⟩ := h; exact Mt.tk_len rfl h) | (obtain ⟨_, _, _, _, _, _, _, _, _, _, _, _, _, h⟩ := h; exact Mt.tk_len rfl h) | (obtain ⟨_, _, _, _, _, _, _, _, _, _, _, _, _, _, h⟩ := h; exact Mt.tk_len rfl h) | (obtain ⟨_, _, _, _, _, _, _, _, _, _, _, _, _, _, _, h⟩ := h; exact Mt.tk_len rfl h))) | (first | (obtain ⟨rfl, _⟩ := h; rfl) | (obtain ⟨_, _, _, _, ⟨_, _, rfl, _⟩, _⟩ := h; rfl) | (obtain ⟨_, rfl, _⟩ := h; rfl) | (obtain ⟨_, _, rfl, _⟩ := h; rfl) | (obtain ⟨_, _, _, rfl, _⟩ := h; rfl) | (obtain ⟨_, _, _, _, rfl, _⟩ := h; rfl) | (obtain ⟨_, _, _, _, _, rfl, _⟩ := h; rfl) | (obtain ⟨_, _, _, _, _, _, rfl, _⟩ := h; rfl) | (obtain ⟨_, _, _, _, _, _, _, rfl, _⟩ := h; rfl) | (obtain ⟨_, _, _, _, _, _, _, _, rfl, _⟩ := h; rfl) | (obtain ⟨_, _, _, _, _, _, _, _, _, rfl, _⟩ := h; rfl) | (obtain ⟨_, _, _, _, _, _, _, _, _, _, rfl, _⟩ := h; rfl) | (obtain ⟨_, _, _, _, _, _, _, _, _, _, _, rfl, _⟩ := h; rfl) | (obtain ⟨_, _, _, _, _, _, _, _, _, _, _, _, rfl, _⟩ := h; rfl) | (obtain ⟨_, _, _, _, _, _, _, _, _, _, _, _, _, rfl, _⟩ := h; rfl) | exact Mt.tk_len rfl h | (obtain ⟨_, h⟩ := h; exact Mt.tk_len rfl h) | (obtain ⟨_, _, h⟩ := h; exact Mt.tk_len rfl h) | (obtain ⟨_, _, _, h⟩ := h; exact Mt.tk_len rfl h) | (obtain ⟨_, _, _, _, h⟩ := h; exact Mt.tk_len rfl h) | (obtain ⟨_, _, _, _, _, h⟩ := h; exact Mt.tk_len rfl h) | (obtain ⟨_, _, _, _, _, _, h⟩ := h; exact Mt.tk_len rfl h) | (obtain ⟨_, _, _, _, _, _, _, h⟩ := h; exact Mt.tk_len rfl h) | (obtain ⟨_, _, _, _, _, _, _, _, h⟩ := h; exact Mt.tk_len rfl h) | (obtain ⟨_, _, _, _, _, _, _, _, _, h⟩ := h; exact Mt.tk_len rfl h) | (obtain ⟨_, _, _, _, _, _, _, _, _, _, h⟩ := h; exact Mt.tk_len rfl h) | (obtain ⟨_, _, _, _, _, _, _, _, _, _, _, h⟩ := h; exact Mt.tk_len rfl h) | (obtain ⟨_, _, _, _, _, _, _, _, _, _, _, _, h⟩ := h; exact Mt.tk_len rfl h) | (obtain ⟨_, _, _, _, _, _, _, _, _, _, _, _, _, h⟩ := h; exact Mt.tk_len rfl h) | (obtain ⟨_, _, _, _, _, _, _, _, _, _, _, _, _, _, h⟩ := h; exact Mt.tk_len rfl h) | (obtain ⟨_, _, _, _, _, _, _, _, _, _, _, _, _, _, _, h⟩ := h; exact Mt.tk_len rfl h))) (g__law_of K a) (fun f cdv A outer s H E hr => t__law_of T (ok__law_draw T) hr) (fun ds S q _ _ h => r__law_of ds S q h)
theorem ok__law_names (T : Txt K mg a) : Fnc P w K mg base "_law_names" s__law_names dv__law_names 2 ps__law_names (sp__law_names a) :=
  fnc_of T.b__law_names sc__law_names (by intro ds S q h; first | (cases h with | inl h => (first | (obtain ⟨rfl, _⟩ := h; rfl) | (obtain ⟨_, _, _, _, ⟨_, _, rfl, _⟩, _⟩ := h; rfl) | (obtain ⟨_, rfl, _⟩ := h; rfl) | (obtain ⟨_, _, rfl, _⟩ := h; rfl) | (obtain ⟨_, _, _, rfl, _⟩ := h; rfl) | (obtain ⟨_, _, _, _, rfl, _⟩ := h; rfl) | (obtain ⟨_, _, _, _, _, rfl, _⟩ := h; rfl) | (obtain ⟨_, _, _, _, _, _, rfl, _⟩ := h; rfl) | (obtain ⟨_, _, _, _, _, _, _, rfl, _⟩ := h; rfl) | (obtain ⟨_, _, _, _, _, _, _, _, rfl, _⟩ := h; rfl) | (obtain ⟨_, _, _, _, _, _, _, _, _, rfl, _⟩ := h; rfl) | (obtain ⟨_, _, _, _, _, _, _, _, _, _, rfl, _⟩ := h; rfl) | (obtain ⟨_, _, _, _, _, _, _, _, _, _, _, rfl, _⟩ := h; rfl) | (obtain ⟨_, _, _, _, _, _, _, _, _, _, _, _, rfl, _⟩ := h; rfl) | (obtain ⟨_, _, _, _, _, _, _, _, _, _, _, _, _, rfl, _⟩ := h; rfl) | exact Mt.tk_len rfl h | (obtain ⟨_, h⟩ := h; exact Mt.tk_len rfl h) | (obtain ⟨_, _, h⟩ := h; exact Mt.tk_len rfl h) | (obtain ⟨_, _, _, h⟩ := h; exact Mt.tk_len rfl h) | (obtain ⟨_, _, _, _, h⟩ := h; exact Mt.tk_len rfl h) | (obtain ⟨_, _, _, _, _, h⟩ := h; exact Mt.tk_len rfl h) | (obtain ⟨_, _, _, _, _, _, h⟩ := h; exact Mt.tk_len rfl h) | (obtain ⟨_, _, _, _, _, _, _, h⟩ := h; exact Mt.tk_len rfl h) | (obtain ⟨_, _, _, _, _, _, _, _, h⟩ := h; exact Mt.tk_len rfl h) | (obtain ⟨_, _, _, _, _, _, _, _, _, h⟩ := h; exact Mt.tk_len rfl h) | (obtain ⟨_, _, _, _, _, _, _, _, _, _, h⟩ := h; exact Mt.tk_len rfl h) | (obtain ⟨_, _, _, _, _, _, _, _, _, _, _, h⟩ := h; exact Mt.tk_len rfl h) | (obtain ⟨_, _, _, _, _, _, _, _, _, _, _, _, h⟩ := h; exact Mt.tk_len rfl h) | (obtain ⟨_, _, _, _, _, _, _, _, _, _, _, _, _, h⟩ := h; exact Mt.tk_len rfl h) | (obtain ⟨_, _, _, _, _, _, _, _, _, _, _, _, _, _, h⟩ := h; exact Mt.tk_len rfl h) | (obtain ⟨_, _, _, _, _, _, _, _, _, _, _, _, _, _, _, h⟩ := h; exact Mt.tk_len rfl h)) | inr h => (first | (obtain ⟨rfl, _⟩ := h; rfl) | (obtain ⟨_, _, _, _, ⟨_, _, rfl, _⟩, _⟩ := h; rfl) | (obtain ⟨_, rfl, _⟩ := h; rfl) | (obtain ⟨_, _, rfl, _⟩ := h; rfl) | (obtain ⟨_, _, _, rfl, _⟩ := h; rfl) | (obtain ⟨_, _, _, _, rfl, _⟩ := h; rfl) | (obtain ⟨_, _, _, _, _, rfl, _⟩ := h; rfl) | (obtain ⟨_, _, _, _, _, _, rfl, _⟩ := h; rfl) | (obtain ⟨_, _, _, _, _, _, _, rfl, _⟩ := h; rfl) | (obtain ⟨_, _, _, _, _, _, _, _, rfl, _⟩ := h; rfl) | (obtain ⟨_, _, _, _, _, _, _, _, _, rfl, _⟩ := h; rfl) | (obtain ⟨_, _, _, _, _, _, _, _, _, _, rfl, _⟩ := h; rfl) | (obtain ⟨_, _, _, _, _, _, _, _, _, _, _, rfl, _⟩ := h; rfl) | (obtain ⟨_, _, _, _, _, _, _, _, _, _, _, _, rfl, _⟩ := h; rfl) | (obtain ⟨_, _, _, _, _, _, _, _, _, _, _, _, _, rfl, _⟩ := h; rfl) | exact Mt.tk_len rfl h | (obtain ⟨_, h⟩ := h; exact Mt.tk_len rfl h) | (obtain ⟨_, _, h⟩ := h; exact Mt.tk_len rfl h) | (obtain ⟨_, _, _, h⟩ := h; exact Mt.tk_len rfl h) | (obtain ⟨_, _, _, _, h⟩ := h; exact Mt.tk_len rfl h) | (obtain ⟨_, _, _, _, _, h⟩ := h; exact Mt.tk_len rfl h) | (obtain ⟨_, _, _, _, _, _, h⟩ := h; exact Mt.tk_len rfl h) | (obtain ⟨_, _, _, _, _, _, _, h⟩ := h; exact Mt.tk_len rfl h) | (obtain ⟨_, _, _, _, _, _, _, _, h⟩ := h; exact Mt.tk_len rfl h) | (obtain ⟨_, _, _, _, _, _, _, _, _, h⟩ := h; exact Mt.tk_len rfl h) | (obtain ⟨_, _, _, _, _, _, _, _, _, _, h⟩ := h; exact Mt.tk_len rfl h) | (obtain ⟨_, _, _, _, _, _, _, _, _, _, _, h⟩ := h; exact Mt.tk_len rfl h) | (obtain ⟨_, _, _, _, _, _, _, _, _, _, _, _, h⟩ := h; exact Mt.tk_len rfl h) | (obtain ⟨_, _, _, _, _, _, _, _, _, _, _, _, _, h⟩ := h; exact Mt.tk_len rfl h) | (obtain ⟨_, _, _, _, _, _, _, _, _, _, _, _, _, _, h⟩ := h; exact Mt.tk_len rfl h) | (obtain ⟨_, _, _, _, _, _, _, _, _, _, _, _, _, _, _, h⟩ := h; exact Mt.tk_len rfl h))) | (first | (obtain ⟨rfl, _⟩ := h; rfl) | (obtain ⟨_, _, _, _, ⟨_, _, rfl, _⟩, _⟩ := h; rfl) | (obtain ⟨_, rfl, _⟩ := h; rfl) | (obtain ⟨_, _, rfl, _⟩ := h; rfl) | (obtain ⟨_, _, _, rfl, _⟩ := h; rfl) | (obtain ⟨_, _, _, _, rfl, _⟩ := h; rfl) | (obtain ⟨_, _, _, _, _, rfl, _⟩ := h; rfl) | (obtain ⟨_, _, _, _, _, _, rfl, _⟩ := h; rfl) | (obtain ⟨_, _, _, _, _, _, _, rfl, _⟩ := h; rfl) | (obtain ⟨_, _, _, _, _, _, _, _, rfl, _⟩ := h; rfl) | (obtain ⟨_, _, _, _, _, _, _, _, _, rfl, _⟩ := h; rfl) | (obtain ⟨_, _, _, _, _, _, _, _, _, _, rfl, _⟩ := h; rfl) | (obtain ⟨_, _, _, _, _, _, _, _, _, _, _, rfl, _⟩ := h; rfl) | (obtain ⟨_, _, _, _, _, _, _, _, _, _, _, _, rfl, _⟩ := h; rfl) | (obtain ⟨_, _, _, _, _, _, _, _, _, _, _, _, _, rfl, _⟩ := h; rfl) | exact Mt.tk_len rfl h | (obtain ⟨_, h⟩ := h; exact Mt.tk_len rfl h) | (obtain ⟨_, _, h⟩ := h; exact Mt.tk_len rfl h) | (obtain ⟨_, _, _, h⟩ := h; exact Mt.tk_len rfl h) | (obtain ⟨_, _, _, _, h⟩ := h; exact Mt.tk_len rfl h) | (obtain ⟨_, _, _, _, _, h⟩ := h; exact Mt.tk_len rfl h) | (obtain ⟨_, _, _, _, _, _, h⟩ := h; exact Mt.tk_len rfl h) | (obtain ⟨_, _, _, _, _, _, _, h⟩ := h; exact Mt.tk_len rfl h) | (obtain ⟨_, _, _, _, _, _, _, _, h⟩ := h; exact Mt.tk_len rfl h) | (obtain ⟨_, _, _, _, _, _, _, _, _, h⟩ := h; exact Mt.tk_len rfl h) | (obtain ⟨_, _, _, _, _, _, _, _, _, _, h⟩ := h; exact Mt.tk_len rfl h) | (obtain ⟨_, _, _, _, _, _, _, _, _, _, _, h⟩ := h; exact Mt.tk_len rfl h) | (obtain ⟨_, _, _, _, _, _, _, _, _, _, _, _, h⟩ := h; exact Mt.tk_len rfl h) | (obtain ⟨_, _, _, _, _, _, _, _, _, _, _, _, _, h⟩ := h; exact Mt.tk_len rfl h) | (obtain ⟨_, _, _, _, _, _, _, _, _, _, _, _, _, _, h⟩ := h; exact Mt.tk_len rfl h) | (obtain ⟨_, _, _, _, _, _, _, _, _, _, _, _, _, _, _, h⟩ := h; exact Mt.tk_len rfl h))) (g__law_names K a) (fun f cdv A outer s H E hr => t__law_names T (ok__law_draw T) hr) (rf__law_names)
theorem ok__law_time (T : Txt K mg a) : Fnc P w K mg base "_law_time" s__law_time dv__law_time 1 ps__law_time (sp__law_time a) :=
  fnc_of0 T.b__law_time sc__law_time (by intro ds S q h; first | (cases h with | inl h => (first | (obtain ⟨rfl, _⟩ := h; rfl) | (obtain ⟨_, _, _, _, ⟨_, _, rfl, _⟩, _⟩ := h; rfl) | (obtain ⟨_, rfl, _⟩ := h; rfl) | (obtain ⟨_, _, rfl, _⟩ := h; rfl) | (obtain ⟨_, _, _, rfl, _⟩ := h; rfl) | (obtain ⟨_, _, _, _, rfl, _⟩ := h; rfl) | (obtain ⟨_, _, _, _, _, rfl, _⟩ := h; rfl) | (obtain ⟨_, _, _, _, _, _, rfl, _⟩ := h; rfl) | (obtain ⟨_, _, _, _, _, _, _, rfl, _⟩ := h; rfl) | (obtain ⟨_, _, _, _, _, _, _, _, rfl, _⟩ := h; rfl) | (obtain ⟨_, _, _, _, _, _, _, _, _, rfl, _⟩ := h; rfl) | (obtain ⟨_, _, _, _, _, _, _, _, _, _, rfl, _⟩ := h; rfl) | (obtain ⟨_, _, _, _, _, _, _, _, _, _, _, rfl, _⟩ := h; rfl) | (obtain ⟨_, _, _, _, _, _, _, _, _, _, _, _, rfl, _⟩ := h; rfl) | (obtain ⟨_, _, _, _, _, _, _, _, _, _, _, _, _, rfl, _⟩ := h; rfl) | exact Mt.tk_len rfl h | (obtain ⟨_, h⟩ := h; exact Mt.tk_len rfl h) | (obtain ⟨_, _, h⟩ := h; exact Mt.tk_len rfl h) | (obtain ⟨_, _, _, h⟩ := h; exact Mt.tk_len rfl h) | (obtain ⟨_, _, _, _, h⟩ := h; exact Mt.tk_len rfl h) | (obtain ⟨_, _, _, _, _, h⟩ := h; exact Mt.tk_len rfl h) | (obtain ⟨_, _, _, _, _, _, h⟩ := h; exact Mt.tk_len rfl h) | (obtain ⟨_, _, _, _, _, _, _, h⟩ := h; exact Mt.tk_len rfl h) | (obtain ⟨_, _, _, _, _, _, _, _, h⟩ := h; exact Mt.tk_len rfl h) | (obtain ⟨_, _, _, _, _, _, _, _, _, h⟩ := h; exact Mt.tk_len rfl h) | (obtain ⟨_, _, _, _, _, _, _, _, _, _, h⟩ := h; exact Mt.tk_len rfl h) | (obtain ⟨_, _, _, _, _, _, _, _, _, _, _, h⟩ := h; exact Mt.tk_len rfl h) | (obtain ⟨_, _, _, _, _, _, _, _, _, _, _, _, h⟩ := h; exact Mt.tk_len rfl h) | (obtain ⟨_, _, _, _, _, _, _, _, _, _, _, _, _, h⟩ := h; exact Mt.tk_len rfl h) | (obtain ⟨_, _, _, _, _, _, _, _, _, _, _, _, _, _, h⟩ := h; exact Mt.tk_len rfl h) | (obtain ⟨_, _, _, _, _, _, _, _, _, _, _, _, _, _, _, h⟩ := h; exact Mt.tk_len rfl h)) | inr h => (first | (obtain ⟨rfl, _⟩ := h; rfl) | (obtain ⟨_, _, _, _, ⟨_, _, rfl, _⟩, _⟩ := h; rfl) | (obtain ⟨_, rfl, _⟩ := h; rfl) | (obtain ⟨_, _, rfl, _⟩ := h; rfl) | (obtain ⟨_, _, _, rfl, _⟩ := h; rfl) | (obtain ⟨_, _, _, _, rfl, _⟩ := h; rfl) | (obtain ⟨_, _, _, _, _, rfl, _⟩ := h; rfl) | (obtain ⟨_, _, _, _, _, _, rfl, _⟩ := h; rfl) | (obtain ⟨_, _, _, _, _, _, _, rfl, _⟩ := h; rfl) | (obtain ⟨_, _, _, _, _, _, _, _, rfl, _⟩ := h; rfl) | (obtain ⟨_, _, _, _, _, _, _, _, _, rfl, _⟩ := h; rfl) | (obtain ⟨_, _, _, _, _, _, _, _, _, _, rfl, _⟩ := h; rfl) | (obtain ⟨_, _, _, _, _, _, _, _, _, _, _, rfl, _⟩ := h; rfl) | (obtain ⟨_, _, _, _, _, _, _, _, _, _, _, _, rfl, _⟩ := h; rfl) | (obtain ⟨_, _, _, _, _, _, _, _, _, _, _, _, _, rfl, _⟩ := h; rfl) | exact Mt.tk_len rfl h | (obtain ⟨_, h⟩ := h; exact Mt.tk_len rfl h) | (obtain ⟨_, _, h⟩ := h; exact Mt.tk_len rfl h) | (obtain ⟨_, _, _, h⟩ := h; exact Mt.tk_len rfl h) | (obtain ⟨_, _, _, _, h⟩ := h; exact Mt.tk_len rfl h) | (obtain ⟨_, _, _, _, _, h⟩ := h; exact Mt.tk_len rfl h) | (obtain ⟨_, _, _, _, _, _, h⟩ := h; exact Mt.tk_len rfl h) | (obtain ⟨_, _, _, _, _, _, _, h⟩ := h; exact Mt.tk_len rfl h) | (obtain ⟨_, _, _, _, _, _, _, _, h⟩ := h; exact Mt.tk_len rfl h) | (obtain ⟨_, _, _, _, _, _, _, _, _, h⟩ := h; exact Mt.tk_len rfl h) | (obtain ⟨_, _, _, _, _, _, _, _, _, _, h⟩ := h; exact Mt.tk_len rfl h) | (obtain ⟨_, _, _, _, _, _, _, _, _, _, _, h⟩ := h; exact Mt.tk_len rfl h) | (obtain ⟨_, _, _, _, _, _, _, _, _, _, _, _, h⟩ := h; exact Mt.tk_len rfl h) | (obtain ⟨_, _, _, _, _, _, _, _, _, _, _, _, _, h⟩ := h; exact Mt.tk_len rfl h) | (obtain ⟨_, _, _, _, _, _, _, _, _, _, _, _, _, _, h⟩ := h; exact Mt.tk_len rfl h) | (obtain ⟨_, _, _, _, _, _, _, _, _, _, _, _, _, _, _, h⟩ := h; exact Mt.tk_len rfl h))) | (first | (obtain ⟨rfl, _⟩ := h; rfl) | (obtain ⟨_, _, _, _, ⟨_, _, rfl, _⟩, _⟩ := h; rfl) | (obtain ⟨_, rfl, _⟩ := h; rfl) | (obtain ⟨_, _, rfl, _⟩ := h; rfl) | (obtain ⟨_, _, _, rfl, _⟩ := h; rfl) | (obtain ⟨_, _, _, _, rfl, _⟩ := h; rfl) | (obtain ⟨_, _, _, _, _, rfl, _⟩ := h; rfl) | (obtain ⟨_, _, _, _, _, _, rfl, _⟩ := h; rfl) | (obtain ⟨_, _, _, _, _, _, _, rfl, _⟩ := h; rfl) | (obtain ⟨_, _, _, _, _, _, _, _, rfl, _⟩ := h; rfl) | (obtain ⟨_, _, _, _, _, _, _, _, _, rfl, _⟩ := h; rfl) | (obtain ⟨_, _, _, _, _, _, _, _, _, _, rfl, _⟩ := h; rfl) | (obtain ⟨_, _, _, _, _, _, _, _, _, _, _, rfl, _⟩ := h; rfl) | (obtain ⟨_, _, _, _, _, _, _, _, _, _, _, _, rfl, _⟩ := h; rfl) | (obtain ⟨_, _, _, _, _, _, _, _, _, _, _, _, _, rfl, _⟩ := h; rfl) | exact Mt.tk_len rfl h | (obtain ⟨_, h⟩ := h; exact Mt.tk_len rfl h) | (obtain ⟨_, _, h⟩ := h; exact Mt.tk_len rfl h) | (obtain ⟨_, _, _, h⟩ := h; exact Mt.tk_len rfl h) | (obtain ⟨_, _, _, _, h⟩ := h; exact Mt.tk_len rfl h) | (obtain ⟨_, _, _, _, _, h⟩ := h; exact Mt.tk_len rfl h) | (obtain ⟨_, _, _, _, _, _, h⟩ := h; exact Mt.tk_len rfl h) | (obtain ⟨_, _, _, _, _, _, _, h⟩ := h; exact Mt.tk_len rfl h) | (obtain ⟨_, _, _, _, _, _, _, _, h⟩ := h; exact Mt.tk_len rfl h) | (obtain ⟨_, _, _, _, _, _, _, _, _, h⟩ := h; exact Mt.tk_len rfl h) | (obtain ⟨_, _, _, _, _, _, _, _, _, _, h⟩ := h; exact Mt.tk_len rfl h) | (obtain ⟨_, _, _, _, _, _, _, _, _, _, _, h⟩ := h; exact Mt.tk_len rfl h) | (obtain ⟨_, _, _, _, _, _, _, _, _, _, _, _, h⟩ := h; exact Mt.tk_len rfl h) | (obtain ⟨_, _, _, _, _, _, _, _, _, _, _, _, _, h⟩ := h; exact Mt.tk_len rfl h) | (obtain ⟨_, _, _, _, _, _, _, _, _, _, _, _, _, _, h⟩ := h; exact Mt.tk_len rfl h) | (obtain ⟨_, _, _, _, _, _, _, _, _, _, _, _, _, _, _, h⟩ := h; exact Mt.tk_len rfl h))) (g__law_time K a) (fun f cdv A outer s H E hr => t__law_time T  hr) (fun ds S q _ _ h => r__law_time ds S q h)
theorem ok__law_rows (T : Txt K mg a) : Fnc P w K mg base "_law_rows" s__law_rows dv__law_rows 3 ps__law_rows (sp__law_rows a) :=
  fnc_of T.b__law_rows sc__law_rows (by intro ds S q h; first | (cases h with | inl h => (first | (obtain ⟨rfl, _⟩ := h; rfl) | (obtain ⟨_, _, _, _, ⟨_, _, rfl, _⟩, _⟩ := h; rfl) | (obtain ⟨_, rfl, _⟩ := h; rfl) | (obtain ⟨_, _, rfl, _⟩ := h; rfl) | (obtain ⟨_, _, _, rfl, _⟩ := h; rfl) | (obtain ⟨_, _, _, _, rfl, _⟩ := h; rfl) | (obtain ⟨_, _, _, _, _, rfl, _⟩ := h; rfl) | (obtain ⟨_, _, _, _, _, _, rfl, _⟩ := h; rfl) | (obtain ⟨_, _, _, _, _, _, _, rfl, _⟩ := h; rfl) | (obtain ⟨_, _, _, _, _, _, _, _, rfl, _⟩ := h; rfl) | (obtain ⟨_, _, _, _, _, _, _, _, _, rfl, _⟩ := h; rfl) | (obtain ⟨_, _, _, _, _, _, _, _, _, _, rfl, _⟩ := h; rfl) | (obtain ⟨_, _, _, _, _, _, _, _, _, _, _, rfl, _⟩ := h; rfl) | (obtain ⟨_, _, _, _, _, _, _, _, _, _, _, _, rfl, _⟩ := h; rfl) | (obtain ⟨_, _, _, _, _, _, _, _, _, _, _, _, _, rfl, _⟩ := h; rfl) | exact Mt.tk_len rfl h | (obtain ⟨_, h⟩ := h; exact Mt.tk_len rfl h) | (obtain ⟨_, _, h⟩ := h; exact Mt.tk_len rfl h) | (obtain ⟨_, _, _, h⟩ := h; exact Mt.tk_len rfl h) | (obtain ⟨_, _, _, _, h⟩ := h; exact Mt.tk_len rfl h) | (obtain ⟨_, _, _, _, _, h⟩ := h; exact Mt.tk_len rfl h) | (obtain ⟨_, _, _, _, _, _, h⟩ := h; exact Mt.tk_len rfl h) | (obtain ⟨_, _, _, _, _, _, _, h⟩ := h; exact Mt.tk_len rfl h) | (obtain ⟨_, _, _, _, _, _, _, _, h⟩ := h; exact Mt.tk_len rfl h) | (obtain ⟨_, _, _, _, _, _, _, _, _, h⟩ := h; exact Mt.tk_len rfl h) | (obtain ⟨_, _, _, _, _, _, _, _, _, _, h⟩ := h; exact Mt.tk_len rfl h) | (obtain ⟨_, _, _, _, _, _, _, _, _, _, _, h⟩ := h; exact Mt.tk_len rfl h) | (obtain ⟨_, _, _, _, _, _, _, _, _, _, _, _, h⟩ := h; exact Mt.tk_len rfl h) | (obtain ⟨_, _, _, _, _, _, _, _, _, _, _, _, _, h⟩ := h; exact Mt.tk_len rfl h) | (obtain ⟨_, _, _, _, _, _, _, _, _, _, _, _, _, _, h⟩ := h; exact Mt.tk_len rfl h) | (obtain ⟨_, _, _, _, _, _, _, _, _, _, _, _, _, _, _, h⟩ := h; exact Mt.tk_len rfl h)) | inr h => (first | (obtain ⟨rfl, _⟩ := h; rfl) | (obtain ⟨_, _, _, _, ⟨_, _, rfl, _⟩, _⟩ := h; rfl) | (obtain ⟨_, rfl, _⟩ := h; rfl) | (obtain ⟨_, _, rfl, _⟩ := h; rfl) | (obtain ⟨_, _, _, rfl, _⟩ := h; rfl) | (obtain ⟨_, _, _, _, rfl, _⟩ := h; rfl) | (obtain ⟨_, _, _, _, _, rfl, _⟩ := h; rfl) | (obtain ⟨_, _, _, _, _, _, rfl, _⟩ := h; rfl) | (obtain ⟨_, _, _, _, _, _, _, rfl, _⟩ := h; rfl) | (obtain ⟨_, _, _, _, _, _, _, _, rfl, _⟩ := h; rfl) | (obtain ⟨_, _, _, _, _, _, _, _, _, rfl, _⟩ := h; rfl) | (obtain ⟨_, _, _, _, _, _, _, _, _, _, rfl, _⟩ := h; rfl) | (obtain ⟨_, _, _, _, _, _, _, _, _, _, _, rfl, _⟩ := h; rfl) | (obtain ⟨_, _, _, _, _, _, _, _, _, _, _, _, rfl, _⟩ := h; rfl) | (obtain ⟨_, _, _, _, _, _, _, _, _, _, _, _, _, rfl, _⟩ := h; rfl) | exact Mt.tk_len rfl h | (obtain ⟨_, h⟩ := h; exact Mt.tk_len rfl h) | (obtain ⟨_, _, h⟩ := h; exact Mt.tk_len rfl h) | (obtain ⟨_, _, _, h⟩ := h; exact Mt.tk_len rfl h) | (obtain ⟨_, _, _, _, h⟩ := h; exact Mt.tk_len rfl h) | (obtain ⟨_, _, _, _, _, h⟩ := h; exact Mt.tk_len rfl h) | (obtain ⟨_, _, _, _, _, _, h⟩ := h; exact Mt.tk_len rfl h) | (obtain ⟨_, _, _, _, _, _, _, h⟩ := h; exact Mt.tk_len rfl h) | (obtain ⟨_, _, _, _, _, _, _, _, h⟩ := h; exact Mt.tk_len rfl h) | (obtain ⟨_, _, _, _, _, _, _, _, _, h⟩ := h; exact Mt.tk_len rfl h) | (obtain ⟨_, _, _, _, _, _, _, _, _, _, h⟩ := h; exact Mt.tk_len rfl h) | (obtain ⟨_, _, _, _, _, _, _, _, _, _, _, h⟩ := h; exact Mt.tk_len rfl h) | (obtain ⟨_, _, _, _, _, _, _, _, _, _, _, _, h⟩ := h; exact Mt.tk_len rfl h) | (obtain ⟨_, _, _, _, _, _, _, _, _, _, _, _, _, h⟩ := h; exact Mt.tk_len rfl h) | (obtain ⟨_, _, _, _, _, _, _, _, _, _, _, _, _, _, h⟩ := h; exact Mt.tk_len rfl h) | (obtain ⟨_, _, _, _, _, _, _, _, _, _, _, _, _, _, _, h⟩ := h; exact Mt.tk_len rfl h))) | (first | (obtain ⟨rfl, _⟩ := h; rfl) | (obtain ⟨_, _, _, _, ⟨_, _, rfl, _⟩, _⟩ := h; rfl) | (obtain ⟨_, rfl, _⟩ := h; rfl) | (obtain ⟨_, _, rfl, _⟩ := h; rfl) | (obtain ⟨_, _, _, rfl, _⟩ := h; rfl) | (obtain ⟨_, _, _, _, rfl, _⟩ := h; rfl) | (obtain ⟨_, _, _, _, _, rfl, _⟩ := h; rfl) | (obtain ⟨_, _, _, _, _, _, rfl, _⟩ := h; rfl) | (obtain ⟨_, _, _, _, _, _, _, rfl, _⟩ := h; rfl) | (obtain ⟨_, _, _, _, _, _, _, _, rfl, _⟩ := h; rfl) | (obtain ⟨_, _, _, _, _, _, _, _, _, rfl, _⟩ := h; rfl) | (obtain ⟨_, _, _, _, _, _, _, _, _, _, rfl, _⟩ := h; rfl) | (obtain ⟨_, _, _, _, _, _, _, _, _, _, _, rfl, _⟩ := h; rfl) | (obtain ⟨_, _, _, _, _, _, _, _, _, _, _, _, rfl, _⟩ := h; rfl) | (obtain ⟨_, _, _, _, _, _, _, _, _, _, _, _, _, rfl, _⟩ := h; rfl) | exact Mt.tk_len rfl h | (obtain ⟨_, h⟩ := h; exact Mt.tk_len rfl h) | (obtain ⟨_, _, h⟩ := h; exact Mt.tk_len rfl h) | (obtain ⟨_, _, _, h⟩ := h; exact Mt.tk_len rfl h) | (obtain ⟨_, _, _, _, h⟩ := h; exact Mt.tk_len rfl h) | (obtain ⟨_, _, _, _, _, h⟩ := h; exact Mt.tk_len rfl h) | (obtain ⟨_, _, _, _, _, _, h⟩ := h; exact Mt.tk_len rfl h) | (obtain ⟨_, _, _, _, _, _, _, h⟩ := h; exact Mt.tk_len rfl h) | (obtain ⟨_, _, _, _, _, _, _, _, h⟩ := h; exact Mt.tk_len rfl h) | (obtain ⟨_, _, _, _, _, _, _, _, _, h⟩ := h; exact Mt.tk_len rfl h) | (obtain ⟨_, _, _, _, _, _, _, _, _, _, h⟩ := h; exact Mt.tk_len rfl h) | (obtain ⟨_, _, _, _, _, _, _, _, _, _, _, h⟩ := h; exact Mt.tk_len rfl h) | (obtain ⟨_, _, _, _, _, _, _, _, _, _, _, _, h⟩ := h; exact Mt.tk_len rfl h) | (obtain ⟨_, _, _, _, _, _, _, _, _, _, _, _, _, h⟩ := h; exact Mt.tk_len rfl h) | (obtain ⟨_, _, _, _, _, _, _, _, _, _, _, _, _, _, h⟩ := h; exact Mt.tk_len rfl h) | (obtain ⟨_, _, _, _, _, _, _, _, _, _, _, _, _, _, _, h⟩ := h; exact Mt.tk_len rfl h))) (g__law_rows K a) (fun f cdv A outer s H E hr => t__law_rows T (ok__law_draw T) (ok__law_of T) hr) (rf__law_rows)
theorem ok__law_book (T : Txt K mg a) : Fnc P w K mg base "_law_book" s__law_book dv__law_book 4 ps__law_book (sp__law_book a) :=
  fnc_of T.b__law_book sc__law_book (by intro ds S q h; obtain ⟨_, _, rfl, _⟩ := h; rfl) (g__law_book K a) (fun f cdv A outer s H E hr => t__law_book T (ok_Book_init T) (ok_Book_write T) hr) (rf__law_book T)
theorem ok__law_text (T : Txt K mg a) : Fnc P w K mg base "_law_text" s__law_text dv__law_text 2 ps__law_text (sp__law_text a) :=
  fnc_of0 T.b__law_text sc__law_text (by intro ds S q h; obtain ⟨_, _, rfl, _⟩ := h; rfl) (g__law_text K a) (fun f cdv A outer s H E hr => t__law_text T (ok__law_time T) hr) (fun ds S q _ _ h => r__law_text ds S q h)
theorem ok__law_backward (T : Txt K mg a) : Fnc P w K mg base "_law_backward" s__law_backward dv__law_backward 4 ps__law_backward (sp__law_backward a) :=
  fnc_of0 T.b__law_backward sc__law_backward (by intro ds S q h; obtain ⟨_, _, _, _, _, _, rfl, _⟩ := h; rfl) (g__law_backward K a) (fun f cdv A outer s H E hr => t__law_backward T (ok_Book_write T) hr) (fun ds S q _ _ h => r__law_backward T ds S q h)
theorem ok__law_looks (T : Txt K mg a) : Fnc P w K mg base "_law_looks" s__law_looks dv__law_looks 6 ps__law_looks (sp__law_looks a) :=
  fnc_of T.b__law_looks sc__law_looks (by intro ds S q h; obtain ⟨_, _, _, _, rfl, _⟩ := h; rfl) (g__law_looks K a) (fun f cdv A outer s H E hr => t__law_looks T (ok_Book_len T) (ok_Book_str T) (ok_Book_rows_live T) (ok_Book_rows T) (ok__law_text T) hr) (rf__law_looks T)
theorem ok__law_otherwise (T : Txt K mg a) : Fnc P w K mg base "_law_otherwise" s__law_otherwise dv__law_otherwise 5 ps__law_otherwise (sp__law_otherwise a) :=
  fnc_of T.b__law_otherwise sc__law_otherwise (by intro ds S q h; first | (cases h with | inl h => (first | (obtain ⟨rfl, _⟩ := h; rfl) | (obtain ⟨_, _, _, _, ⟨_, _, rfl, _⟩, _⟩ := h; rfl) | (obtain ⟨_, rfl, _⟩ := h; rfl) | (obtain ⟨_, _, rfl, _⟩ := h; rfl) | (obtain ⟨_, _, _, rfl, _⟩ := h; rfl) | (obtain ⟨_, _, _, _, rfl, _⟩ := h; rfl) | (obtain ⟨_, _, _, _, _, rfl, _⟩ := h; rfl) | (obtain ⟨_, _, _, _, _, _, rfl, _⟩ := h; rfl) | (obtain ⟨_, _, _, _, _, _, _, rfl, _⟩ := h; rfl) | (obtain ⟨_, _, _, _, _, _, _, _, rfl, _⟩ := h; rfl) | (obtain ⟨_, _, _, _, _, _, _, _, _, rfl, _⟩ := h; rfl) | (obtain ⟨_, _, _, _, _, _, _, _, _, _, rfl, _⟩ := h; rfl) | (obtain ⟨_, _, _, _, _, _, _, _, _, _, _, rfl, _⟩ := h; rfl) | (obtain ⟨_, _, _, _, _, _, _, _, _, _, _, _, rfl, _⟩ := h; rfl) | (obtain ⟨_, _, _, _, _, _, _, _, _, _, _, _, _, rfl, _⟩ := h; rfl) | exact Mt.tk_len rfl h | (obtain ⟨_, h⟩ := h; exact Mt.tk_len rfl h) | (obtain ⟨_, _, h⟩ := h; exact Mt.tk_len rfl h) | (obtain ⟨_, _, _, h⟩ := h; exact Mt.tk_len rfl h) | (obtain ⟨_, _, _, _, h⟩ := h; exact Mt.tk_len rfl h) | (obtain ⟨_, _, _, _, _, h⟩ := h; exact Mt.tk_len rfl h) | (obtain ⟨_, _, _, _, _, _, h⟩ := h; exact Mt.tk_len rfl h) | (obtain ⟨_, _, _, _, _, _, _, h⟩ := h; exact Mt.tk_len rfl h) | (obtain ⟨_, _, _, _, _, _, _, _, h⟩ := h; exact Mt.tk_len rfl h) | (obtain ⟨_, _, _, _, _, _, _, _, _, h⟩ := h; exact Mt.tk_len rfl h) | (obtain ⟨_, _, _, _, _, _, _, _, _, _, h⟩ := h; exact Mt.tk_len rfl h) | (obtain ⟨_, _, _, _, _, _, _, _, _, _, _, h⟩ := h; exact Mt.tk_len rfl h) | (obtain ⟨_, _, _, _, _, _, _, _, _, _, _, _, h⟩ := h; exact Mt.tk_len rfl h) | (obtain ⟨_, _, _, _, _, _, _, _, _, _, _, _, _, h⟩ := h; exact Mt.tk_len rfl h) | (obtain ⟨_, _, _, _, _, _, _, _, _, _, _, _, _, _, h⟩ := h; exact Mt.tk_len rfl h) | (obtain ⟨_, _, _, _, _, _, _, _, _, _, _, _, _, _, _, h⟩ := h; exact Mt.tk_len rfl h)) | inr h => (first | (obtain ⟨rfl, _⟩ := h; rfl) | (obtain ⟨_, _, _, _, ⟨_, _, rfl, _⟩, _⟩ := h; rfl) | (obtain ⟨_, rfl, _⟩ := h; rfl) | (obtain ⟨_, _, rfl, _⟩ := h; rfl) | (obtain ⟨_, _, _, rfl, _⟩ := h; rfl) | (obtain ⟨_, _, _, _, rfl, _⟩ := h; rfl) | (obtain ⟨_, _, _, _, _, rfl, _⟩ := h; rfl) | (obtain ⟨_, _, _, _, _, _, rfl, _⟩ := h; rfl) | (obtain ⟨_, _, _, _, _, _, _, rfl, _⟩ := h; rfl) | (obtain ⟨_, _, _, _, _, _, _, _, rfl, _⟩ := h; rfl) | (obtain ⟨_, _, _, _, _, _, _, _, _, rfl, _⟩ := h; rfl) | (obtain ⟨_, _, _, _, _, _, _, _, _, _, rfl, _⟩ := h; rfl) | (obtain ⟨_, _, _, _, _, _, _, _, _, _, _, rfl, _⟩ := h; rfl) | (obtain ⟨_, _, _, _, _, _, _, _, _, _, _, _, rfl, _⟩ := h; rfl) | (obtain ⟨_, _, _, _, _, _, _, _, _, _, _, _, _, rfl, _⟩ := h; rfl) | exact Mt.tk_len rfl h | (obtain ⟨_, h⟩ := h; exact Mt.tk_len rfl h) | (obtain ⟨_, _, h⟩ := h; exact Mt.tk_len rfl h) | (obtain ⟨_, _, _, h⟩ := h; exact Mt.tk_len rfl h) | (obtain ⟨_, _, _, _, h⟩ := h; exact Mt.tk_len rfl h) | (obtain ⟨_, _, _, _, _, h⟩ := h; exact Mt.tk_len rfl h) | (obtain ⟨_, _, _, _, _, _, h⟩ := h; exact Mt.tk_len rfl h) | (obtain ⟨_, _, _, _, _, _, _, h⟩ := h; exact Mt.tk_len rfl h) | (obtain ⟨_, _, _, _, _, _, _, _, h⟩ := h; exact Mt.tk_len rfl h) | (obtain ⟨_, _, _, _, _, _, _, _, _, h⟩ := h; exact Mt.tk_len rfl h) | (obtain ⟨_, _, _, _, _, _, _, _, _, _, h⟩ := h; exact Mt.tk_len rfl h) | (obtain ⟨_, _, _, _, _, _, _, _, _, _, _, h⟩ := h; exact Mt.tk_len rfl h) | (obtain ⟨_, _, _, _, _, _, _, _, _, _, _, _, h⟩ := h; exact Mt.tk_len rfl h) | (obtain ⟨_, _, _, _, _, _, _, _, _, _, _, _, _, h⟩ := h; exact Mt.tk_len rfl h) | (obtain ⟨_, _, _, _, _, _, _, _, _, _, _, _, _, _, h⟩ := h; exact Mt.tk_len rfl h) | (obtain ⟨_, _, _, _, _, _, _, _, _, _, _, _, _, _, _, h⟩ := h; exact Mt.tk_len rfl h))) | (first | (obtain ⟨rfl, _⟩ := h; rfl) | (obtain ⟨_, _, _, _, ⟨_, _, rfl, _⟩, _⟩ := h; rfl) | (obtain ⟨_, rfl, _⟩ := h; rfl) | (obtain ⟨_, _, rfl, _⟩ := h; rfl) | (obtain ⟨_, _, _, rfl, _⟩ := h; rfl) | (obtain ⟨_, _, _, _, rfl, _⟩ := h; rfl) | (obtain ⟨_, _, _, _, _, rfl, _⟩ := h; rfl) | (obtain ⟨_, _, _, _, _, _, rfl, _⟩ := h; rfl) | (obtain ⟨_, _, _, _, _, _, _, rfl, _⟩ := h; rfl) | (obtain ⟨_, _, _, _, _, _, _, _, rfl, _⟩ := h; rfl) | (obtain ⟨_, _, _, _, _, _, _, _, _, rfl, _⟩ := h; rfl) | (obtain ⟨_, _, _, _, _, _, _, _, _, _, rfl, _⟩ := h; rfl) | (obtain ⟨_, _, _, _, _, _, _, _, _, _, _, rfl, _⟩ := h; rfl) | (obtain ⟨_, _, _, _, _, _, _, _, _, _, _, _, rfl, _⟩ := h; rfl) | (obtain ⟨_, _, _, _, _, _, _, _, _, _, _, _, _, rfl, _⟩ := h; rfl) | exact Mt.tk_len rfl h | (obtain ⟨_, h⟩ := h; exact Mt.tk_len rfl h) | (obtain ⟨_, _, h⟩ := h; exact Mt.tk_len rfl h) | (obtain ⟨_, _, _, h⟩ := h; exact Mt.tk_len rfl h) | (obtain ⟨_, _, _, _, h⟩ := h; exact Mt.tk_len rfl h) | (obtain ⟨_, _, _, _, _, h⟩ := h; exact Mt.tk_len rfl h) | (obtain ⟨_, _, _, _, _, _, h⟩ := h; exact Mt.tk_len rfl h) | (obtain ⟨_, _, _, _, _, _, _, h⟩ := h; exact Mt.tk_len rfl h) | (obtain ⟨_, _, _, _, _, _, _, _, h⟩ := h; exact Mt.tk_len rfl h) | (obtain ⟨_, _, _, _, _, _, _, _, _, h⟩ := h; exact Mt.tk_len rfl h) | (obtain ⟨_, _, _, _, _, _, _, _, _, _, h⟩ := h; exact Mt.tk_len rfl h) | (obtain ⟨_, _, _, _, _, _, _, _, _, _, _, h⟩ := h; exact Mt.tk_len rfl h) | (obtain ⟨_, _, _, _, _, _, _, _, _, _, _, _, h⟩ := h; exact Mt.tk_len rfl h) | (obtain ⟨_, _, _, _, _, _, _, _, _, _, _, _, _, h⟩ := h; exact Mt.tk_len rfl h) | (obtain ⟨_, _, _, _, _, _, _, _, _, _, _, _, _, _, h⟩ := h; exact Mt.tk_len rfl h) | (obtain ⟨_, _, _, _, _, _, _, _, _, _, _, _, _, _, _, h⟩ := h; exact Mt.tk_len rfl h))) (g__law_otherwise K a) (fun f cdv A outer s H E hr => t__law_otherwise T (ok__law_book T) (ok__law_draw T) hr) (rf__law_otherwise T)
end
def hd_show_clock : He.DefD := ⟨("show_clock", none), "show_clock", "show_clock", defArgs s_show_clock, defBody s_show_clock, defScope s_show_clock, [], []⟩
def hd_show_time : He.DefD := ⟨("show_time", none), "show_time", "show_time", defArgs s_show_time, defBody s_show_time, defScope s_show_time, [], []⟩
def hd_Book_init : He.DefD := ⟨("Book", some "__init__"), "__init__", "Book.__init__", defArgs s_Book_init, defBody s_Book_init, defScope s_Book_init, [], []⟩
def hd_Book_write : He.DefD := ⟨("Book", some "write"), "write", "Book.write", defArgs s_Book_write, defBody s_Book_write, defScope s_Book_write, [], []⟩
def hd_Book_rows : He.DefD := ⟨("Book", some "rows"), "rows", "Book.rows", defArgs s_Book_rows, defBody s_Book_rows, defScope s_Book_rows, [], []⟩
def hd_Book_len : He.DefD := ⟨("Book", some "__len__"), "__len__", "Book.__len__", defArgs s_Book_len, defBody s_Book_len, defScope s_Book_len, [], []⟩
def hd_Book_eq : He.DefD := ⟨("Book", some "__eq__"), "__eq__", "Book.__eq__", defArgs s_Book_eq, defBody s_Book_eq, defScope s_Book_eq, [], []⟩
def hd_Book_str : He.DefD := ⟨("Book", some "__str__"), "__str__", "Book.__str__", defArgs s_Book_str, defBody s_Book_str, defScope s_Book_str, [], []⟩
def hd__law_feed : He.DefD := ⟨("_law_feed", none), "_law_feed", "_law_feed", defArgs s__law_feed, defBody s__law_feed, defScope s__law_feed, [], []⟩
def hd__law_draw : He.DefD := ⟨("_law_draw", none), "_law_draw", "_law_draw", defArgs s__law_draw, defBody s__law_draw, defScope s__law_draw, [], []⟩
def hd__law_of : He.DefD := ⟨("_law_of", none), "_law_of", "_law_of", defArgs s__law_of, defBody s__law_of, defScope s__law_of, [], []⟩
def hd__law_names : He.DefD := ⟨("_law_names", none), "_law_names", "_law_names", defArgs s__law_names, defBody s__law_names, defScope s__law_names, [], []⟩
def hd__law_time : He.DefD := ⟨("_law_time", none), "_law_time", "_law_time", defArgs s__law_time, defBody s__law_time, defScope s__law_time, [], []⟩
def hd__law_rows : He.DefD := ⟨("_law_rows", none), "_law_rows", "_law_rows", defArgs s__law_rows, defBody s__law_rows, defScope s__law_rows, [], []⟩
def hd__law_book : He.DefD := ⟨("_law_book", none), "_law_book", "_law_book", defArgs s__law_book, defBody s__law_book, defScope s__law_book, [], []⟩
def hd__law_text : He.DefD := ⟨("_law_text", none), "_law_text", "_law_text", defArgs s__law_text, defBody s__law_text, defScope s__law_text, [], []⟩
def hd__law_backward : He.DefD := ⟨("_law_backward", none), "_law_backward", "_law_backward", defArgs s__law_backward, defBody s__law_backward, defScope s__law_backward, [], []⟩
def hd__law_looks : He.DefD := ⟨("_law_looks", none), "_law_looks", "_law_looks", defArgs s__law_looks, defBody s__law_looks, defScope s__law_looks, [], []⟩
def hd__law_otherwise : He.DefD := ⟨("_law_otherwise", none), "_law_otherwise", "_law_otherwise", defArgs s__law_otherwise, defBody s__law_otherwise, defScope s__law_otherwise, [], []⟩
def hd_law : He.DefD := ⟨("law", none), "law", "law", defArgs s_law, defBody s_law, defScope s_law, [], []⟩
def hd_Backward_init : He.DefD := ⟨("Backward", some "__init__"), "__init__", "Backward.__init__", defArgs s_Backward_init, defBody s_Backward_init, defScope s_Backward_init, [], []⟩
def hfn0 : List He.DefD := [hd_show_clock, hd_show_time, hd_Book_init, hd_Book_write, hd_Book_rows, hd_Book_len, hd_Book_eq, hd_Book_str, hd__law_feed, hd__law_draw, hd__law_of, hd__law_names, hd__law_time, hd__law_rows, hd__law_book, hd__law_text, hd__law_backward, hd__law_looks, hd__law_otherwise, hd_law, hd_Backward_init]
def hfa0 : List Hd.Fq := [fun K => decide (PySem.W.nsIn K mainGlobals "Backward" = some (some (.ref (He.ga K "Backward")))), fun K => decide (PySem.W.nsIn K mainGlobals "Book" = some (some (.ref (He.ga K "Book")))), fun K => decide (PySem.W.nsIn K mainGlobals "show_clock" = some (some (.ref (He.fAd K ("show_clock", none))))), fun K => decide (PySem.W.nsIn K mainGlobals "show_time" = some (some (.ref (He.fAd K ("show_time", none))))), fun K => decide (PySem.W.findIn K (.ref (He.ga K "Book")) "__init__" = some (some (.ref (He.fAd K ("Book", some "__init__"))))), fun K => PySem.W.isFn K (.ref (He.fAd K ("Book", some "__init__"))), fun K => decide (PySem.W.findIn K (.ref (He.ga K "Book")) "write" = some (some (.ref (He.fAd K ("Book", some "write"))))), fun K => PySem.W.isFn K (.ref (He.fAd K ("Book", some "write"))), fun K => decide (PySem.W.findIn K (.ref (He.ga K "Book")) "rows" = some (some (.ref (He.fAd K ("Book", some "rows"))))), fun K => PySem.W.isFn K (.ref (He.fAd K ("Book", some "rows"))), fun K => decide (PySem.W.findIn K (.ref (He.ga K "Book")) "__len__" = some (some (.ref (He.fAd K ("Book", some "__len__"))))), fun K => PySem.W.isFn K (.ref (He.fAd K ("Book", some "__len__"))), fun K => decide (PySem.W.findIn K (.ref (He.ga K "Book")) "__eq__" = some (some (.ref (He.fAd K ("Book", some "__eq__"))))), fun K => PySem.W.isFn K (.ref (He.fAd K ("Book", some "__eq__"))), fun K => decide (PySem.W.findIn K (.ref (He.ga K "Book")) "__str__" = some (some (.ref (He.fAd K ("Book", some "__str__"))))), fun K => PySem.W.isFn K (.ref (He.fAd K ("Book", some "__str__"))), fun K => decide (PySem.W.nsIn K mainGlobals "_law_feed" = some (some (.ref (He.fAd K ("_law_feed", none))))), fun K => decide (PySem.W.nsIn K mainGlobals "_law_draw" = some (some (.ref (He.fAd K ("_law_draw", none))))), fun K => decide (PySem.W.nsIn K mainGlobals "_law_of" = some (some (.ref (He.fAd K ("_law_of", none))))), fun K => decide (PySem.W.nsIn K mainGlobals "_law_names" = some (some (.ref (He.fAd K ("_law_names", none))))), fun K => decide (PySem.W.nsIn K mainGlobals "_law_time" = some (some (.ref (He.fAd K ("_law_time", none))))), fun K => decide (PySem.W.nsIn K mainGlobals "_law_rows" = some (some (.ref (He.fAd K ("_law_rows", none))))), fun K => decide (PySem.W.nsIn K mainGlobals "_law_book" = some (some (.ref (He.fAd K ("_law_book", none))))), fun K => decide (PySem.W.nsIn K mainGlobals "_law_text" = some (some (.ref (He.fAd K ("_law_text", none))))), fun K => decide (PySem.W.nsIn K mainGlobals "_law_backward" = some (some (.ref (He.fAd K ("_law_backward", none))))), fun K => decide (PySem.W.nsIn K mainGlobals "_law_looks" = some (some (.ref (He.fAd K ("_law_looks", none))))), fun K => decide (PySem.W.nsIn K mainGlobals "_law_otherwise" = some (some (.ref (He.fAd K ("_law_otherwise", none))))), fun K => decide (PySem.W.nsIn K mainGlobals "law" = some (some (.ref (He.fAd K ("law", none))))), fun K => PySem.W.plainGet K (He.ga K "Book") Str.empty, fun K => PySem.W.hasDictIn K (He.ga K "Book"), fun K => PySem.W.plainOver K (He.ga K "Book"), fun K => decide (PySem.W.findIn K (.ref (He.ga K "Book")) "__setattr__" = some (some (.builtin "object.__setattr__"))), fun K => PySem.W.makesIn K (He.ga K "Book"), fun K => PySem.W.keepIn K (.ref (He.ga K "Book")), fun K => decide (PySem.W.findIn K (.ref (He.ga K "Backward")) "__getattribute__" = some (some (.builtin "BaseException.__getattribute__"))), fun K => decide (PySem.W.findIn K (.ref (He.ga K "Backward")) "__getattr__" = some none), fun K => decide (PySem.W.subIn K (.ref (He.ga K "Backward")) (.type "BaseException") = some true), fun K => PySem.W.hasDictIn K (He.ga K "Backward"), fun K => decide (PySem.W.findIn K (.ref (He.ga K "Backward")) "__class__" = some (some (.builtin "object.__class__"))), fun K => decide (PySem.W.specialIn K (.builtin "object.__class__") "__get__" = some (some (.builtin "getset_descriptor.__get__"))), fun K => decide (PySem.W.takesIn K (.builtin "object.__class__") = some true), fun K => decide (PySem.W.mroIn K (He.ga K "Backward") (.type "object") = some true), fun K => Hd.excB K (He.ga K "Backward") [.type "RuntimeError", .type "Exception", .type "BaseException", .type "object"] "RuntimeError.__new__", fun K => decide (PySem.W.findIn K (.ref (He.ga K "Backward")) "__setattr__" = some (some (.builtin "object.__setattr__"))), fun K => decide (PySem.W.typeIn K (.ref (He.ga K "Backward")) = some (.type "type")), fun K => PySem.W.keepIn K (.ref (He.ga K "Backward")), fun K => decide (PySem.W.findIn K (.ref (He.ga K "Backward")) "__init__" = some (some (.ref (He.fAd K ("Backward", some "__init__"))))), fun K => decide (PySem.W.typeIn K (.ref (He.fAd K ("Backward", some "__init__"))) = some (.type "function")), fun K => decide (PySem.W.findIn K (.ref (He.ga K "Backward")) "minute" = some none), fun K => decide (PySem.W.subIn K (.ref (He.ga K "Backward")) (.ref (He.ga K "Backward")) = some true), fun K => decide (PySem.W.subIn K (.ref (He.ga K "Backward")) (.type "RuntimeError") = some true), fun K => decide (PySem.W.subIn K (.ref (He.ga K "Backward")) (.type "ValueError") = some false), fun K => decide (PySem.W.nsIn K mainGlobals "RuntimeError" = some none), fun K => decide (PySem.W.nsIn K mainGlobals "ValueError" = some none), fun K => decide (PySem.W.nsIn K mainGlobals "bool" = some none), fun K => decide (PySem.W.nsIn K mainGlobals "divmod" = some none), fun K => decide (PySem.W.nsIn K mainGlobals "int" = some none), fun K => decide (PySem.W.nsIn K mainGlobals "isinstance" = some none), fun K => decide (PySem.W.nsIn K mainGlobals "len" = some none), fun K => decide (PySem.W.nsIn K mainGlobals "list" = some none), fun K => decide (PySem.W.nsIn K mainGlobals "max" = some none), fun K => decide (PySem.W.nsIn K mainGlobals "range" = some none), fun K => decide (PySem.W.nsIn K mainGlobals "repr" = some none), fun K => decide (PySem.W.nsIn K mainGlobals "str" = some none), fun K => (He.Fa.int "DAY" 1440).ok K, fun K => (He.Fa.int "HOUR" 60).ok K, fun K => decide (PySem.W.findIn K (.ref (He.ga K "Book")) "bank" = some none), fun K => decide (PySem.W.findIn K (.ref (He.ga K "Book")) "kept" = some none), fun K => PySem.W.isClsIn K (He.ga K "Book"), fun K => decide (PySem.W.typeIn K (.ref (He.ga K "Book")) = some (.type "type")), fun K => decide (PySem.W.subIn K (.type "NoneType") (.ref (He.ga K "Book")) = some false), fun K => decide (PySem.W.subIn K (.type "bool") (.ref (He.ga K "Book")) = some false), fun K => decide (PySem.W.subIn K (.type "int") (.ref (He.ga K "Book")) = some false), fun K => decide (PySem.W.subIn K (.type "str") (.ref (He.ga K "Book")) = some false), fun K => decide (PySem.W.subIn K (.type "tuple") (.ref (He.ga K "Book")) = some false), fun K => decide (PySem.W.subIn K (.type "list") (.ref (He.ga K "Book")) = some false), fun K => decide (PySem.W.subIn K (.type "dict") (.ref (He.ga K "Book")) = some false), fun K => decide (PySem.W.findIn K (.ref (He.ga K "Book")) "__format__" = some (some (.builtin "object.__format__"))), fun K => decide (PySem.W.mroIn K (He.ga K "Book") (.type "object") = some true), fun K => decide (PySem.W.findIn K (.ref (He.ga K "Book")) "__bool__" = some none), fun K => decide (PySem.W.subIn K (.ref (He.ga K "Book")) (.type "NoneType") = some false), fun K => decide (PySem.W.subIn K (.ref (He.ga K "Book")) (.type "bool") = some false), fun K => decide (PySem.W.subIn K (.ref (He.ga K "Book")) (.type "int") = some false), fun K => decide (PySem.W.subIn K (.ref (He.ga K "Book")) (.type "str") = some false), fun K => decide (PySem.W.subIn K (.ref (He.ga K "Book")) (.type "tuple") = some false), fun K => decide (PySem.W.subIn K (.ref (He.ga K "Book")) (.type "list") = some false), fun K => decide (PySem.W.subIn K (.ref (He.ga K "Book")) (.type "dict") = some false), fun K => decide (PySem.W.findIn K (.ref (He.ga K "Book")) "__ne__" = some (some (.builtin "object.__ne__"))), fun K => decide (PySem.W.findIn K (.ref (He.ga K "Book")) "__class__" = some (some (.builtin "object.__class__")))]
def hqs : Hd.Qs := [([], hfn0), (hfa0, [])]
abbrev hR : PySem.W.OpenRow := PySem.W.OpenLaw.row PySem.Challenge.rw_boatbridge_k68_books_as_objects
abbrev hk : PySem.W.Hook := Hd.hookQ 5 hqs
abbrev hob : PySem.W.SharedT → List He.AlD := fun s => Hd.obsL 5 hqs (HandSHeadRun.getT s)
theorem hob_eq (s : PySem.W.SharedT) : hob s = hk.obs s.abs := Hd.obsL_eq (HandSHeadRun.getT_eq s)
def hnames : List PySem.Str := (["Backward", "HOUR", "DAY", "show_clock", "show_time", "Book", "_law_feed", "_law_draw", "_law_of", "_law_names", "_law_time", "_law_rows", "_law_book", "_law_text", "_law_backward", "_law_looks", "_law_otherwise"] : List PySem.Str)
theorem hrun_l (w : World) : Hd.Looks hR (PySem.W.view hR.prog [21]) 60000 hnames w := by
  intro os
  kernel_rfl
theorem hrun_0 (w : World) : Hd.Obs1 hR 5 [] hfn0 60000 w := by
  intro os
  kernel_rfl
theorem hrun_1 (w : World) : Hd.Obs1 hR 5 hfa0 [] 60000 w := by
  intro os
  kernel_rfl
theorem hrun (w : World) : HandSHeadRun.RunEq hR (PySem.W.view hR.prog [21]) hk hob 60000 hnames w := Hd.runEq_of (hrun_l w) (Hd.obsA_cons (hrun_0 w) (Hd.obsA_cons (hrun_1 w) (Hd.obsA_nil (hrun_l w))))
theorem all_mk {l : PySem.W.OpenLaw} {w : World} {K : PySem.W.Frag} {h : Heap} {mg : Str → Option Value} {fa : Addr} (X : K.In h) (G : h.Ns mainGlobals mg) (hfa_ : mg "law" = some (.ref fa)) (c : Hd.SaysL hqs K) :
    ∃ fd : FuncData, (∀ (s : Shared) (v : Value), BindsTo s fd ⟨[v], []⟩ [("_law_script", v)]) ∧ ∀ base : Heap, K.In base → base.Ns mainGlobals mg → FnG l.prog w K mg base CX0 7 fa fd ["_law_script"] (spOf K sp_law) := by
  have c0 := c ([], hfn0) (by simp [hqs])
  have cc0 := c (hfa0, []) (by simp [hqs])
  obtain ⟨fd_show_clock, F_show_clock⟩ := c0.def_ 0 (d := hd_show_clock) rfl
  obtain ⟨fd_show_time, F_show_time⟩ := c0.def_ 1 (d := hd_show_time) rfl
  obtain ⟨fd_Book_init, F_Book_init⟩ := c0.def_ 2 (d := hd_Book_init) rfl
  obtain ⟨fd_Book_write, F_Book_write⟩ := c0.def_ 3 (d := hd_Book_write) rfl
  obtain ⟨fd_Book_rows, F_Book_rows⟩ := c0.def_ 4 (d := hd_Book_rows) rfl
  obtain ⟨fd_Book_len, F_Book_len⟩ := c0.def_ 5 (d := hd_Book_len) rfl
  obtain ⟨fd_Book_eq, F_Book_eq⟩ := c0.def_ 6 (d := hd_Book_eq) rfl
  obtain ⟨fd_Book_str, F_Book_str⟩ := c0.def_ 7 (d := hd_Book_str) rfl
  obtain ⟨fd__law_feed, F__law_feed⟩ := c0.def_ 8 (d := hd__law_feed) rfl
  obtain ⟨fd__law_draw, F__law_draw⟩ := c0.def_ 9 (d := hd__law_draw) rfl
  obtain ⟨fd__law_of, F__law_of⟩ := c0.def_ 10 (d := hd__law_of) rfl
  obtain ⟨fd__law_names, F__law_names⟩ := c0.def_ 11 (d := hd__law_names) rfl
  obtain ⟨fd__law_time, F__law_time⟩ := c0.def_ 12 (d := hd__law_time) rfl
  obtain ⟨fd__law_rows, F__law_rows⟩ := c0.def_ 13 (d := hd__law_rows) rfl
  obtain ⟨fd__law_book, F__law_book⟩ := c0.def_ 14 (d := hd__law_book) rfl
  obtain ⟨fd__law_text, F__law_text⟩ := c0.def_ 15 (d := hd__law_text) rfl
  obtain ⟨fd__law_backward, F__law_backward⟩ := c0.def_ 16 (d := hd__law_backward) rfl
  obtain ⟨fd__law_looks, F__law_looks⟩ := c0.def_ 17 (d := hd__law_looks) rfl
  obtain ⟨fd__law_otherwise, F__law_otherwise⟩ := c0.def_ 18 (d := hd__law_otherwise) rfl
  obtain ⟨fd_law, F_law⟩ := c0.def_ 19 (d := hd_law) rfl
  obtain ⟨fd_Backward_init, F_Backward_init⟩ := c0.def_ 20 (d := hd_Backward_init) rfl
  have aC_Backward : PySem.W.nsIn K mainGlobals "Backward" = some (some (.ref (He.ga K "Backward"))) := of_decide_eq_true (cc0.fact 0 rfl)
  have aC_Book : PySem.W.nsIn K mainGlobals "Book" = some (some (.ref (He.ga K "Book"))) := of_decide_eq_true (cc0.fact 1 rfl)
  have a_show_clock : PySem.W.nsIn K mainGlobals "show_clock" = some (some (.ref (He.fAd K ("show_clock", none)))) := of_decide_eq_true (cc0.fact 2 rfl)
  have a_show_time : PySem.W.nsIn K mainGlobals "show_time" = some (some (.ref (He.fAd K ("show_time", none)))) := of_decide_eq_true (cc0.fact 3 rfl)
  have a_Book_init : PySem.W.findIn K (.ref (He.ga K "Book")) "__init__" = some (some (.ref (He.fAd K ("Book", some "__init__")))) := of_decide_eq_true (cc0.fact 4 rfl)
  have i_Book_init : PySem.W.isFn K (.ref (He.fAd K ("Book", some "__init__"))) = true := cc0.fact 5 rfl
  have a_Book_write : PySem.W.findIn K (.ref (He.ga K "Book")) "write" = some (some (.ref (He.fAd K ("Book", some "write")))) := of_decide_eq_true (cc0.fact 6 rfl)
  have i_Book_write : PySem.W.isFn K (.ref (He.fAd K ("Book", some "write"))) = true := cc0.fact 7 rfl
  have a_Book_rows : PySem.W.findIn K (.ref (He.ga K "Book")) "rows" = some (some (.ref (He.fAd K ("Book", some "rows")))) := of_decide_eq_true (cc0.fact 8 rfl)
  have i_Book_rows : PySem.W.isFn K (.ref (He.fAd K ("Book", some "rows"))) = true := cc0.fact 9 rfl
  have a_Book_len : PySem.W.findIn K (.ref (He.ga K "Book")) "__len__" = some (some (.ref (He.fAd K ("Book", some "__len__")))) := of_decide_eq_true (cc0.fact 10 rfl)
  have i_Book_len : PySem.W.isFn K (.ref (He.fAd K ("Book", some "__len__"))) = true := cc0.fact 11 rfl
  have a_Book_eq : PySem.W.findIn K (.ref (He.ga K "Book")) "__eq__" = some (some (.ref (He.fAd K ("Book", some "__eq__")))) := of_decide_eq_true (cc0.fact 12 rfl)
  have i_Book_eq : PySem.W.isFn K (.ref (He.fAd K ("Book", some "__eq__"))) = true := cc0.fact 13 rfl
  have a_Book_str : PySem.W.findIn K (.ref (He.ga K "Book")) "__str__" = some (some (.ref (He.fAd K ("Book", some "__str__")))) := of_decide_eq_true (cc0.fact 14 rfl)
  have i_Book_str : PySem.W.isFn K (.ref (He.fAd K ("Book", some "__str__"))) = true := cc0.fact 15 rfl
  have a__law_feed : PySem.W.nsIn K mainGlobals "_law_feed" = some (some (.ref (He.fAd K ("_law_feed", none)))) := of_decide_eq_true (cc0.fact 16 rfl)
  have a__law_draw : PySem.W.nsIn K mainGlobals "_law_draw" = some (some (.ref (He.fAd K ("_law_draw", none)))) := of_decide_eq_true (cc0.fact 17 rfl)
  have a__law_of : PySem.W.nsIn K mainGlobals "_law_of" = some (some (.ref (He.fAd K ("_law_of", none)))) := of_decide_eq_true (cc0.fact 18 rfl)
  have a__law_names : PySem.W.nsIn K mainGlobals "_law_names" = some (some (.ref (He.fAd K ("_law_names", none)))) := of_decide_eq_true (cc0.fact 19 rfl)
  have a__law_time : PySem.W.nsIn K mainGlobals "_law_time" = some (some (.ref (He.fAd K ("_law_time", none)))) := of_decide_eq_true (cc0.fact 20 rfl)
  have a__law_rows : PySem.W.nsIn K mainGlobals "_law_rows" = some (some (.ref (He.fAd K ("_law_rows", none)))) := of_decide_eq_true (cc0.fact 21 rfl)
  have a__law_book : PySem.W.nsIn K mainGlobals "_law_book" = some (some (.ref (He.fAd K ("_law_book", none)))) := of_decide_eq_true (cc0.fact 22 rfl)
  have a__law_text : PySem.W.nsIn K mainGlobals "_law_text" = some (some (.ref (He.fAd K ("_law_text", none)))) := of_decide_eq_true (cc0.fact 23 rfl)
  have a__law_backward : PySem.W.nsIn K mainGlobals "_law_backward" = some (some (.ref (He.fAd K ("_law_backward", none)))) := of_decide_eq_true (cc0.fact 24 rfl)
  have a__law_looks : PySem.W.nsIn K mainGlobals "_law_looks" = some (some (.ref (He.fAd K ("_law_looks", none)))) := of_decide_eq_true (cc0.fact 25 rfl)
  have a__law_otherwise : PySem.W.nsIn K mainGlobals "_law_otherwise" = some (some (.ref (He.fAd K ("_law_otherwise", none)))) := of_decide_eq_true (cc0.fact 26 rfl)
  have a_law : PySem.W.nsIn K mainGlobals "law" = some (some (.ref (He.fAd K ("law", none)))) := of_decide_eq_true (cc0.fact 27 rfl)
  have pg_Book : PySem.W.plainGet K (He.ga K "Book") Str.empty = true := cc0.fact 28 rfl
  have hd_Book : PySem.W.hasDictIn K (He.ga K "Book") = true := cc0.fact 29 rfl
  have po_Book : PySem.W.plainOver K (He.ga K "Book") = true := cc0.fact 30 rfl
  have sa_Book : PySem.W.findIn K (.ref (He.ga K "Book")) "__setattr__" = some (some (.builtin "object.__setattr__")) := of_decide_eq_true (cc0.fact 31 rfl)
  have mk_Book : PySem.W.makesIn K (He.ga K "Book") = true := cc0.fact 32 rfl
  have kc_Book : PySem.W.keepIn K (.ref (He.ga K "Book")) = true := cc0.fact 33 rfl
  have xga_Backward : PySem.W.findIn K (.ref (He.ga K "Backward")) "__getattribute__" = some (some (.builtin "BaseException.__getattribute__")) := of_decide_eq_true (cc0.fact 34 rfl)
  have xgg_Backward : PySem.W.findIn K (.ref (He.ga K "Backward")) "__getattr__" = some none := of_decide_eq_true (cc0.fact 35 rfl)
  have xex_Backward : PySem.W.subIn K (.ref (He.ga K "Backward")) (.type "BaseException") = some true := of_decide_eq_true (cc0.fact 36 rfl)
  have xhd_Backward : PySem.W.hasDictIn K (He.ga K "Backward") = true := cc0.fact 37 rfl
  have xha_Backward : PySem.W.findIn K (.ref (He.ga K "Backward")) "__class__" = some (some (.builtin "object.__class__")) := of_decide_eq_true (cc0.fact 38 rfl)
  have xhn_Backward : PySem.W.specialIn K (.builtin "object.__class__") "__get__" = some (some (.builtin "getset_descriptor.__get__")) := of_decide_eq_true (cc0.fact 39 rfl)
  have xht_Backward : PySem.W.takesIn K (.builtin "object.__class__") = some true := of_decide_eq_true (cc0.fact 40 rfl)
  have xhm_Backward : PySem.W.mroIn K (He.ga K "Backward") (.type "object") = some true := of_decide_eq_true (cc0.fact 41 rfl)
  have xl_Backward : Hd.excB K (He.ga K "Backward") [.type "RuntimeError", .type "Exception", .type "BaseException", .type "object"] "RuntimeError.__new__" = true := cc0.fact 42 rfl
  have xsa_Backward : PySem.W.findIn K (.ref (He.ga K "Backward")) "__setattr__" = some (some (.builtin "object.__setattr__")) := of_decide_eq_true (cc0.fact 43 rfl)
  have xty_Backward : PySem.W.typeIn K (.ref (He.ga K "Backward")) = some (.type "type") := of_decide_eq_true (cc0.fact 44 rfl)
  have xkc_Backward : PySem.W.keepIn K (.ref (He.ga K "Backward")) = true := cc0.fact 45 rfl
  have a_Backward_init : PySem.W.findIn K (.ref (He.ga K "Backward")) "__init__" = some (some (.ref (He.fAd K ("Backward", some "__init__")))) := of_decide_eq_true (cc0.fact 46 rfl)
  have ti_Backward_init : PySem.W.typeIn K (.ref (He.fAd K ("Backward", some "__init__"))) = some (.type "function") := of_decide_eq_true (cc0.fact 47 rfl)
  have zxn_Backward_minute : PySem.W.findIn K (.ref (He.ga K "Backward")) "minute" = some none := of_decide_eq_true (cc0.fact 48 rfl)
  have zxm_Backward_Backward : PySem.W.subIn K (.ref (He.ga K "Backward")) (.ref (He.ga K "Backward")) = some true := of_decide_eq_true (cc0.fact 49 rfl)
  have zxk_Backward_RuntimeError : PySem.W.subIn K (.ref (He.ga K "Backward")) (.type "RuntimeError") = some true := of_decide_eq_true (cc0.fact 50 rfl)
  have zxk_Backward_ValueError : PySem.W.subIn K (.ref (He.ga K "Backward")) (.type "ValueError") = some false := of_decide_eq_true (cc0.fact 51 rfl)
  have zno_RuntimeError : PySem.W.nsIn K mainGlobals "RuntimeError" = some none := of_decide_eq_true (cc0.fact 52 rfl)
  have zno_ValueError : PySem.W.nsIn K mainGlobals "ValueError" = some none := of_decide_eq_true (cc0.fact 53 rfl)
  have zno_bool : PySem.W.nsIn K mainGlobals "bool" = some none := of_decide_eq_true (cc0.fact 54 rfl)
  have zno_divmod : PySem.W.nsIn K mainGlobals "divmod" = some none := of_decide_eq_true (cc0.fact 55 rfl)
  have zno_int : PySem.W.nsIn K mainGlobals "int" = some none := of_decide_eq_true (cc0.fact 56 rfl)
  have zno_isinstance : PySem.W.nsIn K mainGlobals "isinstance" = some none := of_decide_eq_true (cc0.fact 57 rfl)
  have zno_len : PySem.W.nsIn K mainGlobals "len" = some none := of_decide_eq_true (cc0.fact 58 rfl)
  have zno_list : PySem.W.nsIn K mainGlobals "list" = some none := of_decide_eq_true (cc0.fact 59 rfl)
  have zno_max : PySem.W.nsIn K mainGlobals "max" = some none := of_decide_eq_true (cc0.fact 60 rfl)
  have zno_range : PySem.W.nsIn K mainGlobals "range" = some none := of_decide_eq_true (cc0.fact 61 rfl)
  have zno_repr : PySem.W.nsIn K mainGlobals "repr" = some none := of_decide_eq_true (cc0.fact 62 rfl)
  have zno_str : PySem.W.nsIn K mainGlobals "str" = some none := of_decide_eq_true (cc0.fact 63 rfl)
  have zc_DAY : (He.Fa.int "DAY" 1440).ok K = true := cc0.fact 64 rfl
  have zc_HOUR : (He.Fa.int "HOUR" 60).ok K = true := cc0.fact 65 rfl
  have zf_Book_bank : PySem.W.findIn K (.ref (He.ga K "Book")) "bank" = some none := of_decide_eq_true (cc0.fact 66 rfl)
  have zf_Book_kept : PySem.W.findIn K (.ref (He.ga K "Book")) "kept" = some none := of_decide_eq_true (cc0.fact 67 rfl)
  have icl_Book : PySem.W.isClsIn K (He.ga K "Book") = true := cc0.fact 68 rfl
  have ity_Book : PySem.W.typeIn K (.ref (He.ga K "Book")) = some (.type "type") := of_decide_eq_true (cc0.fact 69 rfl)
  have zkb_Book_NoneType : PySem.W.subIn K (.type "NoneType") (.ref (He.ga K "Book")) = some false := of_decide_eq_true (cc0.fact 70 rfl)
  have zkb_Book_bool : PySem.W.subIn K (.type "bool") (.ref (He.ga K "Book")) = some false := of_decide_eq_true (cc0.fact 71 rfl)
  have zkb_Book_int : PySem.W.subIn K (.type "int") (.ref (He.ga K "Book")) = some false := of_decide_eq_true (cc0.fact 72 rfl)
  have zkb_Book_str : PySem.W.subIn K (.type "str") (.ref (He.ga K "Book")) = some false := of_decide_eq_true (cc0.fact 73 rfl)
  have zkb_Book_tuple : PySem.W.subIn K (.type "tuple") (.ref (He.ga K "Book")) = some false := of_decide_eq_true (cc0.fact 74 rfl)
  have zkb_Book_list : PySem.W.subIn K (.type "list") (.ref (He.ga K "Book")) = some false := of_decide_eq_true (cc0.fact 75 rfl)
  have zkb_Book_dict : PySem.W.subIn K (.type "dict") (.ref (He.ga K "Book")) = some false := of_decide_eq_true (cc0.fact 76 rfl)
  have fm_Book : PySem.W.findIn K (.ref (He.ga K "Book")) "__format__" = some (some (.builtin "object.__format__")) := of_decide_eq_true (cc0.fact 77 rfl)
  have fb_Book : PySem.W.mroIn K (He.ga K "Book") (.type "object") = some true := of_decide_eq_true (cc0.fact 78 rfl)
  have nbo_Book : PySem.W.findIn K (.ref (He.ga K "Book")) "__bool__" = some none := of_decide_eq_true (cc0.fact 79 rfl)
  have ea_Book_NoneType : PySem.W.subIn K (.type "NoneType") (.ref (He.ga K "Book")) = some false := of_decide_eq_true (cc0.fact 70 rfl)
  have eb_Book_NoneType : PySem.W.subIn K (.ref (He.ga K "Book")) (.type "NoneType") = some false := of_decide_eq_true (cc0.fact 80 rfl)
  have ea_Book_bool : PySem.W.subIn K (.type "bool") (.ref (He.ga K "Book")) = some false := of_decide_eq_true (cc0.fact 71 rfl)
  have eb_Book_bool : PySem.W.subIn K (.ref (He.ga K "Book")) (.type "bool") = some false := of_decide_eq_true (cc0.fact 81 rfl)
  have ea_Book_int : PySem.W.subIn K (.type "int") (.ref (He.ga K "Book")) = some false := of_decide_eq_true (cc0.fact 72 rfl)
  have eb_Book_int : PySem.W.subIn K (.ref (He.ga K "Book")) (.type "int") = some false := of_decide_eq_true (cc0.fact 82 rfl)
  have ea_Book_str : PySem.W.subIn K (.type "str") (.ref (He.ga K "Book")) = some false := of_decide_eq_true (cc0.fact 73 rfl)
  have eb_Book_str : PySem.W.subIn K (.ref (He.ga K "Book")) (.type "str") = some false := of_decide_eq_true (cc0.fact 83 rfl)
  have ea_Book_tuple : PySem.W.subIn K (.type "tuple") (.ref (He.ga K "Book")) = some false := of_decide_eq_true (cc0.fact 74 rfl)
  have eb_Book_tuple : PySem.W.subIn K (.ref (He.ga K "Book")) (.type "tuple") = some false := of_decide_eq_true (cc0.fact 84 rfl)
  have ea_Book_list : PySem.W.subIn K (.type "list") (.ref (He.ga K "Book")) = some false := of_decide_eq_true (cc0.fact 75 rfl)
  have eb_Book_list : PySem.W.subIn K (.ref (He.ga K "Book")) (.type "list") = some false := of_decide_eq_true (cc0.fact 85 rfl)
  have ea_Book_dict : PySem.W.subIn K (.type "dict") (.ref (He.ga K "Book")) = some false := of_decide_eq_true (cc0.fact 76 rfl)
  have eb_Book_dict : PySem.W.subIn K (.ref (He.ga K "Book")) (.type "dict") = some false := of_decide_eq_true (cc0.fact 86 rfl)
  have nne_Book : PySem.W.findIn K (.ref (He.ga K "Book")) "__ne__" = some (some (.builtin "object.__ne__")) := of_decide_eq_true (cc0.fact 87 rfl)
  have nob_Book : PySem.W.mroIn K (He.ga K "Book") (.type "object") = some true := of_decide_eq_true (cc0.fact 78 rfl)
  have ia_Book : PySem.W.findIn K (.ref (He.ga K "Book")) "__class__" = some (some (.builtin "object.__class__")) := of_decide_eq_true (cc0.fact 88 rfl)
  have in_Book : PySem.W.specialIn K (.builtin "object.__class__") "__get__" = some (some (.builtin "getset_descriptor.__get__")) := of_decide_eq_true (cc0.fact 39 rfl)
  have it_Book : PySem.W.takesIn K (.builtin "object.__class__") = some true := of_decide_eq_true (cc0.fact 40 rfl)
  have im_Book : PySem.W.mroIn K (He.ga K "Book") (.type "object") = some true := of_decide_eq_true (cc0.fact 78 rfl)
  have T : Txt K mg ⟨(He.ga K "Backward"), (He.ga K "Book")⟩ := ⟨⟨(He.fAd K ("show_clock", none)), fd_show_clock, F_show_clock, PySem.W.mg_of X G a_show_clock⟩, ⟨(He.fAd K ("show_time", none)), fd_show_time, F_show_time, PySem.W.mg_of X G a_show_time⟩, ⟨(He.fAd K ("Book", some "__init__")), fd_Book_init, F_Book_init, ⟨mk_Book, a_Book_init, i_Book_init, kc_Book⟩⟩, ⟨(He.fAd K ("Book", some "write")), fd_Book_write, F_Book_write, ⟨a_Book_write, i_Book_write, F_Book_write.kp⟩⟩, ⟨(He.fAd K ("Book", some "rows")), fd_Book_rows, F_Book_rows, ⟨a_Book_rows, i_Book_rows, F_Book_rows.kp⟩⟩, ⟨(He.fAd K ("Book", some "__len__")), fd_Book_len, F_Book_len, ⟨a_Book_len, i_Book_len, F_Book_len.kp⟩⟩, ⟨(He.fAd K ("Book", some "__eq__")), fd_Book_eq, F_Book_eq, ⟨a_Book_eq, i_Book_eq, F_Book_eq.kp⟩⟩, ⟨(He.fAd K ("Book", some "__str__")), fd_Book_str, F_Book_str, ⟨a_Book_str, i_Book_str, F_Book_str.kp⟩⟩, ⟨(He.fAd K ("_law_feed", none)), fd__law_feed, F__law_feed, PySem.W.mg_of X G a__law_feed⟩, ⟨(He.fAd K ("_law_draw", none)), fd__law_draw, F__law_draw, PySem.W.mg_of X G a__law_draw⟩, ⟨(He.fAd K ("_law_of", none)), fd__law_of, F__law_of, PySem.W.mg_of X G a__law_of⟩, ⟨(He.fAd K ("_law_names", none)), fd__law_names, F__law_names, PySem.W.mg_of X G a__law_names⟩, ⟨(He.fAd K ("_law_time", none)), fd__law_time, F__law_time, PySem.W.mg_of X G a__law_time⟩, ⟨(He.fAd K ("_law_rows", none)), fd__law_rows, F__law_rows, PySem.W.mg_of X G a__law_rows⟩, ⟨(He.fAd K ("_law_book", none)), fd__law_book, F__law_book, PySem.W.mg_of X G a__law_book⟩, ⟨(He.fAd K ("_law_text", none)), fd__law_text, F__law_text, PySem.W.mg_of X G a__law_text⟩, ⟨(He.fAd K ("_law_backward", none)), fd__law_backward, F__law_backward, PySem.W.mg_of X G a__law_backward⟩, ⟨(He.fAd K ("_law_looks", none)), fd__law_looks, F__law_looks, PySem.W.mg_of X G a__law_looks⟩, ⟨(He.fAd K ("_law_otherwise", none)), fd__law_otherwise, F__law_otherwise, PySem.W.mg_of X G a__law_otherwise⟩, ⟨(He.fAd K ("law", none)), fd_law, F_law, PySem.W.mg_of X G a_law⟩, PySem.W.mg_of X G aC_Book, ⟨pg_Book, hd_Book, po_Book, sa_Book⟩, PySem.W.mg_of X G aC_Backward, ⟨xga_Backward, xgg_Backward, xex_Backward, xhd_Backward, xha_Backward, xhn_Backward, xht_Backward, xhm_Backward⟩, ⟨⟨⟨_, PySem.F.excBase_RuntimeError⟩, by decide +kernel, by decide +kernel, by decide +kernel⟩, Hd.excB_ok xl_Backward, fun self => by kernel_rfl, by decide +kernel, xsa_Backward, xex_Backward, xty_Backward, xkc_Backward⟩, ⟨(He.fAd K ("Backward", some "__init__")), fd_Backward_init, F_Backward_init, a_Backward_init, ti_Backward_init⟩, zxn_Backward_minute, ⟨PySem.W.exm_ref xex_Backward xhd_Backward xty_Backward zxm_Backward_Backward⟩, ⟨kitt zxk_Backward_RuntimeError (by decide +kernel)⟩, ⟨kitt zxk_Backward_ValueError (by decide +kernel)⟩, PySem.W.mg_none_of X G zno_RuntimeError, PySem.W.mg_none_of X G zno_ValueError, PySem.W.mg_none_of X G zno_bool, PySem.W.mg_none_of X G zno_divmod, PySem.W.mg_none_of X G zno_int, PySem.W.mg_none_of X G zno_isinstance, PySem.W.mg_none_of X G zno_len, PySem.W.mg_none_of X G zno_list, PySem.W.mg_none_of X G zno_max, PySem.W.mg_none_of X G zno_range, PySem.W.mg_none_of X G zno_repr, PySem.W.mg_none_of X G zno_str, He.int_ok X G zc_DAY, He.int_ok X G zc_HOUR, ⟨⟨pg_Book, hd_Book, po_Book, sa_Book⟩, zf_Book_bank⟩, ⟨⟨pg_Book, hd_Book, po_Book, sa_Book⟩, zf_Book_kept⟩, ⟨by intro b hb; simp only [basicT, List.mem_cons, List.not_mem_nil, or_false] at hb; rcases hb with rfl | rfl | rfl | rfl | rfl | rfl | rfl; exact kit_mk icl_Book ity_Book zkb_Book_NoneType rfl; exact kit_mk icl_Book ity_Book zkb_Book_bool rfl; exact kit_mk icl_Book ity_Book zkb_Book_int rfl; exact kit_mk icl_Book ity_Book zkb_Book_str rfl; exact kit_mk icl_Book ity_Book zkb_Book_tuple rfl; exact kit_mk icl_Book ity_Book zkb_Book_list rfl; exact kit_mk icl_Book ity_Book zkb_Book_dict rfl⟩, ⟨kit_same⟩, ⟨fm_Book, fb_Book⟩, ⟨nbo_Book⟩, ⟨by intro b hb; simp only [basicT, List.mem_cons, List.not_mem_nil, or_false] at hb; rcases hb with rfl | rfl | rfl | rfl | rfl | rfl | rfl; exact ea_Book_NoneType; exact ea_Book_bool; exact ea_Book_int; exact ea_Book_str; exact ea_Book_tuple; exact ea_Book_list; exact ea_Book_dict, by intro b hb; simp only [basicT, List.mem_cons, List.not_mem_nil, or_false] at hb; rcases hb with rfl | rfl | rfl | rfl | rfl | rfl | rfl; exact eb_Book_NoneType; exact eb_Book_bool; exact eb_Book_int; exact eb_Book_str; exact eb_Book_tuple; exact eb_Book_list; exact eb_Book_dict⟩, ⟨nne_Book, nob_Book⟩, ⟨⟨pg_Book, hd_Book, po_Book, sa_Book⟩, ia_Book, in_Book, it_Book, im_Book⟩⟩
  obtain ⟨f0, fd, F, hm⟩ := T.b_law
  have e := hfa_.symm.trans hm
  cases e
  refine ⟨fd, fun s v => ?_, fun base _ _ => fn_body0 F sc_law (by intro ds S q h; first | (cases h with | inl h => (first | (obtain ⟨rfl, _⟩ := h; rfl) | (obtain ⟨_, _, _, _, ⟨_, _, rfl, _⟩, _⟩ := h; rfl) | (obtain ⟨_, rfl, _⟩ := h; rfl) | (obtain ⟨_, _, rfl, _⟩ := h; rfl) | (obtain ⟨_, _, _, rfl, _⟩ := h; rfl) | (obtain ⟨_, _, _, _, rfl, _⟩ := h; rfl) | (obtain ⟨_, _, _, _, _, rfl, _⟩ := h; rfl) | (obtain ⟨_, _, _, _, _, _, rfl, _⟩ := h; rfl) | (obtain ⟨_, _, _, _, _, _, _, rfl, _⟩ := h; rfl) | (obtain ⟨_, _, _, _, _, _, _, _, rfl, _⟩ := h; rfl) | (obtain ⟨_, _, _, _, _, _, _, _, _, rfl, _⟩ := h; rfl) | (obtain ⟨_, _, _, _, _, _, _, _, _, _, rfl, _⟩ := h; rfl) | (obtain ⟨_, _, _, _, _, _, _, _, _, _, _, rfl, _⟩ := h; rfl) | (obtain ⟨_, _, _, _, _, _, _, _, _, _, _, _, rfl, _⟩ := h; rfl) | (obtain ⟨_, _, _, _, _, _, _, _, _, _, _, _, _, rfl, _⟩ := h; rfl) | exact Mt.tk_len rfl h | (obtain ⟨_, h⟩ := h; exact Mt.tk_len rfl h) | (obtain ⟨_, _, h⟩ := h; exact Mt.tk_len rfl h) | (obtain ⟨_, _, _, h⟩ := h; exact Mt.tk_len rfl h) | (obtain ⟨_, _, _, _, h⟩ := h; exact Mt.tk_len rfl h) | (obtain ⟨_, _, _, _, _, h⟩ := h; exact Mt.tk_len rfl h) | (obtain ⟨_, _, _, _, _, _, h⟩ := h; exact Mt.tk_len rfl h) | (obtain ⟨_, _, _, _, _, _, _, h⟩ := h; exact Mt.tk_len rfl h) | (obtain ⟨_, _, _, _, _, _, _, _, h⟩ := h; exact Mt.tk_len rfl h) | (obtain ⟨_, _, _, _, _, _, _, _, _, h⟩ := h; exact Mt.tk_len rfl h) | (obtain ⟨_, _, _, _, _, _, _, _, _, _, h⟩ := h; exact Mt.tk_len rfl h) | (obtain ⟨_, _, _, _, _, _, _, _, _, _, _, h⟩ := h; exact Mt.tk_len rfl h) | (obtain ⟨_, _, _, _, _, _, _, _, _, _, _, _, h⟩ := h; exact Mt.tk_len rfl h) | (obtain ⟨_, _, _, _, _, _, _, _, _, _, _, _, _, h⟩ := h; exact Mt.tk_len rfl h) | (obtain ⟨_, _, _, _, _, _, _, _, _, _, _, _, _, _, h⟩ := h; exact Mt.tk_len rfl h) | (obtain ⟨_, _, _, _, _, _, _, _, _, _, _, _, _, _, _, h⟩ := h; exact Mt.tk_len rfl h)) | inr h => (first | (obtain ⟨rfl, _⟩ := h; rfl) | (obtain ⟨_, _, _, _, ⟨_, _, rfl, _⟩, _⟩ := h; rfl) | (obtain ⟨_, rfl, _⟩ := h; rfl) | (obtain ⟨_, _, rfl, _⟩ := h; rfl) | (obtain ⟨_, _, _, rfl, _⟩ := h; rfl) | (obtain ⟨_, _, _, _, rfl, _⟩ := h; rfl) | (obtain ⟨_, _, _, _, _, rfl, _⟩ := h; rfl) | (obtain ⟨_, _, _, _, _, _, rfl, _⟩ := h; rfl) | (obtain ⟨_, _, _, _, _, _, _, rfl, _⟩ := h; rfl) | (obtain ⟨_, _, _, _, _, _, _, _, rfl, _⟩ := h; rfl) | (obtain ⟨_, _, _, _, _, _, _, _, _, rfl, _⟩ := h; rfl) | (obtain ⟨_, _, _, _, _, _, _, _, _, _, rfl, _⟩ := h; rfl) | (obtain ⟨_, _, _, _, _, _, _, _, _, _, _, rfl, _⟩ := h; rfl) | (obtain ⟨_, _, _, _, _, _, _, _, _, _, _, _, rfl, _⟩ := h; rfl) | (obtain ⟨_, _, _, _, _, _, _, _, _, _, _, _, _, rfl, _⟩ := h; rfl) | exact Mt.tk_len rfl h | (obtain ⟨_, h⟩ := h; exact Mt.tk_len rfl h) | (obtain ⟨_, _, h⟩ := h; exact Mt.tk_len rfl h) | (obtain ⟨_, _, _, h⟩ := h; exact Mt.tk_len rfl h) | (obtain ⟨_, _, _, _, h⟩ := h; exact Mt.tk_len rfl h) | (obtain ⟨_, _, _, _, _, h⟩ := h; exact Mt.tk_len rfl h) | (obtain ⟨_, _, _, _, _, _, h⟩ := h; exact Mt.tk_len rfl h) | (obtain ⟨_, _, _, _, _, _, _, h⟩ := h; exact Mt.tk_len rfl h) | (obtain ⟨_, _, _, _, _, _, _, _, h⟩ := h; exact Mt.tk_len rfl h) | (obtain ⟨_, _, _, _, _, _, _, _, _, h⟩ := h; exact Mt.tk_len rfl h) | (obtain ⟨_, _, _, _, _, _, _, _, _, _, h⟩ := h; exact Mt.tk_len rfl h) | (obtain ⟨_, _, _, _, _, _, _, _, _, _, _, h⟩ := h; exact Mt.tk_len rfl h) | (obtain ⟨_, _, _, _, _, _, _, _, _, _, _, _, h⟩ := h; exact Mt.tk_len rfl h) | (obtain ⟨_, _, _, _, _, _, _, _, _, _, _, _, _, h⟩ := h; exact Mt.tk_len rfl h) | (obtain ⟨_, _, _, _, _, _, _, _, _, _, _, _, _, _, h⟩ := h; exact Mt.tk_len rfl h) | (obtain ⟨_, _, _, _, _, _, _, _, _, _, _, _, _, _, _, h⟩ := h; exact Mt.tk_len rfl h))) | (first | (obtain ⟨rfl, _⟩ := h; rfl) | (obtain ⟨_, _, _, _, ⟨_, _, rfl, _⟩, _⟩ := h; rfl) | (obtain ⟨_, rfl, _⟩ := h; rfl) | (obtain ⟨_, _, rfl, _⟩ := h; rfl) | (obtain ⟨_, _, _, rfl, _⟩ := h; rfl) | (obtain ⟨_, _, _, _, rfl, _⟩ := h; rfl) | (obtain ⟨_, _, _, _, _, rfl, _⟩ := h; rfl) | (obtain ⟨_, _, _, _, _, _, rfl, _⟩ := h; rfl) | (obtain ⟨_, _, _, _, _, _, _, rfl, _⟩ := h; rfl) | (obtain ⟨_, _, _, _, _, _, _, _, rfl, _⟩ := h; rfl) | (obtain ⟨_, _, _, _, _, _, _, _, _, rfl, _⟩ := h; rfl) | (obtain ⟨_, _, _, _, _, _, _, _, _, _, rfl, _⟩ := h; rfl) | (obtain ⟨_, _, _, _, _, _, _, _, _, _, _, rfl, _⟩ := h; rfl) | (obtain ⟨_, _, _, _, _, _, _, _, _, _, _, _, rfl, _⟩ := h; rfl) | (obtain ⟨_, _, _, _, _, _, _, _, _, _, _, _, _, rfl, _⟩ := h; rfl) | exact Mt.tk_len rfl h | (obtain ⟨_, h⟩ := h; exact Mt.tk_len rfl h) | (obtain ⟨_, _, h⟩ := h; exact Mt.tk_len rfl h) | (obtain ⟨_, _, _, h⟩ := h; exact Mt.tk_len rfl h) | (obtain ⟨_, _, _, _, h⟩ := h; exact Mt.tk_len rfl h) | (obtain ⟨_, _, _, _, _, h⟩ := h; exact Mt.tk_len rfl h) | (obtain ⟨_, _, _, _, _, _, h⟩ := h; exact Mt.tk_len rfl h) | (obtain ⟨_, _, _, _, _, _, _, h⟩ := h; exact Mt.tk_len rfl h) | (obtain ⟨_, _, _, _, _, _, _, _, h⟩ := h; exact Mt.tk_len rfl h) | (obtain ⟨_, _, _, _, _, _, _, _, _, h⟩ := h; exact Mt.tk_len rfl h) | (obtain ⟨_, _, _, _, _, _, _, _, _, _, h⟩ := h; exact Mt.tk_len rfl h) | (obtain ⟨_, _, _, _, _, _, _, _, _, _, _, h⟩ := h; exact Mt.tk_len rfl h) | (obtain ⟨_, _, _, _, _, _, _, _, _, _, _, _, h⟩ := h; exact Mt.tk_len rfl h) | (obtain ⟨_, _, _, _, _, _, _, _, _, _, _, _, _, h⟩ := h; exact Mt.tk_len rfl h) | (obtain ⟨_, _, _, _, _, _, _, _, _, _, _, _, _, _, h⟩ := h; exact Mt.tk_len rfl h) | (obtain ⟨_, _, _, _, _, _, _, _, _, _, _, _, _, _, _, h⟩ := h; exact Mt.tk_len rfl h))) (g_law K ⟨(He.ga K "Backward"), (He.ga K "Book")⟩) (fun cdv A outer s H E hr => t_law T (ok_Book_eq T) (ok_Book_init T) (ok_Book_str T) (ok_Book_rows T) (ok_Book_write T) (ok__law_backward T) (ok__law_draw T) (ok__law_feed T) (ok__law_looks T) (ok__law_names T) (ok__law_otherwise T) (ok__law_rows T) hr) (fun ds S q _ _ h => r_law T ds S q h)⟩
  obtain ⟨oc, od, dV, kV, doc, pm, an, cdv, ct, osl, rfl, lk, hcd, df, kw⟩ := F.ex
  rcases df with ⟨_, rfl⟩ | ⟨z, _⟩
  · exact .of_eq rfl
  · exact absurd rfl z
theorem start_law {K : PySem.W.Frag} {H : Hp} {a : Addr} {ns : List Int} (hS : SqL K H a (ns.map V.int)) : spOf K sp_law [.ref a] H (fun v _ => v = .bl true) fun _ _ _ => False := by
  have hv : ∀ b o, H b = some o → vis (fun _ => a) [] (fun _ => False) H b = some o := fun b o e => vis_of e (fun z => z) fun n ⟨o, l⟩ => by simp at l
  refine ⟨fun _ => a, [], fun _ => False, [.ksq (ns.map .int)], fun d _ => d = .bl true, Wd0.u0 ⟨fun i j ⟨o, l⟩ => by simp at l, fun i ⟨o, l⟩ => by simp at l, fun b z => z.elim, fun i o l => by simp at l⟩, ?_, ⟨ns, rfl, rfl, fun _ => rfl⟩, ?_⟩
  · exact Reps.one (by rw [Rep]; exact ⟨a, _, rfl, SqL.sub hv hS, Reps.ofInts ns⟩)
  · intro v H' m' d S' e w r hd
    subst hd
    exact r
end Lw
open PySem PySem.W PySem.Calls PyProof.Rows in
set_option maxRecDepth 100000 in
set_option maxHeartbeats 0 in
theorem PySem.Challenge.cw_boatbridge_k68_books_as_objects_holds : PySem.Challenge.rw_boatbridge_k68_books_as_objects.Holds := by
  w_on; o_law
  refine HandSHeadRun.head_any (r := OpenLaw.row PySem.Challenge.rw_boatbridge_k68_books_as_objects) (q := view (OpenLaw.row PySem.Challenge.rw_boatbridge_k68_books_as_objects).prog [21]) (H := Lw.hk) (ob := Lw.hob) (M := 60000) (loose := Lw.hnames) (d := HandSHeadRun.topDef (OpenLaw.row PySem.Challenge.rw_boatbridge_k68_books_as_objects).prog 21) (kwd := []) Lw.hob_eq
    (by kernel_rfl) (fun s => by kernel_rfl) Lw.hrun (by kernel_rfl) (by kernel_rfl) (by kernel_rfl) (by rfl) (by first | assumption | decide +kernel) (by decide +kernel) ⟨rfl, rfl, rfl, rfl, rfl, by decide +kernel⟩ ?hw ?hc
  case hw => w_witness2
  case hc =>
    refine Hd.walk_ofQ (l := PySem.Challenge.rw_boatbridge_k68_books_as_objects) (n := 63) (k := 7) (x := "_law_script") (sp := fun K => Dl.spOf K Lw.sp_law) rfl (by decide) (by kernel_rfl) ⟨rfl, by decide, by decide⟩ ?F (fun K H a ns hl _ hS => Lw.start_law hS)
    intro w mg fa h Y G hmg0
    obtain ⟨K, KX, c⟩ := Y
    have hmg : mg ("law" : PySem.Str) = some (.ref fa) := by
      have e : (HandSHeadRun.topDef (OpenLaw.row PySem.Challenge.rw_boatbridge_k68_books_as_objects).prog 21).name = ("law" : PySem.Str) := by kernel_rfl
      rw [← e]
      exact hmg0
    obtain ⟨fd, hb, hF⟩ := Lw.all_mk (l := PySem.Challenge.rw_boatbridge_k68_books_as_objects) (w := w) KX G hmg c
    exact ⟨K, fd, KX, hb, hF⟩
#print axioms PySem.Challenge.cw_boatbridge_k68_books_as_objects_holds
