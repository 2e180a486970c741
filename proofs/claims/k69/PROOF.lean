import PyProof.Rows.All
import Wide.All
import OpenK.AllK
import Wide.FinOn
import HandS.ForMost
import HandS.TupAny
import HandS.Codes
import HandS.Flow
import HandS.Defaults
import HandS.MakeKw
import HandS.ExcOwn
import HandS.Wide
import HandS.FStr
import HandS.StrMore
import HandS.IsInst
import HandS.Small
import HandS.Style
import KE.SortData
import KE.DataFind
import OpenK.KOps
import HandS.OwnEq
import PyProof.InstEq
import HandS.Sort
import HandS.More
import PyProof.ReprRoads
import PyProof.StrLawsRepr
import HandS.IntHex
import HandS.Exc
import HandS.ListItems
import HandS.TryOnly
import HandS.SortKw
import KE.DataMinMax
import KE.KDictItemsList
import KE.KDictExact
import HandS.Deep
import HandS.ExcInit
import HandS.ExcSuper
import HandS.ExcBuiltin
import HandS.ExcField
import KE.KExcIs
import HandS.WordsExc
import HandS.ExcIs
import PyProof.ExcBaseAll.NotImplementedError
import PyProof.ExcBaseAll.OverflowError
import PyProof.ExcBaseAll.ArithmeticError
import PyProof.ExcBaseAll.TypeError
import PyProof.ExcBaseAll.ValueError
import PyProof.ExcBaseAll.ZeroDivisionError
import PyProof.ExcBaseAll.RuntimeError
import PyProof.ExcBaseAll.Exception
import PyProof.ExcBaseAll.IndexError
import PyProof.ExcBaseAll.LookupError
import KE.GoesEnumKw
import KE.KDictZip
import HandS.Zip
import HandS.Conv
import HandS.Remove
import HandS.SetKeys
import HandS.Strs
import KE.KDictList
import KE.KStateDown
import HandS.Head0
import HandS.Head1
import HandS.Head2
import HandS.HeadEnd
import HandS.HeadHook1
import HandS.HeadHook2
import PySem.Challenge.RW_boatbridge_k69_books_written_and_read
set_option Elab.async false
set_option linter.all false
set_option maxRecDepth 100000
set_option maxHeartbeats 4000000
namespace Dl
open PySem L2
/-- an exception's class: an own one, a built-in one -/
inductive XC where
  | own (C : Addr) | blt (n : String)
  deriving DecidableEq
def XC.val : XC → Value
  | .own C => .ref C
  | .blt n => .type n
/-- plain data -/
inductive D where
  | non | bl (b : Bool) | int (i : Int) | str (x : Str)
  | tup (ds : List D) | lst (ds : List D) | ksq (ds : List D)
  | obj (C : Addr) (ks : List Str) (ds : List D)
  | dic (ks : List Key) (ds : List D)
  | loc (n : Nat) | ref (a : Addr) | ty (n : String)
  | exc (c : XC) (ks : List Str) (ds : List D)
/-- mutable objects -/
inductive MO where
  | lst (ds : List D)
  | obj (C : Addr) (ks : List Str) (ds : List D)
  | dic (ks : List Key) (ds : List D)
  | dicT (ks : List (List Key)) (ds : List D)
abbrev Sto := List (Option MO)
abbrev Env_ := List (Option D)
/-- an exception's object that is kept -/
def excO (cls : Value) (d : Option Addr) (a : Addr) : HO := .ext fun h => ∃ (oe : Obj) (vs : Array Value), h.get? a = some oe ∧ oe.cls = cls ∧ oe.dict = d ∧ oe.data = .fields vs
/-- its fields -/
def Xd (Hv : Hp) (d : Option Addr) (fs : List (Str × V)) : Prop := match d with
  | some dd => Hv dd = some (.xd fs)
  | none => fs = []
theorem Xd.sub {H H' : Hp} {d : Option Addr} {fs : List (Str × V)} (h : ∀ a o, H a = some o → H' a = some o) (r : Xd H d fs) : Xd H' d fs := by
  cases d with
  | none => exact r
  | some dd => exact h _ _ r
section
variable (K : PySem.W.Frag) (m : Nat → Addr) (N : Nat) (Hv : Hp)
mutual
def Rep : D → V → Prop
  | .non, v => v = .non
  | .bl b, v => v = .bl b
  | .int i, v => v = .int i
  | .str x, v => v = .str x
  | .tup ds, v => ∃ a vs, v = .ref a ∧ SqT K Hv a vs ∧ Reps ds vs
  | .lst ds, v => ∃ a vs, v = .ref a ∧ Hv a = some (.lst vs) ∧ Reps ds vs
  | .ksq ds, v => ∃ a vs, v = .ref a ∧ SqL K Hv a vs ∧ Reps ds vs
  | .obj C ks ds, v => ∃ a dx vs, v = .ref a ∧ Hv a = some (.ins C dx (ks.zip vs)) ∧ ks.length = vs.length ∧ Reps ds vs
  | .dic ks ds, v => ∃ a vs, v = .ref a ∧ Hv a = some (.dK (ks.zip vs)) ∧ ks.length = vs.length ∧ Reps ds vs
  | .loc n, v => v = .ref (m n) ∧ n < N
  | .ref a, v => v = .ref a
  | .ty n, v => v = .ty n
  | .exc c ks ds, v => ∃ a dd vs, v = .ref a ∧ Hv a = some (excO c.val dd a) ∧ Xd Hv dd (ks.zip vs) ∧ ks.length = vs.length ∧ Reps ds vs
def Reps : List D → List V → Prop
  | [], vs => vs = []
  | d :: ds, vs => ∃ v r, vs = v :: r ∧ Rep d v ∧ Reps ds r
end
end
theorem SqT.sub {K : PySem.W.Frag} {H H' : Hp} {a : Addr} {vs : List V} (h : ∀ a o, H a = some o → H' a = some o) (r : SqT K H a vs) : SqT K H' a vs := by
  rcases r with (r | ⟨o, r⟩) | r
  · exact .inl (.inl (h _ _ r))
  · exact .inl (.inr ⟨o, h _ _ r⟩)
  · exact .inr r
theorem SqL.sub {K : PySem.W.Frag} {H H' : Hp} {a : Addr} {vs : List V} (h : ∀ a o, H a = some o → H' a = some o) (r : SqL K H a vs) : SqL K H' a vs := by
  rcases r with (r | ⟨o, r⟩) | r
  · exact .inl (.inl (h _ _ r))
  · exact .inl (.inr ⟨o, h _ _ r⟩)
  · exact .inr r
section
variable {K : PySem.W.Frag} {m m' : Nat → Addr} {N N' : Nat} {H H' : Hp}
mutual
theorem Rep.mono (hm : ∀ i, i < N → m' i = m i) (hN : N ≤ N') (hh : ∀ a o, H a = some o → H' a = some o) : ∀ {d : D} {v : V}, Rep K m N H d v → Rep K m' N' H' d v
  | .non, _, r => r
  | .bl _, _, r => r
  | .int _, _, r => r
  | .str _, _, r => r
  | .tup ds, _, r => by
    obtain ⟨a, vs, e, s, q⟩ := r
    exact ⟨a, vs, e, SqT.sub hh s, Reps.mono hm hN hh q⟩
  | .lst ds, _, r => by
    obtain ⟨a, vs, e, s, q⟩ := r
    exact ⟨a, vs, e, hh _ _ s, Reps.mono hm hN hh q⟩
  | .ksq ds, _, r => by
    obtain ⟨a, vs, e, s, q⟩ := r
    exact ⟨a, vs, e, SqL.sub hh s, Reps.mono hm hN hh q⟩
  | .obj C ks ds, _, r => by
    obtain ⟨a, dx, vs, e, s, l, q⟩ := r
    exact ⟨a, dx, vs, e, hh _ _ s, l, Reps.mono hm hN hh q⟩
  | .dic ks ds, _, r => by
    obtain ⟨a, vs, e, s, l, q⟩ := r
    exact ⟨a, vs, e, hh _ _ s, l, Reps.mono hm hN hh q⟩
  | .loc n, _, r => ⟨by rw [r.1, hm n r.2], Nat.lt_of_lt_of_le r.2 hN⟩
  | .ref _, _, r => r
  | .ty _, _, r => r
  | .exc c ks ds, _, r => by
    obtain ⟨a, dd, vs, e, s, x, l, q⟩ := r
    exact ⟨a, dd, vs, e, hh _ _ s, x.sub hh, l, Reps.mono hm hN hh q⟩
theorem Reps.mono (hm : ∀ i, i < N → m' i = m i) (hN : N ≤ N') (hh : ∀ a o, H a = some o → H' a = some o) : ∀ {ds : List D} {vs : List V}, Reps K m N H ds vs → Reps K m' N' H' ds vs
  | [], _, r => r
  | d :: ds, _, r => by
    obtain ⟨v, q, e, r1, r2⟩ := r
    exact ⟨v, q, e, Rep.mono hm hN hh r1, Reps.mono hm hN hh r2⟩
end
theorem Reps.len : ∀ {ds : List D} {vs : List V}, Reps K m N H ds vs → vs.length = ds.length
  | [], _, r => by rw [show _ = [] from r]; rfl
  | d :: ds, _, r => by
    obtain ⟨v, q, e, r1, r2⟩ := r
    rw [e, List.length_cons, List.length_cons, Reps.len r2]
theorem Reps.get : ∀ {ds : List D} {vs : List V} {i : Nat} {d : D}, Reps K m N H ds vs → ds[i]? = some d → ∃ v, vs[i]? = some v ∧ Rep K m N H d v
  | [], _, _, _, _, e => by simp at e
  | d :: ds, _, 0, _, r, e => by
    obtain ⟨v, q, e1, r1, r2⟩ := r
    rw [List.getElem?_cons_zero] at e
    cases e
    exact ⟨v, by rw [e1]; rfl, r1⟩
  | d :: ds, _, i + 1, _, r, e => by
    obtain ⟨v, q, e1, r1, r2⟩ := r
    rw [List.getElem?_cons_succ] at e
    obtain ⟨w, h1, h2⟩ := Reps.get r2 e
    exact ⟨w, by rw [e1, List.getElem?_cons_succ]; exact h1, h2⟩
theorem Reps.append : ∀ {ds es : List D} {vs ws : List V}, Reps K m N H ds vs → Reps K m N H es ws → Reps K m N H (ds ++ es) (vs ++ ws)
  | [], _, _, _, r, s => by rw [show _ = [] from r]; exact s
  | d :: ds, _, _, _, r, s => by
    obtain ⟨v, q, e1, r1, r2⟩ := r
    rw [e1]
    exact ⟨v, _, rfl, r1, Reps.append r2 s⟩
theorem Reps.nil : Reps K m N H [] [] := rfl
theorem Reps.one {d : D} {v : V} (r : Rep K m N H d v) : Reps K m N H [d] [v] := ⟨v, [], rfl, r, rfl⟩
theorem Reps.cons {d : D} {v : V} {ds : List D} {vs : List V} (r : Rep K m N H d v) (s : Reps K m N H ds vs) : Reps K m N H (d :: ds) (v :: vs) := ⟨v, vs, rfl, r, s⟩
theorem Reps.take : ∀ {ds : List D} {vs : List V} (n : Nat), Reps K m N H ds vs → Reps K m N H (ds.take n) (vs.take n)
  | [], _, n, r => by rw [show _ = [] from r]; simp [Reps]
  | d :: ds, _, 0, r => by simp [Reps]
  | d :: ds, _, n + 1, r => by
    obtain ⟨v, q, e1, r1, r2⟩ := r
    rw [e1]
    exact ⟨v, _, rfl, r1, Reps.take n r2⟩
theorem Reps.drop : ∀ {ds : List D} {vs : List V} (n : Nat), Reps K m N H ds vs → Reps K m N H (ds.drop n) (vs.drop n)
  | [], _, n, r => by rw [show _ = [] from r]; simp [Reps]
  | d :: ds, _, 0, r => r
  | d :: ds, _, n + 1, r => by
    obtain ⟨v, q, e1, r1, r2⟩ := r
    rw [e1]
    exact Reps.drop n r2
theorem Reps.set : ∀ {ds : List D} {vs : List V} (n : Nat) {d : D} {v : V}, Reps K m N H ds vs → Rep K m N H d v → Reps K m N H (ds.set n d) (vs.set n v)
  | [], _, n, _, _, r, _ => by rw [show _ = [] from r]; simp [Reps]
  | d :: ds, _, 0, _, _, r, s => by
    obtain ⟨v, q, e1, r1, r2⟩ := r
    rw [e1]
    exact ⟨_, _, rfl, s, r2⟩
  | d :: ds, _, n + 1, _, _, r, s => by
    obtain ⟨v, q, e1, r1, r2⟩ := r
    rw [e1]
    exact ⟨v, _, rfl, r1, Reps.set n r2 s⟩
/-- ints, texts -/
theorem Reps.ints : ∀ {ns : List Int} {vs : List V}, Reps K m N H (ns.map D.int) vs → vs = ns.map V.int
  | [], _, r => r
  | n :: ns, _, r => by
    obtain ⟨v, q, e1, r1, r2⟩ := r
    rw [e1, show v = V.int n from r1, Reps.ints r2]
    rfl
theorem Reps.ofInts : ∀ (ns : List Int), Reps K m N H (ns.map D.int) (ns.map V.int)
  | [] => rfl
  | n :: ns => ⟨_, _, rfl, rfl, Reps.ofInts ns⟩
theorem Reps.strs : ∀ {ns : List Str} {vs : List V}, Reps K m N H (ns.map D.str) vs → vs = ns.map V.str
  | [], _, r => r
  | n :: ns, _, r => by
    obtain ⟨v, q, e1, r1, r2⟩ := r
    rw [e1, show v = V.str n from r1, Reps.strs r2]
    rfl
theorem Reps.ofStrs : ∀ (ns : List Str), Reps K m N H (ns.map D.str) (ns.map V.str)
  | [] => rfl
  | n :: ns => ⟨_, _, rfl, rfl, Reps.ofStrs ns⟩
end
def Live (S : Sto) (n : Nat) : Prop := ∃ o, S[n]? = some (some o)
open Classical in
noncomputable def vis (m : Nat → Addr) (S : Sto) (Z : Addr → Prop) (H : Hp) : Hp := fun a => if Z a ∨ (∃ n, Live S n ∧ m n = a) then none else H a
theorem vis_sub {m : Nat → Addr} {S : Sto} {Z : Addr → Prop} {H : Hp} {a : Addr} {o : HO} (h : vis m S Z H a = some o) : H a = some o := by
  unfold vis at h
  split at h
  · cases h
  · exact h
theorem vis_of {m : Nat → Addr} {S : Sto} {Z : Addr → Prop} {H : Hp} {a : Addr} {o : HO} (h : H a = some o) (hz : ¬ Z a) (hl : ∀ n, Live S n → m n ≠ a) : vis m S Z H a = some o := by
  unfold vis
  rw [if_neg]
  · exact h
  · rintro (z | ⟨n, l, e⟩)
    · exact hz z
    · exact hl n l e
theorem vis_not {m : Nat → Addr} {S : Sto} {Z : Addr → Prop} {H : Hp} {a : Addr} {o : HO} (h : vis m S Z H a = some o) : ¬ Z a ∧ ∀ n, Live S n → m n ≠ a := by
  unfold vis at h
  split at h
  · cases h
  · rename_i q
    exact ⟨fun z => q (.inl z), fun n l e => q (.inr ⟨n, l, e⟩)⟩
section
variable (K : PySem.W.Frag) (m : Nat → Addr) (N : Nat) (Hv H : Hp)
def RepM : MO → Addr → Prop
  | .lst ds, a => ∃ vs, H a = some (.lst vs) ∧ Reps K m N Hv ds vs
  | .obj C ks ds, a => ∃ dx vs, H a = some (.ins C dx (ks.zip vs)) ∧ ks.length = vs.length ∧ Reps K m N Hv ds vs
  | .dic ks ds, a => ∃ vs, H a = some (.dK (ks.zip vs)) ∧ ks.length = vs.length ∧ Reps K m N Hv ds vs
  | .dicT ks ds, a => ∃ vs, H a = some (.dT (ks.zip vs)) ∧ ks.length = vs.length ∧ Reps K m N Hv ds vs
end
theorem RepM.mono {K : PySem.W.Frag} {m m' : Nat → Addr} {N N' : Nat} {Hv Hv' H H' : Hp} {o : MO} {a a' : Addr} (hm : ∀ i, i < N → m' i = m i) (hN : N ≤ N') (hh : ∀ a o, Hv a = some o → Hv' a = some o) (ha : H' a' = H a)
    (r : RepM K m N Hv H o a) : RepM K m' N' Hv' H' o a' := by
  cases o with
  | lst ds => obtain ⟨vs, e, q⟩ := r; exact ⟨vs, ha.trans e, Reps.mono hm hN hh q⟩
  | obj C ks ds => obtain ⟨dx, vs, e, l, q⟩ := r; exact ⟨dx, vs, ha.trans e, l, Reps.mono hm hN hh q⟩
  | dic ks ds => obtain ⟨vs, e, l, q⟩ := r; exact ⟨vs, ha.trans e, l, Reps.mono hm hN hh q⟩
  | dicT ks ds => obtain ⟨vs, e, l, q⟩ := r; exact ⟨vs, ha.trans e, l, Reps.mono hm hN hh q⟩
theorem RepM.there {K : PySem.W.Frag} {m : Nat → Addr} {N : Nat} {Hv H : Hp} {o : MO} {a : Addr} (r : RepM K m N Hv H o a) : ∃ u, H a = some u := by
  cases o with
  | lst ds => obtain ⟨vs, e, q⟩ := r; exact ⟨_, e⟩
  | obj C ks ds => obtain ⟨dx, vs, e, l, q⟩ := r; exact ⟨_, e⟩
  | dic ks ds => obtain ⟨vs, e, l, q⟩ := r; exact ⟨_, e⟩
  | dicT ks ds => obtain ⟨vs, e, l, q⟩ := r; exact ⟨_, e⟩
structure Wd0 (K : PySem.W.Frag) (m : Nat → Addr) (S : Sto) (Z : Addr → Prop) (H : Hp) : Prop where
  inj : ∀ i j, Live S i → Live S j → m i = m j → i = j
  zz : ∀ i, Live S i → ¬ Z (m i)
  zh : ∀ a, Z a → ∃ o, H a = some o
  rep : ∀ i o, S[i]? = some (some o) → RepM K m S.length (vis m S Z H) H o (m i)
structure Ext (m : Nat → Addr) (S : Sto) (Z : Addr → Prop) (H : Hp) (m' : Nat → Addr) (S' : Sto) (H' : Hp) : Prop where
  len : S.length ≤ S'.length
  loc : ∀ i, i < S.length → m' i = m i
  vis : ∀ a o, vis m S Z H a = some o → vis m' S' Z H' a = some o
  zed : ∀ a, Z a → H' a = H a
section
variable {K : PySem.W.Frag} {m m1 m2 : Nat → Addr} {S S1 S2 : Sto} {Z : Addr → Prop} {H H1 H2 : Hp}
theorem Ext.refl : Ext m S Z H m S H := ⟨Nat.le_refl _, fun _ _ => rfl, fun _ _ h => h, fun _ _ => rfl⟩
theorem Ext.trans (a : Ext m S Z H m1 S1 H1) (b : Ext m1 S1 Z H1 m2 S2 H2) : Ext m S Z H m2 S2 H2 :=
  ⟨Nat.le_trans a.len b.len, fun i h => (b.loc i (Nat.lt_of_lt_of_le h a.len)).trans (a.loc i h), fun x o h => b.vis x o (a.vis x o h), fun x h => (b.zed x h).trans (a.zed x h)⟩
theorem Rep.ext {d : D} {v : V} (e : Ext m S Z H m1 S1 H1) (r : Rep K m S.length (vis m S Z H) d v) : Rep K m1 S1.length (vis m1 S1 Z H1) d v := Rep.mono e.loc e.len e.vis r
theorem Reps.ext {d : List D} {v : List V} (e : Ext m S Z H m1 S1 H1) (r : Reps K m S.length (vis m S Z H) d v) : Reps K m1 S1.length (vis m1 S1 Z H1) d v := Reps.mono e.loc e.len e.vis r
theorem Wd0.live (w : Wd0 K m S Z H) {i : Nat} (l : Live S i) : ∃ o, H (m i) = some o := by
  obtain ⟨o, e⟩ := l
  exact (w.rep i o e).there
theorem Wd0.fresh (w : Wd0 K m S Z H) {p : Addr} (hp : H p = none) : ¬ Z p ∧ ∀ n, Live S n → m n ≠ p := by
  refine ⟨fun z => ?_, fun n l e => ?_⟩
  · obtain ⟨o, q⟩ := w.zh p z
    rw [hp] at q; cases q
  · obtain ⟨o, q⟩ := w.live l
    rw [e, hp] at q; cases q
/-- a new object that is no part of the store -/
theorem Wd0.new (w : Wd0 K m S Z H) {p : Addr} {o : HO} (hp : H p = none) : Wd0 K m S Z (upd H p o) ∧ Ext m S Z H m S (upd H p o) ∧ vis m S Z (upd H p o) p = some o := by
  obtain ⟨nz, nl⟩ := w.fresh hp
  have hv : ∀ a u, vis m S Z H a = some u → vis m S Z (upd H p o) a = some u := fun a u h => by
    obtain ⟨z1, z2⟩ := vis_not h
    exact vis_of (by rw [upd_ne (ne_of_none (vis_sub h) hp)]; exact vis_sub h) z1 z2
  have hz : ∀ a, Z a → upd H p o a = H a := fun a z => upd_ne (fun e => nz (e ▸ z))
  refine ⟨⟨w.inj, w.zz, fun a z => ?_, fun i x e => ?_⟩, ⟨Nat.le_refl _, fun _ _ => rfl, hv, hz⟩, vis_of upd_same nz nl⟩
  · rw [hz a z]; exact w.zh a z
  · exact (w.rep i x e).mono (fun _ _ => rfl) (Nat.le_refl _) hv (upd_ne (nl i ⟨x, e⟩))
/-- a new object of the store -/
theorem Wd0.add (w : Wd0 K m S Z H) {p : Addr} {o : HO} {mo : MO} (hp : H p = none) (hr : ∀ m1 N1 Hv1, (∀ i, i < S.length → m1 i = m i) → S.length ≤ N1 → (∀ a u, vis m S Z H a = some u → Hv1 a = some u) → RepM K m1 N1 Hv1 (upd H p o) mo p) :
    ∃ m', m' S.length = p ∧ Wd0 K m' (S ++ [some mo]) Z (upd H p o) ∧ Ext m S Z H m' (S ++ [some mo]) (upd H p o) := by
  obtain ⟨nz, nl⟩ := w.fresh hp
  let m' : Nat → Addr := fun i => if i = S.length then p else m i
  have e0 : m' S.length = p := if_pos rfl
  have e1 : ∀ i, i < S.length → m' i = m i := fun i h => if_neg (Nat.ne_of_lt h)
  have lv : ∀ i, Live (S ++ [some mo]) i → (i < S.length ∧ Live S i) ∨ i = S.length := fun i ⟨x, e⟩ => by
    by_cases h : i < S.length
    · exact .inl ⟨h, x, by rw [List.getElem?_append_left h] at e; exact e⟩
    · right
      have := (List.getElem?_eq_some_iff.mp e).1
      rw [List.length_append, List.length_singleton] at this
      omega
  have hv : ∀ a u, vis m S Z H a = some u → vis m' (S ++ [some mo]) Z (upd H p o) a = some u := fun a u h => by
    obtain ⟨z1, z2⟩ := vis_not h
    have nap : a ≠ p := ne_of_none (vis_sub h) hp
    refine vis_of (by rw [upd_ne nap]; exact vis_sub h) z1 fun n l => ?_
    rcases lv n l with ⟨hn, l⟩ | rfl
    · rw [e1 n hn]; exact z2 n l
    · rw [e0]; exact nap.symm
  have hz : ∀ a, Z a → upd H p o a = H a := fun a z => upd_ne (fun e => nz (e ▸ z))
  have len : (S ++ [some mo]).length = S.length + 1 := by simp
  refine ⟨m', e0, ⟨fun i j li lj e => ?_, fun i li => ?_, fun a z => by rw [hz a z]; exact w.zh a z, fun i x e => ?_⟩, ⟨by omega, e1, hv, hz⟩⟩
  · rcases lv i li with ⟨hi, li⟩ | rfl <;> rcases lv j lj with ⟨hj, lj⟩ | rfl
    · rw [e1 i hi, e1 j hj] at e; exact w.inj i j li lj e
    · rw [e1 i hi, e0] at e; exact absurd e (nl i li)
    · rw [e0, e1 j hj] at e; exact absurd e.symm (nl j lj)
    · rfl
  · rcases lv i li with ⟨hi, li⟩ | rfl
    · rw [e1 i hi]; exact w.zz i li
    · rw [e0]; exact nz
  · rw [len]
    rcases lv i ⟨x, e⟩ with ⟨hi, li⟩ | rfl
    · rw [List.getElem?_append_left hi] at e
      exact (w.rep i x e).mono e1 (Nat.le_succ _) hv (by rw [e1 i hi]; exact upd_ne (nl i li))
    · rw [List.getElem?_append_right (Nat.le_refl _), Nat.sub_self, List.getElem?_cons_zero] at e
      cases e
      rw [e0]
      exact hr m' _ _ e1 (Nat.le_succ _) hv
/-- an object of the store changes -/
theorem Wd0.upd (w : Wd0 K m S Z H) {n : Nat} {o : HO} {mo : MO} (l : Live S n) (hr : RepM K m S.length (vis m S Z H) (upd H (m n) o) mo (m n)) :
    Wd0 K m (S.set n (some mo)) Z (upd H (m n) o) ∧ Ext m S Z H m (S.set n (some mo)) (upd H (m n) o) ∧ vis m (S.set n (some mo)) Z (upd H (m n) o) = vis m S Z H := by
  have hn : n < S.length := by obtain ⟨x, e⟩ := l; exact (List.getElem?_eq_some_iff.mp e).1
  have lv : ∀ i, Live (S.set n (some mo)) i ↔ Live S i := fun i => by
    unfold Live
    by_cases h : n = i
    · subst h
      rw [List.getElem?_set_self hn]
      exact ⟨fun _ => l, fun _ => ⟨_, rfl⟩⟩
    · rw [List.getElem?_set_ne h]
  have hv : vis m (S.set n (some mo)) Z (L2.upd H (m n) o) = vis m S Z H := by
    funext a
    unfold vis
    have e : (∃ k, Live (S.set n (some mo)) k ∧ m k = a) ↔ ∃ k, Live S k ∧ m k = a := ⟨fun ⟨k, q, e⟩ => ⟨k, (lv k).mp q, e⟩, fun ⟨k, q, e⟩ => ⟨k, (lv k).mpr q, e⟩⟩
    by_cases c : Z a ∨ ∃ k, Live S k ∧ m k = a
    · rw [if_pos c, if_pos (by rw [e]; exact c)]
    · rw [if_neg c, if_neg (by rw [e]; exact c)]
      exact upd_ne (fun q => c (.inr ⟨n, l, q.symm⟩))
  have hz : ∀ a, Z a → L2.upd H (m n) o a = H a := fun a z => upd_ne (fun e => w.zz n l (e ▸ z))
  refine ⟨⟨fun i j li lj => w.inj i j ((lv i).mp li) ((lv j).mp lj), fun i li => w.zz i ((lv i).mp li), fun a z => by rw [hz a z]; exact w.zh a z, fun i x e => ?_⟩, ⟨by rw [List.length_set]; exact Nat.le_refl _, fun _ _ => rfl, fun a u h => by rw [hv]; exact h, hz⟩, hv⟩
  rw [hv, List.length_set]
  by_cases h : n = i
  · subst h
    rw [List.getElem?_set_self hn] at e
    cases e
    exact hr
  · rw [List.getElem?_set_ne h] at e
    exact (w.rep i x e).mono (fun _ _ => rfl) (Nat.le_refl _) (fun _ _ q => q) (upd_ne (fun q => h (w.inj i n ⟨x, e⟩ l q).symm))
end
mutual
def D.under (n : Nat) : D → Bool
  | .tup ds => D.unders n ds
  | .lst ds => D.unders n ds
  | .ksq ds => D.unders n ds
  | .obj _ _ ds => D.unders n ds
  | .dic _ ds => D.unders n ds
  | .loc k => decide (k < n)
  | .exc _ _ ds => D.unders n ds
  | .non => true | .bl _ => true | .int _ => true | .str _ => true | .ref _ => true | .ty _ => true
def D.unders (n : Nat) : List D → Bool
  | [] => true
  | d :: ds => D.under n d && D.unders n ds
end
def MO.under (n : Nat) : MO → Bool
  | .lst ds => D.unders n ds
  | .obj _ _ ds => D.unders n ds
  | .dic _ ds => D.unders n ds
  | .dicT _ ds => D.unders n ds
def Sto.under (n : Nat) (S : Sto) : Bool := S.all fun o => match o with | none => true | some x => x.under n
section
variable {K : PySem.W.Frag} {m : Nat → Addr} {N n : Nat} {H : Hp}
mutual
theorem Rep.cut (hn : n ≤ N) : ∀ {d : D} {v : V}, Rep K m N H d v → d.under n = true → Rep K m n H d v
  | .non, _, r, _ => r
  | .bl _, _, r, _ => r
  | .int _, _, r, _ => r
  | .str _, _, r, _ => r
  | .tup ds, _, r, b => by
    obtain ⟨a, vs, e, s, q⟩ := r
    exact ⟨a, vs, e, s, Reps.cut hn q b⟩
  | .lst ds, _, r, b => by
    obtain ⟨a, vs, e, s, q⟩ := r
    exact ⟨a, vs, e, s, Reps.cut hn q b⟩
  | .ksq ds, _, r, b => by
    obtain ⟨a, vs, e, s, q⟩ := r
    exact ⟨a, vs, e, s, Reps.cut hn q b⟩
  | .obj C ks ds, _, r, b => by
    obtain ⟨a, dx, vs, e, s, l, q⟩ := r
    exact ⟨a, dx, vs, e, s, l, Reps.cut hn q b⟩
  | .dic ks ds, _, r, b => by
    obtain ⟨a, vs, e, s, l, q⟩ := r
    exact ⟨a, vs, e, s, l, Reps.cut hn q b⟩
  | .loc k, _, r, b => ⟨r.1, by simpa [D.under] using b⟩
  | .ref _, _, r, _ => r
  | .ty _, _, r, _ => r
  | .exc c ks ds, _, r, b => by
    obtain ⟨a, dd, vs, e, s, x, l, q⟩ := r
    exact ⟨a, dd, vs, e, s, x, l, Reps.cut hn q b⟩
theorem Reps.cut (hn : n ≤ N) : ∀ {ds : List D} {vs : List V}, Reps K m N H ds vs → D.unders n ds = true → Reps K m n H ds vs
  | [], _, r, _ => r
  | d :: ds, _, r, b => by
    obtain ⟨v, q, e, r1, r2⟩ := r
    have b' : D.under n d = true ∧ D.unders n ds = true := by simpa [D.unders] using b
    exact ⟨v, q, e, Rep.cut hn r1 b'.1, Reps.cut hn r2 b'.2⟩
end
mutual
theorem Rep.below : ∀ {d : D} {v : V}, Rep K m N H d v → d.under N = true
  | .non, _, _ => by simp [D.under]
  | .bl _, _, _ => by simp [D.under]
  | .int _, _, _ => by simp [D.under]
  | .str _, _, _ => by simp [D.under]
  | .tup ds, _, r => by
    obtain ⟨a, vs, e, s, q⟩ := r
    simpa [D.under] using Reps.below q
  | .lst ds, _, r => by
    obtain ⟨a, vs, e, s, q⟩ := r
    simpa [D.under] using Reps.below q
  | .ksq ds, _, r => by
    obtain ⟨a, vs, e, s, q⟩ := r
    simpa [D.under] using Reps.below q
  | .obj C ks ds, _, r => by
    obtain ⟨a, dx, vs, e, s, l, q⟩ := r
    simpa [D.under] using Reps.below q
  | .dic ks ds, _, r => by
    obtain ⟨a, vs, e, s, l, q⟩ := r
    simpa [D.under] using Reps.below q
  | .loc k, _, r => by simpa [D.under] using r.2
  | .ref _, _, _ => by simp [D.under]
  | .ty _, _, _ => by simp [D.under]
  | .exc c ks ds, _, r => by
    obtain ⟨a, dd, vs, e, s, x, l, q⟩ := r
    simpa [D.under] using Reps.below q
theorem Reps.below : ∀ {ds : List D} {vs : List V}, Reps K m N H ds vs → D.unders N ds = true
  | [], _, _ => by simp [D.unders]
  | d :: ds, _, r => by
    obtain ⟨v, q, e, r1, r2⟩ := r
    simp [D.unders, Rep.below r1, Reps.below r2]
end
theorem RepM.cut {Hv : Hp} (hn : n ≤ N) {o : MO} {a : Addr} (r : RepM K m N Hv H o a) (b : o.under n = true) : RepM K m n Hv H o a := by
  cases o with
  | lst ds => obtain ⟨vs, e, q⟩ := r; exact ⟨vs, e, Reps.cut hn q b⟩
  | obj C ks ds => obtain ⟨dx, vs, e, l, q⟩ := r; exact ⟨dx, vs, e, l, Reps.cut hn q b⟩
  | dic ks ds => obtain ⟨vs, e, l, q⟩ := r; exact ⟨vs, e, l, Reps.cut hn q b⟩
  | dicT ks ds => obtain ⟨vs, e, l, q⟩ := r; exact ⟨vs, e, l, Reps.cut hn q b⟩
end
section
variable {K : PySem.W.Frag} {m m0 : Nat → Addr} {S S0 : Sto} {Z : Addr → Prop} {H H0 : Hp} {n : Nat}
theorem live_take {i : Nat} (h : Live (S.take n) i) : i < n ∧ Live S i := by
  obtain ⟨x, e⟩ := h
  have h1 : i < (S.take n).length := (List.getElem?_eq_some_iff.mp e).1
  rw [List.length_take] at h1
  have h2 : i < n := by omega
  refine ⟨h2, x, ?_⟩
  rw [List.getElem?_take_of_lt h2] at e
  exact e
theorem vis_take {a : Addr} {o : HO} (h : vis m S Z H a = some o) : vis m (S.take n) Z H a = some o := by
  obtain ⟨z1, z2⟩ := vis_not h
  exact vis_of (vis_sub h) z1 fun k l => z2 k (live_take l).2
/-- the store is cut: what lies beyond n is forgotten -/
theorem Wd0.take (w : Wd0 K m S Z H) (hn : n ≤ S.length) (hb : Sto.under n (S.take n) = true) : Wd0 K m (S.take n) Z H := by
  have len : (S.take n).length = n := by rw [List.length_take]; omega
  refine ⟨fun i j li lj => w.inj i j (live_take li).2 (live_take lj).2, fun i li => w.zz i (live_take li).2, w.zh, fun i x e => ?_⟩
  have h := live_take ⟨x, e⟩
  have e' := e
  rw [List.getElem?_take_of_lt h.1] at e'
  rw [len]
  have bx : x.under n = true := by
    have hm : some x ∈ S.take n := List.mem_of_getElem? e
    have := List.all_eq_true.mp hb _ hm
    exact this
  exact ((w.rep i x e').mono (fun _ _ => rfl) (Nat.le_refl _) (fun a o q => vis_take (n := n) q) rfl).cut hn bx
theorem Ext.take (e : Ext m0 S0 Z H0 m S H) (h : S0.length ≤ n) (hn : n ≤ S.length) : Ext m0 S0 Z H0 m (S.take n) H :=
  ⟨by rw [List.length_take]; omega, e.loc, fun a o q => vis_take (e.vis a o q), e.zed⟩
/-- an object of the store is given up: from here on it is seen, and never changes -/
theorem live_setN {i k : Nat} (h : Live (S.set k none) i) : i ≠ k ∧ Live S i := by
  obtain ⟨x, e⟩ := h
  by_cases q : k = i
  · subst q
    by_cases hk : k < S.length
    · rw [List.getElem?_set_self hk] at e; cases e
    · rw [List.getElem?_eq_none_iff.mpr (by rw [List.length_set]; omega)] at e; cases e
  · rw [List.getElem?_set_ne q] at e
    exact ⟨fun z => q z.symm, x, e⟩
theorem vis_setN {a : Addr} {o : HO} {k : Nat} (h : vis m S Z H a = some o) : vis m (S.set k none) Z H a = some o := by
  obtain ⟨z1, z2⟩ := vis_not h
  exact vis_of (vis_sub h) z1 fun j l => z2 j (live_setN l).2
/-- the list at k, given up, as data -/
theorem Wd0.frozen_lst (w : Wd0 K m S Z H) {k : Nat} {ds : List D} (e : S[k]? = some (some (.lst ds))) : Rep K m (S.set k none).length (vis m (S.set k none) Z H) (.lst ds) (.ref (m k)) := by
  obtain ⟨vs, h, r⟩ := w.rep k _ e
  refine ⟨m k, vs, rfl, vis_of h (w.zz k ⟨_, e⟩) fun j l q => ?_, ?_⟩
  · have h2 := live_setN l
    exact h2.1 (w.inj j k h2.2 ⟨_, e⟩ q)
  · rw [List.length_set]
    exact Reps.mono (fun _ _ => rfl) (Nat.le_refl _) (fun a o q => vis_setN q) r
theorem Wd0.frozen_obj (w : Wd0 K m S Z H) {k : Nat} {C : Addr} {ks : List Str} {ds : List D} (e : S[k]? = some (some (.obj C ks ds))) : Rep K m (S.set k none).length (vis m (S.set k none) Z H) (.obj C ks ds) (.ref (m k)) := by
  obtain ⟨dx, vs, h, hl, r⟩ := w.rep k _ e
  refine ⟨m k, dx, vs, rfl, vis_of h (w.zz k ⟨_, e⟩) fun j l q => ?_, hl, ?_⟩
  · have h2 := live_setN l
    exact h2.1 (w.inj j k h2.2 ⟨_, e⟩ q)
  · rw [List.length_set]
    exact Reps.mono (fun _ _ => rfl) (Nat.le_refl _) (fun a o q => vis_setN q) r
theorem Wd0.frozen_dic (w : Wd0 K m S Z H) {k : Nat} {ks : List Key} {ds : List D} (e : S[k]? = some (some (.dic ks ds))) : Rep K m (S.set k none).length (vis m (S.set k none) Z H) (.dic ks ds) (.ref (m k)) := by
  obtain ⟨vs, h, hl, r⟩ := w.rep k _ e
  refine ⟨m k, vs, rfl, vis_of h (w.zz k ⟨_, e⟩) fun j l q => ?_, hl, ?_⟩
  · have h2 := live_setN l
    exact h2.1 (w.inj j k h2.2 ⟨_, e⟩ q)
  · rw [List.length_set]
    exact Reps.mono (fun _ _ => rfl) (Nat.le_refl _) (fun a o q => vis_setN q) r
end
def RelS (K : PySem.W.Frag) (m : Nat → Addr) (N : Nat) (Hv : Hp) (ρ : Env_) (σ : St) : Prop :=
  ρ.length = σ.length ∧ ∀ (i : Nat) (d : D), ρ[i]? = some (some d) → ∃ v : V, σ[i]? = some (some v) ∧ Rep K m N Hv d v
/-- a wish of exceptions, by data: class, fields, slots, store -/
abbrev XW := XC → List Str → List D → Env_ → Sto → Prop
structure Wi where
  W : Value → Option Addr → St → Hp → Prop
  D : XW
/-- none is let out -/
def U0 : Wi := ⟨fun _ _ _ _ => False, fun _ _ _ _ _ => False⟩
def Up (K : PySem.W.Frag) (U : Wi) (m : Nat → Addr) (S : Sto) (Z : Addr → Prop) (H : Hp) : Prop :=
  ∀ (H' : Hp) (m' : Nat → Addr) (S' : Sto) (σ' : St) (ρ' : Env_) (c : XC) (dd : Option Addr) (ks : List Str) (ds : List D) (vs : List V), Ext m S Z H m' S' H' → Wd0 K m' S' Z H' → RelS K m' S'.length (vis m' S' Z H') ρ' σ' →
    Xd (vis m' S' Z H') dd (ks.zip vs) → ks.length = vs.length → Reps K m' S'.length (vis m' S' Z H') ds vs → U.D c ks ds ρ' S' → U.W c.val dd σ' H'
structure Wd (K : PySem.W.Frag) (U : Wi) (m : Nat → Addr) (S : Sto) (Z : Addr → Prop) (H : Hp) : Prop extends Wd0 K m S Z H where
  up : Up K U m S Z H
section
variable {K : PySem.W.Frag} {U : Wi} {m m1 : Nat → Addr} {S S1 : Sto} {Z : Addr → Prop} {H H1 : Hp}
theorem Wd0.u0 (w : Wd0 K m S Z H) : Wd K U0 m S Z H := ⟨w, fun _ _ _ _ _ _ _ _ _ _ _ _ _ _ _ _ z => z.elim⟩
/-- a later world -/
theorem Wd.on (w : Wd K U m S Z H) (e : Ext m S Z H m1 S1 H1) (w1 : Wd0 K m1 S1 Z H1) : Wd K U m1 S1 Z H1 := ⟨w1, fun H' m' S' σ' ρ' c dd ks ds vs e' => w.up H' m' S' σ' ρ' c dd ks ds vs (e.trans e')⟩
theorem Wd.new (w : Wd K U m S Z H) {p : Addr} {o : HO} (hp : H p = none) : Wd K U m S Z (upd H p o) ∧ Ext m S Z H m S (upd H p o) ∧ vis m S Z (upd H p o) p = some o := by
  obtain ⟨a, b, c⟩ := w.toWd0.new (o := o) hp
  exact ⟨w.on b a, b, c⟩
theorem Wd.add (w : Wd K U m S Z H) {p : Addr} {o : HO} {mo : MO} (hp : H p = none) (hr : ∀ m1 N1 Hv1, (∀ i, i < S.length → m1 i = m i) → S.length ≤ N1 → (∀ a u, vis m S Z H a = some u → Hv1 a = some u) → RepM K m1 N1 Hv1 (upd H p o) mo p) :
    ∃ m', m' S.length = p ∧ Wd K U m' (S ++ [some mo]) Z (upd H p o) ∧ Ext m S Z H m' (S ++ [some mo]) (upd H p o) := by
  obtain ⟨m', e0, a, b⟩ := w.toWd0.add (o := o) (mo := mo) hp hr
  exact ⟨m', e0, w.on b a, b⟩
theorem Wd.upd (w : Wd K U m S Z H) {n : Nat} {o : HO} {mo : MO} (l : Live S n) (hr : RepM K m S.length (vis m S Z H) (upd H (m n) o) mo (m n)) :
    Wd K U m (S.set n (some mo)) Z (L2.upd H (m n) o) ∧ Ext m S Z H m (S.set n (some mo)) (L2.upd H (m n) o) ∧ vis m (S.set n (some mo)) Z (L2.upd H (m n) o) = vis m S Z H := by
  obtain ⟨a, b, c⟩ := w.toWd0.upd (o := o) (mo := mo) l hr
  exact ⟨w.on b a, b, c⟩
end
end Dl
namespace Dl
open PySem L2
section
variable {K : PySem.W.Frag} {m : Nat → Addr} {N : Nat} {Hv : Hp}
theorem rep_non : Rep K m N Hv .non .non := by simp [Rep]
theorem rep_bl {b : Bool} : Rep K m N Hv (.bl b) (.bl b) := by simp [Rep]
theorem rep_int {b : Int} : Rep K m N Hv (.int b) (.int b) := by simp [Rep]
theorem rep_str {b : Str} : Rep K m N Hv (.str b) (.str b) := by simp [Rep]
theorem rep_tup {a : Addr} {vs : List V} {ds : List D} (h : SqT K Hv a vs) (r : Reps K m N Hv ds vs) : Rep K m N Hv (.tup ds) (.ref a) := by rw [Rep]; exact ⟨a, vs, rfl, h, r⟩
theorem rep_lst {a : Addr} {vs : List V} {ds : List D} (h : Hv a = some (.lst vs)) (r : Reps K m N Hv ds vs) : Rep K m N Hv (.lst ds) (.ref a) := by rw [Rep]; exact ⟨a, vs, rfl, h, r⟩
theorem rep_loc {a : Addr} {n : Nat} (e : m n = a) (h : n < N) : Rep K m N Hv (.loc n) (.ref a) := by rw [Rep]; exact ⟨by rw [e], h⟩
theorem reps_nil : Reps K m N Hv [] [] := by simp [Reps]
end
/-- what is wanted behind a step, by data -/
def Outs {A B : Type} (m : Nat → Addr) (S : Sto) (Z : Addr → Prop) (H : Hp) (K : PySem.W.Frag) (U : Wi) (rel : (Nat → Addr) → Nat → Hp → A → B → Prop) (q : A → Sto → Prop) (Q : B → Hp → Prop) : Prop :=
  ∀ b H' m' a S', Ext m S Z H m' S' H' → Wd K U m' S' Z H' → rel m' S'.length (vis m' S' Z H') a b → q a S' → Q b H'
abbrev rD (K : PySem.W.Frag) : (Nat → Addr) → Nat → Hp → D → V → Prop := fun m N Hv d v => Rep K m N Hv d v
abbrev rDs (K : PySem.W.Frag) : (Nat → Addr) → Nat → Hp → List D → List V → Prop := fun m N Hv d v => Reps K m N Hv d v
abbrev rEq {A : Type} : (Nat → Addr) → Nat → Hp → A → A → Prop := fun _ _ _ a b => a = b
/-- a step by data -/
abbrev G (A : Type) := Env_ → Sto → (A → Sto → Prop) → Prop
def tof {A B : Type} (K : PySem.W.Frag) (U : Wi) (rel : (Nat → Addr) → Nat → Hp → A → B → Prop) (g : G A) : St → Hp → (B → Hp → Prop) → Prop := fun σ H Q =>
  ∃ m S Z ρ q, Wd K U m S Z H ∧ RelS K m S.length (vis m S Z H) ρ σ ∧ g ρ S q ∧ Outs m S Z H K U rel q Q
abbrev tofE (K : PySem.W.Frag) (U : Wi) (g : G D) : TE := tof K U (rD K) g
abbrev tofB (K : PySem.W.Frag) (U : Wi) (g : G Bool) : TT := tof K U rEq g
abbrev tofA (K : PySem.W.Frag) (U : Wi) (g : G (List D)) : TA := tof K U (rDs K) g
abbrev tofO (K : PySem.W.Frag) (U : Wi) (g : G (Option Int)) : TO := tof K U rEq g
section
variable {A B : Type} {K : PySem.W.Frag} {m m1 : Nat → Addr} {S S1 : Sto} {Z : Addr → Prop} {H H1 : Hp} {rel : (Nat → Addr) → Nat → Hp → A → B → Prop} {q : A → Sto → Prop} {Q : B → Hp → Prop} {ρ : Env_} {σ : St}
theorem Outs.ext (e : Ext m S Z H m1 S1 H1) (k : Outs m S Z H K U rel q Q) : Outs m1 S1 Z H1 K U rel q Q := fun b H' m' a S' e' w r h => k b H' m' a S' (e.trans e') w r h
theorem Outs.now (k : Outs m S Z H K U rel q Q) (w : Wd K U m S Z H) {a : A} {b : B} (r : rel m S.length (vis m S Z H) a b) (h : q a S) : Q b H := k b H m a S Ext.refl w r h
theorem Outs.at (k : Outs m S Z H K U rel q Q) (e : Ext m S Z H m1 S1 H1) (w : Wd K U m1 S1 Z H1) {a : A} {b : B} (r : rel m1 S1.length (vis m1 S1 Z H1) a b) (h : q a S1) : Q b H1 := k b H1 m1 a S1 e w r h
theorem RelS.ext (e : Ext m S Z H m1 S1 H1) (r : RelS K m S.length (vis m S Z H) ρ σ) : RelS K m1 S1.length (vis m1 S1 Z H1) ρ σ :=
  ⟨r.1, fun i d h => let ⟨v, h1, h2⟩ := r.2 i d h; ⟨v, h1, h2.ext e⟩⟩
theorem RelS.set {i : Nat} {d : D} {v : V} {N : Nat} {Hv : Hp} (r : RelS K m N Hv ρ σ) (h : Rep K m N Hv d v) : RelS K m N Hv (ρ.set i (some d)) (σ.set i (some v)) := by
  refine ⟨by rw [List.length_set, List.length_set]; exact r.1, fun j x e => ?_⟩
  by_cases hj : i = j
  · subst hj
    have hl : i < ρ.length := by
      have := (List.getElem?_eq_some_iff.mp e).1
      rw [List.length_set] at this; exact this
    rw [List.getElem?_set_self hl] at e
    cases e
    exact ⟨v, List.getElem?_set_self (by rw [← r.1]; exact hl), h⟩
  · rw [List.getElem?_set_ne hj] at e
    obtain ⟨w, h1, h2⟩ := r.2 j x e
    exact ⟨w, by rw [List.getElem?_set_ne hj]; exact h1, h2⟩
theorem tof_in {g : G A} (w : Wd K U m S Z H) (r : RelS K m S.length (vis m S Z H) ρ σ) (h : g ρ S q) (k : Outs m S Z H K U rel q Q) : tof K U rel g σ H Q := ⟨m, S, Z, ρ, q, w, r, h, k⟩
end
section
variable {X : Cx} {e : Expr} {t t' : TE}
theorem weakE (h : PE X e t) (k : ∀ σ H Q, t' σ H Q → t σ H Q) : PE X e t' := ⟨fun pins s σ H Q I q => h.run pins s σ H Q I (k σ H Q q)⟩
theorem weakT {u u' : TT} (h : PT X e u) (k : ∀ σ H Q, u' σ H Q → u σ H Q) : PT X e u' := ⟨fun pins s σ H Q I q => h.run pins s σ H Q I (k σ H Q q)⟩
theorem weakW {u u' : TT} (h : PW X e u) (k : ∀ σ H Q, u' σ H Q → u σ H Q) : PW X e u' := ⟨fun wh pins s σ H Q I q => h.run wh pins s σ H Q I (k σ H Q q)⟩
theorem weakA {es : List Expr} {u u' : TA} (h : PA X es u) (k : ∀ σ H Q, u' σ H Q → u σ H Q) : PA X es u' := ⟨fun pos pins s σ H Q I q => h.run pos pins s σ H Q I (k σ H Q q)⟩
theorem weakO {e : Option Expr} {u u' : TO} (h : PO X e u) (k : ∀ σ H Q, u' σ H Q → u σ H Q) : PO X e u' := ⟨fun pins s σ H Q I q => h.run pins s σ H Q I (k σ H Q q)⟩
theorem weakS {st : Stmt} {u u' : TS} (h : PS X st u) (k : ∀ E σ H, u' E σ H → u E σ H) : PS X st u' := ⟨fun pins s σ H E I q => h.run pins s σ H E I (k E σ H q)⟩
theorem weakSs {st : List Stmt} {u u' : TS} (h : PSs X st u) (k : ∀ E σ H, u' E σ H → u E σ H) : PSs X st u' := ⟨fun pins s σ H E I q => h.run pins s σ H E I (k E σ H q)⟩
theorem deadS {st : Stmt} : PS X st (fun _ _ _ => False) := ⟨fun _ _ _ _ _ _ h => h.elim⟩
end
def gVar (i : Nat) : G D := fun ρ S q => ∃ d : D, ρ[i]? = some (some d) ∧ q d S
def gC (d : D) : G D := fun _ S q => q d S
section
variable {X : Cx} {pos : Pos}
theorem d_var (i : Nat) {x : Str} (hN : X.N[i]? = some x := by rfl) (hv : Vis X.env.scope x := by first | exact Or.inl rfl | exact Or.inr (Or.inl rfl) | exact Or.inr (Or.inr rfl)) (hd : (x == ("__debug__" : Str)) = false := by decide)
    (hcd : (x == ("__classdict__" : Str)) = false := by decide) : PE X (.Name x pos) (tofE X.K U (gVar i)) :=
  weakE (pe_var hN hv hd hcd) fun σ H Q ⟨m, S, Z, ρ, q, w, r, ⟨d, e, h⟩, k⟩ => by
    obtain ⟨v, h1, h2⟩ := r.2 i d e
    exact ⟨v, h1, k.now w h2 h⟩
theorem ofC {e : Expr} {d : D} {v : V} (h : PE X e (tC v)) (hr : ∀ K m N Hv, Rep K m N Hv d v) : PE X e (tofE X.K U (gC d)) :=
  weakE h fun σ H Q ⟨m, S, Z, ρ, q, w, r, h, k⟩ => k.now w (hr _ _ _ _) h
theorem d_int {i j} : PE X (.Constant (.int i) j pos) (tofE X.K U (gC (.int i))) := ofC pe_int fun _ _ _ _ => rfl
theorem d_bl {b j} : PE X (.Constant (.bool b) j pos) (tofE X.K U (gC (.bl b))) := ofC pe_bl fun _ _ _ _ => rfl
theorem d_non {j} : PE X (.Constant .none j pos) (tofE X.K U (gC .non)) := ofC pe_non fun _ _ _ _ => rfl
theorem d_str {x j} : PE X (.Constant (.str x) j pos) (tofE X.K U (gC (.str x))) := ofC pe_str fun _ _ _ _ => rfl
/-- a module's constant: an int, a text -/
theorem d_gint {x : Str} {i : Int} (hg : Gl X x) (hm : ∃ t, X.mg x = some (.int i t)) (hd : (x == ("__debug__" : Str)) = false := by decide) : PE X (.Name x pos) (tofE X.K U (gC (.int i))) := by
  obtain ⟨t, hm⟩ := hm
  exact ofC (pe_glob (v := .int i) hg hm ⟨_, rfl⟩ hd) fun _ _ _ _ => rfl
theorem d_gstr {x y : Str} (hg : Gl X x) (hm : ∃ t, X.mg x = some (.str y t)) (hd : (x == ("__debug__" : Str)) = false := by decide) : PE X (.Name x pos) (tofE X.K U (gC (.str y))) := by
  obtain ⟨t, hm⟩ := hm
  exact ofC (pe_glob (v := .str y) hg hm ⟨_, rfl⟩ hd) fun _ _ _ _ => rfl
/-- a module's tuple, list -/
structure KTup (K : PySem.W.Frag) (ds : List D) (a : Addr) : Prop where
  ok : ∀ m N Hv, Rep K m N Hv (.tup ds) (.ref a)
theorem d_gtup {x : Str} {a : Addr} {ds : List D} (hg : Gl X x) (hm : X.mg x = some (.ref a)) (hk : KTup X.K ds a) (hd : (x == ("__debug__" : Str)) = false := by decide) : PE X (.Name x pos) (tofE X.K U (gC (.tup ds))) :=
  weakE (pe_glob (v := .ref a) hg hm rfl hd) fun σ H Q ⟨m, S, Z, ρ, q, w, r, h, k⟩ => k.now w (hk.ok _ _ _) h
theorem d_gref {x : Str} {a : Addr} (hg : Gl X x) (hm : X.mg x = some (.ref a)) (hd : (x == ("__debug__" : Str)) = false := by decide) : PE X (.Name x pos) (tofE X.K U (gC (.ref a))) :=
  ofC (pe_glob (v := .ref a) hg hm rfl hd) fun _ _ _ _ => rfl
end
abbrev R2D := D → D → Sto → (D → Sto → Prop) → Prop
abbrev R1D := D → Sto → (D → Sto → Prop) → Prop
abbrev RND := List D → Sto → (D → Sto → Prop) → Prop
def gB2 (r : R2D) (ga gb : G D) : G D := fun ρ S q => ga ρ S fun a S1 => gb ρ S1 fun b S2 => r a b S2 q
def gU (r : R1D) (ga : G D) : G D := fun ρ S q => ga ρ S fun a S1 => r a S1 q
def VR2 (K : PySem.W.Frag) (r : R2) (g : R2D) : Prop := ∀ {U : Wi} {m : Nat → Addr} {S : Sto} {Z : Addr → Prop} {H : Hp} {a b : D} {v u : V} {q : D → Sto → Prop} {Q : VK}, Wd K U m S Z H → Rep K m S.length (vis m S Z H) a v → Rep K m S.length (vis m S Z H) b u →
  g a b S q → Outs m S Z H K U (rD K) q Q → r v u H Q
def VR1 (K : PySem.W.Frag) (r : V → Hp → VK → Prop) (g : R1D) : Prop := ∀ {U : Wi} {m : Nat → Addr} {S : Sto} {Z : Addr → Prop} {H : Hp} {a : D} {v : V} {q : D → Sto → Prop} {Q : VK}, Wd K U m S Z H → Rep K m S.length (vis m S Z H) a v →
  g a S q → Outs m S Z H K U (rD K) q Q → r v H Q
def VRN (K : PySem.W.Frag) (r : List V → Hp → VK → Prop) (g : RND) : Prop := ∀ {U : Wi} {m : Nat → Addr} {S : Sto} {Z : Addr → Prop} {H : Hp} {a : List D} {v : List V} {q : D → Sto → Prop} {Q : VK}, Wd K U m S Z H → Reps K m S.length (vis m S Z H) a v →
  g a S q → Outs m S Z H K U (rD K) q Q → r v H Q
section
variable {X : Cx} {pos : Pos} {a b c e : Expr} {ga gb gc : G D} {r r' : R2} {g g' : R2D}
theorem two_in {K : PySem.W.Frag} (hv : VR2 K r g) {σ : St} {H : Hp} {Q : VK} (h : tofE K U (gB2 g ga gb) σ H Q) : tOp r (tofE K U ga) (tofE K U gb) σ H Q := by
  obtain ⟨m, S, Z, ρ, q, w, rs, h, k⟩ := h
  exact tof_in w rs h fun v1 H1 m1 d1 S1 e1 w1 r1 h1 => tof_in w1 (rs.ext e1) h1 fun v2 H2 m2 d2 S2 e2 w2 r2 h2 => hv w2 (r1.ext e2) r2 h2 (k.ext (e1.trans e2))
theorem d_op {op : Operator} (ho : OpR X (binaryOp op) r) (hv : VR2 X.K r g) (ha : PE X a (tofE X.K U ga)) (hb : PE X b (tofE X.K U gb)) : PE X (.BinOp a op b pos) (tofE X.K U (gB2 g ga gb)) :=
  weakE (pe_op ho ha hb) fun _ _ _ h => two_in hv h
theorem d_cmp {op : CmpOp} (ho : OpR X (compareOp op) r) (hv : VR2 X.K r g) (ha : PE X a (tofE X.K U ga)) (hb : PE X b (tofE X.K U gb)) (hm : behindInMarks op b = false := by first | rfl | exact nomark _) : PE X (.Compare a [op] [b] pos) (tofE X.K U (gB2 g ga gb)) :=
  weakE (pe_cmpR ho ha hb hm) fun _ _ _ h => two_in hv h
/-- a comparison as a test -/
def gTest (g : G D) : G Bool := fun ρ S q => g ρ S fun d S1 => ∃ k, d = .bl k ∧ q k S1
theorem d_test {t : TE} (h : PE X e t) (ht : PT X e (tTest t)) {g : G D} (k : ∀ σ H Q, tofE X.K U g σ H Q → t σ H Q) : PT X e (tofB X.K U (gTest g)) :=
  weakT ht fun σ H Q ⟨m, S, Z, ρ, q, w, rs, h, kk⟩ => k σ H _ (tof_in w rs h fun v1 H1 m1 d1 S1 e1 w1 r1 h1 => by
    obtain ⟨b, e, h1⟩ := h1
    subst e
    exact ⟨b, r1, kk.at e1 w1 rfl h1⟩)
theorem d_tcmp {op : CmpOp} (ho : OpR X (compareOp op) r) (hv : VR2 X.K r g) (ha : PE X a (tofE X.K U ga)) (hb : PE X b (tofE X.K U gb)) (hm : behindInMarks op b = false := by first | rfl | exact nomark _) : PT X (.Compare a [op] [b] pos) (tofB X.K U (gTest (gB2 g ga gb))) :=
  d_test (pe_cmpR (pos := pos) ho ha hb hm) (pt_cmpR ho ha hb hm) fun _ _ _ h => two_in hv h
theorem VR2.or {K : PySem.W.Frag} (h : VR2 K r g) (h' : VR2 K r' g') : VR2 K (fun x y H Q => r x y H Q ∨ r' x y H Q) (fun a b S q => g a b S q ∨ g' a b S q) := fun w r1 r2 x k => x.elim (fun x => .inl (h w r1 r2 x k)) (fun x => .inr (h' w r1 r2 x k))
/-- a chain a < b < c -/
def gChain (g g' : R2D) (ga gb gc : G D) : G D := fun ρ S q => ga ρ S fun a S1 => gb ρ S1 fun b S2 => g a b S2 fun z S3 => ∃ k, z = .bl k ∧ (if k = true then gc ρ S3 fun c S4 => g' b c S4 q else q (.bl false) S3)
theorem chain_in {K : PySem.W.Frag} (hv : VR2 K r g) (hv' : VR2 K r' g') {σ : St} {H : Hp} {Q : VK} (h : tofE K U (gChain g g' ga gb gc) σ H Q) : tChain r r' (tofE K U ga) (tofE K U gb) (tofE K U gc) σ H Q := by
  obtain ⟨m, S, Z, ρ, q, w, rs, h, k⟩ := h
  refine tof_in w rs h fun v1 H1 m1 d1 S1 e1 w1 r1 h1 => tof_in w1 (rs.ext e1) h1 fun v2 H2 m2 d2 S2 e2 w2 r2 h2 => hv w2 (r1.ext e2) r2 h2 fun v3 H3 m3 d3 S3 e3 w3 r3 h3 => ?_
  obtain ⟨b, e, h3⟩ := h3
  subst e
  refine ⟨b, r3, ?_⟩
  cases b with
  | true => exact tof_in w3 (rs.ext ((e1.trans e2).trans e3)) h3 fun v4 H4 m4 d4 S4 e4 w4 r4 h4 => hv' w4 (r2.ext (e3.trans e4)) r4 h4 (k.ext (((e1.trans e2).trans e3).trans e4))
  | false => exact k.at ((e1.trans e2).trans e3) w3 (show Rep K m3 S3.length (vis m3 S3 Z H3) (.bl false) (.bl false) from by simp [Rep]) h3
theorem d_tchain {op op' : CmpOp} (ho : OpR X (compareOp op) r) (ho' : OpR X (compareOp op') r') (hv : VR2 X.K r g) (hv' : VR2 X.K r' g') (ha : PE X a (tofE X.K U ga)) (hb : PE X b (tofE X.K U gb)) (hc : PE X c (tofE X.K U gc)) (hm : lastMarks [op, op'] [b, c] = false := by with_unfolding_all rfl) :
    PT X (.Compare a [op, op'] [b, c] pos) (tofB X.K U (gTest (gChain g g' ga gb gc))) :=
  d_test (pe_chain (pos := pos) ho ho' ha hb hc hm) (pt_chain ho ho' ha hb hc hm) fun _ _ _ h => chain_in hv hv' h
theorem d_un {op : UnaryOp} {u : V → Hp → VK → Prop} {g1 : R1D} (ho : UnR X (unaryOp op) u) (hv : VR1 X.K u g1) (ha : PE X a (tofE X.K U ga)) : PE X (.UnaryOp op a pos) (tofE X.K U (gU g1 ga)) :=
  weakE (pe_un ho ha) fun _ _ _ ⟨m, S, Z, ρ, q, w, rs, h, k⟩ => tof_in w rs h fun v1 H1 m1 d1 S1 e1 w1 r1 h1 => hv w1 r1 h1 (k.ext e1)
end
section
variable {X : Cx} {pos : Pos} {a b c e : Expr} {ga gb gc : G D} {rest : List Expr} {ta tb : G Bool}
/-- an expression whose value is a bool, as a test -/
theorem d_val (h : PE X e (tofE X.K U ga)) (he : ∀ whole, isTrue e X.env whole = (do let v ← whole; standAt e.pos; holding [v] (truthy v)) := by intro _; rfl) : PT X e (tofB X.K U (gTest ga)) :=
  d_test (t := tofE X.K U ga) h (weakT (pt_val h he) fun _ _ _ h => h) fun _ _ _ h => h
def gAndB (ta tb : G Bool) : G Bool := fun ρ S q => ta ρ S fun c S1 => if c = true then tb ρ S1 q else q false S1
def gOrB (ta tb : G Bool) : G Bool := fun ρ S q => ta ρ S fun c S1 => if c = true then q true S1 else tb ρ S1 q
def gNotB (ta : G Bool) : G Bool := fun ρ S q => ta ρ S fun c S1 => q (!c) S1
theorem d_and1 (ha : PT X a (tofB X.K U ta)) : PW X (.BoolOp .And [a] pos) (tofB X.K U ta) := pw_and1 ha
theorem d_or1 (ha : PT X a (tofB X.K U ta)) : PW X (.BoolOp .Or [a] pos) (tofB X.K U ta) := pw_or1 ha
theorem d_and (ha : PT X a (tofB X.K U ta)) (hb : PW X (.BoolOp .And (b :: rest) pos) (tofB X.K U tb)) : PW X (.BoolOp .And (a :: b :: rest) pos) (tofB X.K U (gAndB ta tb)) :=
  weakW (pw_and ha hb) fun σ H Q ⟨m, S, Z, ρ, q, w, rs, h, k⟩ => tof_in w rs h fun v1 H1 m1 d1 S1 e1 w1 r1 h1 => by
    cases (show d1 = v1 from r1)
    cases v1 with
    | true => exact tof_in w1 (rs.ext e1) h1 (k.ext e1)
    | false => exact k.at e1 w1 rfl h1
theorem d_or (ha : PT X a (tofB X.K U ta)) (hb : PW X (.BoolOp .Or (b :: rest) pos) (tofB X.K U tb)) : PW X (.BoolOp .Or (a :: b :: rest) pos) (tofB X.K U (gOrB ta tb)) :=
  weakW (pw_or ha hb) fun σ H Q ⟨m, S, Z, ρ, q, w, rs, h, k⟩ => tof_in w rs h fun v1 H1 m1 d1 S1 e1 w1 r1 h1 => by
    cases (show d1 = v1 from r1)
    cases v1 with
    | true => exact k.at e1 w1 rfl h1
    | false => exact tof_in w1 (rs.ext e1) h1 (k.ext e1)
theorem d_not (ha : PT X a (tofB X.K U ta)) : PT X (.UnaryOp .Not a pos) (tofB X.K U (gNotB ta)) :=
  weakT (pt_not ha) fun σ H Q ⟨m, S, Z, ρ, q, w, rs, h, k⟩ => tof_in w rs h fun v1 H1 m1 d1 S1 e1 w1 r1 h1 => by
    cases (show d1 = v1 from r1)
    exact k.at e1 w1 rfl h1
/-- and, or, not as values: bools -/
def gAndV (ga gb : G D) : G D := fun ρ S q => ga ρ S fun a S1 => ∃ c, a = .bl c ∧ if c = true then gb ρ S1 q else q (.bl false) S1
def gOrV (ga gb : G D) : G D := fun ρ S q => ga ρ S fun a S1 => ∃ c, a = .bl c ∧ if c = true then q (.bl true) S1 else gb ρ S1 q
def gNotV (ga : G D) : G D := fun ρ S q => ga ρ S fun a S1 => ∃ c, a = .bl c ∧ q (.bl (!c)) S1
theorem d_oneV {op} (h : PE X a (tofE X.K U ga)) : PE X (.BoolOp op [a] pos) (tofE X.K U ga) := pe_one h
theorem d_andV (ha : PE X a (tofE X.K U ga)) (hb : PE X (.BoolOp .And (b :: rest) pos) (tofE X.K U gb)) : PE X (.BoolOp .And (a :: b :: rest) pos) (tofE X.K U (gAndV ga gb)) :=
  weakE (pe_and ha hb) fun σ H Q ⟨m, S, Z, ρ, q, w, rs, h, k⟩ => tof_in w rs h fun v1 H1 m1 d1 S1 e1 w1 r1 h1 => by
    obtain ⟨c, e, h1⟩ := h1
    subst e
    refine ⟨c, r1, ?_⟩
    cases c with
    | true => exact tof_in w1 (rs.ext e1) h1 (k.ext e1)
    | false => exact k.at e1 w1 rep_bl h1
def gIf (t : G Bool) (ga gb : G D) : G D := fun ρ S q => t ρ S fun c S1 => if c = true then ga ρ S1 q else gb ρ S1 q
theorem d_ifExp (hc : PT X c (tofB X.K U ta)) (ha : PE X a (tofE X.K U ga)) (hb : PE X b (tofE X.K U gb)) : PE X (.IfExp c a b pos) (tofE X.K U (gIf ta ga gb)) :=
  weakE (pe_ifExp hc ha hb) fun σ H Q ⟨m, S, Z, ρ, q, w, rs, h, k⟩ => tof_in w rs h fun v1 H1 m1 d1 S1 e1 w1 r1 h1 => by
    cases (show d1 = v1 from r1)
    cases v1 with
    | true => exact tof_in w1 (rs.ext e1) h1 (k.ext e1)
    | false => exact tof_in w1 (rs.ext e1) h1 (k.ext e1)
/-- is None -/
def D.isNon : D → Bool
  | .non => true
  | _ => false
theorem Rep.isNon {K : PySem.W.Frag} {m : Nat → Addr} {N : Nat} {Hv : Hp} {d : D} {v : V} (r : Rep K m N Hv d v) : decide (v = .non) = d.isNon := by
  cases d with
  | non => rw [show v = .non from r]; rfl
  | bl b => rw [show v = .bl b from r]; rfl
  | int b => rw [show v = .int b from r]; rfl
  | str b => rw [show v = .str b from r]; rfl
  | tup b => obtain ⟨a, vs, e, _⟩ := r; rw [e]; rfl
  | lst b => obtain ⟨a, vs, e, _⟩ := r; rw [e]; rfl
  | ksq b => obtain ⟨a, vs, e, _⟩ := r; rw [e]; rfl
  | obj b => obtain ⟨a, dx, vs, e, _⟩ := r; rw [e]; rfl
  | dic b => obtain ⟨a, vs, e, _⟩ := r; rw [e]; rfl
  | loc n => rw [r.1]; rfl
  | ref a => rw [show v = .ref a from r]; rfl
  | ty a => rw [show v = .ty a from r]; rfl
  | exc c ks ds => obtain ⟨a, dd, vs, e, _⟩ := r; rw [e]; rfl
def gIsN (ga : G D) : G D := fun ρ S q => ga ρ S fun a S1 => q (.bl a.isNon) S1
def gNotN (ga : G D) : G D := fun ρ S q => ga ρ S fun a S1 => q (.bl (!a.isNon)) S1
theorem d_tisN {j pos'} (ha : PE X a (tofE X.K U ga)) : PT X (.Compare a [.Is] [.Constant .none j pos'] pos) (tofB X.K U (gTest (gIsN ga))) :=
  weakT (pt_cmp (pc_isN ha)) fun σ H Q ⟨m, S, Z, ρ, q, w, rs, h, k⟩ => tof_in w rs h fun v1 H1 m1 d1 S1 e1 w1 r1 ⟨b, e, h1⟩ => ⟨_, by rw [Rep.isNon r1], k.at e1 w1 (by cases e; rfl) h1⟩
end
def gNil : G (List D) := fun _ S q => q [] S
def gCons (ga : G D) (gr : G (List D)) : G (List D) := fun ρ S q => ga ρ S fun a S1 => gr ρ S1 fun as S2 => q (a :: as) S2
/-- a new list: given up at once, or of the store -/
def newL (fz : Bool) (ds : List D) (S : Sto) (q : D → Sto → Prop) : Prop := if fz = true then q (.lst ds) S else q (.loc S.length) (S ++ [some (.lst ds)])
section
variable {K : PySem.W.Frag} {m : Nat → Addr} {S : Sto} {Z : Addr → Prop} {H : Hp} {q : D → Sto → Prop} {Q : VK} {ds : List D} {vs : List V} {fz : Bool} {p : Addr}
theorem out_newL (w : Wd K U m S Z H) (r : Reps K m S.length (vis m S Z H) ds vs) (h : newL fz ds S q) (k : Outs m S Z H K U (rD K) q Q) (hp : H p = none) : Q (.ref p) (upd H p (.lst vs)) := by
  cases fz with
  | true =>
    obtain ⟨w1, e1, hv⟩ := w.new (o := .lst vs) hp
    exact k.at e1 w1 (rep_lst hv (r.ext e1)) h
  | false =>
    obtain ⟨m', e0, w1, e1⟩ := w.add (o := .lst vs) (mo := .lst ds) hp fun m1 N1 Hv1 h1 h2 h3 => ⟨vs, upd_same, Reps.mono h1 h2 h3 r⟩
    exact k.at e1 w1 (rep_loc e0 (by simp)) h
theorem out_newT (w : Wd K U m S Z H) (r : Reps K m S.length (vis m S Z H) ds vs) (h : q (.tup ds) S) (k : Outs m S Z H K U (rD K) q Q) (hp : H p = none) : Q (.ref p) (upd H p (.tup vs)) := by
  obtain ⟨w1, e1, hv⟩ := w.new (o := .tup vs) hp
  exact k.at e1 w1 (rep_tup (SqT.of hv) (r.ext e1)) h
end
section
variable {X : Cx} {pos : Pos} {e : Expr} {es : List Expr} {ga : G D} {gr : G (List D)}
theorem d_nil : PA X [] (tofA X.K U gNil) := weakA pa_nil fun σ H Q ⟨m, S, Z, ρ, q, w, rs, h, k⟩ => k.now w reps_nil h
theorem d_cons (ha : PE X e (tofE X.K U ga)) (hr : PA X es (tofA X.K U gr)) (hs : starEach (e :: es) X.env = (false, eval e X.env) :: starEach es X.env := by rfl) : PA X (e :: es) (tofA X.K U (gCons ga gr)) :=
  weakA (pa_cons ha hr hs) fun σ H Q ⟨m, S, Z, ρ, q, w, rs, h, k⟩ => tof_in w rs h fun v1 H1 m1 d1 S1 e1 w1 r1 h1 => tof_in w1 (rs.ext e1) h1 fun v2 H2 m2 d2 S2 e2 w2 r2 h2 => k.at (e1.trans e2) w2 (Reps.cons (r1.ext e2) r2) h2
def gTup (gs : G (List D)) : G D := fun ρ S q => gs ρ S fun ds S1 => ds.length ≤ sizeLine ∧ q (.tup ds) S1
def gLst (fz : Bool) (gs : G (List D)) : G D := fun ρ S q => gs ρ S fun ds S1 => ds.length ≤ sizeLine ∧ newL fz ds S1 q
theorem d_tup {x1} (h : PA X es (tofA X.K U gr)) : PE X (.Tuple es x1 pos) (tofE X.K U (gTup gr)) :=
  weakE (pe_tup h) fun σ H Q ⟨m, S, Z, ρ, q, w, rs, h, k⟩ => tof_in w rs h fun v1 H1 m1 d1 S1 e1 w1 r1 h1 => ⟨by rw [Reps.len r1]; exact h1.1, fun p hp => out_newT w1 r1 h1.2 (k.ext e1) hp⟩
theorem d_lst (fz : Bool) (h : PA X es (tofA X.K U gr)) : PE X (.List es pos) (tofE X.K U (gLst fz gr)) :=
  weakE (pe_lst h) fun σ H Q ⟨m, S, Z, ρ, q, w, rs, h, k⟩ => tof_in w rs h fun v1 H1 m1 d1 S1 e1 w1 r1 h1 => ⟨by rw [Reps.len r1]; exact h1.1, fun p hp => out_newL w1 r1 h1.2 (k.ext e1) hp⟩
/-- a built-in by its name -/
def gCB (r : RND) (gs : G (List D)) : G D := fun ρ S q => gs ρ S fun ds S1 => r ds S1 q
theorem d_callB {x : Str} {id : String} {p : Pos} {r : List V → Hp → VK → Prop} {g : RND} (hc : CallR X (.builtin id) r) (hv : VRN X.K r g) (hg : Gl X x) (hm : X.mg x = none) (hb : bootBuiltins x = some (.builtin id)) (ha : PA X (e :: es) (tofA X.K U gr)) (hn : x ≠ "__name__" := by decide) (hdb : (x == ("__debug__" : Str)) = false := by decide)
    (hs : starEach (e :: es) X.env = (false, eval e X.env) :: starEach es X.env := by rfl) (hpl : (backTo pos (starEach es X.env)).any (·.1) = false := by rfl) : PE X (.Call (.Name x p) (e :: es) [] pos) (tofE X.K U (gCB g gr)) :=
  weakE (pe_callB hc hg hm hb ha hn hdb hs hpl) fun σ H Q ⟨m, S, Z, ρ, q, w, rs, h, k⟩ => tof_in w rs h fun v1 H1 m1 d1 S1 e1 w1 r1 h1 => hv w1 r1 h1 (k.ext e1)
theorem d_callTy {x : Str} {T : String} {p : Pos} {r : List V → Hp → VK → Prop} {g : RND} (hc : CallR X (.type T) r) (hv : VRN X.K r g) (hg : Gl X x) (hm : X.mg x = none) (hb : bootBuiltins x = some (.type T)) (ha : PA X (e :: es) (tofA X.K U gr)) (hn : x ≠ "__name__" := by decide) (hdb : (x == ("__debug__" : Str)) = false := by decide)
    (hs : starEach (e :: es) X.env = (false, eval e X.env) :: starEach es X.env := by rfl) (hpl : (backTo pos (starEach es X.env)).any (·.1) = false := by rfl) : PE X (.Call (.Name x p) (e :: es) [] pos) (tofE X.K U (gCB g gr)) :=
  weakE (pe_callTy hc hg hm hb ha hn hdb hs hpl) fun σ H Q ⟨m, S, Z, ρ, q, w, rs, h, k⟩ => tof_in w rs h fun v1 H1 m1 d1 S1 e1 w1 r1 h1 => hv w1 r1 h1 (k.ext e1)
def VRM (K : PySem.W.Frag) (T : String) (r : V → List V → Hp → VK → Prop) (g : D → RND) : Prop := (∀ {U : Wi} {m : Nat → Addr} {S : Sto} {Z : Addr → Prop} {H : Hp} {o : D} {u : V} {a : List D} {v : List V} {q : D → Sto → Prop} {Q : VK}, Wd K U m S Z H → Rep K m S.length (vis m S Z H) o u → Reps K m S.length (vis m S Z H) a v →
  g o a S q → Outs m S Z H K U (rD K) q Q → r u v H Q)
/-- the receiver's kind -/
def isTy (T : String) (S : Sto) : D → Bool
  | .str _ => T == "str"
  | .lst _ => T == "list"
  | .ksq _ => T == "list"
  | .tup _ => T == "tuple"
  | .int _ => T == "int"
  | .loc k => match S[k]? with
    | some (some (.lst _)) => T == "list"
    | some (some (.dic _ _)) => T == "dict"
    | some (some (.dicT _ _)) => T == "dict"
    | _ => false
  | .dic _ _ => T == "dict"
  | _ => false
end
end Dl
namespace Dl
open PySem L2
/-- what is wanted behind a statement, by data -/
structure DE where
  nx : Env_ → Sto → Prop
  rt : D → Sto → Prop
  bk : Env_ → Sto → Prop := fun _ _ => False
  ct : Env_ → Sto → Prop := fun _ _ => False
abbrev GS := DE → Env_ → Sto → Prop
abbrev rS (K : PySem.W.Frag) : (Nat → Addr) → Nat → Hp → Env_ → St → Prop := fun m N Hv ρ σ => RelS K m N Hv ρ σ
structure OutE (m : Nat → Addr) (S : Sto) (Z : Addr → Prop) (H : Hp) (K : PySem.W.Frag) (U : Wi) (E : DE) (De : Ends) : Prop where
  nx : Outs m S Z H K U (rS K) E.nx De.nx
  rt : Outs m S Z H K U (rD K) E.rt De.rt
  bk : Outs m S Z H K U (rS K) E.bk De.bk
  ct : Outs m S Z H K U (rS K) E.ct De.ct
def tofS (K : PySem.W.Frag) (U : Wi) (g : GS) : TS := fun De σ H => ∃ m S Z ρ E, Wd K U m S Z H ∧ RelS K m S.length (vis m S Z H) ρ σ ∧ g E ρ S ∧ OutE m S Z H K U E De
section
variable {K : PySem.W.Frag} {m m1 : Nat → Addr} {S S1 : Sto} {Z : Addr → Prop} {H H1 : Hp} {E : DE} {De : Ends} {ρ : Env_} {σ : St}
theorem OutE.ext (e : Ext m S Z H m1 S1 H1) (k : OutE m S Z H K U E De) : OutE m1 S1 Z H1 K U E De := ⟨k.nx.ext e, k.rt.ext e, k.bk.ext e, k.ct.ext e⟩
theorem tofS_in {g : GS} (w : Wd K U m S Z H) (r : RelS K m S.length (vis m S Z H) ρ σ) (h : g E ρ S) (k : OutE m S Z H K U E De) : tofS K U g De σ H := ⟨m, S, Z, ρ, E, w, r, h, k⟩
end
def gNext : GS := fun E ρ S => E.nx ρ S
def gSeq (g1 g2 : GS) : GS := fun E ρ S => g1 { E with nx := g2 E } ρ S
def gBreak : GS := fun E ρ S => E.bk ρ S
def gCont : GS := fun E ρ S => E.ct ρ S
def gDrop (ge : G D) : GS := fun E ρ S => ge ρ S fun _ S1 => E.nx ρ S1
def gRet (ge : G D) : GS := fun E ρ S => ge ρ S E.rt
def gRetN : GS := fun E ρ S => E.rt .non S
def gIfS (gt : G Bool) (g1 g2 : GS) : GS := fun E ρ S => gt ρ S fun b S1 => if b = true then g1 E ρ S1 else g2 E ρ S1
def gDead : GS := fun _ _ _ => False
section
variable {X : Cx} {pos : Pos} {st : Stmt} {rest : List Stmt} {e c : Expr} {ge : G D} {gt : G Bool} {g1 g2 : GS}
theorem d_dead : PS X st (tofS X.K U gDead) := weakS deadS fun E σ H ⟨m, S, Z, ρ, D, w, rs, h, k⟩ => h
theorem ds_nil : PSs X [] (tofS X.K U gNext) := weakSs pss_nil fun E σ H ⟨m, S, Z, ρ, D, w, rs, h, k⟩ => k.nx.now w rs h
theorem ds_cons (h1 : PS X st (tofS X.K U g1)) (h2 : PSs X rest (tofS X.K U g2)) : PSs X (st :: rest) (tofS X.K U (gSeq g1 g2)) :=
  weakSs (pss_cons h1 h2) fun E σ H ⟨m, S, Z, ρ, D, w, rs, h, k⟩ => tofS_in (E := { D with nx := g2 D }) w rs h ⟨fun σ1 H1 m1 ρ1 S1 e1 w1 r1 h1 => tofS_in w1 r1 h1 (k.ext e1), k.rt, k.bk, k.ct⟩
theorem ds_one (h1 : PS X st (tofS X.K U g1)) : PSs X [st] (tofS X.K U g1) := pss_one h1
theorem d_expr (he : PE X e (tofE X.K U ge)) (hs : swapsWith e none pos.line X.env = pure false := by rfl) : PS X (.Expr e pos) (tofS X.K U (gDrop ge)) :=
  weakS (ps_expr he hs) fun E σ H ⟨m, S, Z, ρ, D, w, rs, h, k⟩ => tof_in w rs h fun v1 H1 m1 d1 S1 e1 w1 r1 h1 => k.nx.at e1 w1 (rs.ext e1) h1
theorem d_ret (he : PE X e (tofE X.K U ge)) : PS X (.Return (some e) pos) (tofS X.K U (gRet ge)) :=
  weakS (ps_ret he) fun E σ H ⟨m, S, Z, ρ, D, w, rs, h, k⟩ => tof_in w rs h k.rt
theorem d_if {a b : List Stmt} (hc : PT X c (tofB X.K U gt)) (ha : PSs X a (tofS X.K U g1)) (hb : PSs X b (tofS X.K U g2)) : PS X (.If c a b pos) (tofS X.K U (gIfS gt g1 g2)) :=
  weakS (ps_if hc ha hb) fun E σ H ⟨m, S, Z, ρ, D, w, rs, h, k⟩ => tof_in w rs h fun v1 H1 m1 d1 S1 e1 w1 r1 h1 => by
    cases (show d1 = v1 from r1)
    cases v1 with
    | true => exact tofS_in w1 (rs.ext e1) h1 (k.ext e1)
    | false => exact tofS_in w1 (rs.ext e1) h1 (k.ext e1)
end
inductive Tgt where
  | nm (i : Nat) | tp (ts : List Tgt)
mutual
def Tgt.bind : Tgt → D → Env_ → Option Env_
  | .nm i, d, ρ => some (ρ.set i (some d))
  | .tp ts, .tup ds, ρ => Tgt.binds ts ds ρ
  | .tp _, _, _ => none
def Tgt.binds : List Tgt → List D → Env_ → Option Env_
  | [], [], ρ => some ρ
  | t :: ts, d :: ds, ρ => (Tgt.bind t d ρ).bind fun ρ' => Tgt.binds ts ds ρ'
  | _, _, _ => none
end
mutual
def Tgt.gof (K : PySem.W.Frag) : Tgt → TG
  | .nm i => gName i
  | .tp ts => L2.gTup K ts.length (Tgt.gofs K ts)
def Tgt.gofs (K : PySem.W.Frag) : List Tgt → TGs
  | [] => L2.gNil
  | t :: ts => L2.gCons (Tgt.gof K t) (Tgt.gofs K ts)
end
mutual
def Tgt.slots : Tgt → List Nat
  | .nm i => [i]
  | .tp ts => Tgt.slotss ts
def Tgt.slotss : List Tgt → List Nat
  | [] => []
  | t :: ts => Tgt.slots t ++ Tgt.slotss ts
end
theorem wipe_swap (σ : St) (v : Nat) : ∀ vs : List Nat, wipe (σ.set v none) vs = (wipe σ vs).set v none
  | [] => rfl
  | u :: us => by
    show (wipe (σ.set v none) us).set u none = ((wipe σ us).set u none).set v none
    rw [wipe_swap σ v us]
    by_cases h : u = v
    · subst h; rfl
    · exact List.set_comm _ _ (fun z => h z.symm)
theorem wipe_set {σ : St} {i : Nat} {x : Option V} : ∀ {vs : List Nat}, i ∈ vs → wipe (σ.set i x) vs = wipe σ vs
  | [], h => by cases h
  | v :: vs, h => by
    show (wipe (σ.set i x) vs).set v none = (wipe σ vs).set v none
    by_cases hv : i = v
    · subst hv
      rw [← wipe_swap, ← wipe_swap, List.set_set]
    · rcases List.mem_cons.mp h with e | h
      · exact absurd e hv
      · rw [wipe_set h]
theorem wipe_wipe {σ : St} : ∀ {vs : List Nat} (ws : List Nat), (∀ v ∈ vs, v ∈ ws) → wipe (wipe σ vs) ws = wipe σ ws
  | [], ws, _ => rfl
  | v :: vs, ws, h => by
    show wipe ((wipe σ vs).set v none) ws = wipe σ ws
    rw [wipe_set (h v (List.mem_cons_self ..)), wipe_wipe ws fun u hu => h u (List.mem_cons_of_mem _ hu)]
section
variable {K : PySem.W.Frag} {m : Nat → Addr} {N : Nat} {Hv H : Hp} {vs : List Nat}
mutual
theorem Tgt.ok (hH : ∀ a o, Hv a = some o → H a = some o) : ∀ {t : Tgt} {d : D} {v : V} {ρ ρ' : Env_} {σ : St} {Q : St → Hp → Prop}, t.bind d ρ = some ρ' → Rep K m N Hv d v → RelS K m N Hv ρ σ →
    (∀ σ', RelS K m N Hv ρ' σ' → ((∀ i ∈ t.slots, i ∈ vs) → wipe σ' vs = wipe σ vs) → Q σ' H) → t.gof K v σ H Q
  | .nm i, d, v, ρ, ρ', σ, Q, e, r, rs, k => by
    rw [Tgt.bind] at e
    cases e
    rw [Tgt.gof]
    exact k _ (rs.set r) fun h => wipe_set (h i (by rw [Tgt.slots]; exact List.mem_singleton.mpr rfl))
  | .tp ts, .tup ds, v, ρ, ρ', σ, Q, e, r, rs, k => by
    rw [Tgt.bind] at e
    rw [Rep] at r
    obtain ⟨a, xs, ev, hs, hr⟩ := r
    rw [Tgt.gof]
    have hl : ds.length = ts.length := Tgt.binds_len e
    refine ⟨a, xs, ev, SqT.sub hH hs, by rw [Reps.len hr, hl], Tgt.oks hH e hr rs fun σ' r' hw => k σ' r' fun h => hw fun i hi => h i (by rw [Tgt.slots]; exact hi)⟩
  | .tp ts, .non, v, ρ, ρ', σ, Q, e, r, rs, k => by rw [Tgt.bind] at e <;> first | cases e | (intro _ z; cases z)
  | .tp ts, .bl _, v, ρ, ρ', σ, Q, e, r, rs, k => by rw [Tgt.bind] at e <;> first | cases e | (intro _ z; cases z)
  | .tp ts, .int _, v, ρ, ρ', σ, Q, e, r, rs, k => by rw [Tgt.bind] at e <;> first | cases e | (intro _ z; cases z)
  | .tp ts, .str _, v, ρ, ρ', σ, Q, e, r, rs, k => by rw [Tgt.bind] at e <;> first | cases e | (intro _ z; cases z)
  | .tp ts, .lst _, v, ρ, ρ', σ, Q, e, r, rs, k => by rw [Tgt.bind] at e <;> first | cases e | (intro _ z; cases z)
  | .tp ts, .ksq _, v, ρ, ρ', σ, Q, e, r, rs, k => by rw [Tgt.bind] at e <;> first | cases e | (intro _ z; cases z)
  | .tp ts, .obj _ _ _, v, ρ, ρ', σ, Q, e, r, rs, k => by rw [Tgt.bind] at e <;> first | cases e | (intro _ z; cases z)
  | .tp ts, .dic _ _, v, ρ, ρ', σ, Q, e, r, rs, k => by rw [Tgt.bind] at e <;> first | cases e | (intro _ z; cases z)
  | .tp ts, .loc _, v, ρ, ρ', σ, Q, e, r, rs, k => by rw [Tgt.bind] at e <;> first | cases e | (intro _ z; cases z)
  | .tp ts, .ref _, v, ρ, ρ', σ, Q, e, r, rs, k => by rw [Tgt.bind] at e <;> first | cases e | (intro _ z; cases z)
  | .tp ts, .ty _, v, ρ, ρ', σ, Q, e, r, rs, k => by rw [Tgt.bind] at e <;> first | cases e | (intro _ z; cases z)
  | .tp ts, .exc _ _ _, v, ρ, ρ', σ, Q, e, r, rs, k => by rw [Tgt.bind] at e <;> first | cases e | (intro _ z; cases z)
theorem Tgt.oks (hH : ∀ a o, Hv a = some o → H a = some o) : ∀ {ts : List Tgt} {ds : List D} {xs : List V} {ρ ρ' : Env_} {σ : St} {Q : St → Hp → Prop}, Tgt.binds ts ds ρ = some ρ' → Reps K m N Hv ds xs → RelS K m N Hv ρ σ →
    (∀ σ', RelS K m N Hv ρ' σ' → ((∀ i ∈ Tgt.slotss ts, i ∈ vs) → wipe σ' vs = wipe σ vs) → Q σ' H) → Tgt.gofs K ts xs σ H Q
  | [], [], xs, ρ, ρ', σ, Q, e, r, rs, k => by
    rw [Tgt.binds] at e
    cases e
    rw [Reps] at r
    rw [Tgt.gofs]
    exact ⟨r, k σ rs fun _ => rfl⟩
  | t :: ts, d :: ds, xs, ρ, ρ', σ, Q, e, r, rs, k => by
    rw [Tgt.binds] at e
    rw [Reps] at r
    obtain ⟨v, q, ev, r1, r2⟩ := r
    rw [Tgt.gofs]
    cases h1 : t.bind d ρ with
    | none => rw [h1] at e; cases e
    | some ρ1 =>
      rw [h1] at e
      refine ⟨v, q, ev, Tgt.ok hH h1 r1 rs fun σ1 rs1 hw1 => Tgt.oks hH e r2 rs1 fun σ2 rs2 hw2 => k σ2 rs2 fun h => ?_⟩
      rw [hw2 fun i hi => h i (by rw [Tgt.slotss]; exact List.mem_append_right _ hi), hw1 fun i hi => h i (by rw [Tgt.slotss]; exact List.mem_append_left _ hi)]
  | [], _ :: _, xs, ρ, ρ', σ, Q, e, r, rs, k => by rw [Tgt.binds] at e <;> first | cases e | (intros; simp_all)
  | _ :: _, [], xs, ρ, ρ', σ, Q, e, r, rs, k => by rw [Tgt.binds] at e <;> first | cases e | (intros; simp_all)
theorem Tgt.binds_len : ∀ {ts : List Tgt} {ds : List D} {ρ ρ' : Env_}, Tgt.binds ts ds ρ = some ρ' → ds.length = ts.length
  | [], [], _, _, _ => rfl
  | t :: ts, d :: ds, ρ, ρ', e => by
    rw [Tgt.binds] at e
    cases h1 : t.bind d ρ with
    | none => rw [h1] at e; cases e
    | some ρ1 =>
      rw [h1] at e
      rw [List.length_cons, List.length_cons, Tgt.binds_len e]
  | [], _ :: _, ρ, ρ', e => by rw [Tgt.binds] at e <;> first | cases e | (intros; simp_all)
  | _ :: _, [], ρ, ρ', e => by rw [Tgt.binds] at e <;> first | cases e | (intros; simp_all)
end
end
/-- name(s) = e -/
def gAsg (t : Tgt) (ge : G D) : GS := fun E ρ S => ge ρ S fun d S1 => ∃ ρ', t.bind d ρ = some ρ' ∧ E.nx ρ' S1
def gSet (i : Nat) (ge : G D) : GS := fun E ρ S => ge ρ S fun d S1 => E.nx (ρ.set i (some d)) S1
/-- name op= e -/
def gAug (i : Nat) (r : R2D) (ge : G D) : GS := fun E ρ S => ∃ x : D, ρ[i]? = some (some x) ∧ ge ρ S fun y S1 => r x y S1 fun z S2 => E.nx (ρ.set i (some z)) S2
theorem vis_le {m : Nat → Addr} {S : Sto} {Z : Addr → Prop} {H : Hp} : ∀ a o, vis m S Z H a = some o → H a = some o := fun _ _ h => vis_sub h
section
variable {X : Cx} {pos : Pos} {e tg : Expr} {ge : G D}
theorem d_asg {t : Tgt} (he : PE X e (tofE X.K U ge)) (hg : PG X tg (t.gof X.K)) (hs : swapsWithSole [tg] e pos.line X.env = pure false := by rfl) (hw : swappedStores [tg] e X.env = pure none := by rfl)
    (h1 : (assignEach [tg] X.env).map (·.2) = [assign tg X.env] := by rfl) : PS X (.Assign [tg] e pos) (tofS X.K U (gAsg t ge)) :=
  weakS (ps_asg he hg hs hw h1) fun E σ H ⟨m, S, Z, ρ, D, w, rs, h, k⟩ => tof_in w rs h fun v1 H1 m1 d1 S1 e1 w1 r1 ⟨ρ', hb, h1⟩ =>
    Tgt.ok (vs := []) vis_le hb r1 (rs.ext e1) fun σ' rs' _ => k.nx.at e1 w1 rs' h1
theorem d_set {i : Nat} {x : Str} {pos' : Pos} (hN : X.N.Nodup) (hi : X.N[i]? = some x) (hx : Loc X.env.scope x) (he : PE X e (tofE X.K U ge)) (hs : swapsWith e (some (.Name x pos')) pos.line X.env = pure false := by rfl)
    (hf : X.fn x = true ∨ X.env.scope.names.lookup x = some .local := by first | exact .inl rfl | exact .inr rfl | assumption) : PS X (.Assign [.Name x pos'] e pos) (tofS X.K U (gSet i ge)) :=
  weakS (ps_set hN hi hx he hs hf) fun E σ H ⟨m, S, Z, ρ, D, w, rs, h, k⟩ => tof_in w rs h fun v1 H1 m1 d1 S1 e1 w1 r1 h1 => k.nx.at e1 w1 ((rs.ext e1).set r1) h1
theorem d_aug {i : Nat} {x : Str} {op : Operator} {r : R2} {g : R2D} {pos' : Pos} (hN : X.N.Nodup) (hi : X.N[i]? = some x) (hx : Loc X.env.scope x) (ho : OpR X (inplaceOp op) r) (hv : VR2 X.K r g) (he : PE X e (tofE X.K U ge))
    (hf : X.fn x = true ∨ X.env.scope.names.lookup x = some .local := by first | exact .inl rfl | exact .inr rfl | assumption) : PS X (.AugAssign (.Name x pos') op e pos) (tofS X.K U (gAug i g ge)) :=
  weakS (ps_aug (ti := r) hN hi hx he ho hf) fun E σ H ⟨m, S, Z, ρ, D, w, rs, ⟨x, ex, h⟩, k⟩ => by
    obtain ⟨v, ev, rv⟩ := rs.2 i x ex
    exact ⟨v, ev, tof_in w rs h fun v1 H1 m1 d1 S1 e1 w1 r1 h1 => hv w1 (rv.ext e1) r1 h1 fun v2 H2 m2 d2 S2 e2 w2 r2 h2 => k.nx.at (e1.trans e2) w2 ((rs.ext (e1.trans e2)).set r2) h2⟩
end
structure Lt (m : Nat → Addr) (S : Sto) (Z : Addr → Prop) (H : Hp) (m' : Nat → Addr) (S' : Sto) (Z' : Addr → Prop) (H' : Hp) : Prop where
  len : S.length ≤ S'.length
  loc : ∀ i, i < S.length → m' i = m i
  vis : ∀ a o, Dl.vis m S Z H a = some o → Dl.vis m' S' Z' H' a = some o
theorem Ext.lt {m m' : Nat → Addr} {S S' : Sto} {Z : Addr → Prop} {H H' : Hp} (e : Ext m S Z H m' S' H') : Lt m S Z H m' S' Z H' := ⟨e.len, e.loc, e.vis⟩
structure Yl (K : PySem.W.Frag) (J : It) (m : Nat → Addr) (S : Sto) (Z : Addr → Prop) (H : Hp) (ds : List D) (chk : Sto → Prop) : Prop where
  go : ∀ {U : Wi} {m' : Nat → Addr} {S' : Sto} {Z' : Addr → Prop} {H' : Hp} {i : Nat}, Lt m S Z H m' S' Z' H' → Wd K U m' S' Z' H' → chk S' → i < ds.length → J.go i H' ∧ ∀ x H2, J.yld i H' x H2 → ∃ d, ds[i]? = some d ∧ Wd K U m' S' Z' H2 ∧ Ext m' S' Z' H' m' S' H2 ∧ Rep K m' S'.length (vis m' S' Z' H2) d x
  stop : ∀ {U : Wi} {m' : Nat → Addr} {S' : Sto} {Z' : Addr → Prop} {H' : Hp}, Lt m S Z H m' S' Z' H' → Wd K U m' S' Z' H' → chk S' → J.stop ds.length H'
abbrev GI := Env_ → Sto → (List D → (Sto → Prop) → Sto → Prop) → Prop
def tofI (K : PySem.W.Frag) (U : Wi) (gi : GI) : TI := fun σ H R => ∃ m S Z ρ q, Wd K U m S Z H ∧ RelS K m S.length (vis m S Z H) ρ σ ∧ gi ρ S q ∧
  ∀ J H' m' S' ds chk, Ext m S Z H m' S' H' → Wd K U m' S' Z H' → Yl K J m' S' Z H' ds chk → q ds chk S' → R J H'
def gFor (gi : GI) (t : Tgt) (gb : GS) : GS := fun E ρ S => gi ρ S fun ds chk S1 => ∃ I : Nat → Env_ → Sto → Prop, I 0 ρ S1 ∧
  (∀ i d ρ S, ds[i]? = some d → I i ρ S → chk S ∧ ∃ ρ', t.bind d ρ = some ρ' ∧ gb { nx := I (i + 1), rt := E.rt, ct := I (i + 1), bk := E.nx } ρ' S) ∧ ∀ ρ S, I ds.length ρ S → chk S ∧ E.nx ρ S
section
variable {X : Cx} {pos : Pos} {tg iter : Expr} {gi : GI} {t : Tgt} {gb : GS} {body : List Stmt}
theorem weakI {w w' : TI} (h : PI X tg iter w) (k : ∀ σ H R, w' σ H R → w σ H R) : PI X tg iter w' := ⟨fun pins s σ H R I q => h.run pins s σ H R I (k σ H R q)⟩
theorem d_for (hp : PassesOwn (model X.prog X.w) X.A X.env X.xe) (hc : X.calm = true) (hi : PI X tg iter (tofI X.K U gi)) (hg : PG X tg (t.gof X.K)) (hb : PSs X body (tofS X.K U gb)) (hs : ∀ x, foldedSetIterable iter X.env x = pure x := by intro _; rfl) :
    PS X (.For tg iter body [] pos) (tofS X.K U (gFor gi t gb)) := by
  refine weakS (ps_for hp hc hi hg hb hs) fun De σ H ⟨m, S, Z, ρ, E, w, rs, h, k⟩ => ?_
  refine ⟨m, S, Z, ρ, _, w, rs, h, fun J H1 m1 S1 ds chk e1 w1 Y ⟨I, h0, hstep, hend⟩ => ?_⟩
  refine ⟨fun i n σ' H' => n = ds.length - i ∧ i ≤ ds.length ∧ ∃ m' S' ρ', Ext m1 S1 Z H1 m' S' H' ∧ Wd X.K U m' S' Z H' ∧ RelS X.K m' S'.length (vis m' S' Z H') ρ' σ' ∧ I i ρ' S', ⟨ds.length, by simp, Nat.zero_le _, m1, S1, ρ, Ext.refl, w1, rs.ext e1, h0⟩, ?_⟩
  rintro i n σ2 H2 ⟨rfl, hi2, m2, S2, ρ2, e2, w2, rs2, I2⟩
  by_cases hlt : i < ds.length
  · right
    obtain ⟨d, hd⟩ : ∃ d, ds[i]? = some d := ⟨ds[i], by simp [hlt]⟩
    obtain ⟨hchk, ρ3, hbind, hbody⟩ := hstep i d ρ2 S2 hd I2
    obtain ⟨g1, g2⟩ := Y.go e2.lt w2 hchk hlt
    refine ⟨g1, fun σ' H' => ∃ m' S' ρ', Ext m1 S1 Z H1 m' S' H' ∧ Wd X.K U m' S' Z H' ∧ RelS X.K m' S'.length (vis m' S' Z H') ρ' σ' ∧ I (i + 1) ρ' S', fun σ' H' hN => ⟨ds.length - (i + 1), by omega, rfl, hlt, hN⟩, fun x H3 hy => ?_⟩
    obtain ⟨d', hd', w3, e3, r3⟩ := g2 x H3 hy
    rw [hd] at hd'; cases hd'
    refine Tgt.ok (vs := []) vis_le hbind r3 (rs2.ext e3) fun σ4 rs4 _ => ?_
    have e23 := e2.trans e3
    exact tofS_in w3 rs4 hbody ⟨fun σ5 H5 m5 ρ5 S5 e5 w5 r5 h5 => ⟨m5, S5, ρ5, e23.trans e5, w5, r5, h5⟩, k.rt.ext (e1.trans e23), k.nx.ext (e1.trans e23), fun σ5 H5 m5 ρ5 S5 e5 w5 r5 h5 => ⟨m5, S5, ρ5, e23.trans e5, w5, r5, h5⟩⟩
  · left
    have ei : i = ds.length := by omega
    subst ei
    obtain ⟨hchk, hnx⟩ := hend ρ2 S2 I2
    exact ⟨Y.stop e2.lt w2 hchk, k.nx.at (e1.trans e2) w2 rs2 hnx⟩
end
end Dl
namespace Dl
open PySem L2 PyProof.Rows
structure RoomG (k : Nat) (A : Around) : Prop extends Room k A where
  gd : A.guards = some []
theorem RoomG.mono {j k : Nat} {A : Around} (r : RoomG k A) (h : j ≤ k) : RoomG j A := ⟨r.toRoom.mono h, r.gd⟩
theorem RoomG.deeper {k : Nat} {A : Around} (r : RoomG (k + 1) A) (env : Env) : RoomG k (A.deeper env) := ⟨r.toRoom.deeper env, r.gd⟩
theorem RoomG.in1 {k : Nat} {A : Around} (r : RoomG (k + 1) A) : RoomG k A.in1 := ⟨r.toRoom.in1, r.gd⟩
theorem make_guards {A : Around} {C : Addr} {us : List Value} {kw : List (Str × Value)} (h : A.guards = some []) : (A.under (.builtin "type.__call__" ⟨.ref C :: us, kw⟩)).guards = some [] := by
  simp [Around.under, Code.guards, Code.isGuard, guardIds, pushGuards, h]
theorem RoomG.make {k : Nat} {A : Around} (r : RoomG (k + 1) A) (C : Addr) (us : List Value) (kw : List (Str × Value)) : RoomG k (A.under (.builtin "type.__call__" ⟨.ref C :: us, kw⟩)) := ⟨r.toRoom.make C us kw, make_guards r.gd⟩
structure SubG (X : Cx) (n : Nat) (A : Around) : Prop where
  room : RoomG n A
  fr : A.frames = X.A.frames
theorem SubG.in1 {X : Cx} {n : Nat} {A : Around} (s : SubG X (n + 1) A) : SubG X n A.in1 := ⟨s.room.in1, s.fr⟩
theorem SubG.mono {X : Cx} {n m : Nat} {A : Around} (s : SubG X n A) (h : m ≤ n) : SubG X m A := ⟨s.room.mono h, s.fr⟩
/-- a def that keeps a promise wherever no repr is under way -/
structure FnG (P : Program) (w : World) (K : PySem.W.Frag) (mg : Str → Option Value) (base : Heap) (CX : CXT) (k : Nat) (f : Addr) (fd : FuncData) (ps : List Str) (sp : Sp) : Prop where
  len : ∀ vs H Q E, sp vs H Q E → vs.length = ps.length
  run : ∀ (A : Around) (outer : List Env) (s : Shared) (H : Hp) (args : Args) (us : List Value) (vs : List V) (Q : VK) (E : XK), RoomG k A → Env0 P w K mg base A outer s H → BindsTo s fd args (ps.zip us) → Vals vs us →
    sp vs H Q E → codeAny (model P w) A (.call (.ref f) args) (CR CX outer P w H s Q E) s
section
variable {P : Program} {w : World} {K : PySem.W.Frag} {mg : Str → Option Value} {base : Heap} {CX : CXT} {k : Nat} {f : Addr} {fd : FuncData} {ps : List Str} {sp sp' : Sp}
theorem FnG.mono {j : Nat} (F : FnG P w K mg base CX j f fd ps sp) (h : j ≤ k) : FnG P w K mg base CX k f fd ps sp where
  len := F.len
  run A outer s H args us vs Q E hr := F.run A outer s H args us vs Q E (hr.mono h)
/-- by its body -/
theorem FnG.by_body {x qual : Str} {params : Arguments} {body : List Stmt} {scope : Scope} {dvs : List V} {kws : List (Str × V)} {N : List Str} (F : FunD K x qual params body scope dvs kws f fd) (S : FnScope N ps scope) (len : ∀ vs H Q E, sp vs H Q E → vs.length = ps.length)
    (go : ∀ (cdv : Value) (A : Around) (outer : List Env) (s : Shared) (H : Hp) (vs : List V) (Q : VK) (E : XK), RoomG k (A.deeper (envOfC qual scope s.heap.objs.size f cdv)) → sp vs H Q E →
      ∃ t, PSs (cxOf CX P w K mg base N qual scope f cdv A outer s H E) body t ∧ t { nx := fun _ H' => Q .non H', rt := Q } (L2.start N vs) H) : FnG P w K mg base CX (k + 1) f fd ps sp := by
  obtain ⟨oc, od, dV, kV, doc, pm, an, cdv, ct, osl, rfl, lk, hcd, _, _⟩ := F.ex
  constructor
  · exact len
  intro A outer s H args us vs Q E hr e0 hb hv hsp
  have kept : ∀ b o, base.get? b = some o → s.heap.get? b = some o := fun b o e => (e0.bs b o e).1
  have inK := e0.mod.kin.keeps kept
  refine codeAny_call_function hr.toRoom.depth (inK _ _ lk) rfl S.co S.gen rfl (PySem.W.codeRec_of inK hcd) (hb _ _ _ _ ?_)
  refine wpAny_newFunctionEnv_cells S.kind (fun y hy => ?_) fun env he s1 x => ?_
  · rcases S.par y.1 (List.of_mem_zip (a := y.1) (b := y.2) hy).1 with q | q
    · left; exact q
    · right; exact ⟨q, PySem.W.cellsFrom_some _ _ _ (.inl q)⟩
  subst he
  obtain ⟨t, ht, hq⟩ := go cdv A outer s H vs Q E (hr.deeper _) hsp
  refine ⟨(e0.mod.nolimit.keeps kept).keeps x.toInCall.keep, codeAny_func (wpAny_mono (ht.run [] s1 _ H _ (inv_start S hr.hd e0 (len _ _ _ _ hsp) hv x) hq) (fun fl s' hs => ?_) fun e s' hs => hs)⟩
  cases fl with
  | ret u => obtain ⟨v, σ', H', J, rv, q⟩ := hs; exact ⟨v, H', J.os, J.bare, J.base, J.hok, rv, q⟩
  | next => obtain ⟨σ', H', J, q⟩ := hs; exact ⟨.non, H', J.os, J.bare, J.base, J.hok, rfl, q⟩
  | brk => obtain ⟨σ', H', J, q⟩ := hs; exact q.elim
  | cont => obtain ⟨σ', H', J, q⟩ := hs; exact q.elim
end
section
variable {X : Cx} {CX : CXT} {k n : Nat} {f C : Addr} {fd : FuncData} {ps ks : List Str} {sp : Sp} {E : XK} {g : List Value → List Value → List Value} {gV : List V → List V → List V}
/-- a def's end, told to its caller -/
theorem told {pins : List (Addr × Obj)} {σ : L2.St} {H : Hp} {s : Shared} {Q : VK} (hx : PassesAt CX X σ E) (I : Inv X pins σ H s) (r : Result) (s' : Shared) (h : CR CX X.stack X.prog X.w H s Q E r s') :
    (match r with | .ok (.ret u) => EP X pins σ Q u s' | .ok _ => False | .error e => X.xe e s') := by
  cases r with
  | error e => exact hx pins H s e s' I h
  | ok fl =>
    cases fl with
    | ret u => exact I.after h
    | next => exact h
    | brk => exact h
    | cont => exact h
theorem run_fnS' {pins : List (Addr × Obj)} {σ : L2.St} {H : Hp} {s : Shared} {Q : VK} {us ws : List Value} {vs zs : List V} (F : FnG X.prog X.w X.K X.mg X.base CX k f fd ps sp) (hr : RoomG k X.A) (hb : KBn X.K fd ps n ks g gV) (hx : PassesAt CX X σ E)
    (I : Inv X pins σ H s) (r : Vals vs us) (rz : Vals zs ws) (l1 : vs.length = n) (l2 : zs.length = ks.length) (h : sp (gV vs zs) H Q E) : wpAny (model X.prog X.w) X.A (call (.ref f) us (ks.zip ws)) (EP X pins σ Q) X.xe s := by
  refine wpAny_call (codeAny_mono (F.run X.A X.stack s H ⟨us, ks.zip ws⟩ (g us ws) (gV vs zs) Q E hr I.env0 (hb.to s us ws I.kIn (r.length.symm.trans l1) (rz.length.symm.trans l2)) (hb.rel r rz) h) fun r s' q => ?_)
  have z := told hx I r s' q
  cases r with
  | error e => exact z
  | ok fl => cases fl <;> exact z
theorem passAll {σ : L2.St} (hx : Passes CX X E) : PassesAt CX X σ E := fun pins H s e s' => hx pins σ H s e s'
theorem run_fnG {pins : List (Addr × Obj)} {σ : L2.St} {H : Hp} {s : Shared} {Q : VK} {us ws : List Value} {vs zs : List V} (F : FnG X.prog X.w X.K X.mg X.base CX k f fd ps sp) (hr : RoomG k X.A) (hb : KBn X.K fd ps n ks g gV) (hx : Passes CX X E)
    (I : Inv X pins σ H s) (r : Vals vs us) (rz : Vals zs ws) (l1 : vs.length = n) (l2 : zs.length = ks.length) (h : sp (gV vs zs) H Q E) : wpAny (model X.prog X.w) X.A (call (.ref f) us (ks.zip ws)) (EP X pins σ Q) X.xe s :=
  run_fnS' F hr hb (passAll hx) I r rz l1 l2 h
/-- C(..) -/
theorem run_makeS {pins : List (Addr × Obj)} {σ : L2.St} {H : Hp} {s : Shared} {Q : VK} {us ws : List Value} {vs zs : List V} (M : Mk X.K C f) (F : FnG X.prog X.w X.K X.mg X.base CX k f fd ps sp) (hr : RoomG (k + 1) X.A) (hb : KBn X.K fd ps (n + 1) ks g gV)
    (hx : PassesAt CX X σ E) (I : Inv X pins σ H s) (r : Vals vs us) (rz : Vals zs ws) (l1 : vs.length = n) (l2 : zs.length = ks.length)
    (h : ∀ x dx, H x = none → H dx = none → dx ≠ x → sp (gV (.ref x :: vs) zs) (upd (upd H dx (.own x)) x (.ins C dx [])) (fun v H2 => v = .non ∧ Q (.ref x) H2) E) :
    wpAny (model X.prog X.w) X.A (call (.ref C) us (ks.zip ws)) (EP X pins σ Q) X.xe s := by
  let sz := s.heap.objs.size
  have hq := h (sz + 1) sz (I.hok.fresh (Nat.le_succ _)) (I.hok.fresh (Nat.le_refl _)) (Nat.ne_of_lt (Nat.lt_succ_self _))
  have I2 := Inv.made (C := C) I
  have r1 : Vals (V.ref (sz + 1) :: vs) (Value.ref (sz + 1) :: us) := .cons rfl r
  have b2 := hb.to _ (Value.ref (sz + 1) :: us) ws I2.kIn (r1.length.symm.trans (congrArg Nat.succ l1)) (rz.length.symm.trans l2)
  have run := F.run _ X.stack _ _ ⟨Value.ref (sz + 1) :: us, ks.zip ws⟩ (g (Value.ref (sz + 1) :: us) ws) _ _ E (hr.make C us (ks.zip ws)) (I2.env0.make C us (ks.zip ws)) b2 (hb.rel r1 rz) hq
  refine wpAny_call (make_map (f := f) I.kIn M.makes M.init (beq_iff_eq.mp M.fn) (codeAny_mono run fun r s' q => ?_))
  have z := told hx I2 r s' q
  cases r with
  | error e => exact z
  | ok fl =>
    cases fl with
    | ret u =>
      obtain ⟨v, H', I3, rv, ev, q3⟩ := z
      subst ev
      exact ⟨rv, ⟨V.ref (sz + 1), H', I3, rfl, q3⟩⟩
    | next => exact z
    | brk => exact z
    | cont => exact z
theorem run_makeG {pins : List (Addr × Obj)} {σ : L2.St} {H : Hp} {s : Shared} {Q : VK} {us ws : List Value} {vs zs : List V} (M : Mk X.K C f) (F : FnG X.prog X.w X.K X.mg X.base CX k f fd ps sp) (hr : RoomG (k + 1) X.A) (hb : KBn X.K fd ps (n + 1) ks g gV)
    (hx : Passes CX X E) (I : Inv X pins σ H s) (r : Vals vs us) (rz : Vals zs ws) (l1 : vs.length = n) (l2 : zs.length = ks.length)
    (h : ∀ x dx, H x = none → H dx = none → dx ≠ x → sp (gV (.ref x :: vs) zs) (upd (upd H dx (.own x)) x (.ins C dx [])) (fun v H2 => v = .non ∧ Q (.ref x) H2) E) :
    wpAny (model X.prog X.w) X.A (call (.ref C) us (ks.zip ws)) (EP X pins σ Q) X.xe s := run_makeS M F hr hb (passAll hx) I r rz l1 l2 h
end
end Dl
namespace Dl
open PySem L2
abbrev DSp := List D → Sto → (D → Sto → Prop) → Prop
theorem Outs.to0 {A B : Type} {K : PySem.W.Frag} {U : Wi} {m : Nat → Addr} {S : Sto} {Z : Addr → Prop} {H : Hp} {rel : (Nat → Addr) → Nat → Hp → A → B → Prop} {q : A → Sto → Prop} {Q : B → Hp → Prop} (w : Wd K U m S Z H) (k : Outs m S Z H K U rel q Q) : Outs m S Z H K U0 rel q Q :=
  fun b H' m' a S' e w0 r h => k b H' m' a S' e (w.on e w0.toWd0) r h
theorem Wd.w0 {K : PySem.W.Frag} {U : Wi} {m : Nat → Addr} {S : Sto} {Z : Addr → Prop} {H : Hp} (w : Wd K U m S Z H) : Wd K U0 m S Z H := w.toWd0.u0
def spOf (K : PySem.W.Frag) (dsp : DSp) : Sp := fun vs H Q _ => ∃ m S Z ds q, Wd K U0 m S Z H ∧ Reps K m S.length (vis m S Z H) ds vs ∧ dsp ds S q ∧ Outs m S Z H K U0 (rD K) q Q
def startD (N : List Str) (ds : List D) : Env_ := ds.map some ++ List.replicate (N.length - ds.length) none
theorem relS_start {K : PySem.W.Frag} {m : Nat → Addr} {n : Nat} {Hv : Hp} {N : List Str} {ds : List D} {vs : List V} (r : Reps K m n Hv ds vs) : RelS K m n Hv (startD N ds) (L2.start N vs) := by
  have hl := Reps.len r
  refine ⟨by unfold startD L2.start; simp [hl], fun i d e => ?_⟩
  unfold startD at e
  by_cases hi : i < ds.length
  · rw [List.getElem?_append_left (by simpa using hi), List.getElem?_map] at e
    cases h1 : ds[i]? with
    | none => rw [h1] at e; cases e
    | some x =>
      rw [h1] at e
      cases e
      obtain ⟨v, h2, h3⟩ := Reps.get r h1
      refine ⟨v, ?_, h3⟩
      unfold L2.start
      rw [List.getElem?_append_left (by rw [List.length_map, hl]; exact hi), List.getElem?_map, h2]
      rfl
  · rw [List.getElem?_append_right (by simpa using Nat.le_of_not_lt hi), List.getElem?_replicate] at e
    split at e <;> cases e
theorem Wd.under {K : PySem.W.Frag} {m : Nat → Addr} {S : Sto} {Z : Addr → Prop} {H : Hp} (w : Wd K U m S Z H) : Sto.under S.length S = true := by
  refine List.all_eq_true.mpr fun o ho => ?_
  cases o with
  | none => rfl
  | some x =>
    obtain ⟨i, hi⟩ := List.getElem?_of_mem ho
    have r := w.rep i x hi
    show x.under S.length = true
    cases x with
    | lst ds => obtain ⟨vs, _, r⟩ := r; exact Reps.below r
    | obj C ks ds => obtain ⟨dx, vs, _, _, r⟩ := r; exact Reps.below r
    | dic ks ds => obtain ⟨vs, _, _, r⟩ := r; exact Reps.below r
    | dicT ks ds => obtain ⟨vs, _, _, r⟩ := r; exact Reps.below r
/-- a def's end: the store cut back to what it was, a list of its own given up -/
def fin (n : Nat) (q : D → Sto → Prop) (d : D) (S' : Sto) : Prop :=
  Sto.under n (S'.take n) = true ∧ match d with
  | .loc k => if k < n then q (.loc k) (S'.take n) else match S'[k]? with
    | some (some (.lst ds)) => D.unders n ds = true ∧ q (.lst ds) (S'.take n)
    | some (some (.dic ks ds)) => D.unders n ds = true ∧ q (.dic ks ds) (S'.take n)
    | some (some (.obj C ks ds)) => D.unders n ds = true ∧ q (.obj C ks ds) (S'.take n)
    | _ => False
  | d => d.under n = true ∧ q d (S'.take n)
theorem take_setN {S : Sto} {k n : Nat} (h : n ≤ k) : (S.set k none).take n = S.take n := by
  apply List.ext_getElem?
  intro i
  by_cases hi : i < n
  · rw [List.getElem?_take_of_lt hi, List.getElem?_take_of_lt hi, List.getElem?_set_ne (by omega)]
  · rw [List.getElem?_eq_none_iff.mpr (by rw [List.length_take]; omega), List.getElem?_eq_none_iff.mpr (by rw [List.length_take]; omega)]
theorem out_fin {K : PySem.W.Frag} {m : Nat → Addr} {S : Sto} {Z : Addr → Prop} {H : Hp} {q : D → Sto → Prop} {Q : VK} (w0 : Wd K U m S Z H) (k : Outs m S Z H K U (rD K) q Q) : Outs m S Z H K U (rD K) (fin S.length q) Q := by
  intro v H' m' d S' e w r ⟨hu, h⟩
  have e2 := e.take (Nat.le_refl _) e.len
  have w2 := w0.on e2 (w.toWd0.take e.len hu)
  have len : (S'.take S.length).length = S.length := by rw [List.length_take]; have := e.len; omega
  have key : ∀ {d : D}, Rep K m' S'.length (vis m' S' Z H') d v → d.under S.length = true → Rep K m' (S'.take S.length).length (vis m' (S'.take S.length) Z H') d v := fun {d} r hb => by
    rw [len]
    exact Rep.cut e.len (Rep.mono (fun _ _ => rfl) (Nat.le_refl _) (fun a o z => vis_take z) r) hb
  have key2 : ∀ {j : Nat} {d : D}, S.length ≤ j → v = V.ref (m' j) → Rep K m' (S'.set j none).length (vis m' (S'.set j none) Z H') d (.ref (m' j)) → d.under S.length = true →
      Rep K m' (S'.take S.length).length (vis m' (S'.take S.length) Z H') d v := fun {j d} hj hv r hb => by
    rw [hv, len]
    have r2 := Rep.cut (n := S.length) (by rw [List.length_set]; exact e.len) (Rep.mono (fun _ _ => rfl) (Nat.le_refl _) (fun a o z => vis_take (n := S.length) z) r) hb
    rw [take_setN hj] at r2
    exact r2
  cases d with
  | loc j =>
    by_cases hj : j < S.length
    · have h' : q (.loc j) (S'.take S.length) := by simpa [hj] using h
      exact k.at e2 w2 (key r (by simp [D.under, hj])) h'
    · have h' : match S'[j]? with
        | some (some (.lst ds)) => D.unders S.length ds = true ∧ q (.lst ds) (S'.take S.length)
        | some (some (.dic ks ds)) => D.unders S.length ds = true ∧ q (.dic ks ds) (S'.take S.length)
        | some (some (.obj C ks ds)) => D.unders S.length ds = true ∧ q (.obj C ks ds) (S'.take S.length)
        | _ => False := by simpa [hj] using h
      have hv : v = V.ref (m' j) := by
        have r' : Rep K m' S'.length (vis m' S' Z H') (.loc j) v := r
        rw [Rep] at r'
        exact r'.1
      have hj' := Nat.le_of_not_lt hj
      cases ho : S'[j]? with
      | none => rw [ho] at h'; exact h'.elim
      | some o =>
        cases o with
        | none => rw [ho] at h'; exact h'.elim
        | some o =>
          rw [ho] at h'
          cases o with
          | lst ds => exact k.at e2 w2 (key2 hj' hv (w.frozen_lst ho) (by simpa [D.under] using h'.1)) h'.2
          | dic ks ds => exact k.at e2 w2 (key2 hj' hv (w.frozen_dic ho) (by simpa [D.under] using h'.1)) h'.2
          | obj C ks ds => exact k.at e2 w2 (key2 hj' hv (w.frozen_obj ho) (by simpa [D.under] using h'.1)) h'.2
          | dicT ks ds => exact h'.elim
  | non => exact k.at e2 w2 (key r h.1) h.2
  | bl b => exact k.at e2 w2 (key r h.1) h.2
  | int b => exact k.at e2 w2 (key r h.1) h.2
  | str b => exact k.at e2 w2 (key r h.1) h.2
  | tup b => exact k.at e2 w2 (key r h.1) h.2
  | lst b => exact k.at e2 w2 (key r h.1) h.2
  | ksq b => exact k.at e2 w2 (key r h.1) h.2
  | obj C b c => exact k.at e2 w2 (key r h.1) h.2
  | dic b c => exact k.at e2 w2 (key r h.1) h.2
  | ref b => exact k.at e2 w2 (key r h.1) h.2
  | ty b => exact k.at e2 w2 (key r h.1) h.2
  | exc a b c => exact k.at e2 w2 (key r h.1) h.2
inductive Src where
  | p (i : Nat) | d (i : Nat) | k (i : Nat)
def pick {A : Type} (us its ws : List A) : Src → Option A
  | .p i => us[i]?
  | .d i => its[i]?
  | .k i => ws[i]?
def gat {A : Type} (src : List Src) (us its ws : List A) : List A := src.filterMap (pick us its ws)
theorem paired_at {A B : Type} {F : A → B → Prop} : ∀ {l : List A} {l' : List B}, Paired F l l' → ∀ i : Nat, (l[i]? = none ∧ l'[i]? = none) ∨ ∃ (a : A) (b : B), l[i]? = some a ∧ l'[i]? = some b ∧ F a b
  | _, _, .nil, i => .inl (by simp)
  | _, _, .cons r t, 0 => .inr ⟨_, _, rfl, rfl, r⟩
  | _, _, .cons r t, i + 1 => by simpa using paired_at t i
theorem gat_pair {A B : Type} {F : A → B → Prop} {us its ws : List A} {us' its' ws' : List B} (h1 : Paired F us us') (h2 : Paired F its its') (h3 : Paired F ws ws') : ∀ src : List Src, Paired F (gat src us its ws) (gat src us' its' ws')
  | [] => .nil
  | x :: xs => by
    have ih := gat_pair h1 h2 h3 xs
    unfold gat at *
    have : (pick us its ws x = none ∧ pick us' its' ws' x = none) ∨ ∃ a b, pick us its ws x = some a ∧ pick us' its' ws' x = some b ∧ F a b := by
      cases x with
      | p i => exact paired_at h1 i
      | d i => exact paired_at h2 i
      | k i => exact paired_at h3 i
    rcases this with ⟨e1, e2⟩ | ⟨a, b, e1, e2, r⟩
    · rw [List.filterMap_cons_none e1, List.filterMap_cons_none e2]; exact ih
    · rw [List.filterMap_cons_some e1, List.filterMap_cons_some e2]; exact .cons r ih
theorem Reps.paired {K : PySem.W.Frag} {m : Nat → Addr} {N : Nat} {H : Hp} : ∀ {ds : List D} {vs : List V}, Reps K m N H ds vs → Paired (fun d v => Rep K m N H d v) ds vs
  | [], _, r => by rw [show _ = [] from r]; exact .nil
  | d :: ds, _, r => by
    obtain ⟨v, q, e, r1, r2⟩ := r
    rw [e]
    exact .cons r1 (Reps.paired r2)
theorem Reps.of_paired {K : PySem.W.Frag} {m : Nat → Addr} {N : Nat} {H : Hp} : ∀ {ds : List D} {vs : List V}, Paired (fun d v => Rep K m N H d v) ds vs → Reps K m N H ds vs
  | _, _, .nil => reps_nil
  | _, _, .cons r t => Reps.cons r (Reps.of_paired t)
/-- how a call with n values and keywords ks binds; nd defaults -/
inductive Bnd (x qual : Str) (st : Stmt) (ps : List Str) (n : Nat) (ks : List Str) (src : List Src) : Nat → Prop where
  | zero (h : ∀ (kV doc pm : Value) (an : Option Addr) (cdv ct : Value) (us ws : List Value), us.length = n → ws.length = ks.length →
      bindArgs (PySem.W.fnOf x qual (defArgs st) (defBody st) (defScope st) .none kV doc pm an cdv ct) ⟨us, ks.zip ws⟩ = pure (ps.zip (gat src us [] ws))) : Bnd x qual st ps n ks src 0
  | more (nd : Nat) (h : ∀ (T : Addr) (kV doc pm : Value) (an : Option Addr) (cdv ct : Value) (us its ws : List Value), us.length = n → its.length = nd + 1 → ws.length = ks.length →
      ∃ k, bindArgs (PySem.W.fnOf x qual (defArgs st) (defBody st) (defScope st) (.ref T) kV doc pm an cdv ct) ⟨us, ks.zip ws⟩ = seqItems? (.ref T) >>= k ∧ k (some its.toArray) = pure (ps.zip (gat src us its ws))) : Bnd x qual st ps n ks src (nd + 1)
abbrev FunS (K : PySem.W.Frag) (x qual : Str) (st : Stmt) (dvs : List V) (f : Addr) (fd : FuncData) : Prop := FunD K x qual (defArgs st) (defBody st) (defScope st) dvs [] f fd
theorem kbn_of {K : PySem.W.Frag} {x qual : Str} {st : Stmt} {dvs : List V} {f : Addr} {fd : FuncData} {ps ks : List Str} {n : Nat} {src : List Src} (F : FunS K x qual st dvs f fd) (b : Bnd x qual st ps n ks src dvs.length) :
    ∃ its : List Value, KBn K fd ps n ks (fun us ws => gat src us its ws) (fun vs zs => gat src vs dvs zs) := by
  obtain ⟨oc, od, dV, kV, doc, pm, an, cdv, ct, osl, rfl, lk, hcd, hD, hK⟩ := F.ex
  rcases hD with ⟨rfl, rfl⟩ | ⟨hne, T, o, its, mm, rfl, lT, oT, rT⟩
  · cases b with
    | zero h => exact ⟨[], ⟨fun s us ws X l1 l2 => .of_eq (h kV doc pm an cdv ct us ws l1 l2), fun r1 r2 => gat_pair r1 .nil r2 src⟩⟩
  · have hb : ∃ nd, dvs.length = nd + 1 := by
      cases dvs with
      | nil => exact absurd rfl hne
      | cons _ r => exact ⟨r.length, rfl⟩
    obtain ⟨nd, e⟩ := hb
    rw [e] at b
    cases b with
    | more _ h =>
      refine ⟨its, ⟨fun s us ws X l1 l2 => ?_, fun r1 r2 => gat_pair r1 rT r2 src⟩⟩
      obtain ⟨k, e1, e2⟩ := h T kV doc pm an cdv ct us its ws l1 (rT.length.symm.trans e) l2
      refine BindsTo.of_looks fun M => ?_
      rw [e1]
      exact looks_items X lT oT (.of_pure e2)
abbrev GA := Env_ → Sto → (List D → List D → Sto → Prop) → Prop
def gArgs (ga gk : G (List D)) : GA := fun ρ S q => ga ρ S fun as S1 => gk ρ S1 fun ks S2 => q as ks S2
abbrev TA2 := St → Hp → (List V → List V → Hp → Prop) → Prop
structure PArgs (X : Cx) (es : List Expr) (kws : List Keyword) (pos : Pos) (ks : List Str) (t : TA2) : Prop where
  run : ∀ (pins : List (Addr × Obj)) (s : Shared) (σ : St) (H : Hp) (Q : List V → List V → Hp → Prop) (f : Value) (first : List Value) (R : Value → Shared → Prop), Inv X pins σ H s → PySem.W.keepIn X.K f = true → t σ H Q →
    (∀ us ws vs zs s' H', Inv X pins σ H' s' → Vals vs us → Vals zs ws → Q vs zs H' → wpAny (model X.prog X.w) X.A (call f (first ++ us) (ks.zip ws)) R X.xe s') →
    wpAny (model X.prog X.w) X.A (callWith pos f first (backTo pos (starEach es X.env)) (backToKw pos (keywordEach kws X.env))) R X.xe s
def tof2 (K : PySem.W.Frag) (U : Wi) (g : GA) : TA2 := fun σ H Q => ∃ m S Z ρ q, Wd K U m S Z H ∧ RelS K m S.length (vis m S Z H) ρ σ ∧ g ρ S q ∧
  ∀ vs zs H' m' as ks S', Ext m S Z H m' S' H' → Wd K U m' S' Z H' → Reps K m' S'.length (vis m' S' Z H') as vs → Reps K m' S'.length (vis m' S' Z H') ks zs → q as ks S' → Q vs zs H'
section
variable {X : Cx} {pos : Pos} {e : Expr} {es : List Expr} {kws : List Keyword} {ks : List Str} {ga gk : G (List D)}
theorem tof2_in {K : PySem.W.Frag} {σ : St} {H : Hp} {Q : List V → List V → Hp → Prop} (h : tof2 K U (gArgs ga gk) σ H Q) : tofA K U ga σ H fun vs H1 => tofA K U gk σ H1 fun zs H2 => Q vs zs H2 := by
  obtain ⟨m, S, Z, ρ, q, w, rs, h, k⟩ := h
  exact tof_in w rs h fun v1 H1 m1 d1 S1 e1 w1 r1 h1 => tof_in w1 (rs.ext e1) h1 fun v2 H2 m2 d2 S2 e2 w2 r2 h2 => k v1 v2 H2 m2 d1 d2 S2 (e1.trans e2) w2 (r1.ext e2) r2 h2
theorem dk_nil : PK X [] (tofA X.K U gNil) := ⟨fun pos pins s σ H Q I ⟨m, S, Z, ρ, q, w, rs, h, k⟩ => (pk_nil (X := X)).run pos pins s σ H Q I (k.now w reps_nil h)⟩
theorem dk_cons {nm : Option Str} {kpos : Pos} {ge : G D} (ha : PE X e (tofE X.K U ge)) (hr : PK X kws (tofA X.K U gk)) : PK X (⟨nm, e, kpos⟩ :: kws) (tofA X.K U (gCons ge gk)) :=
  ⟨fun pos pins s σ H Q I ⟨m, S, Z, ρ, q, w, rs, h, k⟩ => (pk_cons (nm := nm) (kpos := kpos) ha hr).run pos pins s σ H Q I
    (tof_in w rs h fun v1 H1 m1 d1 S1 e1 w1 r1 h1 => tof_in w1 (rs.ext e1) h1 fun v2 H2 m2 d2 S2 e2 w2 r2 h2 => k.at (e1.trans e2) w2 (Reps.cons (r1.ext e2) r2) h2)⟩
theorem da_00 : PArgs X [] [] pos [] (tof2 X.K U (gArgs gNil gNil)) := ⟨fun pins s σ H Q f first R I hk h go => by
  obtain ⟨m, S, Z, ρ, q, w, rs, h, k⟩ := h
  exact PySem.W.callWith_K0 I.kIn hk (go [] [] [] [] s H I .nil .nil (k [] [] H m [] [] S Ext.refl w reps_nil reps_nil h))⟩
theorem da_p0 (ha : PA X (e :: es) (tofA X.K U ga)) (he : starEach (e :: es) X.env = (false, eval e X.env) :: starEach es X.env := by rfl) (hpl : (backTo pos (starEach es X.env)).any (·.1) = false := by rfl) :
    PArgs X (e :: es) [] pos [] (tof2 X.K U (gArgs ga gNil)) := ⟨fun pins s σ H Q f first R I hk h go => by
  obtain ⟨m, S, Z, ρ, q, w, rs, h, k⟩ := h
  refine PySem.W.callWith_K (h₀ := X.base) I.ok.mod.kin hk (thn (ha.run pos pins s σ H (fun vs H1 => Q vs [] H1) I (tof_in w rs h fun v1 H1 m1 d1 S1 e1 w1 r1 h1 => k v1 [] H1 m1 d1 [] S1 e1 w1 r1 reps_nil h1)) fun us s1 ⟨vs, H1, I1, r, q⟩ => ⟨I1.kIn, ?_⟩) he hpl
  exact go us [] vs [] s1 H1 I1 r .nil q⟩
theorem da_0k (hkw : PK X kws (tofA X.K U gk)) (hall : (backToKw pos (keywordEach kws X.env)).all (·.1.isSome) = true := by rfl) (hks : (backToKw pos (keywordEach kws X.env)).filterMap (·.1) = ks := by rfl)
    (hpl : ((backTo pos (starEach [] X.env)).any (·.1) || (backToKw pos (keywordEach kws X.env)).any (·.1.isNone)) = false := by rfl) : PArgs X [] kws pos ks (tof2 X.K U (gArgs gNil gk)) := ⟨fun pins s σ H Q f first R I hk h go => by
  obtain ⟨m, S, Z, ρ, q, w, rs, h, k⟩ := h
  refine PySem.W.callWith_KW0 (h₀ := X.base) I.ok.mod.kin hk hall (thn (hkw.run pos pins s σ H (fun zs H1 => Q [] zs H1) I (tof_in w rs h fun v1 H1 m1 d1 S1 e1 w1 r1 h1 => k [] v1 H1 m1 [] d1 S1 e1 w1 reps_nil r1 h1)) fun ws s1 ⟨zs, H1, I1, r, q⟩ => ⟨I1.kIn, ?_⟩) hpl
  rw [hks]
  exact go [] ws [] zs s1 H1 I1 .nil r q⟩
theorem da_pk (ha : PA X (e :: es) (tofA X.K U ga)) (hkw : PK X kws (tofA X.K U gk)) (hall : (backToKw pos (keywordEach kws X.env)).all (·.1.isSome) = true := by rfl) (hks : (backToKw pos (keywordEach kws X.env)).filterMap (·.1) = ks := by rfl)
    (he : starEach (e :: es) X.env = (false, eval e X.env) :: starEach es X.env := by rfl)
    (hpl : ((backTo pos (starEach (e :: es) X.env)).any (·.1) || (backToKw pos (keywordEach kws X.env)).any (·.1.isNone)) = false := by rfl) : PArgs X (e :: es) kws pos ks (tof2 X.K U (gArgs ga gk)) := ⟨fun pins s σ H Q f first R I hk h go => by
  refine PySem.W.callWith_KW (h₀ := X.base) I.ok.mod.kin hk hall (thn (ha.run pos pins s σ H _ I (tof2_in h)) fun us s1 ⟨vs, H1, I1, r, q⟩ => thn (hkw.run pos pins s1 σ H1 _ I1 q) fun ws s2 ⟨zs, H2, I2, rz, q2⟩ => ⟨I2.kIn, ?_⟩) hpl he
  rw [hks]
  exact go us ws vs zs s2 H2 I2 r rz q2⟩
end
/-- a def of the top with its promise -/
structure Fnc (P : Program) (w : World) (K : PySem.W.Frag) (mg : Str → Option Value) (base : Heap) (x : Str) (st : Stmt) (dvs : List V) (k : Nat) (ps : List Str) (dsp : DSp) : Prop where
  ex : ∃ f fd, FunS K x x st dvs f fd ∧ mg x = some (.ref f) ∧ FnG P w K mg base CX0 k f fd ps (spOf K dsp)
def DfV (dds : List D) (dvs : List V) : Prop := ∀ K m N Hv, Reps K m N Hv dds dvs
theorem dfv_nil : DfV [] [] := fun _ _ _ _ => reps_nil
/-- f(..): n values, keywords -/
def gCall (n nk : Nat) (src : List Src) (dds : List D) (dsp : DSp) (ga : GA) : G D := fun ρ S q => ga ρ S fun as ks S1 => as.length = n ∧ ks.length = nk ∧ dsp (gat src as dds ks) S1 q
section
variable {X : Cx} {pos p apos : Pos} {x m qual : Str} {st : Stmt} {dvs : List V} {dds : List D} {k n : Nat} {ps ks : List Str} {dsp : DSp} {es : List Expr} {kws : List Keyword} {src : List Src} {ga : GA}
theorem gat_reps {K : PySem.W.Frag} {mm : Nat → Addr} {N : Nat} {Hv : Hp} {as zs : List D} {vs ws : List V} (r1 : Reps K mm N Hv as vs) (hd : DfV dds dvs) (r2 : Reps K mm N Hv zs ws) : Reps K mm N Hv (gat src as dds zs) (gat src vs dvs ws) :=
  Reps.of_paired (gat_pair (Reps.paired r1) (Reps.paired (hd K mm N Hv)) (Reps.paired r2) src)
theorem d_call (F : Fnc X.prog X.w X.K X.mg X.base x st dvs k ps dsp) (hr : RoomG k X.A) (hg : Gl X x) (b : Bnd x x st ps n ks src dvs.length) (hd : DfV dds dvs) (ha : PArgs X es kws pos ks (tof2 X.K U ga)) (hdb : (x == ("__debug__" : Str)) = false := by decide) :
    PE X (.Call (.Name x p) es kws pos) (tofE X.K U (gCall n ks.length src dds dsp ga)) := by
  refine ⟨fun pins s σ H Q I ⟨mm, S, Z, ρ, q, w, rs, h, kk⟩ => ?_⟩
  obtain ⟨f, fd, FS, hm, FO⟩ := F.ex
  obtain ⟨its, KB⟩ := kbn_of FS b
  refine wpAny_Call_Name_kw (ld_glob I hg hm ?_ hdb)
  refine ha.run pins s σ H (fun vs zs H1 => vs.length = n ∧ zs.length = ks.length ∧ spOf X.K dsp (gat src vs dvs zs) H1 Q fun _ _ _ => False) (.ref f) [] _ I FS.kp ⟨mm, S, Z, ρ, _, w, rs, h, fun vs zs H1 m1 as zd S1 e1 w1 r1 r2 h1 => ?_⟩ fun us ws vs zs s1 H1 I1 rv rz ⟨l1, l2, hs⟩ => ?_
  · exact ⟨by rw [Reps.len r1]; exact h1.1, by rw [Reps.len r2]; exact h1.2.1, m1, S1, Z, gat src as dds zd, q, w1.w0, gat_reps r1 hd r2, h1.2.2, (kk.ext e1).to0 w1⟩
  · exact run_fnG FO hr KB pass0 I1 rv rz l1 l2 hs
end
end Dl
namespace Dl
open PySem L2
def putK (f : Str) : List Str → List Str
  | [] => [f]
  | g :: ks => if g = f then g :: ks else g :: putK f ks
def putX {A : Type} (f : Str) (y : A) : List Str → List A → List A
  | [], _ => [y]
  | g :: ks, x :: xs => if g = f then y :: xs else x :: putX f y ks xs
  | _ :: _, [] => []
theorem putF_zip (f : Str) (v : V) : ∀ (ks : List Str) (vs : List V), ks.length = vs.length → putF f v (ks.zip vs) = (putK f ks).zip (putX f v ks vs) ∧ (putK f ks).length = (putX f v ks vs).length
  | [], [], _ => ⟨rfl, rfl⟩
  | g :: ks, x :: vs, h => by
    have ih := putF_zip f v ks vs (by simpa using h)
    rw [List.zip_cons_cons, putF, putK, putX]
    by_cases e : g = f
    · rw [if_pos e, if_pos e, if_pos e, List.zip_cons_cons]
      exact ⟨rfl, by simpa using h⟩
    · rw [if_neg e, if_neg e, if_neg e, List.zip_cons_cons, ih.1]
      exact ⟨rfl, by simp [ih.2]⟩
  | [], _ :: _, h => by simp at h
  | _ :: _, [], h => by simp at h
def fget (f : Str) (ks : List Str) (ds : List D) : Option D := (ks.zip ds).lookup f
section
variable {K : PySem.W.Frag} {m : Nat → Addr} {N : Nat} {Hv : Hp}
theorem reps_putX {f : Str} {d : D} {v : V} (r : Rep K m N Hv d v) : ∀ {ks : List Str} {ds : List D} {vs : List V}, ks.length = vs.length → Reps K m N Hv ds vs → Reps K m N Hv (putX f d ks ds) (putX f v ks vs)
  | [], _, _, _, _ => Reps.one r
  | g :: ks, [], _, h, q => by rw [show _ = [] from q] at h; simp at h
  | g :: ks, x :: ds, _, h, q => by
    obtain ⟨u, us, e, r1, r2⟩ := q
    rw [e] at h ⊢
    rw [putX, putX]
    by_cases e1 : g = f
    · rw [if_pos e1, if_pos e1]; exact Reps.cons r r2
    · rw [if_neg e1, if_neg e1]; exact Reps.cons r1 (reps_putX r (by simpa using h) r2)
theorem reps_fget {f : Str} : ∀ {ks : List Str} {ds : List D} {vs : List V} {d : D}, Reps K m N Hv ds vs → fget f ks ds = some d → ∃ v, (ks.zip vs).lookup f = some v ∧ Rep K m N Hv d v
  | [], _, _, _, _, h => by simp [fget] at h
  | _ :: _, [], _, _, _, h => by simp [fget] at h
  | g :: ks, x :: ds, _, d, q, h => by
    obtain ⟨u, us, e, r1, r2⟩ := q
    rw [e]
    unfold fget at h
    rw [List.zip_cons_cons, List.lookup_cons] at h ⊢
    by_cases e1 : f == g
    · rw [e1] at h ⊢
      cases h
      exact ⟨u, rfl, r1⟩
    · rw [Bool.eq_false_iff.mpr e1] at h ⊢
      exact reps_fget r2 h
theorem zip_lookup_none {f : Str} : ∀ {ks : List Str} {vs : List V}, ks.contains f = false → (ks.zip vs).lookup f = none
  | [], _, _ => rfl
  | _ :: _, [], _ => rfl
  | g :: ks, x :: vs, h => by
    rw [List.contains_cons] at h
    have h1 : (f == g) = false := by cases q : f == g <;> simp_all
    have h2 : ks.contains f = false := by cases q : ks.contains f <;> simp_all
    rw [List.zip_cons_cons, List.lookup_cons, h1]
    exact zip_lookup_none h2
end
def objOf (S : Sto) : D → Option (Addr × List Str × List D)
  | .obj C ks ds => some (C, ks, ds)
  | .loc n => match S[n]? with
    | some (some (.obj C ks ds)) => some (C, ks, ds)
    | _ => none
  | _ => none
theorem objOf_rep {K : PySem.W.Frag} {m : Nat → Addr} {S : Sto} {Z : Addr → Prop} {H : Hp} {d : D} {v : V} {C : Addr} {ks : List Str} {ds : List D} (w : Wd K U m S Z H) (r : Rep K m S.length (vis m S Z H) d v) (h : objOf S d = some (C, ks, ds)) :
    ∃ a dx vs, v = .ref a ∧ H a = some (.ins C dx (ks.zip vs)) ∧ ks.length = vs.length ∧ Reps K m S.length (vis m S Z H) ds vs := by
  cases d with
  | obj C' ks' ds' =>
    cases h
    rw [Rep] at r
    obtain ⟨a, dx, vs, e, h1, h2, h3⟩ := r
    exact ⟨a, dx, vs, e, vis_sub h1, h2, h3⟩
  | loc n =>
    rw [Rep] at r
    rw [objOf] at h
    cases hS : S[n]? with
    | none => rw [hS] at h; cases h
    | some o =>
      cases o with
      | none => rw [hS] at h; cases h
      | some o =>
        cases o with
        | obj C' ks' ds' =>
          rw [hS] at h
          cases h
          obtain ⟨dx, vs, h1, h2, h3⟩ := w.rep n _ hS
          exact ⟨m n, dx, vs, r.1, h1, h2, h3⟩
        | lst _ => rw [hS] at h; cases h
        | dic _ _ => rw [hS] at h; cases h
        | dicT _ _ => rw [hS] at h; cases h
  | non => cases h
  | bl _ => cases h
  | int _ => cases h
  | str _ => cases h
  | tup _ => cases h
  | lst _ => cases h
  | ksq _ => cases h
  | dic _ _ => cases h
  | ref _ => cases h
  | ty _ => cases h
  | exc _ _ _ => cases h
structure FldOk (K : PySem.W.Frag) (C : Addr) (f : Str) : Prop where
  cl : Cls K C
  no : NoAttr K C f
def gFld (K : PySem.W.Frag) (f : Str) (go : G D) : G D := fun ρ S q => go ρ S fun o S1 => ∃ C ks ds d, objOf S1 o = some (C, ks, ds) ∧ FldOk K C f ∧ fget f ks ds = some d ∧ q d S1
def gFldSet (K : PySem.W.Frag) (f : Str) (go gv : G D) : GS := fun E ρ S => gv ρ S fun y S1 => go ρ S1 fun o S2 => ∃ n C ks ds, o = .loc n ∧ S2[n]? = some (some (.obj C ks ds)) ∧ FldOk K C f ∧ ks.length < 1000 ∧
  E.nx ρ (S2.set n (some (.obj C (putK f ks) (putX f y ks ds))))
section
variable {X : Cx} {pos pos' : Pos} {e o value : Expr} {f : Str} {go gv : G D}
theorem d_fld (he : PE X e (tofE X.K U go)) (hb : attributeBase e f X.env (eval e X.env) = eval e X.env := by rfl) : PE X (.Attribute e f pos) (tofE X.K U (gFld X.K f go)) :=
  weakE (pe_fld he hb) fun σ H Q ⟨m, S, Z, ρ, q, w, rs, h, k⟩ => tof_in w rs h fun v1 H1 m1 d1 S1 e1 w1 r1 ⟨C, ks, ds, d, h1, h2, h3, h4⟩ => by
    obtain ⟨a, dx, vs, ev, ha, hl, hr⟩ := objOf_rep w1 r1 h1
    obtain ⟨v, hv, rv⟩ := reps_fget hr h3
    exact ⟨a, C, dx, _, v, ev, ha, h2.cl, h2.no, hv, k.at e1 w1 rv h4⟩
theorem d_fldset (ho : PE X o (tofE X.K U go)) (hv : PE X value (tofE X.K U gv)) (hs : swapsWith value (some (.Attribute o f pos')) pos.line X.env = pure false := by rfl) : PS X (.Assign [.Attribute o f pos'] value pos) (tofS X.K U (gFldSet X.K f go gv)) :=
  weakS (ps_fld ho hv hs) fun De σ H ⟨m, S, Z, ρ, E, w, rs, h, k⟩ => tof_in w rs h fun v1 H1 m1 d1 S1 e1 w1 r1 h1 => tof_in w1 (rs.ext e1) h1 fun v2 H2 m2 d2 S2 e2 w2 r2 ⟨n, C, ks, ds, ed, hS, h2, hl, h3⟩ => by
    subst ed
    obtain ⟨dx, vs, ha, hlen, hr⟩ := w2.rep n _ hS
    have r2' : Rep X.K m2 S2.length (vis m2 S2 Z H2) (.loc n) v2 := r2
    rw [Rep] at r2'
    refine ⟨m2 n, C, dx, _, r2'.1, ha, h2.cl, h2.no, by rw [List.length_zip, ← hlen, Nat.min_self]; exact hl, ?_⟩
    obtain ⟨z1, z2⟩ := putF_zip f v1 ks vs hlen
    rw [z1]
    obtain ⟨w3, e3, hv3⟩ := w2.upd (o := .ins C dx ((putK f ks).zip (putX f v1 ks vs))) (mo := .obj C (putK f ks) (putX f d1 ks ds)) ⟨_, hS⟩ ⟨dx, _, upd_same, z2, reps_putX (r1.ext e2) hlen hr⟩
    exact k.nx.at ((e1.trans e2).trans e3) w3 (rs.ext ((e1.trans e2).trans e3)) h3
end
structure MFn (P : Program) (w : World) (K : PySem.W.Frag) (mg : Str → Option Value) (base : Heap) (C : Addr) (m qual : Str) (st : Stmt) (dvs : List V) (k : Nat) (ps : List Str) (dsp : DSp) : Prop where
  cl : Cls K C
  ex : ∃ f fd, FunS K m qual st dvs f fd ∧ Meth K C m f ∧ FnG P w K mg base CX0 k f fd ps (spOf K dsp)
structure CFn (P : Program) (w : World) (K : PySem.W.Frag) (mg : Str → Option Value) (base : Heap) (x : Str) (C : Addr) (qual : Str) (st : Stmt) (dvs : List V) (k : Nat) (ps : List Str) (dsp : DSp) : Prop where
  mC : mg x = some (.ref C)
  ex : ∃ f fd, FunS K "__init__" qual st dvs f fd ∧ Mk K C f ∧ FnG P w K mg base CX0 k f fd ps (spOf K dsp)
def gMeth (C : Addr) (m : Str) (n nk : Nat) (src : List Src) (dds : List D) (dsp : DSp) (go : G D) (ga : GA) : G D := fun ρ S q => go ρ S fun o S1 => ∃ ks ds, objOf S1 o = some (C, ks, ds) ∧ ks.contains m = false ∧
  ga ρ S1 fun as zs S2 => as.length = n ∧ zs.length = nk ∧ dsp (gat src (o :: as) dds zs) S2 q
/-- C(..), the new instance of the store -/
def gMake (C : Addr) (n nk : Nat) (src : List Src) (dds : List D) (dsp : DSp) (ga : GA) : G D := fun ρ S q => ga ρ S fun as zs S1 => as.length = n ∧ zs.length = nk ∧
  dsp (gat src (.loc S1.length :: as) dds zs) (S1 ++ [some (.obj C [] [])]) fun v S2 => v = .non ∧ q (.loc S1.length) S2
/-- C(..), the new instance given up at once -/
def gMakeF (C : Addr) (n nk : Nat) (src : List Src) (dds : List D) (dsp : DSp) (ga : GA) : G D := fun ρ S q => ga ρ S fun as zs S1 => as.length = n ∧ zs.length = nk ∧ (D.unders S1.length as = true → D.unders S1.length zs = true →
  dsp (gat src (.loc S1.length :: as) dds zs) (S1 ++ [some (.obj C [] [])]) fun v S2 => v = .non ∧ ∃ ks ds, S2 = S1 ++ [some (.obj C ks ds)] ∧ D.unders S1.length ds = true ∧ q (.obj C ks ds) S1)
section
variable {X : Cx} {pos p apos : Pos} {x m qual : Str} {st : Stmt} {dvs : List V} {dds : List D} {k n : Nat} {ps ks : List Str} {dsp : DSp} {es : List Expr} {kws : List Keyword} {src : List Src} {ga : GA} {o : Expr} {go : G D} {C : Addr}
theorem d_meth {pl : Sem Bool} (F : MFn X.prog X.w X.K X.mg X.base C m qual st dvs k ps dsp) (hr : RoomG k X.A) (b : Bnd m qual st ps (n + 1) ks src dvs.length) (hd : DfV dds dvs) (ho : PE X o (tofE X.K U go)) (ha : PArgs X es kws pos ks (tof2 X.K U ga))
    (ht : eval (.Call (.Attribute o m apos) es kws pos) X.env = (do
      let ov ← eval o X.env
      standAt apos.atName
      let (f, first) ← holding [ov] (getMethod ov m pl)
      callWith pos f first (backTo pos (starEach es X.env)) (backToKw pos (keywordEach kws X.env))) := by rfl) :
    PE X (.Call (.Attribute o m apos) es kws pos) (tofE X.K U (gMeth C m n ks.length src dds dsp go ga)) := by
  refine ⟨fun pins s σ H Q I ⟨mm, S, Z, ρ, q, w, rs, h, kk⟩ => ?_⟩
  obtain ⟨f, fd, FS, hm, FO⟩ := F.ex
  obtain ⟨its, KB⟩ := kbn_of FS b
  refine PySem.W.methodCall_KW (pl := pl) (thn (ho.run pins s σ H (fun x H1 => ∃ a dx fs, x = .ref a ∧ H1 a = some (.ins C dx fs) ∧ fs.lookup m = none ∧ tof2 X.K U ga σ H1 fun vs zs H2 => vs.length = n ∧ zs.length = ks.length ∧ spOf X.K dsp (gat src (x :: vs) dvs zs) H2 Q fun _ _ _ => False) I
    (tof_in w rs h fun v1 H1 m1 d1 S1 e1 w1 r1 ⟨kf, df, h1, h2, h3⟩ => ?_)) fun u s1 ⟨x, H1, I1, rx, a, dx, fs, ex, ea, l, q⟩ => ?_) ht
  · obtain ⟨a, dx, vs, ev, hha, hlen, hrr⟩ := objOf_rep w1 r1 h1
    refine ⟨a, dx, _, ev, hha, zip_lookup_none h2, m1, S1, Z, ρ, _, w1, rs.ext e1, h3, fun vs zs H2 m2 as zd S2 e2 w2 r2 r3 h4 => ?_⟩
    exact ⟨by rw [Reps.len r2]; exact h4.1, by rw [Reps.len r3]; exact h4.2.1, m2, S2, Z, gat src (d1 :: as) dds zd, _, w2.w0, gat_reps (Reps.cons (r1.ext e2) r2) hd r3, h4.2.2, (kk.ext (e1.trans e2)).to0 w2⟩
  · subst ex
    obtain rfl : u = Value.ref a := rx
    refine getmeth_ok I1 ea F.cl hm l ?_
    refine ha.run pins s1 σ H1 _ (.ref f) [.ref a] _ I1 hm.kp q fun us ws vs zs s2 H2 I2 rv rz ⟨l1, l2, hs⟩ => ?_
    exact run_fnG FO hr KB pass0 I2 (us := .ref a :: us) (vs := .ref a :: vs) (.cons rfl rv) rz (congrArg Nat.succ l1) l2 hs
theorem spOf_len {K : PySem.W.Frag} (hl : ∀ ds S q, dsp ds S q → ds.length = ps.length) : ∀ vs H Q E, spOf K dsp vs H Q E → vs.length = ps.length := fun vs H Q E ⟨m, S, Z, ds, q, w, r, h, k⟩ => by rw [Reps.len r]; exact hl ds S q h
theorem run_makeD {P : Program} {wo : World} (M : ∃ f fd, FunS X.K "__init__" qual st dvs f fd ∧ Mk X.K C f ∧ FnG X.prog X.w X.K X.mg X.base CX0 k f fd ps (spOf X.K dsp)) (hm : X.mg x = some (.ref C)) (hr : RoomG (k + 1) X.A) (hg : Gl X x) (b : Bnd "__init__" qual st ps (n + 1) ks src dvs.length)
    (ha : PArgs X es kws pos ks (tof2 X.K U ga)) (hdb : (x == ("__debug__" : Str)) = false) {g : G D}
    (hgo : ∀ σ H Q, tofE X.K U g σ H Q → tof2 X.K U ga σ H fun vs zs H2 => vs.length = n ∧ zs.length = ks.length ∧ ∀ x dx, H2 x = none → H2 dx = none → dx ≠ x → spOf X.K dsp (gat src (.ref x :: vs) dvs zs) (upd (upd H2 dx (.own x)) x (.ins C dx [])) (fun v H3 => v = .non ∧ Q (.ref x) H3) fun _ _ _ => False) :
    PE X (.Call (.Name x p) es kws pos) (tofE X.K U g) := by
  refine ⟨fun pins s σ H Q I h => ?_⟩
  obtain ⟨f, fd, FS, MK, FO⟩ := M
  obtain ⟨its, KB⟩ := kbn_of FS b
  refine wpAny_Call_Name_kw (ld_glob I hg hm ?_ hdb)
  refine ha.run pins s σ H _ (.ref C) [] _ I MK.kp (hgo σ H Q h) fun us ws vs zs s1 H1 I1 rv rz ⟨l1, l2, hs⟩ => ?_
  exact run_makeG MK FO hr KB pass0 I1 rv rz l1 l2 hs
theorem made_in {K : PySem.W.Frag} {mm : Nat → Addr} {S : Sto} {Z : Addr → Prop} {H : Hp} {a dx : Addr} (w : Wd K U mm S Z H) (ha : H a = none) (hdx : H dx = none) (hne : dx ≠ a) :
    ∃ m', m' S.length = a ∧ Wd K U m' (S ++ [some (.obj C [] [])]) Z (upd (upd H dx (.own a)) a (.ins C dx [])) ∧ Ext mm S Z H m' (S ++ [some (.obj C [] [])]) (upd (upd H dx (.own a)) a (.ins C dx [])) := by
  obtain ⟨w1, e1, _⟩ := w.new (o := .own a) hdx
  obtain ⟨m', e0, w2, e2⟩ := w1.add (p := a) (o := .ins C dx []) (mo := .obj C [] []) (by rw [upd_ne hne.symm]; exact ha) fun m1 N1 Hv1 h1 h2 h3 => ⟨dx, [], upd_same, rfl, reps_nil⟩
  exact ⟨m', e0, w2, e1.trans e2⟩
theorem d_make (F : CFn X.prog X.w X.K X.mg X.base x C qual st dvs k ps dsp) (hr : RoomG (k + 1) X.A) (hg : Gl X x) (b : Bnd "__init__" qual st ps (n + 1) ks src dvs.length) (hd : DfV dds dvs) (ha : PArgs X es kws pos ks (tof2 X.K U ga)) (hdb : (x == ("__debug__" : Str)) = false := by decide) :
    PE X (.Call (.Name x p) es kws pos) (tofE X.K U (gMake C n ks.length src dds dsp ga)) :=
  run_makeD (P := X.prog) (wo := X.w) F.ex F.mC hr hg b ha hdb fun σ H Q ⟨mm, S, Z, ρ, q, w, rs, h, kk⟩ => ⟨mm, S, Z, ρ, _, w, rs, h, fun vs zs H2 m2 as zd S2 e2 w2 r2 r3 h4 => by
    refine ⟨by rw [Reps.len r2]; exact h4.1, by rw [Reps.len r3]; exact h4.2.1, fun a dx ha hdx hne => ?_⟩
    obtain ⟨m', e0, w3, e3⟩ := made_in (C := C) w2 ha hdx hne
    refine ⟨m', _, Z, gat src (.loc S2.length :: as) dds zd, _, w3.w0, gat_reps (Reps.cons (rep_loc e0 (by simp)) (r2.ext e3)) hd (r3.ext e3), h4.2.2, fun v H5 m5 d5 S5 e5 w5 r5 ⟨hv, h5⟩ => ?_⟩
    subst hv
    refine ⟨r5, kk.at ((e2.trans e3).trans e5) (w3.on e5 w5.toWd0) (rep_loc ?_ ?_) h5⟩
    · rw [e5.loc _ (by simp), e0]
    · exact Nat.lt_of_lt_of_le (by simp) e5.len⟩
end
section
variable {P : Program} {w : World} {K : PySem.W.Frag} {mg : Str → Option Value} {base : Heap} {x qual : Str} {st : Stmt} {dvs : List V} {f : Addr} {fd : FuncData} {N ps : List Str} {k : Nat} {dsp : DSp}
theorem fn_body (F : FunS K x qual st dvs f fd) (S : FnScope N ps (defScope st)) (len : ∀ ds S q, dsp ds S q → ds.length = ps.length) (g : GS)
    (hbody : ∀ (cdv : Value) (A : Around) (outer : List Env) (s : Shared) (H : Hp) (E : XK), RoomG k (A.deeper (PyProof.Rows.envOfC qual (defScope st) s.heap.objs.size f cdv)) →
      PSs (cxOf CX0 P w K mg base N qual (defScope st) f cdv A outer s H E).nox (defBody st) (tofS K U0 g))
    (hread : ∀ ds S q, D.unders S.length ds = true → Sto.under S.length S = true → dsp ds S q → g { nx := fun _ S' => fin S.length q .non S', rt := fin S.length q } (startD N ds) S) : FnG P w K mg base CX0 (k + 1) f fd ps (spOf K dsp) := by
  refine FnG.by_body F S (spOf_len len) fun cdv A outer s H vs Q E hr ⟨m, St', Z, ds, q, wd, rd, hd, kk⟩ => ?_
  refine ⟨_, (hbody cdv A outer s H E hr).nox, m, St', Z, startD N ds, _, wd, relS_start rd, hread ds St' q (Reps.below rd) wd.under hd, ⟨?_, out_fin wd kk, ?_, ?_⟩⟩
  · exact fun σ' H' m' ρ' S' e' w' _ h' => out_fin wd kk .non H' m' .non S' e' w' rep_non h'
  · exact fun _ _ _ _ _ _ _ _ h => h.elim
  · exact fun _ _ _ _ _ _ _ _ h => h.elim
end
end Dl
namespace Dl
open PySem L2
def seqOf (S : Sto) : D → Option (List D)
  | .lst ds => some ds
  | .ksq ds => some ds
  | .tup ds => some ds
  | .loc n => match S[n]? with
    | some (some (.lst ds)) => some ds
    | _ => none
  | _ => none
def D.isTup : D → Bool
  | .tup _ => true
  | _ => false
theorem loc_lst {S : Sto} {n : Nat} {ds : List D} (h : seqOf S (.loc n) = some ds) : S[n]? = some (some (.lst ds)) := by
  rw [seqOf] at h
  cases hS : S[n]? with
  | none => rw [hS] at h; cases h
  | some o =>
    cases o with
    | none => rw [hS] at h; cases h
    | some o =>
      cases o with
      | lst _ => rw [hS] at h; cases h; rfl
      | obj _ _ _ => rw [hS] at h; cases h
      | dic _ _ => rw [hS] at h; cases h
      | dicT _ _ => rw [hS] at h; cases h
theorem seqOf_rep {K : PySem.W.Frag} {m : Nat → Addr} {S : Sto} {Z : Addr → Prop} {H : Hp} {d : D} {v : V} {ds : List D} (w : Wd K U m S Z H) (r : Rep K m S.length (vis m S Z H) d v) (h : seqOf S d = some ds) :
    ∃ a vs, v = .ref a ∧ Reps K m S.length (vis m S Z H) ds vs ∧ (d.isTup = true → SqT K H a vs) ∧ (d.isTup = false → SqL K H a vs) := by
  cases d with
  | lst ds' => cases h; rw [Rep] at r; obtain ⟨a, vs, e, h1, h2⟩ := r; exact ⟨a, vs, e, h2, fun z => (by cases z), fun _ => SqL.of (vis_sub h1)⟩
  | ksq ds' => cases h; rw [Rep] at r; obtain ⟨a, vs, e, h1, h2⟩ := r; exact ⟨a, vs, e, h2, fun z => (by cases z), fun _ => SqL.sub vis_le h1⟩
  | tup ds' => cases h; rw [Rep] at r; obtain ⟨a, vs, e, h1, h2⟩ := r; exact ⟨a, vs, e, h2, fun _ => SqT.sub vis_le h1, fun z => (by cases z)⟩
  | loc n =>
    rw [Rep] at r
    obtain ⟨vs, h1, h2⟩ := w.rep n _ (loc_lst h)
    exact ⟨m n, vs, r.1, h2, fun z => (by cases z), fun _ => SqL.of h1⟩
  | non => cases h
  | bl _ => cases h
  | int _ => cases h
  | str _ => cases h
  | obj _ _ _ => cases h
  | dic _ _ => cases h
  | ref _ => cases h
  | ty _ => cases h
  | exc _ _ _ => cases h
theorem Rep.lt {K : PySem.W.Frag} {m m' : Nat → Addr} {S S' : Sto} {Z Z' : Addr → Prop} {H H' : Hp} {d : D} {v : V} (e : Lt m S Z H m' S' Z' H') (r : Rep K m S.length (vis m S Z H) d v) : Rep K m' S'.length (vis m' S' Z' H') d v := Rep.mono e.loc e.len e.vis r
theorem Reps.lt {K : PySem.W.Frag} {m m' : Nat → Addr} {S S' : Sto} {Z Z' : Addr → Prop} {H H' : Hp} {d : List D} {v : List V} (e : Lt m S Z H m' S' Z' H') (r : Reps K m S.length (vis m S Z H) d v) : Reps K m' S'.length (vis m' S' Z' H') d v := Reps.mono e.loc e.len e.vis r
def rngD (lo : Int) (n : Nat) : List D := (List.range n).map fun i => .int (lo + ((i : Nat) : Int))
def gRng1 (ga : G (List D)) : GI := fun ρ S q => ga ρ S fun as S1 => ∃ j : Int, as = [.int j] ∧ -(2 ^ 62) ≤ j ∧ j < 2 ^ 62 ∧ q (rngD 0 j.toNat) (fun _ => True) S1
def gRng2 (ga : G (List D)) : GI := fun ρ S q => ga ρ S fun as S1 => ∃ i j : Int, as = [.int i, .int j] ∧ (-(2 ^ 62) ≤ i ∧ i < 2 ^ 62 ∧ -(2 ^ 62) ≤ j ∧ j < 2 ^ 62) ∧ q (rngD i (j - i).toNat) (fun _ => True) S1
def signsD (x : Str) : List D := x.cps.toList.map fun c => .str ⟨#[c]⟩
def enumD (ds : List D) : List D := ds.zipIdx.map fun p => .tup [.int (p.2 : Nat), p.1]
def gEnum (ga : G (List D)) : GI := fun ρ S q => ga ρ S fun as S1 => ∃ d ds, as = [d] ∧ d.isTup = false ∧ seqOf S1 d = some ds ∧ q (enumD ds) (fun S' => seqOf S' d = some ds) S1
def zipD (ds es : List D) : List D := List.zipWith (fun a b => .tup [a, b]) ds es
def gZip (ga : G (List D)) : GI := fun ρ S q => ga ρ S fun as S1 => ∃ d e ds es, as = [d, e] ∧ d.isTup = false ∧ e.isTup = false ∧ seqOf S1 d = some ds ∧ seqOf S1 e = some es ∧ q (zipD ds es) (fun S' => seqOf S' d = some ds ∧ seqOf S' e = some es) S1
section
variable {X : Cx} {pos p tpos : Pos} {tg e e2 : Expr} {ge : G D} {ga : G (List D)}
theorem yl_list {K : PySem.W.Frag} {m : Nat → Addr} {S : Sto} {Z : Addr → Prop} {H : Hp} {d : D} {a : Addr} {ds : List D} (ht : d.isTup = false) (r : Rep K m S.length (vis m S Z H) d (.ref a)) : Yl K (Itl K a) m S Z H ds (fun S' => seqOf S' d = some ds) := by
  refine ⟨fun {_ m' S' Z' H' i} l w hc hi => ?_, fun {_ m' S' Z' H'} l w hc => ?_⟩
  · obtain ⟨a', vs, e, hr, _, hs⟩ := seqOf_rep w (r.lt l) hc
    cases e
    obtain ⟨d', hd⟩ : ∃ d', ds[i]? = some d' := ⟨ds[i], by simp [hi]⟩
    obtain ⟨v, hv, rv⟩ := Reps.get hr hd
    refine ⟨⟨vs, v, hs ht, hv⟩, fun x H2 ⟨e2, hx⟩ => ?_⟩
    subst e2
    have := hx vs (hs ht)
    rw [hv] at this; cases this
    exact ⟨d', hd, w, Ext.refl, rv⟩
  · obtain ⟨a', vs, e, hr, _, hs⟩ := seqOf_rep w (r.lt l) hc
    cases e
    exact ⟨vs, hs ht, by rw [Reps.len hr]; exact Nat.le_refl _⟩
theorem yl_tup {K : PySem.W.Frag} {m : Nat → Addr} {S : Sto} {Z : Addr → Prop} {H : Hp} {d : D} {a : Addr} {ds : List D} (ht : d.isTup = true) (r : Rep K m S.length (vis m S Z H) d (.ref a)) : Yl K (Itt K a) m S Z H ds (fun S' => seqOf S' d = some ds) := by
  refine ⟨fun {_ m' S' Z' H' i} l w hc hi => ?_, fun {_ m' S' Z' H'} l w hc => ?_⟩
  · obtain ⟨a', vs, e, hr, hs, _⟩ := seqOf_rep w (r.lt l) hc
    cases e
    obtain ⟨d', hd⟩ : ∃ d', ds[i]? = some d' := ⟨ds[i], by simp [hi]⟩
    obtain ⟨v, hv, rv⟩ := Reps.get hr hd
    refine ⟨⟨vs, v, hs ht, hv⟩, fun x H2 ⟨e2, hx⟩ => ?_⟩
    subst e2
    have := hx vs (hs ht)
    rw [hv] at this; cases this
    exact ⟨d', hd, w, Ext.refl, rv⟩
  · obtain ⟨a', vs, e, hr, hs, _⟩ := seqOf_rep w (r.lt l) hc
    cases e
    exact ⟨vs, hs ht, by rw [Reps.len hr]; exact Nat.le_refl _⟩
/-- what a for walks: a list, a tuple, a text -/
theorem pi_seq {tl : TE} (hl : PE X e tl) : PI X tg e (fun σ H R => tl σ H fun x H1 => (∃ a, x = .ref a ∧ (∃ xs, SqL X.K H1 a xs) ∧ R (Itl X.K a) H1) ∨ (∃ a, x = .ref a ∧ (∃ xs, SqT X.K H1 a xs) ∧ R (Itt X.K a) H1) ∨ ∃ z, x = .str z ∧ R (Its z) H1) := by
  refine ⟨fun pins s σ H R I h => ?_⟩
  refine thn (hl.run pins s σ H _ I h) fun v s1 ⟨x, H1, I1, r1, q1⟩ => ?_
  rcases q1 with ⟨a, e, ⟨xs, hq⟩, q⟩ | ⟨a, e, ⟨xs, hq⟩, q⟩ | ⟨z, e, q⟩
  · subst e
    cases r1
    obtain ⟨its, rv, p, hz⟩ := I1.list hq
    refine wpAny_pyIter_list p.isList ?_
    refine ⟨s1.heap.objs.size, [s1.heap.objs.size], _, _, H1, rfl, I1.kept (t' := s1.toks) fun b o e => Heap.get?_push_of_some _ e, turn_list a _, ⟨_, Heap.get?_push_size _ rfl, rfl, rfl⟩, fun b hb => ?_, q⟩
    have e : b = s1.heap.objs.size := by simpa using hb
    subst e
    exact I1.fpOk (Nat.le_refl _) (I1.hok.fresh (Nat.le_refl _))
  · subst e
    cases r1
    obtain ⟨its, rv, p, hz⟩ := I1.tuple hq
    refine wpAny_pyIter_tuple (show s1.heap.IsTuple a its.toArray from p) ?_
    refine ⟨s1.heap.objs.size, [s1.heap.objs.size], _, _, H1, rfl, I1.kept (t' := s1.toks) fun b o e => Heap.get?_push_of_some _ e, turn_tuple a _, ⟨_, Heap.get?_push_size _ rfl, rfl, rfl⟩, fun b hb => ?_, q⟩
    have e : b = s1.heap.objs.size := by simpa using hb
    subst e
    exact I1.fpOk (Nat.le_refl _) (I1.hok.fresh (Nat.le_refl _))
  · subst e
    obtain ⟨t, rfl⟩ := r1
    cases ha : z.cps.all (· < 128)
    · exact wpAny_pyIter_wide ha (pi_one (tk := s1.toks) I1 _ (turn_str _ z t "str_iterator" (.inr rfl)) ⟨_, Heap.get?_push_size _ rfl, rfl, rfl⟩ q)
    · exact wpAny_pyIter_ascii ha (pi_one (tk := s1.toks) I1 _ (turn_str _ z t "str_ascii_iterator" (.inl rfl)) ⟨_, Heap.get?_push_size _ rfl, rfl, rfl⟩ q)
def gIt (ge : G D) : GI := fun ρ S q => ge ρ S fun d S1 => match d with
  | .str x => q (signsD x) (fun _ => True) S1
  | d => ∃ ds, seqOf S1 d = some ds ∧ q ds (fun S' => seqOf S' d = some ds) S1
theorem di_seq (h : PE X e (tofE X.K U ge)) : PI X tg e (tofI X.K U (gIt ge)) :=
  weakI (pi_seq h) fun σ H R ⟨m, S, Z, ρ, q, w, rs, h, k⟩ => tof_in w rs h fun v1 H1 m1 d1 S1 e1 w1 r1 h1 => by
    have go : ∀ ds, seqOf S1 d1 = some ds → q ds (fun S' => seqOf S' d1 = some ds) S1 → (∃ a, v1 = .ref a ∧ (∃ xs, SqL X.K H1 a xs) ∧ R (Itl X.K a) H1) ∨ (∃ a, v1 = .ref a ∧ (∃ xs, SqT X.K H1 a xs) ∧ R (Itt X.K a) H1) ∨ ∃ z, v1 = .str z ∧ R (Its z) H1 := fun ds hq hk => by
      obtain ⟨a, vs, e, hr, ht, hl⟩ := seqOf_rep w1 r1 hq
      subst e
      cases hd : d1.isTup with
      | false => exact .inl ⟨a, rfl, ⟨vs, hl hd⟩, k _ _ _ _ _ _ e1 w1 (yl_list hd r1) hk⟩
      | true => exact .inr (.inl ⟨a, rfl, ⟨vs, ht hd⟩, k _ _ _ _ _ _ e1 w1 (yl_tup hd r1) hk⟩)
    cases d1 with
    | str x =>
      have r1' : Rep X.K m1 S1.length (vis m1 S1 Z H1) (.str x) v1 := r1
      rw [Rep] at r1'
      refine .inr (.inr ⟨x, r1', k _ _ _ _ _ _ e1 w1 ⟨fun {_ m' S' Z' H' i} l w hc hi => ?_, fun {_ m' S' Z' H'} l w hc => ?_⟩ h1⟩)
      · have hi' : i < x.cps.size := by simpa [signsD] using hi
        refine ⟨hi', fun y H2 ⟨e2, c, hc, ey⟩ => ?_⟩
        subst e2 ey
        refine ⟨.str ⟨#[c]⟩, ?_, w, Ext.refl, rep_str⟩
        unfold signsD
        rw [List.getElem?_map, Array.getElem?_toList, hc]
        rfl
      · show x.cps.size ≤ (signsD x).length
        simp [signsD]
    | lst _ => obtain ⟨ds, hq, hk⟩ := h1; exact go ds hq hk
    | ksq _ => obtain ⟨ds, hq, hk⟩ := h1; exact go ds hq hk
    | tup _ => obtain ⟨ds, hq, hk⟩ := h1; exact go ds hq hk
    | loc _ => obtain ⟨ds, hq, hk⟩ := h1; exact go ds hq hk
    | non => obtain ⟨ds, hq, hk⟩ := h1; cases hq
    | bl _ => obtain ⟨ds, hq, hk⟩ := h1; cases hq
    | int _ => obtain ⟨ds, hq, hk⟩ := h1; cases hq
    | obj _ _ _ => obtain ⟨ds, hq, hk⟩ := h1; cases hq
    | dic _ _ => obtain ⟨ds, hq, hk⟩ := h1; cases hq
    | ref _ => obtain ⟨ds, hq, hk⟩ := h1; cases hq
    | ty _ => obtain ⟨ds, hq, hk⟩ := h1; cases hq
    | exc _ _ _ => obtain ⟨ds, hq, hk⟩ := h1; cases hq
theorem yl_rng {K : PySem.W.Frag} {m : Nat → Addr} {S : Sto} {Z : Addr → Prop} {H : Hp} {lo : Int} {n : Nat} : Yl K (Itr lo n) m S Z H (rngD lo n) (fun _ => True) := by
  have len : (rngD lo n).length = n := by simp [rngD]
  refine ⟨fun {_ m' S' Z' H' i} l w hc hi => ?_, fun {_ m' S' Z' H'} l w hc => ?_⟩
  · rw [len] at hi
    refine ⟨hi, fun y H2 ⟨e2, ey⟩ => ?_⟩
    subst e2 ey
    exact ⟨.int (lo + (i : Int)), by unfold rngD; rw [List.getElem?_map, List.getElem?_range hi]; rfl, w, Ext.refl, rep_int⟩
  · show n ≤ (rngD lo n).length
    rw [len]
    exact Nat.le_refl _
theorem reps1 {K : PySem.W.Frag} {m : Nat → Addr} {N : Nat} {Hv : Hp} {d : D} {vs : List V} (r : Reps K m N Hv [d] vs) : ∃ v, vs = [v] ∧ Rep K m N Hv d v := by
  obtain ⟨v, q, e, r1, r2⟩ := r
  exact ⟨v, by rw [e, show q = [] from r2], r1⟩
theorem reps2 {K : PySem.W.Frag} {m : Nat → Addr} {N : Nat} {Hv : Hp} {d d' : D} {vs : List V} (r : Reps K m N Hv [d, d'] vs) : ∃ v v', vs = [v, v'] ∧ Rep K m N Hv d v ∧ Rep K m N Hv d' v' := by
  obtain ⟨v, q, e, r1, r2⟩ := r
  obtain ⟨v', e', r'⟩ := reps1 r2
  exact ⟨v, v', by rw [e, e'], r1, r'⟩
theorem di_rng1 {a : Expr} (hg : Gl X "range") (hm : X.mg "range" = none) (ha : PA X [a] (tofA X.K U ga)) (hs : starEach [a] X.env = [(false, eval a X.env)] := by rfl) : PI X tg (.Call (.Name "range" p) [a] [] pos) (tofI X.K U (gRng1 ga)) :=
  weakI (pi_range1 hg hm ha hs) fun σ H R ⟨m, S, Z, ρ, q, w, rs, h, k⟩ => tof_in w rs h fun v1 H1 m1 d1 S1 e1 w1 r1 ⟨j, ed, h1, h2, h3⟩ => by
    subst ed
    obtain ⟨v, ev, rv⟩ := reps1 r1
    rw [Rep] at rv
    exact ⟨j, by rw [ev, rv], h1, h2, k _ _ _ _ _ _ e1 w1 yl_rng h3⟩
end
def wipeD (ρ : Env_) : List Nat → Env_
  | [] => ρ
  | v :: vs => (wipeD ρ vs).set v none
theorem relS_wipe {K : PySem.W.Frag} {m : Nat → Addr} {N : Nat} {Hv : Hp} {ρ : Env_} {σ : L2.St} (r : RelS K m N Hv ρ σ) : ∀ vs : List Nat, RelS K m N Hv (wipeD ρ vs) (wipe σ vs)
  | [] => r
  | v :: vs => by
    have ih := relS_wipe r vs
    refine ⟨by unfold wipeD wipe; rw [List.length_set, List.length_set]; exact ih.1, fun i d e => ?_⟩
    unfold wipeD at e
    by_cases h : v = i
    · subst h
      by_cases hl : v < (wipeD ρ vs).length
      · rw [List.getElem?_set_self hl] at e; cases e
      · rw [List.getElem?_eq_none_iff.mpr (by rw [List.length_set]; omega)] at e; cases e
    · rw [List.getElem?_set_ne h] at e
      obtain ⟨u, h1, h2⟩ := ih.2 i d e
      exact ⟨u, by unfold wipe; rw [List.getElem?_set_ne h]; exact h1, h2⟩
def gYes : G Bool := fun _ S q => q true S
def gLc (fz : Bool) (gi : GI) (t : Tgt) (gt : G Bool) (ge : G D) (vs : List Nat) : G D := fun ρ S q => gi ρ S fun ds chk S1 => ∃ I : Nat → List D → Sto → Prop, I 0 [] S1 ∧
  (∀ i d acc S, ds[i]? = some d → I i acc S → chk S ∧ ∃ ρ', t.bind d (wipeD ρ vs) = some ρ' ∧ gt ρ' S fun b S2 => if b = true then ge ρ' S2 fun y S3 => acc.length < sizeLine ∧ I (i + 1) (acc ++ [y]) S3 else I (i + 1) acc S2) ∧
  ∀ acc S, I ds.length acc S → chk S ∧ newL fz acc S q
theorem Wd0.hide {K : PySem.W.Frag} {m : Nat → Addr} {S : Sto} {Z : Addr → Prop} {H : Hp} (w : Wd0 K m S Z H) {p : Addr} {o : HO} (hp : H p = none) : Wd0 K m S (fun a => Z a ∨ a = p) (L2.upd H p o) ∧ Lt m S Z H m S (fun a => Z a ∨ a = p) (L2.upd H p o) := by
  obtain ⟨nz, nl⟩ := w.fresh hp
  have hv : ∀ a u, vis m S Z H a = some u → vis m S (fun a => Z a ∨ a = p) (L2.upd H p o) a = some u := fun a u h => by
    obtain ⟨z1, z2⟩ := vis_not h
    have nap : a ≠ p := ne_of_none (vis_sub h) hp
    exact vis_of (by rw [L2.upd_ne nap]; exact vis_sub h) (fun z => z.elim z1 nap) z2
  refine ⟨⟨w.inj, fun i l => ?_, fun a z => ?_, fun i x e => ?_⟩, ⟨Nat.le_refl _, fun _ _ => rfl, hv⟩⟩
  · rintro (z | z)
    · exact w.zz i l z
    · exact nl i l z
  · by_cases e : a = p
    · rw [e, L2.upd_same]; exact ⟨_, rfl⟩
    · rcases z with z | z
      · rw [L2.upd_ne e]; exact w.zh a z
      · exact absurd z e
  · exact (w.rep i x e).mono (fun _ _ => rfl) (Nat.le_refl _) hv (L2.upd_ne (nl i ⟨x, e⟩))
/-- a hidden object changes -/
theorem Wd0.hid {K : PySem.W.Frag} {m : Nat → Addr} {S : Sto} {Z : Addr → Prop} {H : Hp} (w : Wd0 K m S Z H) {p : Addr} {o : HO} (hz : Z p) : Wd0 K m S Z (L2.upd H p o) ∧ vis m S Z (L2.upd H p o) = vis m S Z H := by
  have hv : vis m S Z (L2.upd H p o) = vis m S Z H := by
    funext a
    unfold vis
    by_cases c : Z a ∨ ∃ k, Live S k ∧ m k = a
    · rw [if_pos c, if_pos c]
    · rw [if_neg c, if_neg c]
      exact upd_ne (fun q => c (.inl (q ▸ hz)))
  refine ⟨⟨w.inj, w.zz, fun a z => ?_, fun i x e => ?_⟩, hv⟩
  · by_cases e : a = p
    · rw [e, upd_same]; exact ⟨_, rfl⟩
    · rw [upd_ne e]; exact w.zh a z
  · rw [hv]
    exact (w.rep i x e).mono (fun _ _ => rfl) (Nat.le_refl _) (fun _ _ q => q) (upd_ne (fun q => w.zz i ⟨x, e⟩ (q ▸ hz)))
theorem vis_unhide {m : Nat → Addr} {S : Sto} {Z Z' : Addr → Prop} {H : Hp} (hz : ∀ a, Z a → Z' a) {a : Addr} {o : HO} (h : vis m S Z' H a = some o) : vis m S Z H a = some o := by
  obtain ⟨z1, z2⟩ := vis_not h
  exact vis_of (vis_sub h) (fun z => z1 (hz a z)) z2
theorem Wd0.unhide {K : PySem.W.Frag} {m : Nat → Addr} {S : Sto} {Z Z' : Addr → Prop} {H : Hp} (hz : ∀ a, Z a → Z' a) (w : Wd0 K m S Z' H) : Wd0 K m S Z H :=
  ⟨w.inj, fun i l z => w.zz i l (hz _ z), fun a z => w.zh a (hz a z), fun i x e => (w.rep i x e).mono (fun _ _ => rfl) (Nat.le_refl _) (fun _ _ q => vis_unhide hz q) rfl⟩
theorem Wd0.adopt {K : PySem.W.Frag} {m : Nat → Addr} {S : Sto} {Z : Addr → Prop} {H : Hp} {p : Addr} {ds : List D} {vs : List V} (nz : ¬ Z p) (w : Wd0 K m S (fun a => Z a ∨ a = p) H) (hp : H p = some (.lst vs)) (r : Reps K m S.length (vis m S (fun a => Z a ∨ a = p) H) ds vs) :
    ∃ m', m' S.length = p ∧ Wd0 K m' (S ++ [some (.lst ds)]) Z H ∧ (∀ i, i < S.length → m' i = m i) ∧ ∀ a u, vis m S (fun a => Z a ∨ a = p) H a = some u → vis m' (S ++ [some (.lst ds)]) Z H a = some u := by
  let m' : Nat → Addr := fun i => if i = S.length then p else m i
  have e0 : m' S.length = p := if_pos rfl
  have e1 : ∀ i, i < S.length → m' i = m i := fun i h => if_neg (Nat.ne_of_lt h)
  have lv : ∀ i, Live (S ++ [some (MO.lst ds)]) i → (i < S.length ∧ Live S i) ∨ i = S.length := fun i ⟨x, e⟩ => by
    by_cases h : i < S.length
    · exact .inl ⟨h, x, by rw [List.getElem?_append_left h] at e; exact e⟩
    · right
      have := (List.getElem?_eq_some_iff.mp e).1
      rw [List.length_append, List.length_singleton] at this
      omega
  have nl : ∀ i, Live S i → m i ≠ p := fun i l e => w.zz i l (.inr e)
  have hv : ∀ a u, vis m S (fun a => Z a ∨ a = p) H a = some u → vis m' (S ++ [some (.lst ds)]) Z H a = some u := fun a u h => by
    obtain ⟨z1, z2⟩ := vis_not h
    refine vis_of (vis_sub h) (fun z => z1 (.inl z)) fun n l => ?_
    rcases lv n l with ⟨hn, l⟩ | rfl
    · rw [e1 n hn]; exact z2 n l
    · rw [e0]; exact fun q => z1 (.inr q.symm)
  have len : (S ++ [some (MO.lst ds)]).length = S.length + 1 := by simp
  refine ⟨m', e0, ⟨fun i j li lj e => ?_, fun i li => ?_, fun a z => w.zh a (.inl z), fun i x e => ?_⟩, e1, hv⟩
  · rcases lv i li with ⟨hi, li⟩ | rfl <;> rcases lv j lj with ⟨hj, lj⟩ | rfl
    · rw [e1 i hi, e1 j hj] at e; exact w.inj i j li lj e
    · rw [e1 i hi, e0] at e; exact absurd e (nl i li)
    · rw [e0, e1 j hj] at e; exact absurd e.symm (nl j lj)
    · rfl
  · rcases lv i li with ⟨hi, li⟩ | rfl
    · rw [e1 i hi]; exact fun z => w.zz i li (.inl z)
    · rw [e0]; exact nz
  · rw [len]
    rcases lv i ⟨x, e⟩ with ⟨hi, li⟩ | rfl
    · rw [List.getElem?_append_left hi] at e
      exact (w.rep i x e).mono e1 (Nat.le_succ _) hv (by rw [e1 i hi])
    · rw [List.getElem?_append_right (Nat.le_refl _), Nat.sub_self, List.getElem?_cons_zero] at e
      cases e
      exact ⟨vs, by rw [e0]; exact hp, Reps.mono e1 (Nat.le_succ _) hv r⟩
section
variable {K : PySem.W.Frag} {gi : GI} {t : Tgt} {gt : G Bool} {ge : G D} {vs : List Nat} {fz : Bool}
theorem lc_in (hsub : ∀ i ∈ t.slots, i ∈ vs) {σ : L2.St} {H : Hp} {Q : VK} (h : tofE K U (gLc fz gi t gt ge vs) σ H Q) : tLc (tofI K U gi) (t.gof K) (tofB K U0 gt) (tofE K U0 ge) vs σ H Q := by
  obtain ⟨m, S, Z, ρ, q, w, rs, h, k⟩ := h
  refine ⟨m, S, Z, ρ, _, w, rs, h, fun J H1 m1 S1 ds chk e1 w1 Y ⟨I, h0, hstep, hend⟩ p hp => ?_⟩
  obtain ⟨nz, nl⟩ := w1.fresh hp
  obtain ⟨w1', l1⟩ := w1.toWd0.hide (o := .lst []) hp
  let Z' : Addr → Prop := fun a => Z a ∨ a = p
  have hzp : Z' p := .inr rfl
  have hz1 : ∀ a, Z a → upd H1 p (.lst []) a = H1 a := fun a z => upd_ne (fun e => nz (e ▸ z))
  refine ⟨fun i n H' => n = ds.length - i ∧ i ≤ ds.length ∧ ∃ m' S' acc av, Lt m1 S1 Z H1 m' S' Z' H' ∧ (∀ a, Z a → H' a = H1 a) ∧ Wd K U0 m' S' Z' H' ∧ H' p = some (.lst av) ∧ Reps K m' S'.length (vis m' S' Z' H') acc av ∧ I i acc S',
    ⟨ds.length, by simp, Nat.zero_le _, m1, S1, [], [], l1, hz1, w1'.u0, upd_same, reps_nil, h0⟩, ?_⟩
  rintro i n H2 ⟨rfl, hi2, m2, S2, acc, av, l2, z2, w2, hp2, ra, I2⟩
  by_cases hlt : i < ds.length
  · right
    obtain ⟨d, hd⟩ : ∃ d, ds[i]? = some d := ⟨ds[i], by simp [hlt]⟩
    obtain ⟨hchk, ρ3, hbind, hbody⟩ := hstep i d acc S2 hd I2
    obtain ⟨g1, g2⟩ := Y.go l2 w2 hchk hlt
    refine ⟨g1, fun H' => ∃ m' S' acc av, Lt m1 S1 Z H1 m' S' Z' H' ∧ (∀ a, Z a → H' a = H1 a) ∧ Wd K U0 m' S' Z' H' ∧ H' p = some (.lst av) ∧ Reps K m' S'.length (vis m' S' Z' H') acc av ∧ I (i + 1) acc S', fun H' hN => ⟨ds.length - (i + 1), by omega, rfl, hlt, hN⟩, fun x H3 hy => ?_⟩
    obtain ⟨d', hd', w3, e3, r3⟩ := g2 x H3 hy
    rw [hd] at hd'; cases hd'
    have rs2 : RelS K m2 S2.length (vis m2 S2 Z' H2) ρ σ := by
      have z := rs.ext e1
      exact ⟨z.1, fun i d h => let ⟨v, h1, h2⟩ := z.2 i d h; ⟨v, h1, h2.lt l2⟩⟩
    refine Tgt.ok (vs := vs) vis_le hbind r3 (relS_wipe (rs2.ext e3) vs) fun σ4 rs4 hw4 => ⟨?_, ?_⟩
    · rw [hw4 hsub, wipe_wipe vs fun v hv => hv]
    · have lt_of : ∀ {m' S' H'}, Ext m2 S2 Z' H2 m' S' H' → Lt m1 S1 Z H1 m' S' Z' H' ∧ (∀ a, Z a → H' a = H1 a) := fun {m' S' H'} e => ⟨⟨Nat.le_trans l2.len e.len, fun i hi => (e.loc i (Nat.lt_of_lt_of_le hi l2.len)).trans (l2.loc i hi), fun a o q => e.vis a o (l2.vis a o q)⟩, fun a z => (e.zed a (.inl z)).trans (z2 a z)⟩
      refine tof_in w3 rs4 hbody fun b H4 m4 b' S4 e4 w4 hb h4 => ?_
      cases (show b' = b from hb)
      cases b with
      | true =>
        refine tof_in w4 (rs4.ext e4) h4 fun y H5 m5 dy S5 e5 w5 ry h5 => ?_
        have e25 := (e3.trans e4).trans e5
        have hp5 : H5 p = some (.lst av) := (e25.zed p hzp).trans hp2
        obtain ⟨w6, hv6⟩ := w5.toWd0.hid (o := .lst (av ++ [y])) hzp
        obtain ⟨l5, z5⟩ := lt_of e25
        refine ⟨av, hp5, by rw [Reps.len ra]; exact h5.1, m5, S5, acc ++ [dy], av ++ [y], ⟨l5.len, l5.loc, fun a o q => by rw [hv6]; exact l5.vis a o q⟩, fun a z => (upd_ne (show a ≠ p from fun e => nz (e ▸ z))).trans (z5 a z), w6.u0, upd_same, ?_, h5.2⟩
        rw [hv6]
        exact (ra.ext e25).append (Reps.one ry)
      | false =>
        have e24 := e3.trans e4
        obtain ⟨l4, z4⟩ := lt_of e24
        exact ⟨m4, S4, acc, av, l4, z4, w4, (e24.zed p hzp).trans hp2, ra.ext e24, h4⟩
  · left
    have ei : i = ds.length := by omega
    subst ei
    obtain ⟨hchk, hnew⟩ := hend acc S2 I2
    refine ⟨Y.stop l2 w2 hchk, ?_⟩
    cases fz with
    | true =>
      have wu : Wd0 K m2 S2 Z H2 := Wd0.unhide (fun a z => .inl z) w2.toWd0
      have eu : Ext m1 S1 Z H1 m2 S2 H2 := ⟨l2.len, l2.loc, fun a o q => vis_unhide (fun a z => .inl z) (l2.vis a o q), z2⟩
      refine k.at (e1.trans eu) (w1.on eu wu) (rep_lst (vis_of hp2 nz fun n l e => w2.zz n l (.inr e)) (Reps.mono (fun _ _ => rfl) (Nat.le_refl _) (fun a o q => vis_unhide (fun a z => .inl z) q) ra)) hnew
    | false =>
      obtain ⟨m3, e0, w3, em, hv3⟩ := Wd0.adopt nz w2.toWd0 hp2 ra
      have eu : Ext m1 S1 Z H1 m3 (S2 ++ [some (.lst acc)]) H2 := ⟨by rw [List.length_append]; exact Nat.le_trans l2.len (Nat.le_add_right _ _), fun i hi => (em i (Nat.lt_of_lt_of_le hi l2.len)).trans (l2.loc i hi), fun a o q => hv3 a o (l2.vis a o q), z2⟩
      exact k.at (e1.trans eu) (w1.on eu w3) (rep_loc e0 (by simp)) hnew
end
section
variable {X : Cx} {elt tg iter c : Expr} {ifs : List Expr} {scope : Scope} {own : List (Str × Nat)} {pos spos : Pos} {gi : GI} {t : Tgt} {gt : G Bool} {ge : G D}
theorem dt_nil : PTs X [] (tofB X.K U gYes) := ⟨fun pins s σ H Q I ⟨m, S, Z, ρ, q, w, rs, h, k⟩ => (pts_nil (X := X)).run pins s σ H Q I (k.now w rfl h)⟩
theorem d_lc (fz : Bool) (hc : X.calm = true) (hN : X.N.Nodup) (hi : PI X tg iter (tofI X.K U gi)) (ok : BlkOk X.N X.env.scope scope own) (hsub : ∀ i ∈ t.slots, i ∈ own.map (·.2))
    (hg : ∀ (s : Shared) (H : Hp) (C : Addr) (cl : List (Str × Addr)) (fp : List Addr), PG (X.blk s H scope (compEnvC scope cl C X.env) fp) tg (t.gof X.K)) (ht : ∀ (s : Shared) (H : Hp) (C : Addr) (cl : List (Str × Addr)) (fp : List Addr), PTs (X.blk s H scope (compEnvC scope cl C X.env) fp) ifs (tofB X.K U0 gt))
    (he : ∀ (s : Shared) (H : Hp) (C : Addr) (cl : List (Str × Addr)) (fp : List Addr), PE (X.blk s H scope (compEnvC scope cl C X.env) fp) elt (tofE X.K U0 ge)) (hs : ∀ x, foldedSetIterable iter X.env x = pure x := by intro _; rfl) :
    PE X (.ListComp elt [⟨tg, iter, ifs, 0⟩] scope pos) (tofE X.K U (gLc fz gi t gt ge (own.map (·.2)))) :=
  weakE (pe_lc hc hN hi ok hg ht he hs) fun _ _ _ h => lc_in hsub h
/-- name = [..] -/
theorem d_setLc (fz : Bool) {i : Nat} {y : Str} {py : Pos} (hc : X.calm = true) (hN : X.N.Nodup) (hy : X.N[i]? = some y) (hyl : X.env.scope.names.lookup y = some .local)
    (hsw : swapsWith (.ListComp elt [⟨tg, iter, ifs, 0⟩] scope pos) (some (.Name y py)) spos.line X.env = pure true) (hi : PI X tg iter (tofI X.K U gi)) (ok : BlkOk X.N X.env.scope scope own) (hsub : ∀ i ∈ t.slots, i ∈ own.map (·.2))
    (hg : ∀ (s : Shared) (H : Hp) (C : Addr) (cl : List (Str × Addr)) (fp : List Addr), PG (X.blk s H scope (compEnvC scope cl C X.env) fp) tg (t.gof X.K)) (ht : ∀ (s : Shared) (H : Hp) (C : Addr) (cl : List (Str × Addr)) (fp : List Addr), PTs (X.blk s H scope (compEnvC scope cl C X.env) fp) ifs (tofB X.K U0 gt))
    (he : ∀ (s : Shared) (H : Hp) (C : Addr) (cl : List (Str × Addr)) (fp : List Addr), PE (X.blk s H scope (compEnvC scope cl C X.env) fp) elt (tofE X.K U0 ge)) (hs : ∀ x, foldedSetIterable iter X.env x = pure x := by intro _; rfl) :
    PS X (.Assign [.Name y py] (.ListComp elt [⟨tg, iter, ifs, 0⟩] scope pos) spos) (tofS X.K U (gSet i (gLc fz gi t gt ge (own.map (·.2))))) :=
  weakS (ps_setLc hc hN hy hyl hsw hi ok hg ht he hs) fun E σ H ⟨m, S, Z, ρ, D, w, rs, h, k⟩ => lc_in hsub (tof_in w rs h fun v1 H1 m1 d1 S1 e1 w1 r1 h1 => k.nx.at e1 w1 ((rs.ext e1).set r1) h1)
end
end Dl
namespace Dl
open PySem L2
abbrev rStrI : List V → Hp → VK → Prop := fun xs H Q => ∃ i, xs = [.int i] ∧ i.natAbs.log2 < 1920 ∧ Q (.str (toString i)) H
abbrev rIntA : List V → Hp → VK → Prop := fun xs H Q => (∃ a n, xs = [.str a] ∧ PySem.intText? a = some n ∧ a.length ≤ 640 ∧ Q (.int n) H) ∨ ((∃ i, xs = [.int i] ∧ Q (.int i) H) ∨ ∃ k, xs = [.bl k] ∧ Q (.int (if k then 1 else 0)) H)
abbrev rDvm : List V → Hp → VK → Prop := fun xs H Q => ∃ i j, xs = [.int i, .int j] ∧ CDiv i j ∧ ∀ p, H p = none → Q (.ref p) (upd H p (.tup [.int (i / j), .int (i % j)]))
abbrev rMx2 : List V → Hp → VK → Prop := fun xs H Q => ∃ i j, xs = [.int i, .int j] ∧ Q (.int (if j > i then j else i)) H
abbrev rMn2 : List V → Hp → VK → Prop := fun xs H Q => ∃ i j, xs = [.int i, .int j] ∧ Q (.int (if j < i then j else i)) H
abbrev rLstOf (K : PySem.W.Frag) : List V → Hp → VK → Prop := fun xs H Q => ∃ p ys, xs = [.ref p] ∧ (SqL K H p ys ∨ SqT K H p ys) ∧ ∀ l, H l = none → Q (.ref l) (upd H l (.lst ys))
abbrev showI (i : Int) : Str := ((toString i : String) : Str)
section
variable {K : PySem.W.Frag}
def aI2 (C : Int → Int → Prop) (f : Int → Int → D) : R2D := fun a b S q => ∃ i j, a = .int i ∧ b = .int j ∧ C i j ∧ q (f i j) S
theorem vr_I2 {C : Int → Int → Prop} {g : Int → Int → V} {f : Int → Int → D} (hf : ∀ m N Hv i j, Rep K m N Hv (f i j) (g i j)) : VR2 K (rI C g) (aI2 C f) := fun w r1 r2 ⟨i, j, e1, e2, h1, h2⟩ k => by
  subst e1 e2
  rw [Rep] at r1 r2
  exact ⟨i, j, r1, r2, h1, k.now w (hf _ _ _ _ _) h2⟩
theorem vr_I20 {g : Int → Int → V} {f : Int → Int → D} (hf : ∀ m N Hv i j, Rep K m N Hv (f i j) (g i j)) : VR2 K (rI0 g) (aI2 (fun _ _ => True) f) := fun w r1 r2 ⟨i, j, e1, e2, h1, h2⟩ k => by
  subst e1 e2
  rw [Rep] at r1 r2
  exact ⟨i, j, r1, r2, k.now w (hf _ _ _ _ _) h2⟩
def listOf (S : Sto) : D → Option (List D)
  | .lst ds => some ds
  | .loc n => match S[n]? with
    | some (some (.lst ds)) => some ds
    | _ => none
  | _ => none
theorem listOf_rep {m : Nat → Addr} {S : Sto} {Z : Addr → Prop} {H : Hp} {d : D} {v : V} {ds : List D} (w : Wd K U m S Z H) (r : Rep K m S.length (vis m S Z H) d v) (h : listOf S d = some ds) :
    ∃ a vs, v = .ref a ∧ H a = some (.lst vs) ∧ Reps K m S.length (vis m S Z H) ds vs := by
  cases d with
  | lst ds' => cases h; rw [Rep] at r; obtain ⟨a, vs, e, h1, h2⟩ := r; exact ⟨a, vs, e, vis_sub h1, h2⟩
  | loc n =>
    rw [Rep] at r
    obtain ⟨vs, h1, h2⟩ := w.rep n _ (loc_lst h)
    exact ⟨m n, vs, r.1, h1, h2⟩
  | non => cases h
  | bl _ => cases h
  | int _ => cases h
  | str _ => cases h
  | tup _ => cases h
  | ksq _ => cases h
  | obj _ _ _ => cases h
  | dic _ _ => cases h
  | ref _ => cases h
  | ty _ => cases h
  | exc _ _ _ => cases h
def aAdd (fz : Bool) : R2D := fun a b S q => match a, b with
  | .int i, .int j => q (.int (i + j)) S
  | .str x, .str y => x.length + y.length ≤ sizeLine ∧ q (.str (x ++ y)) S
  | .tup xs, .tup ys => xs.length + ys.length ≤ sizeLine ∧ q (.tup (xs ++ ys)) S
  | a, b => ∃ xs ys, listOf S a = some xs ∧ listOf S b = some ys ∧ xs.length + ys.length ≤ sizeLine ∧ newL fz (xs ++ ys) S q
abbrev rAddA (K : PySem.W.Frag) : R2 := fun x y H Q => rI0 (fun i j => .int (i + j)) x y H Q ∨ (∃ i j, x = .str i ∧ y = .str j ∧ i.length + j.length ≤ sizeLine ∧ Q (.str (i ++ j)) H) ∨ rCatA K x y H Q ∨ rCat x y H Q
theorem or_add {X : Cx} : OpR X (binaryOp .Add) (rAddA X.K) := op_add.or (op_add_str.or (op_catA.or op_cat))
theorem vr_add {fz : Bool} : VR2 K (rAddA K) (aAdd fz) := fun {_ m S Z H a b v u q Q} w r1 r2 h k => by
  have lists : (∃ xs ys, listOf S a = some xs ∧ listOf S b = some ys ∧ xs.length + ys.length ≤ sizeLine ∧ newL fz (xs ++ ys) S q) → rAddA K v u H Q := fun ⟨xs, ys, h1, h2, h3, h4⟩ => by
    obtain ⟨a1, vs, e1, hh1, q1⟩ := listOf_rep w r1 h1
    obtain ⟨a2, us, e2, hh2, q2⟩ := listOf_rep w r2 h2
    exact .inr (.inr (.inr ⟨a1, a2, vs, us, e1, e2, hh1, hh2, by rw [Reps.len q1, Reps.len q2]; exact h3, fun p hp => out_newL w (q1.append q2) h4 k hp⟩))
  cases a <;> cases b <;> first
    | (rw [Rep] at r1 r2; exact .inl ⟨_, _, r1, r2, k.now w rep_int h⟩)
    | (rw [Rep] at r1 r2; exact .inr (.inl ⟨_, _, r1, r2, h.1, k.now w rep_str h.2⟩))
    | exact lists h
    | skip
  case tup.tup xs ys =>
    rw [Rep] at r1 r2
    obtain ⟨a1, vs, e1, s1, q1⟩ := r1
    obtain ⟨a2, us, e2, s2, q2⟩ := r2
    subst e1 e2
    have l1 := Reps.len q1
    have l2 := Reps.len q2
    refine .inr (.inr (.inl ⟨a1, a2, vs, us, rfl, rfl, SqT.sub vis_le s1, SqT.sub vis_le s2, by rw [l1, l2]; exact h.1, fun e => ?_, fun _ e => ?_, fun _ _ p hp => ?_⟩))
    · subst e
      have e' : xs = [] := List.eq_nil_of_length_eq_zero (by simpa using l1.symm)
      subst e'
      exact k.now w (rep_tup s2 q2) h.2
    · subst e
      have e' : ys = [] := List.eq_nil_of_length_eq_zero (by simpa using l2.symm)
      subst e'
      have h2 := h.2
      rw [List.append_nil] at h2
      exact k.now w (rep_tup s1 q1) h2
    · exact out_newT w (q1.append q2) h.2 k hp
def aSub : R2D := aI2 (fun _ _ => True) fun i j => .int (i - j)
theorem vr_sub : VR2 K (rI0 fun i j => .int (i - j)) aSub := vr_I20 fun _ _ _ _ _ => rep_int
def mulOk (i j : Int) : Prop := CMul i j ∨ CMulW i j
abbrev rMulA : R2 := fun x y H Q => rI CMul (fun i j => .int (i * j)) x y H Q ∨ rI CMulW (fun i j => .int (i * j)) x y H Q ∨ rRep x y H Q
theorem or_mul {X : Cx} : OpR X (binaryOp .Mult) rMulA := op_mul.or (op_mulW.or op_rep)
def aMul (fz : Bool) : R2D := fun a b S q => match a, b with
  | .int i, .int j => mulOk i j ∧ q (.int (i * j)) S
  | a, .int k => ∃ xs, listOf S a = some xs ∧ -(2 ^ 63) ≤ k ∧ k < 2 ^ 63 ∧ xs.length * k.toNat ≤ sizeLine ∧ newL fz (List.replicate k.toNat xs).flatten S q
  | _, _ => False
theorem reps_rep {m : Nat → Addr} {N : Nat} {Hv : Hp} {ds : List D} {vs : List V} (r : Reps K m N Hv ds vs) : ∀ n : Nat, Reps K m N Hv (List.replicate n ds).flatten (List.replicate n vs).flatten
  | 0 => reps_nil
  | n + 1 => by rw [List.replicate_succ, List.replicate_succ, List.flatten_cons, List.flatten_cons]; exact r.append (reps_rep r n)
theorem vr_mul {fz : Bool} : VR2 K rMulA (aMul fz) := fun {_ m S Z H a b v u q Q} w r1 r2 h k => by
  cases b with
  | int j =>
    rw [Rep] at r2
    have lists : (∃ xs, listOf S a = some xs ∧ -(2 ^ 63) ≤ j ∧ j < 2 ^ 63 ∧ xs.length * j.toNat ≤ sizeLine ∧ newL fz (List.replicate j.toNat xs).flatten S q) → rMulA v u H Q := fun ⟨xs, h1, h2, h3, h4, h5⟩ => by
      obtain ⟨a1, vs, e1, hh1, q1⟩ := listOf_rep w r1 h1
      exact .inr (.inr ⟨a1, j, vs, e1, r2, hh1, h2, h3, by rw [Reps.len q1]; exact h4, fun p hp => out_newL w (reps_rep q1 _) h5 k hp⟩)
    cases a <;> first
      | (rw [Rep] at r1
         rcases h.1 with h1 | h1
         · exact .inl ⟨_, _, r1, r2, h1, k.now w rep_int h.2⟩
         · exact .inr (.inl ⟨_, _, r1, r2, h1, k.now w rep_int h.2⟩))
      | exact lists h
  | non => cases a <;> exact False.elim h
  | bl _ => cases a <;> exact False.elim h
  | str _ => cases a <;> exact False.elim h
  | tup _ => cases a <;> exact False.elim h
  | lst _ => cases a <;> exact False.elim h
  | ksq _ => cases a <;> exact False.elim h
  | obj _ _ _ => cases a <;> exact False.elim h
  | dic _ _ => cases a <;> exact False.elim h
  | loc _ => cases a <;> exact False.elim h
  | ref _ => cases a <;> exact False.elim h
  | ty _ => cases a <;> exact False.elim h
  | exc _ _ _ => cases a <;> exact False.elim h
def divOk (i j : Int) : Prop := CDiv i j ∨ CDivW i j
def aFdiv : R2D := aI2 divOk fun i j => .int (i / j)
abbrev rDivA : R2 := fun x y H Q => rI CDiv (fun i j => .int (i / j)) x y H Q ∨ rI CDivW (fun i j => .int (i / j)) x y H Q
theorem or_fdiv {X : Cx} : OpR X (binaryOp .FloorDiv) rDivA := op_fdiv.or op_fdivW
theorem vr_fdiv : VR2 K rDivA aFdiv := fun w r1 r2 ⟨i, j, e1, e2, h1, h2⟩ k => by
  subst e1 e2
  rw [Rep] at r1 r2
  rcases h1 with h1 | h1
  · exact .inl ⟨i, j, r1, r2, h1, k.now w rep_int h2⟩
  · exact .inr ⟨i, j, r1, r2, h1, k.now w rep_int h2⟩
def aMod : R2D := aI2 (fun _ j => 0 < j) fun i j => .int (i % j)
theorem vr_mod : VR2 K (rI (fun _ j => 0 < j) fun i j => .int (i % j)) aMod := vr_I2 fun _ _ _ _ _ => rep_int
def aPow : R2D := aI2 CPow fun i j => .int (i ^ j.toNat)
theorem vr_pow : VR2 K (rI CPow fun i j => .int (i ^ j.toNat)) aPow := vr_I2 fun _ _ _ _ _ => rep_int
def aShr : R2D := aI2 (fun _ j => 0 ≤ j) fun i j => .int (i / 2 ^ j.toNat)
def aLt : R2D := aI2 (fun _ _ => True) fun i j => .bl (decide (i < j))
def aLe : R2D := aI2 (fun _ _ => True) fun i j => .bl (decide (i ≤ j))
def aGt : R2D := aI2 (fun _ _ => True) fun i j => .bl (decide (j < i))
def aGe : R2D := aI2 (fun _ _ => True) fun i j => .bl (decide (j ≤ i))
theorem vr_lt : VR2 K (rI0 fun i j => .bl (decide (i < j))) aLt := vr_I20 fun _ _ _ _ _ => rep_bl
theorem vr_le : VR2 K (rI0 fun i j => .bl (decide (i ≤ j))) aLe := vr_I20 fun _ _ _ _ _ => rep_bl
theorem vr_gt : VR2 K (rI0 fun i j => .bl (decide (j < i))) aGt := vr_I20 fun _ _ _ _ _ => rep_bl
theorem vr_ge : VR2 K (rI0 fun i j => .bl (decide (j ≤ i))) aGe := vr_I20 fun _ _ _ _ _ => rep_bl
/-- - of one int -/
def aNeg : R1D := fun a S q => ∃ i, a = .int i ∧ q (.int (-i)) S
theorem vr_neg : VR1 K (rU fun i => .int (-i)) aNeg := fun w r1 ⟨i, e1, h⟩ k => by
  subst e1
  rw [Rep] at r1
  exact ⟨i, r1, k.now w rep_int h⟩
end
mutual
def toPy : D → Option PyData
  | .non => some .none
  | .bl b => some (.bool b)
  | .int i => some (.int i)
  | .str x => some (.str x)
  | .tup ds => (toPys ds).map .tuple
  | .lst ds => (toPys ds).map .list
  | .ksq ds => (toPys ds).map .list
  | .obj _ _ _ => none
  | .dic _ _ => none
  | .loc _ => none
  | .ref _ => none
  | .ty _ => none
  | .exc _ _ _ => none
def toPys : List D → Option (List PyData)
  | [] => some []
  | d :: ds => match toPy d, toPys ds with
    | some p, some ps => some (p :: ps)
    | _, _ => none
end
def toPyS (S : Sto) : D → Option PyData
  | .loc n => match S[n]? with
    | some (some (.lst ds)) => (toPys ds).map .list
    | _ => none
  | d => toPy d
section
variable {K : PySem.W.Frag} {m : Nat → Addr} {N : Nat} {Hv : Hp}
mutual
theorem dp_of : ∀ {d : D} {v : V} {p : PyData}, Rep K m N Hv d v → toPy d = some p → Dp K Hv v p
  | .non, _, _, r, e => by rw [Rep] at r; rw [toPy] at e; cases e; rw [r]; exact .non
  | .bl _, _, _, r, e => by rw [Rep] at r; rw [toPy] at e; cases e; rw [r]; exact .bl _
  | .int _, _, _, r, e => by rw [Rep] at r; rw [toPy] at e; cases e; rw [r]; exact .int _
  | .str _, _, _, r, e => by rw [Rep] at r; rw [toPy] at e; cases e; rw [r]; exact .str _
  | .tup ds, _, _, r, e => by
    rw [Rep] at r
    rw [toPy] at e
    obtain ⟨a, vs, ev, h1, h2⟩ := r
    obtain ⟨ps, hp, rfl⟩ := Option.map_eq_some_iff.mp e
    rw [ev]
    exact .tup h1 (dps_of h2 hp)
  | .lst ds, _, _, r, e => by
    rw [Rep] at r
    rw [toPy] at e
    obtain ⟨a, vs, ev, h1, h2⟩ := r
    obtain ⟨ps, hp, rfl⟩ := Option.map_eq_some_iff.mp e
    rw [ev]
    exact .lst (SqL.of h1) (dps_of h2 hp)
  | .ksq ds, _, _, r, e => by
    rw [Rep] at r
    rw [toPy] at e
    obtain ⟨a, vs, ev, h1, h2⟩ := r
    obtain ⟨ps, hp, rfl⟩ := Option.map_eq_some_iff.mp e
    rw [ev]
    exact .lst h1 (dps_of h2 hp)
  | .obj _ _ _, _, _, _, e => by rw [toPy] at e; cases e
  | .dic _ _, _, _, _, e => by rw [toPy] at e; cases e
  | .loc _, _, _, _, e => by rw [toPy] at e; cases e
  | .ref _, _, _, _, e => by rw [toPy] at e; cases e
  | .ty _, _, _, _, e => by rw [toPy] at e; cases e
  | .exc _ _ _, _, _, _, e => by rw [toPy] at e; cases e
theorem dps_of : ∀ {ds : List D} {vs : List V} {ps : List PyData}, Reps K m N Hv ds vs → toPys ds = some ps → DpAll K Hv vs ps
  | [], _, _, r, e => by rw [Reps] at r; rw [toPys] at e; cases e; rw [r]; exact .nil
  | d :: ds, _, _, r, e => by
    rw [Reps] at r
    obtain ⟨v, q, ev, r1, r2⟩ := r
    rw [toPys] at e
    cases h1 : toPy d with
    | none => rw [h1] at e; cases e
    | some p =>
      cases h2 : toPys ds with
      | none => rw [h1, h2] at e; cases e
      | some ps =>
        rw [h1, h2] at e
        cases e
        rw [ev]
        exact .cons (dp_of r1 h1) (dps_of r2 h2)
end
mutual
theorem Dp.sub {H H' : Hp} (hh : ∀ a o, H a = some o → H' a = some o) : ∀ {v : V} {p : PyData}, Dp K H v p → Dp K H' v p
  | _, _, .non => .non
  | _, _, .bl b => .bl b
  | _, _, .int b => .int b
  | _, _, .str b => .str b
  | _, _, .lst h r => .lst (SqL.sub hh h) (DpAll.sub hh r)
  | _, _, .tup h r => .tup (SqT.sub hh h) (DpAll.sub hh r)
theorem DpAll.sub {H H' : Hp} (hh : ∀ a o, H a = some o → H' a = some o) : ∀ {v : List V} {p : List PyData}, DpAll K H v p → DpAll K H' v p
  | _, _, .nil => .nil
  | _, _, .cons h r => .cons (Dp.sub hh h) (DpAll.sub hh r)
end
theorem dpS_of {S : Sto} {Z : Addr → Prop} {H : Hp} {d : D} {v : V} {p : PyData} (w : Wd K U m S Z H) (r : Rep K m S.length (vis m S Z H) d v) (e : toPyS S d = some p) : Dp K H v p := by
  cases d with
  | loc n =>
    rw [toPyS] at e
    rw [Rep] at r
    cases hS : S[n]? with
    | none => rw [hS] at e; cases e
    | some o =>
      cases o with
      | none => rw [hS] at e; cases e
      | some o =>
        cases o with
        | lst ds =>
          rw [hS] at e
          obtain ⟨ps, hp, rfl⟩ := Option.map_eq_some_iff.mp e
          obtain ⟨vs, h1, h2⟩ := w.rep n _ hS
          rw [r.1]
          exact .lst (SqL.of h1) (DpAll.sub vis_le (dps_of h2 hp))
        | obj _ _ _ => rw [hS] at e; cases e
        | dic _ _ => rw [hS] at e; cases e
        | dicT _ _ => rw [hS] at e; cases e
  | non => exact Dp.sub vis_le (dp_of r e)
  | bl _ => exact Dp.sub vis_le (dp_of r e)
  | int _ => exact Dp.sub vis_le (dp_of r e)
  | str _ => exact Dp.sub vis_le (dp_of r e)
  | tup _ => exact Dp.sub vis_le (dp_of r e)
  | lst _ => exact Dp.sub vis_le (dp_of r e)
  | ksq _ => exact Dp.sub vis_le (dp_of r e)
  | obj _ _ _ => exact Dp.sub vis_le (dp_of r e)
  | dic _ _ => exact Dp.sub vis_le (dp_of r e)
  | ref _ => exact Dp.sub vis_le (dp_of r e)
  | ty _ => exact Dp.sub vis_le (dp_of r e)
  | exc _ _ _ => exact Dp.sub vis_le (dp_of r e)
end
def aEq : R2D := fun a b S q => ∃ p p', toPyS S a = some p ∧ toPyS S b = some p' ∧ SeqAt.shaped p = true ∧ SeqAt.shaped p' = true ∧ q (.bl (PyData.eqv p p')) S
def aNe : R2D := fun a b S q => ∃ p p', toPyS S a = some p ∧ toPyS S b = some p' ∧ SeqAt.shaped p = true ∧ SeqAt.shaped p' = true ∧ q (.bl (!PyData.eqv p p')) S
section
variable {K : PySem.W.Frag}
theorem vr_eq : VR2 K (rEqD K) aEq := fun w r1 r2 ⟨p, p', h1, h2, h3, h4, h5⟩ k => ⟨p, p', dpS_of w r1 h1, dpS_of w r2 h2, h3, h4, k.now w rep_bl h5⟩
theorem vr_ne : VR2 K (rNeD K) aNe := fun w r1 r2 ⟨p, p', h1, h2, h3, h4, h5⟩ k => ⟨p, p', dpS_of w r1 h1, dpS_of w r2 h2, h3, h4, k.now w rep_bl h5⟩
def aInS : R2D := fun a b S q => ∃ (c : Nat) (z : Str), a = .str ⟨#[c]⟩ ∧ b = .str z ∧ q (.bl (decide (c ∈ z.cps.toList))) S
theorem vrn_of1 {r : List V → Hp → VK → Prop} {g : RND} (P : D → Sto → (D → Sto → Prop) → Prop) (hg : ∀ as S q, g as S q → ∃ d, as = [d] ∧ P d S q)
    (h : ∀ {U : Wi} {m : Nat → Addr} {S : Sto} {Z : Addr → Prop} {H : Hp} {d : D} {v : V} {q : D → Sto → Prop} {Q : VK}, Wd K U m S Z H → Rep K m S.length (vis m S Z H) d v → P d S q → Outs m S Z H K U (rD K) q Q → r [v] H Q) : VRN K r g := fun w rs hh k => by
  obtain ⟨d, e, hp⟩ := hg _ _ _ hh
  subst e
  obtain ⟨v, ev, rv⟩ := reps1 rs
  rw [ev]
  exact h w rv hp k
def a1 (P : D → Sto → (D → Sto → Prop) → Prop) : RND := fun as S q => ∃ d, as = [d] ∧ P d S q
def a2 (P : D → D → Sto → (D → Sto → Prop) → Prop) : RND := fun as S q => ∃ d e, as = [d, e] ∧ P d e S q
theorem vrn1 {r : List V → Hp → VK → Prop} {P : R1D} (h : ∀ {U : Wi} {m : Nat → Addr} {S : Sto} {Z : Addr → Prop} {H : Hp} {d : D} {v : V} {q : D → Sto → Prop} {Q : VK}, Wd K U m S Z H → Rep K m S.length (vis m S Z H) d v → P d S q → Outs m S Z H K U (rD K) q Q → r [v] H Q) : VRN K r (a1 P) :=
  vrn_of1 P (fun _ _ _ h => h) h
theorem vrn2 {r : List V → Hp → VK → Prop} {P : R2D} (h : ∀ {U : Wi} {m : Nat → Addr} {S : Sto} {Z : Addr → Prop} {H : Hp} {d e : D} {v u : V} {q : D → Sto → Prop} {Q : VK}, Wd K U m S Z H → Rep K m S.length (vis m S Z H) d v → Rep K m S.length (vis m S Z H) e u → P d e S q → Outs m S Z H K U (rD K) q Q → r [v, u] H Q) : VRN K r (a2 P) := fun w rs ⟨d, e, ed, hh⟩ k => by
  subst ed
  obtain ⟨v, u, ev, rv, ru⟩ := reps2 rs
  rw [ev]
  exact h w rv ru hh k
def aLen : R1D := fun d S q => match d with
  | .str x => x.length ≤ sizeLine ∧ q (.int x.length) S
  | d => ∃ ds, seqOf S d = some ds ∧ q (.int ds.length) S
abbrev rLenA (K : PySem.W.Frag) : List V → Hp → VK → Prop := fun xs H Q => (∃ p ys, xs = [.ref p] ∧ (SqL K H p ys ∨ SqT K H p ys) ∧ Q (.int ys.length) H) ∨ (∃ z, xs = [.str z] ∧ z.length ≤ sizeLine ∧ Q (.int z.length) H)
theorem or_len {X : Cx} : CallR X (.builtin "len") (rLenA X.K) := call_len_seq.or call_len_str
theorem seq_any {m : Nat → Addr} {S : Sto} {Z : Addr → Prop} {H : Hp} {d : D} {v : V} {ds : List D} (w : Wd K U m S Z H) (r : Rep K m S.length (vis m S Z H) d v) (h : seqOf S d = some ds) :
    ∃ a vs, v = .ref a ∧ Reps K m S.length (vis m S Z H) ds vs ∧ (SqL K H a vs ∨ SqT K H a vs) := by
  obtain ⟨a, vs, e, hr, ht, hl⟩ := seqOf_rep w r h
  refine ⟨a, vs, e, hr, ?_⟩
  cases hd : d.isTup with
  | true => exact .inr (ht hd)
  | false => exact .inl (hl hd)
theorem vr_len : VRN K (rLenA K) (a1 aLen) := vrn1 fun {_ m S Z H d v q Q} w r h k => by
  have go : (∃ ds, seqOf S d = some ds ∧ q (.int ds.length) S) → rLenA K [v] H Q := fun ⟨ds, h1, h2⟩ => by
    obtain ⟨a, vs, e, hr, hs⟩ := seq_any w r h1
    exact .inl ⟨a, vs, by rw [e], hs, k.now w (by rw [Reps.len hr]; exact rep_int) h2⟩
  cases d <;> first
    | (rw [Rep] at r; exact .inr ⟨_, by rw [r], h.1, k.now w rep_int h.2⟩)
    | exact go h
/-- str(int), int(text), int(bool), abs -/
def aStr : R1D := fun d S q => ∃ i, d = .int i ∧ i.natAbs.log2 < 1920 ∧ q (.str (showI i)) S
theorem vr_str : VRN K rStrI (a1 aStr) := vrn1 fun w r ⟨i, e, h1, h2⟩ k => by
  subst e; rw [Rep] at r
  exact ⟨i, by rw [r], h1, k.now w rep_str h2⟩
def aInt : R1D := fun d S q => match d with
  | .str x => ∃ n, PySem.intText? x = some n ∧ x.length ≤ 640 ∧ q (.int n) S
  | .int i => q (.int i) S
  | .bl b => q (.int (if b then 1 else 0)) S
  | _ => False
theorem vr_int : VRN K rIntA (a1 aInt) := vrn1 fun {_ m S Z H d v q Q} w r h k => by
  cases d <;> first
    | exact False.elim h
    | (rw [Rep] at r; obtain ⟨n, h1, h2, h3⟩ := h; exact .inl ⟨_, n, by rw [r], h1, h2, k.now w rep_int h3⟩)
    | (rename_i i; rw [Rep] at r; subst r; exact .inr (.inl ⟨i, rfl, k.now w rep_int h⟩))
    | (rename_i b; rw [Rep] at r; subst r; exact .inr (.inr ⟨b, rfl, k.now w rep_int h⟩))
theorem or_int {X : Cx} : CallR X (.type "int") rIntA := call_int_str.or call_int1
/-- divmod -/
def aDivmod : R2D := fun a b S q => ∃ i j, a = .int i ∧ b = .int j ∧ CDiv i j ∧ q (.tup [.int (i / j), .int (i % j)]) S
theorem vr_divmod : VRN K rDvm (a2 aDivmod) := vrn2 fun w r1 r2 ⟨i, j, e1, e2, h1, h2⟩ k => by
  subst e1 e2; rw [Rep] at r1 r2
  exact ⟨i, j, by rw [r1, r2], h1, fun p hp => out_newT w (Reps.cons rep_int (Reps.one rep_int)) h2 k hp⟩
/-- max, min of two ints; of a list of ints -/
def aMax2 : R2D := fun a b S q => ∃ i j, a = .int i ∧ b = .int j ∧ q (.int (max i j)) S
def aMin2 : R2D := fun a b S q => ∃ i j, a = .int i ∧ b = .int j ∧ q (.int (min i j)) S
theorem vr_max2 : VRN K rMx2 (a2 aMax2) := vrn2 fun w r1 r2 ⟨i, j, e1, e2, h2⟩ k => by
  subst e1 e2; rw [Rep] at r1 r2
  refine ⟨i, j, by rw [r1, r2], k.now w ?_ h2⟩
  have e : (if j > i then j else i) = max i j := by by_cases h : j > i <;> simp [h] <;> omega
  rw [e]; exact rep_int
theorem vr_min2 : VRN K rMn2 (a2 aMin2) := vrn2 fun w r1 r2 ⟨i, j, e1, e2, h2⟩ k => by
  subst e1 e2; rw [Rep] at r1 r2
  refine ⟨i, j, by rw [r1, r2], k.now w ?_ h2⟩
  have e : (if j < i then j else i) = min i j := by by_cases h : j < i <;> simp [h] <;> omega
  rw [e]; exact rep_int
theorem ints_seq {m : Nat → Addr} {S : Sto} {Z : Addr → Prop} {H : Hp} {d : D} {v : V} {ns : List Int} (w : Wd K U m S Z H) (r : Rep K m S.length (vis m S Z H) d v) (ht : d.isTup = false) (h : seqOf S d = some (ns.map D.int)) : ∃ a, v = .ref a ∧ SqL K H a (ns.map V.int) := by
  obtain ⟨a, vs, e, hr, _, hl⟩ := seqOf_rep w r h
  have q := hl ht
  rw [Reps.ints hr] at q
  exact ⟨a, e, q⟩
def aMaxL : R1D := fun d S q => ∃ ns : List Int, d.isTup = false ∧ seqOf S d = some (ns.map D.int) ∧ 0 < ns.length ∧ ∀ m, m ∈ ns → (∀ y, y ∈ ns → y ≤ m) → q (.int m) S
theorem vr_maxL : VRN K (rMax K) (a1 aMaxL) := vrn1 fun w r ⟨ns, ht, h1, h2, h3⟩ k => by
  obtain ⟨a, e, hs⟩ := ints_seq w r ht h1
  exact ⟨a, ns, by rw [e], hs, h2, fun m h4 h5 => k.now w rep_int (h3 m h4 h5)⟩
theorem Reps.bls {m : Nat → Addr} {N : Nat} {H : Hp} : ∀ {ns : List Bool} {vs : List V}, Reps K m N H (ns.map D.bl) vs → vs = ns.map V.bl
  | [], _, r => r
  | n :: ns, _, r => by
    obtain ⟨v, q, e1, r1, r2⟩ := r
    rw [Rep] at r1
    rw [e1, r1, Reps.bls r2]
    rfl
def aAll : R1D := fun d S q => ∃ bs : List Bool, d.isTup = false ∧ seqOf S d = some (bs.map D.bl) ∧ q (.bl (bs.all id)) S
theorem vr_all : VRN K (rAll K) (a1 aAll) := vrn1 fun w r ⟨bs, ht, h1, h2⟩ k => by
  obtain ⟨a, vs, e, hr, _, hl⟩ := seqOf_rep w r h1
  have q := hl ht
  rw [Reps.bls hr] at q
  exact ⟨a, bs, by rw [e], q, k.now w rep_bl h2⟩
/-- list(x), tuple(x) -/
def aList (fz : Bool) : R1D := fun d S q => ∃ ds, seqOf S d = some ds ∧ newL fz ds S q
theorem vr_list {fz : Bool} : VRN K (rLstOf K) (a1 (aList fz)) := vrn1 fun w r ⟨ds, h1, h2⟩ k => by
  obtain ⟨a, vs, e, hr, hs⟩ := seq_any w r h1
  exact ⟨a, vs, by rw [e], hs, fun p hp => out_newL w hr h2 k hp⟩
/-- isinstance of a built-in class -/
def tyN (S : Sto) : D → Option String
  | .non => some "NoneType"
  | .bl _ => some "bool"
  | .int _ => some "int"
  | .str _ => some "str"
  | .tup _ => some "tuple"
  | .lst _ => some "list"
  | .loc n => match S[n]? with
    | some (some (.lst _)) => some "list"
    | some (some (.dic _ _)) => some "dict"
    | some (some (.dicT _ _)) => some "dict"
    | _ => none
  | .dic _ _ => some "dict"
  | _ => none
def isiB (a b : String) : Bool := a == b || (a == "bool" && b == "int")
def basicT : List String := ["bool", "int", "str", "tuple", "list", "dict"]
def aIsi : R2D := fun d c S q => ∃ a b, tyN S d = some a ∧ c = .ty b ∧ basicT.contains b = true ∧ q (.bl (isiB a b)) S
theorem kit_basic : ∀ a ∈ "NoneType" :: basicT, ∀ b ∈ basicT, L2.kitB a b = some (isiB a b) := by decide +kernel
theorem tyX_of {m : Nat → Addr} {S : Sto} {Z : Addr → Prop} {H : Hp} {d : D} {v : V} {a : String} (w : Wd K U m S Z H) (r : Rep K m S.length (vis m S Z H) d v) (h : tyN S d = some a) : TyX K H v (.type a) ∧ a ∈ "NoneType" :: basicT := by
  cases d with
  | non => cases h; rw [Rep] at r; rw [r]; exact ⟨.base .non, by decide⟩
  | bl _ => cases h; rw [Rep] at r; rw [r]; exact ⟨.base (.bl _), by decide⟩
  | int _ => cases h; rw [Rep] at r; rw [r]; exact ⟨.base (.int _), by decide⟩
  | str _ => cases h; rw [Rep] at r; rw [r]; exact ⟨.base (.str _), by decide⟩
  | tup _ =>
    cases h
    rw [Rep] at r
    obtain ⟨p, vs, e, h1, _⟩ := r
    rw [e]
    refine ⟨?_, by decide⟩
    rcases h1 with (h1 | ⟨o, h1⟩) | ⟨o, its, n, h1, h2, _⟩
    · exact .base (.tup (vis_sub h1))
    · exact .fTuple (vis_sub h1)
    · exact .kTuple h1 h2
  | lst _ =>
    cases h
    rw [Rep] at r
    obtain ⟨p, vs, e, h1, _⟩ := r
    rw [e]
    exact ⟨.base (.lst (vis_sub h1)), by decide⟩
  | dic _ _ =>
    cases h
    rw [Rep] at r
    obtain ⟨p, vs, e, h1, _⟩ := r
    rw [e]
    exact ⟨.base (.dK (vis_sub h1)), by decide⟩
  | loc n =>
    rw [Rep] at r
    rw [tyN] at h
    rw [r.1]
    cases hS : S[n]? with
    | none => rw [hS] at h; cases h
    | some o =>
      cases o with
      | none => rw [hS] at h; cases h
      | some o =>
        rw [hS] at h
        cases o with
        | lst ds => cases h; obtain ⟨vs, h1, _⟩ := w.rep n _ hS; exact ⟨.base (.lst h1), by decide⟩
        | obj _ _ _ => cases h
        | dic _ _ => cases h; obtain ⟨vs, h1, _⟩ := w.rep n _ hS; exact ⟨.base (.dK h1), by decide⟩
        | dicT _ _ => cases h; obtain ⟨vs, h1, _⟩ := w.rep n _ hS; exact ⟨.base (.dT h1), by decide⟩
  | ksq _ => cases h
  | obj _ _ _ => cases h
  | ref _ => cases h
  | ty _ => cases h
  | exc _ _ _ => cases h
theorem vr_isi : VRN K (rIsi K) (a2 aIsi) := vrn2 fun {_ m S Z H d e v u q Q} w r1 r2 ⟨a, b, h1, e2, h3, h4⟩ k => by
  subst e2
  rw [Rep] at r2
  subst r2
  obtain ⟨h5, h6⟩ := tyX_of w r1 h1
  exact ⟨v, .ty b, .type a, .type b, isiB a b, rfl, .ty b, h5, kit_ty (kit_basic a h6 b (List.contains_iff_mem.mp h3)), k.now w rep_bl h4⟩
def aIx : R2D := fun a b S q => ∃ i, b = .int i ∧ match a with
  | .str z => z.length ≤ sizeLine ∧ ∃ c, atI z.cps.toList i = some c ∧ q (.str ⟨#[c]⟩) S
  | a => ∃ ds d, seqOf S a = some ds ∧ atI ds i = some d ∧ q d S
theorem atI_reps {m : Nat → Addr} {N : Nat} {Hv : Hp} {ds : List D} {vs : List V} {i : Int} {d : D} (r : Reps K m N Hv ds vs) (h : atI ds i = some d) : ∃ v, atI vs i = some v ∧ Rep K m N Hv d v := by
  unfold atI at h ⊢
  rw [Reps.len r]
  cases hx : ixN ds.length i with
  | none => rw [hx] at h; cases h
  | some j =>
    rw [hx] at h
    exact Reps.get r h
theorem vr_ix : VR2 K (rIx K) aIx := fun {_ m S Z H a b v u q Q} w r1 r2 ⟨i, e2, h⟩ k => by
  subst e2
  rw [Rep] at r2
  have go : (∃ ds d, seqOf S a = some ds ∧ atI ds i = some d ∧ q d S) → rIx K v u H Q := fun ⟨ds, d, h1, h2, h3⟩ => by
    obtain ⟨p, vs, e, hr, hs⟩ := seq_any w r1 h1
    obtain ⟨x, hx, rx⟩ := atI_reps hr h2
    rcases hs with hs | hs
    · exact .inl ⟨p, vs, i, x, e, r2, hs, hx, k.now w rx h3⟩
    · exact .inr (.inl ⟨p, vs, i, x, e, r2, hs, hx, k.now w rx h3⟩)
  cases a <;> first
    | (rw [Rep] at r1; obtain ⟨h1, c, h2, h3⟩ := h; exact .inr (.inr ⟨_, i, c, r1, r2, h1, h2, k.now w rep_str h3⟩))
    | exact go h
def cutD (ds : List D) (lo hi : Option Int) : List D := (ds.drop (HT.sIx ds.length 0 lo)).take (HT.sIx ds.length ds.length hi - HT.sIx ds.length 0 lo)
def aSl (fz : Bool) (a : D) (lo hi : Option Int) (S : Sto) (q : D → Sto → Prop) : Prop := match a with
  | .str z => z.length ≤ sizeLine ∧ q (.str (cutS z lo hi)) S
  | .tup ds => q (.tup (cutD ds lo hi)) S
  | a => ∃ ds, seqOf S a = some ds ∧ newL fz (cutD ds lo hi) S q
abbrev rSlAll (K : PySem.W.Frag) : V → Option Int → Option Int → Hp → VK → Prop := fun x lo hi H Q => rSlL K x lo hi H Q ∨ rSlS x lo hi H Q ∨ rSlA K x lo hi H Q
theorem or_sl {X : Cx} : SlR X (rSlAll X.K) := sl_list.or (sl_str.or sl_tupA)
theorem reps_cut {m : Nat → Addr} {N : Nat} {Hv : Hp} {ds : List D} {vs : List V} {lo hi : Option Int} (r : Reps K m N Hv ds vs) : Reps K m N Hv (cutD ds lo hi) (cutV vs lo hi) := by
  unfold cutD cutV
  rw [← Reps.len r]
  exact (r.drop _).take _
theorem vr_sl {fz : Bool} {m : Nat → Addr} {S : Sto} {Z : Addr → Prop} {H : Hp} {a : D} {v : V} {lo hi : Option Int} {q : D → Sto → Prop} {Q : VK} (w : Wd K U m S Z H) (r1 : Rep K m S.length (vis m S Z H) a v) (h : aSl fz a lo hi S q) (k : Outs m S Z H K U (rD K) q Q) : rSlAll K v lo hi H Q := by
  have go : a.isTup = false → (∃ ds, seqOf S a = some ds ∧ newL fz (cutD ds lo hi) S q) → rSlAll K v lo hi H Q := fun ht ⟨ds, h1, h2⟩ => by
    obtain ⟨p, vs, e, hr, _, hl⟩ := seqOf_rep w r1 h1
    exact .inl ⟨p, vs, e, hl ht, fun p hp => out_newL w (reps_cut hr) h2 k hp⟩
  cases a with
  | str z => rw [Rep] at r1; exact .inr (.inl ⟨z, r1, h.1, k.now w rep_str h.2⟩)
  | tup ds =>
    obtain ⟨p, vs, e, hr, ht, _⟩ := seqOf_rep (ds := ds) w r1 rfl
    refine .inr (.inr ⟨p, vs, e, ht rfl, fun hw => ?_, fun _ p hp => out_newT w (reps_cut hr) h k hp⟩)
    have e2 : cutD ds lo hi = ds := by
      unfold cutD
      rw [← Reps.len hr, hw.1, hw.2, List.drop_zero, Nat.sub_zero, Reps.len hr, List.take_length]
    have h' : q (.tup (cutD ds lo hi)) S := h
    rw [e2] at h'
    rw [← e]
    exact k.now w r1 h'
  | lst _ => exact go rfl h
  | ksq _ => exact go rfl h
  | loc _ => exact go rfl h
  | non => exact go rfl h
  | bl _ => exact go rfl h
  | int _ => exact go rfl h
  | obj _ _ _ => exact go rfl h
  | dic _ _ => exact go rfl h
  | ref _ => exact go rfl h
  | ty _ => exact go rfl h
  | exc _ _ _ => exact go rfl h
end
abbrev GO := G (Option Int)
def gNoP : GO := fun _ S q => q none S
def gPart (ge : G D) : GO := fun ρ S q => ge ρ S fun d S1 => ∃ i, d = .int i ∧ q (some i) S1
def gIx (ga gb : G D) : G D := gB2 aIx ga gb
def gSl (fz : Bool) (ga : G D) (gl gh : GO) : G D := fun ρ S q => ga ρ S fun a S1 => gl ρ S1 fun lo S2 => gh ρ S2 fun hi S3 => aSl fz a lo hi S3 q
section
variable {X : Cx} {pos p2 : Pos} {a b e : Expr} {ga gb ge : G D} {gl gh : GO} {lo hi : Option Expr}
theorem d_ix (ha : PE X a (tofE X.K U ga)) (hb : PE X b (tofE X.K U gb)) (hs : PlainIx b := by intro _ _; rfl) : PE X (.Subscript a b pos) (tofE X.K U (gIx ga gb)) :=
  weakE (pe_ix ix_seq ha hb hs) fun _ _ _ h => two_in vr_ix h
theorem do_none : PO X none (tofO X.K U gNoP) := weakO po_none fun σ H Q ⟨m, S, Z, ρ, q, w, rs, h, k⟩ => k.now w rfl h
theorem do_some (h : PE X e (tofE X.K U ge)) : PO X (some e) (tofO X.K U (gPart ge)) := weakO (po_some h) fun σ H Q ⟨m, S, Z, ρ, q, w, rs, h, k⟩ => tof_in w rs h fun v1 H1 m1 d1 S1 e1 w1 r1 ⟨i, ed, h1⟩ => by
  subst ed
  have r1' : Rep X.K m1 S1.length (vis m1 S1 Z H1) (.int i) v1 := r1
  rw [Rep] at r1'
  exact ⟨i, r1', k.at e1 w1 rfl h1⟩
theorem d_sl (fz : Bool) (ha : PE X a (tofE X.K U ga)) (hl : PO X lo (tofO X.K U gl)) (hh : PO X hi (tofO X.K U gh)) : PE X (.Subscript a (.Slice lo hi none p2) pos) (tofE X.K U (gSl fz ga gl gh)) :=
  weakE (pe_slice or_sl ha hl hh) fun σ H Q ⟨m, S, Z, ρ, q, w, rs, h, k⟩ => tof_in w rs h fun v1 H1 m1 d1 S1 e1 w1 r1 h1 => tof_in w1 (rs.ext e1) h1 fun v2 H2 m2 d2 S2 e2 w2 r2 h2 => tof_in w2 (rs.ext (e1.trans e2)) h2 fun v3 H3 m3 d3 S3 e3 w3 r3 h3 => by
    cases (show d2 = v2 from r2)
    cases (show d3 = v3 from r3)
    exact vr_sl w3 (r1.ext (e2.trans e3)) h3 (k.ext ((e1.trans e2).trans e3))
/-- a built-in class as a value -/
theorem d_gty {x : Str} {T : String} (hg : Gl X x) (hm : X.mg x = none) (hb : bootBuiltins x = some (.type T)) (hn : x ≠ "__name__" := by decide) (hd : (x == ("__debug__" : Str)) = false := by decide) : PE X (.Name x pos) (tofE X.K U (gC (.ty T))) :=
  ofC (pe_bltn (v := .ty T) hg hm hb rfl hn hd) fun _ _ _ _ => by simp [Rep]
end
def gFmt (ge : G D) : G D := fun ρ S q => ge ρ S fun d S1 => match d with
  | .str y => y.length ≤ sizeLine ∧ q (.str y) S1
  | .int i => i.natAbs.log2 < 1920 ∧ q (.str (showI i)) S1
  | _ => False
def gJs : List (G D) → Str → Env_ → Sto → (Str → Sto → Prop) → Prop
  | [], acc, _, S, q => q acc S
  | g :: gs, acc, ρ, S, q => g ρ S fun d S1 => ∃ y, d = .str y ∧ (acc ++ y).length ≤ sizeLine ∧ gJs gs (acc ++ y) ρ S1 q
def gJoined (gs : List (G D)) : G D := fun ρ S q => gJs gs Str.empty ρ S fun out S1 => q (.str out) S1
inductive DJ (X : Cx) (U : Wi) : List Expr → List (G D) → Prop where
  | nil : DJ X U [] []
  | cons {e : Expr} {g : G D} {es : List Expr} {gs : List (G D)} (h : PE X e (tofE X.K U g)) (r : DJ X U es gs) : DJ X U (e :: es) (g :: gs)
theorem DJ.pj {X : Cx} {es : List Expr} {gs : List (G D)} (h : DJ X U es gs) : PJ X es (gs.map (tofE X.K U)) := by
  induction h with
  | nil => exact .nil
  | cons h _ ih => exact .cons h ih
theorem js_in {K : PySem.W.Frag} {ρ : Env_} {σ : L2.St} : ∀ {gs : List (G D)} {acc : Str} {m : Nat → Addr} {S : Sto} {Z : Addr → Prop} {H : Hp} {q : D → Sto → Prop} {Q : VK}, Wd K U m S Z H → RelS K m S.length (vis m S Z H) ρ σ →
    gJs gs acc ρ S (fun out S1 => q (.str out) S1) → Outs m S Z H K U (rD K) q Q → tJs (gs.map (tofE K U)) acc σ H fun out H1 => Q (.str out) H1
  | [], _, _, _, _, _, _, _, w, rs, h, k => k.now w rep_str h
  | g :: gs, _, _, _, _, _, _, _, w, rs, h, k => tof_in w rs h fun v1 H1 m1 d1 S1 e1 w1 r1 ⟨y, ed, h1, h2⟩ => by
    subst ed
    rw [rD, Rep] at r1
    exact ⟨y, r1, h1, js_in w1 (rs.ext e1) h2 (k.ext e1)⟩
section
variable {X : Cx} {pos : Pos} {e v1 v2 : Expr} {rest : List Expr} {ge : G D} {gs : List (G D)}
theorem d_fmt (he : PE X e (tofE X.K U ge)) : PE X (.FormattedValue e (-1) none pos) (tofE X.K U (gFmt ge)) :=
  weakE (pe_fmt he) fun σ H Q ⟨m, S, Z, ρ, q, w, rs, h, k⟩ => tof_in w rs h fun u1 H1 m1 d1 S1 e1 w1 r1 h1 => by
    cases d1 <;> first
      | exact False.elim h1
      | (rw [rD, Rep] at r1; exact .inl ⟨_, r1, h1.1, k.at e1 w1 rep_str h1.2⟩)
      | (rw [rD, Rep] at r1; exact .inr ⟨_, r1, h1.1, k.at e1 w1 rep_str h1.2⟩)
theorem d_joined (h : DJ X U (v1 :: v2 :: rest) gs) : PE X (.JoinedStr (v1 :: v2 :: rest) pos) (tofE X.K U (gJoined gs)) :=
  weakE (pe_joined h.pj) fun σ H Q ⟨m, S, Z, ρ, q, w, rs, h, k⟩ => js_in w rs h k
end
section
variable {K : PySem.W.Frag}
theorem tyV_of {m : Nat → Addr} {S : Sto} {Z : Addr → Prop} {H : Hp} {T : String} {d : D} {v : V} (w : Wd K U m S Z H) (r : Rep K m S.length (vis m S Z H) d v) (hT : T ≠ "tuple") (h : isTy T S d = true) : tyV K T v H := by
  cases d with
  | str _ => rw [Rep] at r; rw [r]; exact beq_iff_eq.mp h
  | int _ => rw [Rep] at r; rw [r]; exact beq_iff_eq.mp h
  | lst _ => rw [Rep] at r; obtain ⟨a, vs, e, h1, _⟩ := r; rw [e]; exact .inl ⟨beq_iff_eq.mp h, vs, SqL.of (vis_sub h1)⟩
  | ksq _ => rw [Rep] at r; obtain ⟨a, vs, e, h1, _⟩ := r; rw [e]; exact .inl ⟨beq_iff_eq.mp h, vs, SqL.sub vis_le h1⟩
  | dic _ _ => rw [Rep] at r; obtain ⟨a, vs, e, h1, _⟩ := r; rw [e]; exact .inr (.inr (.inl ⟨beq_iff_eq.mp h, .inl ⟨_, vis_sub h1⟩⟩))
  | tup _ => exact absurd (beq_iff_eq.mp h) hT
  | loc n =>
    rw [Rep] at r
    rw [isTy] at h
    rw [r.1]
    cases hS : S[n]? with
    | none => rw [hS] at h; cases h
    | some o =>
      cases o with
      | none => rw [hS] at h; cases h
      | some o =>
        rw [hS] at h
        cases o with
        | lst ds => obtain ⟨vs, h1, _⟩ := w.rep n _ hS; exact .inl ⟨beq_iff_eq.mp h, vs, SqL.of h1⟩
        | obj _ _ _ => cases h
        | dic _ _ => obtain ⟨vs, h1, _⟩ := w.rep n _ hS; exact .inr (.inr (.inl ⟨beq_iff_eq.mp h, .inl ⟨_, h1⟩⟩))
        | dicT _ _ => obtain ⟨vs, h1, _⟩ := w.rep n _ hS; exact .inr (.inr (.inl ⟨beq_iff_eq.mp h, .inr ⟨_, h1⟩⟩))
  | non => cases h
  | bl _ => cases h
  | obj _ _ _ => cases h
  | ref _ => cases h
  | ty _ => cases h
  | exc _ _ _ => cases h
end
def gMt (T : String) (r : D → RND) (go : G D) (gs : G (List D)) : G D := fun ρ S q => go ρ S fun o S1 => isTy T S1 o = true ∧ gs ρ S1 fun ds S2 => r o ds S2 q
section
variable {X : Cx} {o e : Expr} {es : List Expr} {go : G D} {gs : G (List D)} {name : Str} {apos cpos : Pos} {T id : String} {r : V → List V → Hp → VK → Prop} {g : D → RND}
theorem d_bm (hT : T ≠ "tuple") (pa : PlainAttrs T) (slot : Slot T name id) (hty : typeOf (.builtin id) = pure (.type "method_descriptor")) (hm : MtR X id r) (hv : VRM X.K T r g) (ho : PE X o (tofE X.K U go)) (ha : PA X (e :: es) (tofA X.K U gs))
    (hbase : attributeBase o name X.env (eval o X.env) = eval o X.env := by rfl)
    (hfew : ((backTo cpos (starEach (e :: es) X.env)).all (fun x => !x.1) && (backToKw cpos (keywordEach [] X.env)).all (fun x => x.1.isSome)
      && decide ((e :: es).length + ([] : List Keyword).length + (if ([] : List Keyword).isEmpty then 0 else 1) < 30)) = true := by rfl)
    (hline : (apos.endLine == cpos.line) = true := by rfl) (hs : starEach (e :: es) X.env = (false, eval e X.env) :: starEach es X.env := by rfl) (hplain : (backTo cpos (starEach es X.env)).any (·.1) = false := by rfl) :
    PE X (.Call (.Attribute o name apos) (e :: es) [] cpos) (tofE X.K U (gMt T g go gs)) :=
  weakE (pe_bm pa slot hty hm ho ha hbase hfew hline hs hplain) fun σ H Q ⟨m, S, Z, ρ, q, w, rs, h, k⟩ => tof_in w rs h fun v1 H1 m1 d1 S1 e1 w1 r1 h1 => ⟨tyV_of w1 r1 hT h1.1, tof_in w1 (rs.ext e1) h1.2 fun v2 H2 m2 d2 S2 e2 w2 r2 h2 => hv w2 (r1.ext e2) r2 h2 (k.ext (e1.trans e2))⟩
end
section
variable {K : PySem.W.Frag}
/-- xs.append(y) -/
def aAppend : D → RND := fun o as S q => ∃ n ds y, o = .loc n ∧ as = [y] ∧ S[n]? = some (some (.lst ds)) ∧ ds.length < sizeLine ∧ q .non (S.set n (some (.lst (ds ++ [y]))))
theorem vm_append : VRM K "list" rAppend aAppend := fun {_ m S Z H o u a v q Q} w r rs ⟨n, ds, y, e1, e2, hS, hl, h⟩ k => by
  subst e1 e2
  rw [Rep] at r
  obtain ⟨x, ex, rx⟩ := reps1 rs
  obtain ⟨vs, h1, h2⟩ := w.rep n _ hS
  obtain ⟨w3, e3, hv3⟩ := w.upd (o := .lst (vs ++ [x])) (mo := .lst (ds ++ [y])) ⟨_, hS⟩ ⟨_, upd_same, h2.append (Reps.one rx)⟩
  exact ⟨m n, vs, x, r.1, ex, h1, by rw [Reps.len h2]; exact hl, k.at e3 w3 rep_non h⟩
/-- text methods with a text or an int -/
def aS1 (C : Str → Str → Prop) (f : Str → Str → D) : D → RND := fun o as S q => ∃ x y, o = .str x ∧ as = [.str y] ∧ C x y ∧ q (f x y) S
def aS0 (C : Str → Prop) (f : Str → D) : D → RND := fun o as S q => ∃ x, o = .str x ∧ as = [] ∧ C x ∧ q (f x) S
def aSI (C : Str → Int → Prop) (f : Str → Int → D) : D → RND := fun o as S q => ∃ x y, o = .str x ∧ as = [.int y] ∧ C x y ∧ q (f x y) S
theorem vm_zfill : VRM K "str" (fun x xs H Q => ∃ (a : Str) (i : Int), x = .str a ∧ xs = [.int i] ∧ PadOk i = true ∧ Q (.str (Txt.zfill a i)) H) (aSI (fun _ i => PadOk i = true) fun a i => .str (Txt.zfill a i)) := fun w r rs ⟨x, y, e1, e2, h1, h2⟩ k => by
  subst e1 e2
  rw [Rep] at r
  obtain ⟨z, ez, rz⟩ := reps1 rs
  rw [Rep] at rz
  exact ⟨x, y, r, by rw [ez, rz], h1, k.now w rep_str h2⟩
/-- sep.join(texts) -/
def aJoin : D → RND := fun o as S q => ∃ x d ys, o = .str x ∧ as = [d] ∧ seqOf S d = some (ys.map D.str) ∧ (ys.map (·.length)).sum + ys.length * x.length ≤ 16777216 ∧ q (.str (Txt.join x ys)) S
theorem vm_join : VRM K "str" (fun x xs H Q => ∃ a p, ∃ ys : List Str, x = .str a ∧ xs = [.ref p] ∧ (SqL K H p (ys.map V.str) ∨ SqT K H p (ys.map V.str)) ∧ (ys.map (·.length)).sum + ys.length * a.length ≤ 16777216 ∧ Q (.str (Txt.join a ys)) H) aJoin := fun w r rs ⟨x, d, ys, e1, e2, h1, h2, h3⟩ k => by
  subst e1 e2
  rw [Rep] at r
  obtain ⟨z, ez, rz⟩ := reps1 rs
  obtain ⟨a, vs, ea, hr, hs⟩ := seq_any w rz h1
  rw [Reps.strs hr] at hs
  exact ⟨x, a, ys, r, by rw [ez, ea], hs, h2, k.now w rep_str h3⟩
end
/-- xs[i] = v -/
def gSetIx (go gi gv : G D) : GS := fun E ρ S => gv ρ S fun v S1 => go ρ S1 fun o S2 => gi ρ S2 fun i S3 => ∃ n ds k j, o = .loc n ∧ i = .int k ∧ S3[n]? = some (some (.lst ds)) ∧ ixN ds.length k = some j ∧ E.nx ρ (S3.set n (some (.lst (ds.set j v))))
section
variable {X : Cx} {pos pos' : Pos} {o i value : Expr} {go gi gv : G D}
theorem d_setix (ho : PE X o (tofE X.K U go)) (hi : PE X i (tofE X.K U gi)) (hv : PE X value (tofE X.K U gv))
    (ha : ∀ v, assign (.Subscript o i pos') X.env v = (do
      let ov ← holding [v] (eval o X.env)
      let iv ← holding [v, ov] (eval i X.env)
      standAt pos'
      holding [v, ov, iv] (setItem ov iv v)
      release [v, ov, iv] []) := by intro _; rfl)
    (hs : swapsWithSole [.Subscript o i pos'] value pos.line X.env = pure false := by rfl) (hw : swappedStores [.Subscript o i pos'] value X.env = pure none := by rfl)
    (h1 : (assignEach [.Subscript o i pos'] X.env).map (·.2) = [assign (.Subscript o i pos') X.env] := by rfl) : PS X (.Assign [.Subscript o i pos'] value pos) (tofS X.K U (gSetIx go gi gv)) :=
  weakS (ps_asg hv (pg_sub ho hi set_list ha) hs hw h1) fun E σ H ⟨m, S, Z, ρ, D, w, rs, h, k⟩ => tof_in w rs h fun v1 H1 m1 d1 S1 e1 w1 r1 h1 => tof_in w1 (rs.ext e1) h1 fun v2 H2 m2 d2 S2 e2 w2 r2 h2 => tof_in w2 (rs.ext (e1.trans e2)) h2 fun v3 H3 m3 d3 S3 e3 w3 r3 ⟨n, ds, kk, j, eo, ei, hS, hj, h3⟩ => by
    subst eo ei
    have r2' := r2.ext e3
    rw [Rep] at r2'
    rw [rD, Rep] at r3
    obtain ⟨vs, hh, hr⟩ := w3.rep n _ hS
    obtain ⟨w4, e4, hv4⟩ := w3.upd (o := .lst (vs.set j v1)) (mo := .lst (ds.set j d1)) ⟨_, hS⟩ ⟨_, upd_same, hr.set j (r1.ext (e2.trans e3))⟩
    refine ⟨m3 n, vs, kk, j, r2'.1, r3, hh, by rw [Reps.len hr]; exact hj, k.nx.at (((e1.trans e2).trans e3).trans e4) w4 (rs.ext (((e1.trans e2).trans e3).trans e4)) h3⟩
end
end Dl
namespace Dl
open PySem L2
structure FnB (K : PySem.W.Frag) (mg : Str → Option Value) (x : Str) (st : Stmt) (dvs : List V) : Prop where
  ex : ∃ f fd, FunS K x x st dvs f fd ∧ mg x = some (.ref f)
structure MtB (K : PySem.W.Frag) (C : Addr) (m qual : Str) (st : Stmt) (dvs : List V) : Prop where
  ex : ∃ f fd, FunS K m qual st dvs f fd ∧ Meth K C m f
structure MkB (K : PySem.W.Frag) (C : Addr) (qual : Str) (st : Stmt) (dvs : List V) : Prop where
  ex : ∃ f fd, FunS K "__init__" qual st dvs f fd ∧ Mk K C f
section
variable {P : Program} {w : World} {K : PySem.W.Frag} {mg : Str → Option Value} {base : Heap} {x m qual : Str} {st : Stmt} {dvs : List V} {N ps : List Str} {k : Nat} {dsp : DSp} {C : Addr}
theorem fn_body0 {f : Addr} {fd : FuncData} (F : FunS K x qual st dvs f fd) (S : FnScope N ps (defScope st)) (len : ∀ ds S q, dsp ds S q → ds.length = ps.length) (g : GS)
    (hbody : ∀ (cdv : Value) (A : Around) (outer : List Env) (s : Shared) (H : Hp) (E : XK), RoomG k (A.deeper (PyProof.Rows.envOfC qual (defScope st) s.heap.objs.size f cdv)) →
      PSs (cxOf CX0 P w K mg base N qual (defScope st) f cdv A outer s H E).nox (defBody st) (tofS K U0 g))
    (hread : ∀ ds S q, D.unders S.length ds = true → Sto.under S.length S = true → dsp ds S q → g { nx := fun _ S' => q .non S', rt := q } (startD N ds) S) : FnG P w K mg base CX0 (k + 1) f fd ps (spOf K dsp) := by
  refine FnG.by_body F S (spOf_len len) fun cdv A outer s H vs Q E hr ⟨m, St', Z, ds, q, wd, rd, hd, kk⟩ => ?_
  refine ⟨_, (hbody cdv A outer s H E hr).nox, m, St', Z, startD N ds, _, wd, relS_start rd, hread ds St' q (Reps.below rd) wd.under hd, ⟨?_, kk, ?_, ?_⟩⟩
  · exact fun σ' H' m' ρ' S' e' w' _ h' => kk .non H' m' .non S' e' w' rep_non h'
  · exact fun _ _ _ _ _ _ _ _ h => h.elim
  · exact fun _ _ _ _ _ _ _ _ h => h.elim
theorem fnc_of (B : FnB K mg x st dvs) (S : FnScope N ps (defScope st)) (len : ∀ ds S q, dsp ds S q → ds.length = ps.length) (g : GS)
    (hbody : ∀ (f : Addr) (cdv : Value) (A : Around) (outer : List Env) (s : Shared) (H : Hp) (E : XK), RoomG k (A.deeper (PyProof.Rows.envOfC x (defScope st) s.heap.objs.size f cdv)) →
      PSs (cxOf CX0 P w K mg base N x (defScope st) f cdv A outer s H E).nox (defBody st) (tofS K U0 g))
    (hread : ∀ ds S q, D.unders S.length ds = true → Sto.under S.length S = true → dsp ds S q → g { nx := fun _ S' => fin S.length q .non S', rt := fin S.length q } (startD N ds) S) : Fnc P w K mg base x st dvs (k + 1) ps dsp := by
  obtain ⟨f, fd, F, hm⟩ := B.ex
  exact ⟨f, fd, F, hm, fn_body F S len g (hbody f) hread⟩
theorem fnc_of0 (B : FnB K mg x st dvs) (S : FnScope N ps (defScope st)) (len : ∀ ds S q, dsp ds S q → ds.length = ps.length) (g : GS)
    (hbody : ∀ (f : Addr) (cdv : Value) (A : Around) (outer : List Env) (s : Shared) (H : Hp) (E : XK), RoomG k (A.deeper (PyProof.Rows.envOfC x (defScope st) s.heap.objs.size f cdv)) →
      PSs (cxOf CX0 P w K mg base N x (defScope st) f cdv A outer s H E).nox (defBody st) (tofS K U0 g))
    (hread : ∀ ds S q, D.unders S.length ds = true → Sto.under S.length S = true → dsp ds S q → g { nx := fun _ S' => q .non S', rt := q } (startD N ds) S) : Fnc P w K mg base x st dvs (k + 1) ps dsp := by
  obtain ⟨f, fd, F, hm⟩ := B.ex
  exact ⟨f, fd, F, hm, fn_body0 F S len g (hbody f) hread⟩
theorem mfn_of (c : Cls K C) (B : MtB K C m qual st dvs) (S : FnScope N ps (defScope st)) (len : ∀ ds S q, dsp ds S q → ds.length = ps.length) (g : GS)
    (hbody : ∀ (f : Addr) (cdv : Value) (A : Around) (outer : List Env) (s : Shared) (H : Hp) (E : XK), RoomG k (A.deeper (PyProof.Rows.envOfC qual (defScope st) s.heap.objs.size f cdv)) →
      PSs (cxOf CX0 P w K mg base N qual (defScope st) f cdv A outer s H E).nox (defBody st) (tofS K U0 g))
    (hread : ∀ ds S q, D.unders S.length ds = true → Sto.under S.length S = true → dsp ds S q → g { nx := fun _ S' => fin S.length q .non S', rt := fin S.length q } (startD N ds) S) : MFn P w K mg base C m qual st dvs (k + 1) ps dsp := by
  obtain ⟨f, fd, F, hm⟩ := B.ex
  exact ⟨c, f, fd, F, hm, fn_body F S len g (hbody f) hread⟩
theorem mfn_of0 (c : Cls K C) (B : MtB K C m qual st dvs) (S : FnScope N ps (defScope st)) (len : ∀ ds S q, dsp ds S q → ds.length = ps.length) (g : GS)
    (hbody : ∀ (f : Addr) (cdv : Value) (A : Around) (outer : List Env) (s : Shared) (H : Hp) (E : XK), RoomG k (A.deeper (PyProof.Rows.envOfC qual (defScope st) s.heap.objs.size f cdv)) →
      PSs (cxOf CX0 P w K mg base N qual (defScope st) f cdv A outer s H E).nox (defBody st) (tofS K U0 g))
    (hread : ∀ ds S q, D.unders S.length ds = true → Sto.under S.length S = true → dsp ds S q → g { nx := fun _ S' => q .non S', rt := q } (startD N ds) S) : MFn P w K mg base C m qual st dvs (k + 1) ps dsp := by
  obtain ⟨f, fd, F, hm⟩ := B.ex
  exact ⟨c, f, fd, F, hm, fn_body0 F S len g (hbody f) hread⟩
theorem cfn_of0 (mC : mg x = some (.ref C)) (B : MkB K C qual st dvs) (S : FnScope N ps (defScope st)) (len : ∀ ds S q, dsp ds S q → ds.length = ps.length) (g : GS)
    (hbody : ∀ (f : Addr) (cdv : Value) (A : Around) (outer : List Env) (s : Shared) (H : Hp) (E : XK), RoomG k (A.deeper (PyProof.Rows.envOfC qual (defScope st) s.heap.objs.size f cdv)) →
      PSs (cxOf CX0 P w K mg base N qual (defScope st) f cdv A outer s H E).nox (defBody st) (tofS K U0 g))
    (hread : ∀ ds S q, D.unders S.length ds = true → Sto.under S.length S = true → dsp ds S q → g { nx := fun _ S' => q .non S', rt := q } (startD N ds) S) : CFn P w K mg base x C qual st dvs (k + 1) ps dsp := by
  obtain ⟨f, fd, F, hm⟩ := B.ex
  exact ⟨mC, f, fd, F, hm, fn_body0 F S len g (hbody f) hread⟩
end
def gPar (i j : Nat) (ga : G (List D)) : GS := fun E ρ S => ga ρ S fun as S1 => ∃ v u, as = [v, u] ∧ E.nx ((ρ.set i (some v)).set j (some u)) S1
def gPar3 (i j l : Nat) (ga : G (List D)) : GS := fun E ρ S => ga ρ S fun as S1 => ∃ v u z, as = [v, u, z] ∧ E.nx (((ρ.set i (some v)).set j (some u)).set l (some z)) S1
section
variable {X : Cx} {pos : Pos} {ga : G (List D)}
theorem d_par {i j : Nat} {x y : Str} {a b : Expr} {px py pt : Pos} {kt k2 pt2} (hN : X.N.Nodup) (ha : PA X [a, b] (tofA X.K U ga)) (hc : X.calm = true := by rfl) (hi : X.N[i]? = some x := by rfl) (hj : X.N[j]? = some y := by rfl) (hij : i ≠ j := by decide)
    (hx : X.env.scope.names.lookup x = some .local := by rfl) (hy : X.env.scope.names.lookup y = some .local := by rfl)
    (hw : swappedStores [.Tuple [.Name x px, .Name y py] kt pt] (.Tuple [a, b] k2 pt2) X.env = pure (some [x, y]) := by rfl)
    (hs : swapsWithSole [.Tuple [.Name x px, .Name y py] kt pt] (.Tuple [a, b] k2 pt2) pos.line X.env = pure false := by rfl) :
    PS X (.Assign [.Tuple [.Name x px, .Name y py] kt pt] (.Tuple [a, b] k2 pt2) pos) (tofS X.K U (gPar i j ga)) :=
  weakS (ps_par hc hN hi hj hij hx hy ha hw hs) fun E σ H ⟨m, S, Z, ρ, D, w, rs, h, k⟩ => tof_in w rs h fun v1 H1 m1 d1 S1 e1 w1 r1 ⟨v, u, ed, h1⟩ => by
    subst ed
    obtain ⟨v', u', ev, rv, ru⟩ := reps2 r1
    exact ⟨v', u', ev, k.nx.at e1 w1 (((rs.ext e1).set rv).set ru) h1⟩
end
section
variable {X : Cx}
def rpartS (x y : Str) : Str × Str × Str := match Builtin.Str.lastOccurrence x y 0 x.length with
  | some i => (Builtin.Str.strSub x 0 i, y, Builtin.Str.strSub x (i + y.length) x.length)
  | none => (Str.empty, Str.empty, x)
abbrev rRpart : V → List V → Hp → VK → Prop := fun x xs H Q => ∃ a b, x = .str a ∧ xs = [.str b] ∧ (b.length == 0) = false ∧ a.length ≤ sizeLine ∧ ∀ p, H p = none → Q (.ref p) (upd H p (.tup [.str (rpartS a b).1, .str (rpartS a b).2.1, .str (rpartS a b).2.2]))
theorem mt_rpartition : MtR X "str.rpartition" rRpart := by
  intro pins s σ H x xs v us Q I rx rs h
  obtain ⟨a, b, rfl, rfl, hb, hz, h⟩ := h
  obtain ⟨t, rfl⟩ := rx
  cases rs with
  | cons r1 rs =>
    cases rs
    obtain ⟨u, rfl⟩ := r1
    refine call_meets F.slot_str_rpartition (typeIs_str _ _ _) F.entry_str_rpartition (F.args_str_rpartition_2 _ _) (meets_str_rpartition a b t u hb hz) ?_
    unfold rpartS at h
    revert h
    cases Builtin.Str.lastOccurrence a b 0 a.length with
    | none => intro h; exact laid_parts I h
    | some i => intro h; exact laid_parts I h
end
section
variable {K : PySem.W.Frag}
def aRpart : D → RND := fun o as S q => ∃ x y, o = .str x ∧ as = [.str y] ∧ (y.length == 0) = false ∧ x.length ≤ sizeLine ∧ q (.tup [.str (rpartS x y).1, .str (rpartS x y).2.1, .str (rpartS x y).2.2]) S
theorem reps_s3 {m : Nat → Addr} {N : Nat} {Hv : Hp} {x y z : Str} : Reps K m N Hv [.str x, .str y, .str z] [.str x, .str y, .str z] := Reps.cons rep_str (Reps.cons rep_str (Reps.one rep_str))
theorem vm_rpartition : VRM K "str" rRpart aRpart := fun w r rs ⟨x, y, e1, e2, h1, h2, h3⟩ k => by
  subst e1 e2
  rw [Rep] at r
  obtain ⟨z, ez, rz⟩ := reps1 rs
  rw [Rep] at rz
  exact ⟨x, y, r, by rw [ez, rz], h1, h2, fun p hp => out_newT w reps_s3 h3 k hp⟩
def aPart : D → RND := fun o as S q => ∃ x y, o = .str x ∧ as = [.str y] ∧ (y.length == 0) = false ∧ x.length ≤ sizeLine ∧ q (.tup [.str (Txt.partition x y).1, .str (Txt.partition x y).2.1, .str (Txt.partition x y).2.2]) S
abbrev rSplit : V → List V → Hp → VK → Prop := fun x xs H Q => ∃ a b, x = .str a ∧ xs = [.str b] ∧ (b.length == 0) = false ∧ a.length + 2 ≤ sizeLine ∧ rNewStrs (Txt.split a b) H Q
def aSplit (fz : Bool) : D → RND := fun o as S q => ∃ x y, o = .str x ∧ as = [.str y] ∧ (y.length == 0) = false ∧ x.length + 2 ≤ sizeLine ∧ newL fz ((Txt.split x y).map D.str) S q
theorem vm_split {fz : Bool} : VRM K "str" rSplit (aSplit fz) := fun w r rs ⟨x, y, e1, e2, h1, h2, h3⟩ k => by
  subst e1 e2
  rw [Rep] at r
  obtain ⟨z, ez, rz⟩ := reps1 rs
  rw [Rep] at rz
  exact ⟨x, y, r, by rw [ez, rz], h1, h2, fun p hp => out_newL w (Reps.ofStrs _) h3 k hp⟩
/-- += of ints and texts -/
abbrev rIadd : R2 := fun x y H Q => rI0 (fun i j => .int (i + j)) x y H Q ∨ (∃ i j, x = .str i ∧ y = .str j ∧ i.length + j.length ≤ sizeLine ∧ Q (.str (i ++ j)) H)
theorem or_iadd {X : Cx} : OpR X (inplaceOp .Add) rIadd := iop_add.or iop_add_str
def aIadd : R2D := fun a b S q => match a, b with
  | .int i, .int j => q (.int (i + j)) S
  | .str x, .str y => x.length + y.length ≤ sizeLine ∧ q (.str (x ++ y)) S
  | _, _ => False
theorem vr_iadd : VR2 K rIadd aIadd := fun {_ m S Z H a b v u q Q} w r1 r2 h k => by
  cases a <;> cases b <;> first
    | exact False.elim h
    | (rw [Rep] at r1 r2; exact .inl ⟨_, _, r1, r2, k.now w rep_int h⟩)
    | (rw [Rep] at r1 r2; exact .inr ⟨_, _, r1, r2, h.1, k.now w rep_str h.2⟩)
structure IsC (K : PySem.W.Frag) (C : Addr) : Prop where
  cl : Cls K C
  ha : PySem.W.findIn K (.ref C) "__class__" = some (some (.builtin "object.__class__"))
  hn : PySem.W.specialIn K (.builtin "object.__class__") "__get__" = some (some (.builtin "getset_descriptor.__get__"))
  htk : PySem.W.takesIn K (.builtin "object.__class__") = some true
  hm : PySem.W.mroIn K C (.type "object") = some true
/-- which of two classes -/
structure KitC (K : PySem.W.Frag) (C C' : Addr) (b : Bool) : Prop where
  is : PySem.W.kitOne K (.ref C) (.ref C') = some b
structure KitB (K : PySem.W.Frag) (C' : Addr) : Prop where
  no : ∀ a ∈ "NoneType" :: basicT, PySem.W.kitOne K (.type a) (.ref C') = some false
def aIsiC (K : PySem.W.Frag) : R2D := fun d c S q => ∃ C', c = .ref C' ∧ ((∃ C ks ds b, objOf S d = some (C, ks, ds) ∧ IsC K C ∧ KitC K C C' b ∧ q (.bl b) S) ∨ (∃ a, tyN S d = some a ∧ KitB K C' ∧ q (.bl false) S))
theorem vr_isiC : VRN K (rIsi K) (a2 (aIsiC K)) := vrn2 fun {_ m S Z H d e v u q Q} w r1 r2 ⟨C', e2, h⟩ k => by
  subst e2
  rw [Rep] at r2
  subst r2
  rcases h with ⟨C, ks, ds, b, h1, ic, kc, h4⟩ | ⟨a, h1, kb, h4⟩
  · obtain ⟨x, dx, vs, ev, hx, _, _⟩ := objOf_rep w r1 h1
    subst ev
    exact ⟨.ref x, .ref C', .ref C, .ref C', b, rfl, .own C', .base (.ins hx ic.cl ic.ha ic.hn ic.htk ic.hm), kc.is, k.now w rep_bl h4⟩
  · obtain ⟨h5, h6⟩ := tyX_of w r1 h1
    exact ⟨v, .ref C', .type a, .ref C', false, rfl, .own C', h5, kb.no a h6, k.now w rep_bl h4⟩
end
def rOwn (C : Addr) (sp : Sp) : R2 := fun x y H Q => ∃ a b dx dy fs gs, x = .ref a ∧ y = .ref b ∧ H a = some (.ins C dx fs) ∧ H b = some (.ins C dy gs) ∧ sp [x, y] H (fun v H' => (∃ k, v = .bl k) ∧ Q v H') fun _ _ _ => False
def aOwn (C : Addr) (dsp : DSp) : R2D := fun a b S q => (∃ ks ds, objOf S a = some (C, ks, ds)) ∧ (∃ ks ds, objOf S b = some (C, ks, ds)) ∧ dsp [a, b] S fun d S' => (∃ k, d = .bl k) ∧ q d S'
section
variable {X : Cx} {C : Addr} {qual : Str} {st : Stmt} {dvs : List V} {k : Nat} {ps : List Str} {dsp : DSp}
theorem or_own (F : MFn X.prog X.w X.K X.mg X.base C "__eq__" qual st dvs k ps dsp) (hr : RoomG k X.A) (b : Bnd "__eq__" qual st ps 2 [] [.p 0, .p 1] dvs.length) : OpR X (compareOp .Eq) (rOwn C (spOf X.K dsp)) := by
  intro pins s σ H x y v u Q I rx ry d
  obtain ⟨a, b', dx, dy, fs, gs, rfl, rfl, ha, hb', hsp⟩ := d
  cases rx
  cases ry
  obtain ⟨f, fd, FS, hm, FO⟩ := F.ex
  obtain ⟨its, KB⟩ := kbn_of FS b
  obtain ⟨mA, J, _⟩ := ins_get I.hok ha
  obtain ⟨mB, J', _⟩ := ins_get I.hok hb'
  obtain ⟨od, J, _⟩ := J.look
  obtain ⟨od', J', _⟩ := J'.look
  obtain ⟨m, hF⟩ := I.fr
  show wpAny (model X.prog X.w) X.A (richCompare .Eq (.ref a) (.ref b')) (EP X pins σ Q) X.xe s
  refine PySem.W.cmp_K (op := .Eq) (tb := .ref C) hr.units0 hF I.ok.mod.kin J J'.type (by simp [PySem.W.notFirst]) hm.at_ hm.fn ?_
  have r2 : Vals [V.ref a, V.ref b'] [Value.ref a, Value.ref b'] := .cons rfl (.cons rfl .nil)
  refine thn (run_fnG FO hr KB pass0 I r2 .nil rfl rfl (Q := fun v H' => (∃ k, v = .bl k) ∧ Q v H') (by simpa [gat, pick] using hsp)) fun w' s' ⟨z, H', I', rz, ⟨kk, ez⟩, q⟩ => ?_
  subst ez
  cases rz
  exact ⟨.bl kk, H', I', rfl, q⟩
theorem vr_own {K : PySem.W.Frag} : VR2 K (rOwn C (spOf K dsp)) (aOwn C dsp) := fun {_ m S Z H a b v u q Q} w r1 r2 ⟨⟨ks, ds, h1⟩, ⟨ks', ds', h2⟩, h3⟩ k => by
  obtain ⟨x, dx, vs, ev, hx, _, _⟩ := objOf_rep w r1 h1
  obtain ⟨y, dy, us, eu, hy, _, _⟩ := objOf_rep w r2 h2
  refine ⟨x, y, dx, dy, _, _, ev, eu, hx, hy, m, S, Z, [a, b], _, w.w0, Reps.cons r1 (Reps.one r2), h3, fun v1 H1 m1 d1 S1 e1 w1 rr ⟨⟨kk, ek⟩, hq⟩ => ?_⟩
  subst ek
  have rr' := rr
  rw [rD, Rep] at rr'
  exact ⟨⟨kk, rr'⟩, k.at e1 (w.on e1 w1.toWd0) rr hq⟩
end
end Dl
namespace Dl
open PySem L2
def aFmt : R1D := fun d S1 q => match d with
  | .str y => y.length ≤ sizeLine ∧ q (.str y) S1
  | .int i => i.natAbs.log2 < 1920 ∧ q (.str (showI i)) S1
  | _ => False
section
variable {S : Sto} {q : D → Sto → Prop} {fz : Bool} {i j : Int} {x y : Str} {C : Int → Int → Prop} {f : Int → Int → D} {ds : List D} {n : Nat} {d e : D} {bs : List Bool} {ns : List Int} {a b : Bool}
theorem x_i2 : aI2 C f (.int i) (.int j) S q ↔ C i j ∧ q (f i j) S := by
  unfold aI2
  constructor
  · rintro ⟨i', j', e1, e2, h⟩; cases e1; cases e2; exact h
  · exact fun h => ⟨i, j, rfl, rfl, h⟩
theorem x_addI : aAdd fz (.int i) (.int j) S q ↔ q (.int (i + j)) S := Iff.rfl
theorem x_addS : aAdd fz (.str x) (.str y) S q ↔ x.length + y.length ≤ sizeLine ∧ q (.str (x ++ y)) S := Iff.rfl
theorem x_mulI : aMul fz (.int i) (.int j) S q ↔ mulOk i j ∧ q (.int (i * j)) S := Iff.rfl
theorem x_iaddS : aIadd (.str x) (.str y) S q ↔ x.length + y.length ≤ sizeLine ∧ q (.str (x ++ y)) S := Iff.rfl
theorem x_iaddI : aIadd (.int i) (.int j) S q ↔ q (.int (i + j)) S := Iff.rfl
theorem x_neg : aNeg (.int i) S q ↔ q (.int (-i)) S := ⟨fun ⟨_, e, h⟩ => by cases e; exact h, fun h => ⟨_, rfl, h⟩⟩
theorem sh_int : SeqAt.shaped (.int i) = true := rfl
theorem sh_non : SeqAt.shaped .none = true := by decide
theorem sh_bool : SeqAt.shaped (.bool a) = true := by cases a <;> decide
theorem sh_str (h : PyData.strOk x = true) : SeqAt.shaped (.str x) = true := by
  unfold SeqAt.shaped PyData.canLay0
  rw [h]
  rfl
theorem x_eq {p p' : PyData} (h1 : toPyS S d = some p) (h2 : toPyS S e = some p') : aEq d e S q ↔ SeqAt.shaped p = true ∧ SeqAt.shaped p' = true ∧ q (.bl (PyData.eqv p p')) S := by
  unfold aEq
  rw [h1, h2]
  constructor
  · rintro ⟨_, _, e1, e2, h⟩; cases e1; cases e2; exact h
  · exact fun h => ⟨_, _, rfl, rfl, h⟩
theorem x_ne {p p' : PyData} (h1 : toPyS S d = some p) (h2 : toPyS S e = some p') : aNe d e S q ↔ SeqAt.shaped p = true ∧ SeqAt.shaped p' = true ∧ q (.bl (!PyData.eqv p p')) S := by
  unfold aNe
  rw [h1, h2]
  constructor
  · rintro ⟨_, _, e1, e2, h⟩; cases e1; cases e2; exact h
  · exact fun h => ⟨_, _, rfl, rfl, h⟩
theorem x_eqI : aEq (.int i) (.int j) S q ↔ q (.bl (decide (i = j))) S := by
  rw [x_eq rfl rfl]
  simp only [sh_int, true_and, PyData.eqv]
  rw [show (i == j) = decide (i = j) from rfl]
theorem x_neI : aNe (.int i) (.int j) S q ↔ q (.bl (decide (i ≠ j))) S := by
  rw [x_ne rfl rfl]
  simp only [sh_int, true_and, PyData.eqv]
  rw [show (!(i == j)) = decide (i ≠ j) by rw [decide_not]; rfl]
theorem x_eqS : aEq (.str x) (.str y) S q ↔ PyData.strOk x = true ∧ PyData.strOk y = true ∧ q (.bl (decide (x = y))) S := by
  rw [x_eq rfl rfl]
  have h : ∀ z, SeqAt.shaped (.str z) = PyData.strOk z := fun z => by unfold SeqAt.shaped PyData.canLay0; exact Bool.and_true _
  rw [h, h, show PyData.eqv (.str x) (.str y) = decide (x = y) by unfold PyData.eqv; rfl]
theorem x_neS : aNe (.str x) (.str y) S q ↔ PyData.strOk x = true ∧ PyData.strOk y = true ∧ q (.bl (decide (x ≠ y))) S := by
  rw [x_ne rfl rfl]
  have h : ∀ z, SeqAt.shaped (.str z) = PyData.strOk z := fun z => by unfold SeqAt.shaped PyData.canLay0; exact Bool.and_true _
  rw [h, h, show (!PyData.eqv (.str x) (.str y)) = decide (x ≠ y) by unfold PyData.eqv; rw [decide_not]; rfl]
theorem x_eqB : aEq (.bl a) (.bl b) S q ↔ q (.bl (a == b)) S := by
  rw [x_eq rfl rfl]
  simp only [sh_bool, true_and, PyData.eqv]
theorem x_neB : aNe (.bl a) (.bl b) S q ↔ q (.bl (!(a == b))) S := by
  rw [x_ne rfl rfl]
  simp only [sh_bool, true_and, PyData.eqv]
theorem x_eqNI : aEq .non (.int j) S q ↔ q (.bl false) S := by
  rw [x_eq rfl rfl]; simp only [sh_non, sh_int, true_and, PyData.eqv]
theorem x_neNI : aNe .non (.int j) S q ↔ q (.bl true) S := by
  rw [x_ne rfl rfl]; simp only [sh_non, sh_int, true_and, PyData.eqv, Bool.not_false]
theorem x_lenS : aLen (.str x) S q ↔ x.length ≤ sizeLine ∧ q (.int x.length) S := Iff.rfl
theorem x_lenL (h : seqOf S d = some ds) : aLen d S q ↔ q (.int ds.length) S := by
  have go : (∃ es, seqOf S d = some es ∧ q (.int es.length) S) ↔ q (.int ds.length) S := by
    rw [h]
    exact ⟨fun ⟨_, e, k⟩ => by cases e; exact k, fun k => ⟨_, rfl, k⟩⟩
  cases d <;> first
    | exact go
    | (cases h; done)
theorem x_str : aStr (.int i) S q ↔ i.natAbs.log2 < 1920 ∧ q (.str (showI i)) S := ⟨fun ⟨_, e, h⟩ => by cases e; exact h, fun h => ⟨_, rfl, h⟩⟩
theorem x_intI : aInt (.int i) S q ↔ q (.int i) S := Iff.rfl
theorem x_intB : aInt (.bl a) S q ↔ q (.int (if a then 1 else 0)) S := Iff.rfl
theorem x_intS (h : PySem.intText? x = some i) : aInt (.str x) S q ↔ x.length ≤ 640 ∧ q (.int i) S := by
  unfold aInt
  constructor
  · rintro ⟨k, e, h1⟩; rw [h] at e; cases e; exact h1
  · exact fun h1 => ⟨i, h, h1⟩
theorem x_divmod : aDivmod (.int i) (.int j) S q ↔ CDiv i j ∧ q (.tup [.int (i / j), .int (i % j)]) S := ⟨fun ⟨_, _, e1, e2, h⟩ => by cases e1; cases e2; exact h, fun h => ⟨_, _, rfl, rfl, h⟩⟩
theorem x_max2 : aMax2 (.int i) (.int j) S q ↔ q (.int (max i j)) S := ⟨fun ⟨_, _, e1, e2, h⟩ => by cases e1; cases e2; exact h, fun h => ⟨_, _, rfl, rfl, h⟩⟩
theorem x_min2 : aMin2 (.int i) (.int j) S q ↔ q (.int (min i j)) S := ⟨fun ⟨_, _, e1, e2, h⟩ => by cases e1; cases e2; exact h, fun h => ⟨_, _, rfl, rfl, h⟩⟩
theorem x_all (h0 : d.isTup = false) (h : seqOf S d = some (bs.map D.bl)) : q (.bl (bs.all id)) S → aAll d S q := fun k => ⟨bs, h0, h, k⟩
theorem x_isi {t u : String} (h : tyN S d = some t) (hb : basicT.contains u = true) : aIsi d (.ty u) S q ↔ q (.bl (isiB t u)) S := by
  constructor
  · rintro ⟨_, _, e1, e2, _, k⟩; rw [h] at e1; cases e1; cases e2; exact k
  · exact fun k => ⟨_, _, h, rfl, hb, k⟩
theorem x_ixS : aIx (.str x) (.int i) S q ↔ x.length ≤ sizeLine ∧ ∃ c, atI x.cps.toList i = some c ∧ q (.str ⟨#[c]⟩) S := by
  unfold aIx
  exact ⟨fun ⟨_, e, h⟩ => by cases e; exact h, fun h => ⟨_, rfl, h⟩⟩
theorem x_ix (h : seqOf S d = some ds) (h2 : atI ds i = some e) : aIx d (.int i) S q ↔ q e S := by
  have go : (∃ k, D.int i = D.int k ∧ ∃ xs z, seqOf S d = some xs ∧ atI xs k = some z ∧ q z S) ↔ q e S := by
    constructor
    · rintro ⟨_, e1, xs, z, e2, e3, k⟩; cases e1; rw [h] at e2; cases e2; rw [h2] at e3; cases e3; exact k
    · exact fun k => ⟨_, rfl, _, _, h, h2, k⟩
  unfold aIx
  cases d <;> first
    | exact go
    | (cases h; done)
theorem x_slS {lo hi : Option Int} : aSl fz (.str x) lo hi S q ↔ x.length ≤ sizeLine ∧ q (.str (cutS x lo hi)) S := Iff.rfl
theorem x_slT {lo hi : Option Int} : aSl fz (.tup ds) lo hi S q ↔ q (.tup (cutD ds lo hi)) S := Iff.rfl
theorem x_slL {lo hi : Option Int} (h0 : d.isTup = false) (h : seqOf S d = some ds) : aSl fz d lo hi S q ↔ newL fz (cutD ds lo hi) S q := by
  have go : (∃ es, seqOf S d = some es ∧ newL fz (cutD es lo hi) S q) ↔ newL fz (cutD ds lo hi) S q := by
    rw [h]
    exact ⟨fun ⟨_, e, k⟩ => by cases e; exact k, fun k => ⟨_, rfl, k⟩⟩
  unfold aSl
  cases d <;> first
    | exact go
    | (cases h0; done)
    | (cases h; done)
theorem x_inS {c : Nat} : aInS (.str ⟨#[c]⟩) (.str y) S q ↔ q (.bl (decide (c ∈ y.cps.toList))) S := by
  unfold aInS
  constructor
  · rintro ⟨_, _, e1, e2, k⟩; cases e1; cases e2; exact k
  · exact fun k => ⟨_, _, rfl, rfl, k⟩
theorem x_newT : newL true ds S q ↔ q (.lst ds) S := Iff.rfl
theorem x_newF : newL false ds S q ↔ q (.loc S.length) (S ++ [some (.lst ds)]) := Iff.rfl
theorem x_si {P : Str → Int → Prop} {g : Str → Int → D} : aSI P g (.str x) [.int i] S q ↔ P x i ∧ q (g x i) S := by
  unfold aSI
  constructor
  · rintro ⟨_, _, e1, e2, k⟩; cases e1; cases e2; exact k
  · exact fun k => ⟨_, _, rfl, rfl, k⟩
theorem x_s1 {P : Str → Str → Prop} {g : Str → Str → D} : aS1 P g (.str x) [.str y] S q ↔ P x y ∧ q (g x y) S := by
  unfold aS1
  constructor
  · rintro ⟨_, _, e1, e2, k⟩; cases e1; cases e2; exact k
  · exact fun k => ⟨_, _, rfl, rfl, k⟩
theorem x_s0 {P : Str → Prop} {g : Str → D} : aS0 P g (.str x) [] S q ↔ P x ∧ q (g x) S := by
  unfold aS0
  constructor
  · rintro ⟨_, e1, e2, k⟩; cases e1; exact k
  · exact fun k => ⟨_, rfl, rfl, k⟩
theorem x_rpart : aRpart (.str x) [.str y] S q ↔ (y.length == 0) = false ∧ x.length ≤ sizeLine ∧ q (.tup [.str (rpartS x y).1, .str (rpartS x y).2.1, .str (rpartS x y).2.2]) S := by
  unfold aRpart
  constructor
  · rintro ⟨_, _, e1, e2, k⟩; cases e1; cases e2; exact k
  · exact fun k => ⟨_, _, rfl, rfl, k⟩
theorem x_part : aPart (.str x) [.str y] S q ↔ (y.length == 0) = false ∧ x.length ≤ sizeLine ∧ q (.tup [.str (Txt.partition x y).1, .str (Txt.partition x y).2.1, .str (Txt.partition x y).2.2]) S := by
  unfold aPart
  constructor
  · rintro ⟨_, _, e1, e2, k⟩; cases e1; cases e2; exact k
  · exact fun k => ⟨_, _, rfl, rfl, k⟩
theorem x_a1 {P : D → Sto → (D → Sto → Prop) → Prop} : a1 P [d] S q ↔ P d S q := by
  unfold a1
  exact ⟨fun ⟨_, e, k⟩ => by cases e; exact k, fun k => ⟨_, rfl, k⟩⟩
theorem x_a2 {P : D → D → Sto → (D → Sto → Prop) → Prop} : a2 P [d, e] S q ↔ P d e S q := by
  unfold a2
  exact ⟨fun ⟨_, _, e, k⟩ => by cases e; exact k, fun k => ⟨_, _, rfl, k⟩⟩
theorem x_app (h : S[n]? = some (some (.lst ds))) : aAppend (.loc n) [d] S q ↔ ds.length < sizeLine ∧ q .non (S.set n (some (.lst (ds ++ [d])))) := by
  unfold aAppend
  constructor
  · rintro ⟨_, _, _, e1, e2, e3, k⟩; cases e1; cases e2; rw [h] at e3; cases e3; exact k
  · exact fun k => ⟨_, _, _, rfl, rfl, h, k⟩
theorem x_slL_l {lo hi : Option Int} : aSl fz (.lst ds) lo hi S q ↔ newL fz (cutD ds lo hi) S q := x_slL rfl rfl
theorem x_slL_k {lo hi : Option Int} : aSl fz (.ksq ds) lo hi S q ↔ newL fz (cutD ds lo hi) S q := x_slL rfl rfl
theorem x_lenL_l : aLen (.lst ds) S q ↔ q (.int ds.length) S := x_lenL rfl
theorem x_lenL_k : aLen (.ksq ds) S q ↔ q (.int ds.length) S := x_lenL rfl
theorem x_lenL_t : aLen (.tup ds) S q ↔ q (.int ds.length) S := x_lenL rfl
theorem x_isiStr : aIsi (.str x) (.ty "str") S q ↔ q (.bl true) S := x_isi (t := "str") rfl (by decide)
theorem x_isiInt : aIsi (.int i) (.ty "int") S q ↔ q (.bl true) S := x_isi (t := "int") rfl (by decide)
theorem x_isiIntB : aIsi (.int i) (.ty "bool") S q ↔ q (.bl false) S := x_isi (t := "int") rfl (by decide)
theorem x_isiIntS : aIsi (.int i) (.ty "str") S q ↔ q (.bl false) S := x_isi (t := "int") rfl (by decide)
theorem x_isiBB : aIsi (.bl a) (.ty "bool") S q ↔ q (.bl true) S := x_isi (t := "bool") rfl (by decide)
theorem x_isiBI : aIsi (.bl a) (.ty "int") S q ↔ q (.bl true) S := x_isi (t := "bool") rfl (by decide)
theorem x_isiStrI : aIsi (.str x) (.ty "int") S q ↔ q (.bl false) S := x_isi (t := "str") rfl (by decide)
theorem x_isiNonI : aIsi .non (.ty "int") S q ↔ q (.bl false) S := x_isi (t := "NoneType") rfl (by decide)
theorem x_isiNonS : aIsi .non (.ty "str") S q ↔ q (.bl false) S := x_isi (t := "NoneType") rfl (by decide)
theorem x_isiT : aIsi (.tup ds) (.ty "tuple") S q ↔ q (.bl true) S := x_isi (t := "tuple") rfl (by decide)
theorem x_isiL : aIsi (.lst ds) (.ty "list") S q ↔ q (.bl true) S := x_isi (t := "list") rfl (by decide)
theorem x_ex {A : Type} {a : A} {P : A → Prop} : (∃ z, a = z ∧ P z) ↔ P a := ⟨fun ⟨_, e, h⟩ => by cases e; exact h, fun h => ⟨_, rfl, h⟩⟩
theorem x_var0 {ρ : Env_} {S : Sto} {q : D → Sto → Prop} {d : D} : gVar 0 (some d :: ρ) S q ↔ q d S := by
  unfold gVar
  simp only [List.getElem?_cons_zero, Option.some.injEq, x_ex]
theorem x_varS {ρ : Env_} {S : Sto} {q : D → Sto → Prop} {o : Option D} {i : Nat} : gVar (i + 1) (o :: ρ) S q ↔ gVar i ρ S q := by
  unfold gVar
  simp only [List.getElem?_cons_succ]
theorem x_bnm {ρ : Env_} {i : Nat} {d : D} : Tgt.bind (.nm i) d ρ = some (ρ.set i (some d)) := by rw [Tgt.bind]
theorem x_btp {ρ : Env_} {ts : List Tgt} {ds : List D} : Tgt.bind (.tp ts) (.tup ds) ρ = Tgt.binds ts ds ρ := by rw [Tgt.bind]
theorem x_bn {ρ : Env_} : Tgt.binds [] [] ρ = some ρ := by rw [Tgt.binds]
theorem x_bc {ρ : Env_} {t : Tgt} {ts : List Tgt} {d : D} {ds : List D} : Tgt.binds (t :: ts) (d :: ds) ρ = (Tgt.bind t d ρ).bind fun ρ' => Tgt.binds ts ds ρ' := by rw [Tgt.binds]
theorem x_tyS {S : Sto} {x : Str} : isTy "str" S (.str x) = true := rfl
theorem x_tyL {S : Sto} {x : List D} : isTy "list" S (.lst x) = true := rfl
theorem x_tyO {S : Sto} {n : Nat} {ds : List D} (h : S[n]? = some (some (.lst ds))) : isTy "list" S (.loc n) = true := by simp only [isTy, h]; rfl
theorem x_nnN : D.isNon .non = true := rfl
theorem x_nnI {i : Int} : D.isNon (.int i) = false := rfl
theorem x_nnS {x : Str} : D.isNon (.str x) = false := rfl
theorem x_nnB {x : Bool} : D.isNon (.bl x) = false := rfl
theorem x_nnT {x : List D} : D.isNon (.tup x) = false := rfl
theorem x_nnL {x : List D} : D.isNon (.lst x) = false := rfl
theorem x_nnO {C : Addr} {ks : List Str} {x : List D} : D.isNon (.obj C ks x) = false := rfl
theorem x_nnl {n : Nat} : D.isNon (.loc n) = false := rfl
theorem x_fmtS {ge : G D} {ρ : Env_} {S : Sto} {q : D → Sto → Prop} : gFmt ge ρ S q = ge ρ S fun d S1 => aFmt d S1 q := rfl
theorem x_afS {x : Str} {S : Sto} {q : D → Sto → Prop} : aFmt (.str x) S q ↔ x.length ≤ sizeLine ∧ q (.str x) S := Iff.rfl
theorem x_afI {i : Int} {S : Sto} {q : D → Sto → Prop} : aFmt (.int i) S q ↔ i.natAbs.log2 < 1920 ∧ q (.str (showI i)) S := Iff.rfl
theorem x_aug0 {ρ : Env_} {S : Sto} {d : D} {r : R2D} {ge : G D} {E : DE} : gAug 0 r ge E (some d :: ρ) S ↔ ge (some d :: ρ) S fun y S1 => r d y S1 fun z S2 => E.nx (some z :: ρ) S2 := by
  unfold gAug
  simp only [List.getElem?_cons_zero, Option.some.injEq, x_ex, List.set_cons_zero]
theorem x_aug {i : Nat} {ρ : Env_} {S : Sto} {d : D} {r : R2D} {ge : G D} {E : DE} (h : ρ[i]? = some (some d)) : gAug i r ge E ρ S ↔ ge ρ S fun y S1 => r d y S1 fun z S2 => E.nx (ρ.set i (some z)) S2 := by
  unfold gAug
  rw [h]
  simp only [Option.some.injEq, x_ex]
theorem x_js0 {acc : Str} {ρ : Env_} {S : Sto} {q : Str → Sto → Prop} : gJs [] acc ρ S q ↔ q acc S := by rw [gJs]
theorem x_jsc {g : G D} {gs : List (G D)} {acc : Str} {ρ : Env_} {S : Sto} {q : Str → Sto → Prop} : gJs (g :: gs) acc ρ S q ↔ g ρ S fun d S1 => ∃ y, d = .str y ∧ (acc ++ y).length ≤ sizeLine ∧ gJs gs (acc ++ y) ρ S1 q := by rw [gJs]
theorem x_rng (i k : Nat) (lo : Int) : (rngD lo k)[i]? = if i < k then some (.int (lo + ((i : Nat) : Int))) else none := by
  unfold rngD
  rw [List.getElem?_map]
  by_cases h : i < k
  · rw [if_pos h, List.getElem?_range h]; rfl
  · rw [if_neg h, List.getElem?_eq_none_iff.mpr (by simp; omega)]; rfl
theorem x_rngL (k : Nat) (lo : Int) : (rngD lo k).length = k := by unfold rngD; simp
end
def aSetIx (o i v : D) (S3 : Sto) (c : Sto → Prop) : Prop := ∃ n ds k j, o = .loc n ∧ i = .int k ∧ S3[n]? = some (some (.lst ds)) ∧ ixN ds.length k = some j ∧ c (S3.set n (some (.lst (ds.set j v))))
abbrev QI := List D → (Sto → Prop) → Sto → Prop
def aIt (d : D) (S1 : Sto) (q : QI) : Prop := match d with
  | .str x => q (signsD x) (fun _ => True) S1
  | d => ∃ ds, seqOf S1 d = some ds ∧ q ds (fun S' => seqOf S' d = some ds) S1
def aRng1 (as : List D) (S1 : Sto) (q : QI) : Prop := ∃ j : Int, as = [.int j] ∧ -(2 ^ 62) ≤ j ∧ j < 2 ^ 62 ∧ q (rngD 0 j.toNat) (fun _ => True) S1
def aRng2 (as : List D) (S1 : Sto) (q : QI) : Prop := ∃ i j : Int, as = [.int i, .int j] ∧ (-(2 ^ 62) ≤ i ∧ i < 2 ^ 62 ∧ -(2 ^ 62) ≤ j ∧ j < 2 ^ 62) ∧ q (rngD i (j - i).toNat) (fun _ => True) S1
def aEnum (as : List D) (S1 : Sto) (q : QI) : Prop := ∃ d ds, as = [d] ∧ d.isTup = false ∧ seqOf S1 d = some ds ∧ q (enumD ds) (fun S' => seqOf S' d = some ds) S1
def aZip (as : List D) (S1 : Sto) (q : QI) : Prop := ∃ d e ds es, as = [d, e] ∧ d.isTup = false ∧ e.isTup = false ∧ seqOf S1 d = some ds ∧ seqOf S1 e = some es ∧ q (zipD ds es) (fun S' => seqOf S' d = some ds ∧ seqOf S' e = some es) S1
def aLc (fz : Bool) (t : Tgt) (gt : G Bool) (ge : G D) (vs : List Nat) (ρ : Env_) (ds : List D) (chk : Sto → Prop) (S1 : Sto) (q : D → Sto → Prop) : Prop := ∃ I : Nat → List D → Sto → Prop, I 0 [] S1 ∧
  (∀ i d acc S, ds[i]? = some d → I i acc S → chk S ∧ ∃ ρ', t.bind d (wipeD ρ vs) = some ρ' ∧ gt ρ' S fun b S2 => if b = true then ge ρ' S2 fun y S3 => acc.length < sizeLine ∧ I (i + 1) (acc ++ [y]) S3 else I (i + 1) acc S2) ∧
  ∀ acc S, I ds.length acc S → chk S ∧ newL fz acc S q
def aFor (t : Tgt) (gb : GS) (E : DE) (ρ : Env_) (ds : List D) (chk : Sto → Prop) (S1 : Sto) : Prop := ∃ I : Nat → Env_ → Sto → Prop, I 0 ρ S1 ∧
  (∀ i d ρ S, ds[i]? = some d → I i ρ S → chk S ∧ ∃ ρ', t.bind d ρ = some ρ' ∧ gb { nx := I (i + 1), rt := E.rt, ct := I (i + 1), bk := E.nx } ρ' S) ∧ ∀ ρ S, I ds.length ρ S → chk S ∧ E.nx ρ S
section
variable {S R : Sto} {q : D → Sto → Prop} {ρ : Env_} {go gi' gv ge : G D} {ga : G (List D)} {gi : GI} {E : DE} {t : Tgt} {gt : G Bool} {gb : GS} {vs : List Nat} {fz : Bool} {ds es : List D} {d e a b c : D} {i j : Int} {k : QI} {cc : Sto → Prop} {x : Str}
theorem x_gset : gSetIx go gi' gv E ρ S = gv ρ S fun v S1 => go ρ S1 fun o S2 => gi' ρ S2 fun i S3 => aSetIx o i v S3 (E.nx ρ) := rfl
theorem x_lc : gLc fz gi t gt ge vs ρ S q = gi ρ S fun ds chk S1 => aLc fz t gt ge vs ρ ds chk S1 q := rfl
theorem x_for : gFor gi t gb E ρ S = gi ρ S fun ds chk S1 => aFor t gb E ρ ds chk S1 := rfl
theorem x_it : gIt ge ρ S k = ge ρ S fun d S1 => aIt d S1 k := rfl
theorem x_rn1 : gRng1 ga ρ S k = ga ρ S fun as S1 => aRng1 as S1 k := rfl
theorem x_rn2 : gRng2 ga ρ S k = ga ρ S fun as S1 => aRng2 as S1 k := rfl
theorem x_enu : gEnum ga ρ S k = ga ρ S fun as S1 => aEnum as S1 k := rfl
theorem x_zip : gZip ga ρ S k = ga ρ S fun as S1 => aZip as S1 k := rfl
theorem x_itS : aIt (.str x) S k ↔ k (signsD x) (fun _ => True) S := Iff.rfl
theorem x_itL : aIt (.lst ds) S k ↔ k ds (fun _ => True) S := by
  have h : (fun S' : Sto => seqOf S' (.lst ds) = some ds) = fun _ => True := funext fun S' => propext ⟨fun _ => trivial, fun _ => rfl⟩
  show (∃ es, seqOf S (.lst ds) = some es ∧ k es (fun S' => seqOf S' (.lst ds) = some es) S) ↔ _
  constructor
  · rintro ⟨es, e, h1⟩; cases e; rw [h] at h1; exact h1
  · exact fun h1 => ⟨ds, rfl, by rw [h]; exact h1⟩
theorem x_itK : aIt (.ksq ds) S k ↔ k ds (fun _ => True) S := by
  have h : (fun S' : Sto => seqOf S' (.ksq ds) = some ds) = fun _ => True := funext fun S' => propext ⟨fun _ => trivial, fun _ => rfl⟩
  show (∃ es, seqOf S (.ksq ds) = some es ∧ k es (fun S' => seqOf S' (.ksq ds) = some es) S) ↔ _
  constructor
  · rintro ⟨es, e, h1⟩; cases e; rw [h] at h1; exact h1
  · exact fun h1 => ⟨ds, rfl, by rw [h]; exact h1⟩
theorem x_itT : aIt (.tup ds) S k ↔ k ds (fun _ => True) S := by
  have h : (fun S' : Sto => seqOf S' (.tup ds) = some ds) = fun _ => True := funext fun S' => propext ⟨fun _ => trivial, fun _ => rfl⟩
  show (∃ es, seqOf S (.tup ds) = some es ∧ k es (fun S' => seqOf S' (.tup ds) = some es) S) ↔ _
  constructor
  · rintro ⟨es, e, h1⟩; cases e; rw [h] at h1; exact h1
  · exact fun h1 => ⟨ds, rfl, by rw [h]; exact h1⟩
theorem x_itO {n : Nat} (h : seqOf S (.loc n) = some ds) : aIt (.loc n) S k ↔ k ds (fun S' => seqOf S' (.loc n) = some ds) S := by
  show (∃ es, seqOf S (.loc n) = some es ∧ k es (fun S' => seqOf S' (.loc n) = some es) S) ↔ _
  constructor
  · rintro ⟨es, e, h1⟩; rw [h] at e; cases e; exact h1
  · exact fun h1 => ⟨ds, h, h1⟩
theorem x_rn1I : aRng1 [.int j] S k ↔ -(2 ^ 62) ≤ j ∧ j < 2 ^ 62 ∧ k (rngD 0 j.toNat) (fun _ => True) S := by
  constructor
  · rintro ⟨_, e, h⟩; cases e; exact h
  · exact fun h => ⟨j, rfl, h⟩
theorem x_rn2I : aRng2 [.int i, .int j] S k ↔ (-(2 ^ 62) ≤ i ∧ i < 2 ^ 62 ∧ -(2 ^ 62) ≤ j ∧ j < 2 ^ 62) ∧ k (rngD i (j - i).toNat) (fun _ => True) S := by
  constructor
  · rintro ⟨_, _, e, h⟩; cases e; exact h
  · exact fun h => ⟨i, j, rfl, h⟩
theorem x_enuL : aEnum [.lst ds] S k ↔ k (enumD ds) (fun _ => True) S := by
  have h : (fun S' : Sto => seqOf S' (.lst ds) = some ds) = fun _ => True := funext fun S' => propext ⟨fun _ => trivial, fun _ => rfl⟩
  constructor
  · rintro ⟨d, es, e1, _, e2, h1⟩; cases e1; cases e2; rw [h] at h1; exact h1
  · exact fun h1 => ⟨_, ds, rfl, rfl, rfl, by rw [h]; exact h1⟩
theorem x_enuK : aEnum [.ksq ds] S k ↔ k (enumD ds) (fun _ => True) S := by
  have h : (fun S' : Sto => seqOf S' (.ksq ds) = some ds) = fun _ => True := funext fun S' => propext ⟨fun _ => trivial, fun _ => rfl⟩
  constructor
  · rintro ⟨d, es, e1, _, e2, h1⟩; cases e1; cases e2; rw [h] at h1; exact h1
  · exact fun h1 => ⟨_, ds, rfl, rfl, rfl, by rw [h]; exact h1⟩
theorem x_zipL : aZip [.lst ds, .lst es] S k ↔ k (zipD ds es) (fun _ => True) S := by
  have h : (fun S' : Sto => seqOf S' (.lst ds) = some ds ∧ seqOf S' (.lst es) = some es) = fun _ => True := funext fun S' => propext ⟨fun _ => trivial, fun _ => ⟨rfl, rfl⟩⟩
  constructor
  · rintro ⟨_, _, _, _, e1, _, _, e2, e3, h1⟩; cases e1; cases e2; cases e3; rw [h] at h1; exact h1
  · exact fun h1 => ⟨_, _, ds, es, rfl, rfl, rfl, rfl, rfl, by rw [h]; exact h1⟩
theorem x_ixS0 : aIx (.loc 0) (.int i) (some (.lst ds) :: R) q ↔ ∃ e, atI ds i = some e ∧ q e (some (.lst ds) :: R) := by
  unfold aIx
  constructor
  · rintro ⟨_, e1, xs, z, e2, e3, h⟩; cases e1; cases e2; exact ⟨z, e3, h⟩
  · rintro ⟨z, e3, h⟩; exact ⟨_, rfl, ds, z, rfl, e3, h⟩
theorem x_ixL : aIx (.lst ds) (.int i) S q ↔ ∃ e, atI ds i = some e ∧ q e S := by
  unfold aIx
  constructor
  · rintro ⟨_, e1, xs, z, e2, e3, h⟩; cases e1; cases e2; exact ⟨z, e3, h⟩
  · rintro ⟨z, e3, h⟩; exact ⟨_, rfl, ds, z, rfl, e3, h⟩
theorem x_ixT : aIx (.tup ds) (.int i) S q ↔ ∃ e, atI ds i = some e ∧ q e S := by
  unfold aIx
  constructor
  · rintro ⟨_, e1, xs, z, e2, e3, h⟩; cases e1; cases e2; exact ⟨z, e3, h⟩
  · rintro ⟨z, e3, h⟩; exact ⟨_, rfl, ds, z, rfl, e3, h⟩
theorem x_ixK : aIx (.ksq ds) (.int i) S q ↔ ∃ e, atI ds i = some e ∧ q e S := by
  unfold aIx
  constructor
  · rintro ⟨_, e1, xs, z, e2, e3, h⟩; cases e1; cases e2; exact ⟨z, e3, h⟩
  · rintro ⟨z, e3, h⟩; exact ⟨_, rfl, ds, z, rfl, e3, h⟩
theorem ixN_lit {n k : Nat} (h : k < n) : ixN n (k : Int) = some k := by
  unfold ixN
  rw [if_pos (by omega), if_pos (by omega)]
  rfl
theorem atI_lit {A : Type} {xs : List A} {k : Nat} {v : A} (h : xs[k]? = some v) : atI xs (k : Int) = some v := by
  unfold atI
  rw [ixN_lit (List.getElem?_eq_some_iff.mp h).1]
  exact h
theorem x_at0 {A : Type} {a : A} {l : List A} : atI (a :: l) 0 = some a := atI_lit (k := 0) rfl
theorem x_at1 {A : Type} {a b : A} {l : List A} : atI (a :: b :: l) 1 = some b := atI_lit (k := 1) rfl
theorem x_at2 {A : Type} {a b c : A} {l : List A} : atI (a :: b :: c :: l) 2 = some c := atI_lit (k := 2) rfl
theorem x_at3 {A : Type} {a b c d : A} {l : List A} : atI (a :: b :: c :: d :: l) 3 = some d := atI_lit (k := 3) rfl
theorem x_at4 {A : Type} {a b c d e : A} {l : List A} : atI (a :: b :: c :: d :: e :: l) 4 = some e := atI_lit (k := 4) rfl
theorem x_set0 {k : Nat} {v : D} (h : k < ds.length) : aSetIx (.loc 0) (.int (k : Int)) v (some (.lst ds) :: R) cc ↔ cc (some (.lst (ds.set k v)) :: R) := by
  constructor
  · rintro ⟨n, xs, kk, j, e1, e2, e3, e4, h1⟩
    cases e1; cases e2; cases e3
    rw [ixN_lit h] at e4; cases e4
    exact h1
  · exact fun h1 => ⟨0, ds, k, k, rfl, rfl, rfl, ixN_lit h, h1⟩
theorem x_set00 {v : D} : aSetIx (.loc 0) (.int 0) v (some (.lst (a :: es)) :: R) cc ↔ cc (some (.lst (v :: es)) :: R) := x_set0 (k := 0) (by simp)
theorem x_set01 {v : D} : aSetIx (.loc 0) (.int 1) v (some (.lst (a :: b :: es)) :: R) cc ↔ cc (some (.lst (a :: v :: es)) :: R) := x_set0 (k := 1) (by simp)
theorem x_set02 {v : D} : aSetIx (.loc 0) (.int 2) v (some (.lst (a :: b :: c :: es)) :: R) cc ↔ cc (some (.lst (a :: b :: v :: es)) :: R) := x_set0 (k := 2) (by simp)
end
def aPar (i j : Nat) (ρ : Env_) (k : Env_ → Sto → Prop) (as : List D) (S1 : Sto) : Prop := ∃ v u, as = [v, u] ∧ k ((ρ.set i (some v)).set j (some u)) S1
theorem x_par {i j : Nat} {ga : G (List D)} {E : DE} {ρ : Env_} {S : Sto} : gPar i j ga E ρ S = ga ρ S fun as S1 => aPar i j ρ E.nx as S1 := rfl
theorem x_par2 {i j : Nat} {k : Env_ → Sto → Prop} {ρ : Env_} {S : Sto} {v u : D} : aPar i j ρ k [v, u] S ↔ k ((ρ.set i (some v)).set j (some u)) S := by
  constructor
  · rintro ⟨_, _, e, h⟩; cases e; exact h
  · exact fun h => ⟨v, u, rfl, h⟩
theorem toPys_int : ∀ ns : List Int, toPys (ns.map D.int) = some (ns.map PyData.int)
  | [] => by simp [toPys]
  | n :: ns => by simp [toPys, toPy, toPys_int ns]
theorem can_int : ∀ ns : List Int, PyData.canLayAll0 (ns.map PyData.int) = true
  | [] => by simp [PyData.canLayAll0]
  | n :: ns => by simp [PyData.canLayAll0, PyData.canLay0, can_int ns]
theorem dep_int : ∀ ns : List Int, PyData.depthAll (ns.map PyData.int) = 0
  | [] => by simp [PyData.depthAll]
  | n :: ns => by simp [PyData.depthAll, PyData.depth, dep_int ns]
theorem sh_ints (ns : List Int) : SeqAt.shaped (.list (ns.map PyData.int)) = true := by
  simp [SeqAt.shaped, PyData.canLay0, PyData.depth, can_int, dep_int]
theorem x_neNil {ns : List Int} {S : Sto} {q : D → Sto → Prop} : aNe (.lst (ns.map D.int)) (.lst []) S q ↔ q (.bl (decide (ns ≠ []))) S := by
  rw [x_ne (p := .list (ns.map PyData.int)) (p' := .list ([].map PyData.int)) (by simp [toPyS, toPy, toPys_int]) (by simp [toPyS, toPy, toPys])]
  simp only [sh_ints, true_and]
  cases ns with
  | nil => simp [PyData.eqv, PyData.eqvAll]
  | cons n ns => simp [PyData.eqv, PyData.eqvAll]
/-- a comprehension that leaves the store alone -/
theorem lc_run {ds : List D} {S : Sto} {chk : Sto → Prop} {ρ : Env_} {t : Tgt} {gt : G Bool} {ge : G D} {vs : List Nat} {fz : Bool} {q : D → Sto → Prop} (f : D → Option D) (hchk : chk S) (hlen : ds.length ≤ sizeLine)
    (step : ∀ (i : Nat) (d : D) (acc : List D) (R : List D → Sto → Prop), ds[i]? = some d → acc.length < sizeLine → R (acc ++ (f d).toList) S →
      ∃ ρ', t.bind d (wipeD ρ vs) = some ρ' ∧ gt ρ' S fun b S2 => if b = true then ge ρ' S2 fun y S3 => acc.length < sizeLine ∧ R (acc ++ [y]) S3 else R acc S2)
    (h : newL fz (ds.filterMap f) S q) : aLc fz t gt ge vs ρ ds chk S q := by
  refine ⟨fun i acc S' => S' = S ∧ acc = (ds.take i).filterMap f, ⟨rfl, by simp⟩, ?_, ?_⟩
  · rintro i d acc S' hd ⟨rfl, rfl⟩
    have hi : i < ds.length := (List.getElem?_eq_some_iff.mp hd).1
    have htake : ds.take (i + 1) = ds.take i ++ [d] := by rw [List.take_add_one, hd]; rfl
    refine ⟨hchk, step i d _ (fun acc S'' => S'' = S' ∧ acc = (ds.take (i + 1)).filterMap f) hd ?_ ⟨rfl, ?_⟩⟩
    · have := List.length_filterMap_le f (ds.take i)
      rw [List.length_take] at this
      omega
    · rw [htake, List.filterMap_append, List.filterMap_cons]
      cases f d <;> simp
  · rintro acc S' ⟨rfl, rfl⟩
    rw [List.take_length]
    exact ⟨hchk, h⟩
section
variable {S : Sto} {r : R2D} {ge : G D} {E : DE} {d : D} {ρ : Env_}
theorem x_aug1 {o0 : Option D} : gAug 1 r ge E (o0 :: some d :: ρ) S ↔ ge (o0 :: some d :: ρ) S fun y S1 => r d y S1 fun z S2 => E.nx (o0 :: some z :: ρ) S2 := x_aug rfl
theorem x_aug2 {o0 o1 : Option D} : gAug 2 r ge E (o0 :: o1 :: some d :: ρ) S ↔ ge (o0 :: o1 :: some d :: ρ) S fun y S1 => r d y S1 fun z S2 => E.nx (o0 :: o1 :: some z :: ρ) S2 := x_aug rfl
theorem x_aug3 {o0 o1 o2 : Option D} : gAug 3 r ge E (o0 :: o1 :: o2 :: some d :: ρ) S ↔ ge (o0 :: o1 :: o2 :: some d :: ρ) S fun y S1 => r d y S1 fun z S2 => E.nx (o0 :: o1 :: o2 :: some z :: ρ) S2 := x_aug rfl
theorem x_aug4 {o0 o1 o2 o3 : Option D} : gAug 4 r ge E (o0 :: o1 :: o2 :: o3 :: some d :: ρ) S ↔ ge (o0 :: o1 :: o2 :: o3 :: some d :: ρ) S fun y S1 => r d y S1 fun z S2 => E.nx (o0 :: o1 :: o2 :: o3 :: some z :: ρ) S2 := x_aug rfl
theorem x_aug5 {o0 o1 o2 o3 o4 : Option D} : gAug 5 r ge E (o0 :: o1 :: o2 :: o3 :: o4 :: some d :: ρ) S ↔ ge (o0 :: o1 :: o2 :: o3 :: o4 :: some d :: ρ) S fun y S1 => r d y S1 fun z S2 => E.nx (o0 :: o1 :: o2 :: o3 :: o4 :: some z :: ρ) S2 := x_aug rfl
theorem x_aug6 {o0 o1 o2 o3 o4 o5 : Option D} : gAug 6 r ge E (o0 :: o1 :: o2 :: o3 :: o4 :: o5 :: some d :: ρ) S ↔ ge (o0 :: o1 :: o2 :: o3 :: o4 :: o5 :: some d :: ρ) S fun y S1 => r d y S1 fun z S2 => E.nx (o0 :: o1 :: o2 :: o3 :: o4 :: o5 :: some z :: ρ) S2 := x_aug rfl
theorem x_aug7 {o0 o1 o2 o3 o4 o5 o6 : Option D} : gAug 7 r ge E (o0 :: o1 :: o2 :: o3 :: o4 :: o5 :: o6 :: some d :: ρ) S ↔ ge (o0 :: o1 :: o2 :: o3 :: o4 :: o5 :: o6 :: some d :: ρ) S fun y S1 => r d y S1 fun z S2 => E.nx (o0 :: o1 :: o2 :: o3 :: o4 :: o5 :: o6 :: some z :: ρ) S2 := x_aug rfl
theorem x_aug8 {o0 o1 o2 o3 o4 o5 o6 o7 : Option D} : gAug 8 r ge E (o0 :: o1 :: o2 :: o3 :: o4 :: o5 :: o6 :: o7 :: some d :: ρ) S ↔ ge (o0 :: o1 :: o2 :: o3 :: o4 :: o5 :: o6 :: o7 :: some d :: ρ) S fun y S1 => r d y S1 fun z S2 => E.nx (o0 :: o1 :: o2 :: o3 :: o4 :: o5 :: o6 :: o7 :: some z :: ρ) S2 := x_aug rfl
theorem x_aug9 {o0 o1 o2 o3 o4 o5 o6 o7 o8 : Option D} : gAug 9 r ge E (o0 :: o1 :: o2 :: o3 :: o4 :: o5 :: o6 :: o7 :: o8 :: some d :: ρ) S ↔ ge (o0 :: o1 :: o2 :: o3 :: o4 :: o5 :: o6 :: o7 :: o8 :: some d :: ρ) S fun y S1 => r d y S1 fun z S2 => E.nx (o0 :: o1 :: o2 :: o3 :: o4 :: o5 :: o6 :: o7 :: o8 :: some z :: ρ) S2 := x_aug rfl
theorem x_aug10 {o0 o1 o2 o3 o4 o5 o6 o7 o8 o9 : Option D} : gAug 10 r ge E (o0 :: o1 :: o2 :: o3 :: o4 :: o5 :: o6 :: o7 :: o8 :: o9 :: some d :: ρ) S ↔ ge (o0 :: o1 :: o2 :: o3 :: o4 :: o5 :: o6 :: o7 :: o8 :: o9 :: some d :: ρ) S fun y S1 => r d y S1 fun z S2 => E.nx (o0 :: o1 :: o2 :: o3 :: o4 :: o5 :: o6 :: o7 :: o8 :: o9 :: some z :: ρ) S2 := x_aug rfl
theorem x_aug11 {o0 o1 o2 o3 o4 o5 o6 o7 o8 o9 o10 : Option D} : gAug 11 r ge E (o0 :: o1 :: o2 :: o3 :: o4 :: o5 :: o6 :: o7 :: o8 :: o9 :: o10 :: some d :: ρ) S ↔ ge (o0 :: o1 :: o2 :: o3 :: o4 :: o5 :: o6 :: o7 :: o8 :: o9 :: o10 :: some d :: ρ) S fun y S1 => r d y S1 fun z S2 => E.nx (o0 :: o1 :: o2 :: o3 :: o4 :: o5 :: o6 :: o7 :: o8 :: o9 :: o10 :: some z :: ρ) S2 := x_aug rfl
theorem x_aug12 {o0 o1 o2 o3 o4 o5 o6 o7 o8 o9 o10 o11 : Option D} : gAug 12 r ge E (o0 :: o1 :: o2 :: o3 :: o4 :: o5 :: o6 :: o7 :: o8 :: o9 :: o10 :: o11 :: some d :: ρ) S ↔ ge (o0 :: o1 :: o2 :: o3 :: o4 :: o5 :: o6 :: o7 :: o8 :: o9 :: o10 :: o11 :: some d :: ρ) S fun y S1 => r d y S1 fun z S2 => E.nx (o0 :: o1 :: o2 :: o3 :: o4 :: o5 :: o6 :: o7 :: o8 :: o9 :: o10 :: o11 :: some z :: ρ) S2 := x_aug rfl
theorem x_aug13 {o0 o1 o2 o3 o4 o5 o6 o7 o8 o9 o10 o11 o12 : Option D} : gAug 13 r ge E (o0 :: o1 :: o2 :: o3 :: o4 :: o5 :: o6 :: o7 :: o8 :: o9 :: o10 :: o11 :: o12 :: some d :: ρ) S ↔ ge (o0 :: o1 :: o2 :: o3 :: o4 :: o5 :: o6 :: o7 :: o8 :: o9 :: o10 :: o11 :: o12 :: some d :: ρ) S fun y S1 => r d y S1 fun z S2 => E.nx (o0 :: o1 :: o2 :: o3 :: o4 :: o5 :: o6 :: o7 :: o8 :: o9 :: o10 :: o11 :: o12 :: some z :: ρ) S2 := x_aug rfl
theorem x_aug14 {o0 o1 o2 o3 o4 o5 o6 o7 o8 o9 o10 o11 o12 o13 : Option D} : gAug 14 r ge E (o0 :: o1 :: o2 :: o3 :: o4 :: o5 :: o6 :: o7 :: o8 :: o9 :: o10 :: o11 :: o12 :: o13 :: some d :: ρ) S ↔ ge (o0 :: o1 :: o2 :: o3 :: o4 :: o5 :: o6 :: o7 :: o8 :: o9 :: o10 :: o11 :: o12 :: o13 :: some d :: ρ) S fun y S1 => r d y S1 fun z S2 => E.nx (o0 :: o1 :: o2 :: o3 :: o4 :: o5 :: o6 :: o7 :: o8 :: o9 :: o10 :: o11 :: o12 :: o13 :: some z :: ρ) S2 := x_aug rfl
theorem x_aug15 {o0 o1 o2 o3 o4 o5 o6 o7 o8 o9 o10 o11 o12 o13 o14 : Option D} : gAug 15 r ge E (o0 :: o1 :: o2 :: o3 :: o4 :: o5 :: o6 :: o7 :: o8 :: o9 :: o10 :: o11 :: o12 :: o13 :: o14 :: some d :: ρ) S ↔ ge (o0 :: o1 :: o2 :: o3 :: o4 :: o5 :: o6 :: o7 :: o8 :: o9 :: o10 :: o11 :: o12 :: o13 :: o14 :: some d :: ρ) S fun y S1 => r d y S1 fun z S2 => E.nx (o0 :: o1 :: o2 :: o3 :: o4 :: o5 :: o6 :: o7 :: o8 :: o9 :: o10 :: o11 :: o12 :: o13 :: o14 :: some z :: ρ) S2 := x_aug rfl
theorem x_aug16 {o0 o1 o2 o3 o4 o5 o6 o7 o8 o9 o10 o11 o12 o13 o14 o15 : Option D} : gAug 16 r ge E (o0 :: o1 :: o2 :: o3 :: o4 :: o5 :: o6 :: o7 :: o8 :: o9 :: o10 :: o11 :: o12 :: o13 :: o14 :: o15 :: some d :: ρ) S ↔ ge (o0 :: o1 :: o2 :: o3 :: o4 :: o5 :: o6 :: o7 :: o8 :: o9 :: o10 :: o11 :: o12 :: o13 :: o14 :: o15 :: some d :: ρ) S fun y S1 => r d y S1 fun z S2 => E.nx (o0 :: o1 :: o2 :: o3 :: o4 :: o5 :: o6 :: o7 :: o8 :: o9 :: o10 :: o11 :: o12 :: o13 :: o14 :: o15 :: some z :: ρ) S2 := x_aug rfl
theorem x_aug17 {o0 o1 o2 o3 o4 o5 o6 o7 o8 o9 o10 o11 o12 o13 o14 o15 o16 : Option D} : gAug 17 r ge E (o0 :: o1 :: o2 :: o3 :: o4 :: o5 :: o6 :: o7 :: o8 :: o9 :: o10 :: o11 :: o12 :: o13 :: o14 :: o15 :: o16 :: some d :: ρ) S ↔ ge (o0 :: o1 :: o2 :: o3 :: o4 :: o5 :: o6 :: o7 :: o8 :: o9 :: o10 :: o11 :: o12 :: o13 :: o14 :: o15 :: o16 :: some d :: ρ) S fun y S1 => r d y S1 fun z S2 => E.nx (o0 :: o1 :: o2 :: o3 :: o4 :: o5 :: o6 :: o7 :: o8 :: o9 :: o10 :: o11 :: o12 :: o13 :: o14 :: o15 :: o16 :: some z :: ρ) S2 := x_aug rfl
theorem x_aug18 {o0 o1 o2 o3 o4 o5 o6 o7 o8 o9 o10 o11 o12 o13 o14 o15 o16 o17 : Option D} : gAug 18 r ge E (o0 :: o1 :: o2 :: o3 :: o4 :: o5 :: o6 :: o7 :: o8 :: o9 :: o10 :: o11 :: o12 :: o13 :: o14 :: o15 :: o16 :: o17 :: some d :: ρ) S ↔ ge (o0 :: o1 :: o2 :: o3 :: o4 :: o5 :: o6 :: o7 :: o8 :: o9 :: o10 :: o11 :: o12 :: o13 :: o14 :: o15 :: o16 :: o17 :: some d :: ρ) S fun y S1 => r d y S1 fun z S2 => E.nx (o0 :: o1 :: o2 :: o3 :: o4 :: o5 :: o6 :: o7 :: o8 :: o9 :: o10 :: o11 :: o12 :: o13 :: o14 :: o15 :: o16 :: o17 :: some z :: ρ) S2 := x_aug rfl
theorem x_aug19 {o0 o1 o2 o3 o4 o5 o6 o7 o8 o9 o10 o11 o12 o13 o14 o15 o16 o17 o18 : Option D} : gAug 19 r ge E (o0 :: o1 :: o2 :: o3 :: o4 :: o5 :: o6 :: o7 :: o8 :: o9 :: o10 :: o11 :: o12 :: o13 :: o14 :: o15 :: o16 :: o17 :: o18 :: some d :: ρ) S ↔ ge (o0 :: o1 :: o2 :: o3 :: o4 :: o5 :: o6 :: o7 :: o8 :: o9 :: o10 :: o11 :: o12 :: o13 :: o14 :: o15 :: o16 :: o17 :: o18 :: some d :: ρ) S fun y S1 => r d y S1 fun z S2 => E.nx (o0 :: o1 :: o2 :: o3 :: o4 :: o5 :: o6 :: o7 :: o8 :: o9 :: o10 :: o11 :: o12 :: o13 :: o14 :: o15 :: o16 :: o17 :: o18 :: some z :: ρ) S2 := x_aug rfl
theorem x_aug20 {o0 o1 o2 o3 o4 o5 o6 o7 o8 o9 o10 o11 o12 o13 o14 o15 o16 o17 o18 o19 : Option D} : gAug 20 r ge E (o0 :: o1 :: o2 :: o3 :: o4 :: o5 :: o6 :: o7 :: o8 :: o9 :: o10 :: o11 :: o12 :: o13 :: o14 :: o15 :: o16 :: o17 :: o18 :: o19 :: some d :: ρ) S ↔ ge (o0 :: o1 :: o2 :: o3 :: o4 :: o5 :: o6 :: o7 :: o8 :: o9 :: o10 :: o11 :: o12 :: o13 :: o14 :: o15 :: o16 :: o17 :: o18 :: o19 :: some d :: ρ) S fun y S1 => r d y S1 fun z S2 => E.nx (o0 :: o1 :: o2 :: o3 :: o4 :: o5 :: o6 :: o7 :: o8 :: o9 :: o10 :: o11 :: o12 :: o13 :: o14 :: o15 :: o16 :: o17 :: o18 :: o19 :: some z :: ρ) S2 := x_aug rfl
theorem x_aug21 {o0 o1 o2 o3 o4 o5 o6 o7 o8 o9 o10 o11 o12 o13 o14 o15 o16 o17 o18 o19 o20 : Option D} : gAug 21 r ge E (o0 :: o1 :: o2 :: o3 :: o4 :: o5 :: o6 :: o7 :: o8 :: o9 :: o10 :: o11 :: o12 :: o13 :: o14 :: o15 :: o16 :: o17 :: o18 :: o19 :: o20 :: some d :: ρ) S ↔ ge (o0 :: o1 :: o2 :: o3 :: o4 :: o5 :: o6 :: o7 :: o8 :: o9 :: o10 :: o11 :: o12 :: o13 :: o14 :: o15 :: o16 :: o17 :: o18 :: o19 :: o20 :: some d :: ρ) S fun y S1 => r d y S1 fun z S2 => E.nx (o0 :: o1 :: o2 :: o3 :: o4 :: o5 :: o6 :: o7 :: o8 :: o9 :: o10 :: o11 :: o12 :: o13 :: o14 :: o15 :: o16 :: o17 :: o18 :: o19 :: o20 :: some z :: ρ) S2 := x_aug rfl
theorem x_aug22 {o0 o1 o2 o3 o4 o5 o6 o7 o8 o9 o10 o11 o12 o13 o14 o15 o16 o17 o18 o19 o20 o21 : Option D} : gAug 22 r ge E (o0 :: o1 :: o2 :: o3 :: o4 :: o5 :: o6 :: o7 :: o8 :: o9 :: o10 :: o11 :: o12 :: o13 :: o14 :: o15 :: o16 :: o17 :: o18 :: o19 :: o20 :: o21 :: some d :: ρ) S ↔ ge (o0 :: o1 :: o2 :: o3 :: o4 :: o5 :: o6 :: o7 :: o8 :: o9 :: o10 :: o11 :: o12 :: o13 :: o14 :: o15 :: o16 :: o17 :: o18 :: o19 :: o20 :: o21 :: some d :: ρ) S fun y S1 => r d y S1 fun z S2 => E.nx (o0 :: o1 :: o2 :: o3 :: o4 :: o5 :: o6 :: o7 :: o8 :: o9 :: o10 :: o11 :: o12 :: o13 :: o14 :: o15 :: o16 :: o17 :: o18 :: o19 :: o20 :: o21 :: some z :: ρ) S2 := x_aug rfl
theorem x_aug23 {o0 o1 o2 o3 o4 o5 o6 o7 o8 o9 o10 o11 o12 o13 o14 o15 o16 o17 o18 o19 o20 o21 o22 : Option D} : gAug 23 r ge E (o0 :: o1 :: o2 :: o3 :: o4 :: o5 :: o6 :: o7 :: o8 :: o9 :: o10 :: o11 :: o12 :: o13 :: o14 :: o15 :: o16 :: o17 :: o18 :: o19 :: o20 :: o21 :: o22 :: some d :: ρ) S ↔ ge (o0 :: o1 :: o2 :: o3 :: o4 :: o5 :: o6 :: o7 :: o8 :: o9 :: o10 :: o11 :: o12 :: o13 :: o14 :: o15 :: o16 :: o17 :: o18 :: o19 :: o20 :: o21 :: o22 :: some d :: ρ) S fun y S1 => r d y S1 fun z S2 => E.nx (o0 :: o1 :: o2 :: o3 :: o4 :: o5 :: o6 :: o7 :: o8 :: o9 :: o10 :: o11 :: o12 :: o13 :: o14 :: o15 :: o16 :: o17 :: o18 :: o19 :: o20 :: o21 :: o22 :: some z :: ρ) S2 := x_aug rfl
end
def aFld (K : PySem.W.Frag) (f : Str) (o : D) (S1 : Sto) (q : D → Sto → Prop) : Prop := ∃ C ks ds d, objOf S1 o = some (C, ks, ds) ∧ FldOk K C f ∧ fget f ks ds = some d ∧ q d S1
def aFset (K : PySem.W.Frag) (f : Str) (o y : D) (S2 : Sto) (c : Sto → Prop) : Prop := ∃ n C ks ds, o = .loc n ∧ S2[n]? = some (some (.obj C ks ds)) ∧ FldOk K C f ∧ ks.length < 1000 ∧ c (S2.set n (some (.obj C (putK f ks) (putX f y ks ds))))
def aMakeF (C : Addr) (n nk : Nat) (src : List Src) (dds : List D) (dsp : DSp) (as zs : List D) (S1 : Sto) (q : D → Sto → Prop) : Prop := as.length = n ∧ zs.length = nk ∧ (D.unders S1.length as = true → D.unders S1.length zs = true →
  dsp (gat src (.loc S1.length :: as) dds zs) (S1 ++ [some (.obj C [] [])]) fun v S2 => v = .non ∧ ∃ ks ds, S2 = S1 ++ [some (.obj C ks ds)] ∧ D.unders S1.length ds = true ∧ q (.obj C ks ds) S1)
def aMake (C : Addr) (n nk : Nat) (src : List Src) (dds : List D) (dsp : DSp) (as zs : List D) (S1 : Sto) (q : D → Sto → Prop) : Prop := as.length = n ∧ zs.length = nk ∧
  dsp (gat src (.loc S1.length :: as) dds zs) (S1 ++ [some (.obj C [] [])]) fun v S2 => v = .non ∧ q (.loc S1.length) S2
def aMeth (C : Addr) (m : Str) (o : D) (S1 : Sto) (c : Prop) : Prop := ∃ ks ds, objOf S1 o = some (C, ks, ds) ∧ ks.contains m = false ∧ c
section
variable {K : PySem.W.Frag} {f m : Str} {C C' : Addr} {go gv : G D} {ga : GA} {ρ : Env_} {S S0 : Sto} {q : D → Sto → Prop} {E : DE} {n nk : Nat} {src : List Src} {dds ds as zs : List D} {dsp : DSp} {ks : List Str} {d y : D} {cc : Sto → Prop} {c : Prop} {b : Bool}
theorem x_fld : gFld K f go ρ S q = go ρ S fun o S1 => aFld K f o S1 q := rfl
theorem x_fset : gFldSet K f go gv E ρ S = gv ρ S fun y S1 => go ρ S1 fun o S2 => aFset K f o y S2 (E.nx ρ) := rfl
theorem x_mkF : gMakeF C n nk src dds dsp ga ρ S q = ga ρ S fun as zs S1 => aMakeF C n nk src dds dsp as zs S1 q := rfl
theorem x_mk : gMake C n nk src dds dsp ga ρ S q = ga ρ S fun as zs S1 => aMake C n nk src dds dsp as zs S1 q := rfl
theorem x_meth : gMeth C m n nk src dds dsp go ga ρ S q = go ρ S fun o S1 => aMeth C m o S1 (ga ρ S1 fun as zs S2 => as.length = n ∧ zs.length = nk ∧ dsp (gat src (o :: as) dds zs) S2 q) := by
  unfold gMeth aMeth
  refine congrArg _ (funext fun o => funext fun S1 => propext ⟨fun ⟨ks, ds, h1, h2, h3⟩ => ⟨ks, ds, h1, h2, h3⟩, fun ⟨ks, ds, h1, h2, h3⟩ => ⟨ks, ds, h1, h2, h3⟩⟩)
theorem x_fldO (hf : FldOk K C f) : aFld K f (.obj C ks ds) S q ↔ ∃ d, fget f ks ds = some d ∧ q d S := by
  constructor
  · rintro ⟨_, _, _, d, e, _, h1, h2⟩; cases e; exact ⟨d, h1, h2⟩
  · rintro ⟨d, h1, h2⟩; exact ⟨C, ks, ds, d, rfl, hf, h1, h2⟩
theorem x_fldL {k : Nat} (hf : FldOk K C f) (hS : S[k]? = some (some (.obj C ks ds))) : aFld K f (.loc k) S q ↔ ∃ d, fget f ks ds = some d ∧ q d S := by
  have e0 : objOf S (.loc k) = some (C, ks, ds) := by simp only [objOf, hS]
  constructor
  · rintro ⟨_, _, _, d, e, _, h1, h2⟩; rw [e0] at e; cases e; exact ⟨d, h1, h2⟩
  · rintro ⟨d, h1, h2⟩; exact ⟨C, ks, ds, d, e0, hf, h1, h2⟩
theorem snoc_get {o : Option MO} : (S0 ++ [o])[S0.length]? = some o := by simp
theorem snoc_set {o p : Option MO} : (S0 ++ [o]).set S0.length p = S0 ++ [p] := by simp
theorem x_fsetE (hf : FldOk K C f) : aFset K f (.loc S0.length) y (S0 ++ [some (.obj C ks ds)]) cc ↔ ks.length < 1000 ∧ cc (S0 ++ [some (.obj C (putK f ks) (putX f y ks ds))]) := by
  constructor
  · rintro ⟨_, _, _, _, e, e1, _, hl, h2⟩; cases e; rw [snoc_get] at e1; cases e1; rw [snoc_set] at h2; exact ⟨hl, h2⟩
  · rintro ⟨hl, h2⟩; exact ⟨S0.length, C, ks, ds, rfl, snoc_get, hf, hl, by rw [snoc_set]; exact h2⟩
theorem x_fldE (hf : FldOk K C f) : aFld K f (.loc S0.length) (S0 ++ [some (.obj C ks ds)]) q ↔ ∃ d, fget f ks ds = some d ∧ q d (S0 ++ [some (.obj C ks ds)]) := x_fldL hf snoc_get
theorem x_methO (h : ks.contains m = false) : aMeth C m (.obj C ks ds) S c ↔ c := by
  constructor
  · rintro ⟨_, _, _, _, h1⟩; exact h1
  · exact fun h1 => ⟨ks, ds, rfl, h, h1⟩
theorem x_methL {k : Nat} (hS : S[k]? = some (some (.obj C ks ds))) (h : ks.contains m = false) : aMeth C m (.loc k) S c ↔ c := by
  constructor
  · rintro ⟨_, _, _, _, h1⟩; exact h1
  · exact fun h1 => ⟨ks, ds, by simp only [objOf, hS], h, h1⟩
theorem x_isiCO (hi : IsC K C) (hk : KitC K C C' b) : aIsiC K (.obj C ks ds) (.ref C') S q ↔ q (.bl b) S := by
  constructor
  · rintro ⟨_, e, ⟨_, _, _, b', e1, _, hk', h1⟩ | ⟨_, e1, _⟩⟩
    · cases e; cases e1
      have := hk.is.symm.trans hk'.is
      cases this
      exact h1
    · cases e1
  · exact fun h1 => ⟨C', rfl, .inl ⟨C, ks, ds, b, rfl, hi, hk, h1⟩⟩
theorem x_isiCt {t : String} (h : tyN S d = some t) (hk : KitB K C') (hn : objOf S d = none) : aIsiC K d (.ref C') S q ↔ q (.bl false) S := by
  constructor
  · rintro ⟨_, e, ⟨_, _, _, _, e1, _⟩ | ⟨_, _, _, h1⟩⟩
    · rw [hn] at e1; cases e1
    · exact h1
  · exact fun h1 => ⟨C', rfl, .inr ⟨t, h, hk, h1⟩⟩
theorem x_isiCN (hk : KitB K C') : aIsiC K .non (.ref C') S q ↔ q (.bl false) S := x_isiCt (t := "NoneType") rfl hk rfl
theorem x_isiCT (hk : KitB K C') : aIsiC K (.tup ds) (.ref C') S q ↔ q (.bl false) S := x_isiCt (t := "tuple") rfl hk rfl
theorem x_isiCLi (hk : KitB K C') : aIsiC K (.lst ds) (.ref C') S q ↔ q (.bl false) S := x_isiCt (t := "list") rfl hk rfl
theorem x_isiCS {x : Str} (hk : KitB K C') : aIsiC K (.str x) (.ref C') S q ↔ q (.bl false) S := x_isiCt (t := "str") rfl hk rfl
theorem x_isiCI {i : Int} (hk : KitB K C') : aIsiC K (.int i) (.ref C') S q ↔ q (.bl false) S := x_isiCt (t := "int") rfl hk rfl
theorem x_own {ks' : List Str} {es : List D} : aOwn C dsp (.obj C ks ds) (.obj C ks' es) S q ↔ dsp [.obj C ks ds, .obj C ks' es] S fun d S' => (∃ k, d = .bl k) ∧ q d S' := by
  unfold aOwn
  exact ⟨fun ⟨_, _, h⟩ => h, fun h => ⟨⟨_, _, rfl⟩, ⟨_, _, rfl⟩, h⟩⟩
end
theorem eqv_ints : ∀ ns ms : List Int, PyData.eqvAll (ns.map PyData.int) (ms.map PyData.int) = decide (ns = ms)
  | [], [] => by simp [PyData.eqvAll]
  | [], m :: ms => by simp [PyData.eqvAll]
  | n :: ns, [] => by simp [PyData.eqvAll]
  | n :: ns, m :: ms => by
    simp only [List.map_cons, PyData.eqvAll, PyData.eqv, eqv_ints ns ms, List.cons.injEq]
    rw [show (n == m) = decide (n = m) from rfl, Bool.decide_and]
theorem sh_intT (ns : List Int) : SeqAt.shaped (.tuple (ns.map PyData.int)) = true := by
  simp [SeqAt.shaped, PyData.canLay0, PyData.depth, can_int, dep_int]
section
variable {S : Sto} {q : D → Sto → Prop} {ns ms : List Int} {a b c d e f g h : Int}
theorem x_eqLi : aEq (.lst (ns.map D.int)) (.lst (ms.map D.int)) S q ↔ q (.bl (decide (ns = ms))) S := by
  rw [x_eq (p := .list (ns.map PyData.int)) (p' := .list (ms.map PyData.int)) (by simp [toPyS, toPy, toPys_int]) (by simp [toPyS, toPy, toPys_int])]
  simp only [sh_ints, true_and, PyData.eqv, eqv_ints]
theorem x_neLi : aNe (.lst (ns.map D.int)) (.lst (ms.map D.int)) S q ↔ q (.bl (decide (ns ≠ ms))) S := by
  rw [x_ne (p := .list (ns.map PyData.int)) (p' := .list (ms.map PyData.int)) (by simp [toPyS, toPy, toPys_int]) (by simp [toPyS, toPy, toPys_int])]
  simp only [sh_ints, true_and, PyData.eqv, eqv_ints, ← decide_not, ne_eq]
theorem x_eqTi : aEq (.tup (ns.map D.int)) (.tup (ms.map D.int)) S q ↔ q (.bl (decide (ns = ms))) S := by
  rw [x_eq (p := .tuple (ns.map PyData.int)) (p' := .tuple (ms.map PyData.int)) (by simp [toPyS, toPy, toPys_int]) (by simp [toPyS, toPy, toPys_int])]
  simp only [sh_intT, true_and, PyData.eqv, eqv_ints]
theorem x_neTi : aNe (.tup (ns.map D.int)) (.tup (ms.map D.int)) S q ↔ q (.bl (decide (ns ≠ ms))) S := by
  rw [x_ne (p := .tuple (ns.map PyData.int)) (p' := .tuple (ms.map PyData.int)) (by simp [toPyS, toPy, toPys_int]) (by simp [toPyS, toPy, toPys_int])]
  simp only [sh_intT, true_and, PyData.eqv, eqv_ints, ← decide_not, ne_eq]
theorem x_eqT2 : aEq (.tup [.int a, .int b]) (.tup [.int c, .int d]) S q ↔ q (.bl (decide ([a, b] = [c, d]))) S := x_eqTi (ns := [a, b]) (ms := [c, d])
theorem x_neT2 : aNe (.tup [.int a, .int b]) (.tup [.int c, .int d]) S q ↔ q (.bl (decide ([a, b] ≠ [c, d]))) S := x_neTi (ns := [a, b]) (ms := [c, d])
theorem x_neL4 : aNe (.lst [.int a, .int b, .int c, .int d]) (.lst [.int e, .int f, .int g, .int h]) S q ↔ q (.bl (decide ([a, b, c, d] ≠ [e, f, g, h]))) S := x_neLi (ns := [a, b, c, d]) (ms := [e, f, g, h])
theorem x_eqLN : aEq (.lst (ns.map D.int)) (.lst []) S q ↔ q (.bl (decide (ns = []))) S := x_eqLi (ms := [])
end
theorem kit_same {K : PySem.W.Frag} {C : Addr} : PySem.W.kitOne K (.ref C) (.ref C) = some true := by
  unfold PySem.W.kitOne
  rw [if_pos]
  simp
theorem kit_mk {K : PySem.W.Frag} {C : Addr} {t : Value} {b : Bool} (h1 : PySem.W.isClsIn K C = true) (h2 : PySem.W.typeIn K (.ref C) = some (.type "type")) (h3 : PySem.W.subIn K t (.ref C) = some b) (h4 : (t == Value.ref C) = false) : PySem.W.kitOne K t (.ref C) = some b := by
  unfold PySem.W.kitOne PySem.W.kitCls
  rw [h4, if_neg Bool.false_ne_true]
  unfold PySem.W.isClsIn at h1
  dsimp only
  rw [h1, h2, if_pos, h3]
  decide
end Dl
namespace Dl
open PySem L2
def aSorted (fz : Bool) : R1D := fun d S q => ∃ ds ps, seqOf S d = some ds ∧ d.isTup = false ∧ toPys ds = some ps ∧ PySem.W.AllAlike ps ∧ PySem.W.Sortable ps ∧ (∀ p ∈ ps, p.depth ≤ 60) ∧ newL fz (((ds.zip ps).mergeSort (PySem.W.dataLe false Prod.snd)).map Prod.fst) S q
end Dl
namespace Dl
open PySem L2 PySem.W
section
variable {X : Cx} {C : Addr} {m qual : Str} {st : Stmt} {dvs : List V} {k : Nat} {ps : List Str} {dsp : DSp} {sp : Sp}
/-- a def run somewhere below the running body -/
theorem run_at {A : Around} {f : Addr} {fd : FuncData} {n : Nat} {g : List Value → List Value → List Value} {gV : List V → List V → List V} {pins : List (Addr × Obj)} {σ : L2.St} {H : Hp} {s : Shared} {Q : VK} {us : List Value} {vs : List V} (F : FnG X.prog X.w X.K X.mg X.base CX0 k f fd ps sp) (sb : SubG X k A) (hb : KBn X.K fd ps n [] g gV)
    (I : L2.Inv X pins σ H s) (r : Vals vs us) (l1 : vs.length = n) (h : sp (gV vs []) H Q fun _ _ _ => False) : wpAny (model X.prog X.w) A (call (.ref f) us) (EP X pins σ Q) X.xe s := by
  have e0 : Env0 X.prog X.w X.K X.mg X.base A X.stack s H := by
    have e := I.env0
    exact ⟨by rw [sb.fr]; exact e.frames, e.mod, e.bs, e.bsz, e.funs, e.frf, e.hok, e.bare⟩
  have r2 := hb.rel r .nil
  refine wpAny_call (codeAny_mono (F.run A X.stack s H ⟨us, []⟩ (g us []) (gV vs []) Q _ sb.room e0 (hb.to s us [] I.kIn (r.length.symm.trans l1) rfl) r2 h) fun r s' hq => ?_)
  cases r with
  | error e => exact pass0 pins σ H s e s' I hq
  | ok fl =>
    cases fl with
    | ret u => exact I.after hq
    | next => exact False.elim hq
    | brk => exact False.elim hq
    | cont => exact False.elim hq
def rLenO (C : Addr) (sp : Sp) : List V → Hp → VK → Prop := fun vs H Q => ∃ a dx fs, vs = [.ref a] ∧ H a = some (.ins C dx fs) ∧ sp [.ref a] H (fun v H' => ∃ n : Int, v = .int n ∧ 0 ≤ n ∧ n < 2 ^ 63 ∧ Q (.int n) H') fun _ _ _ => False
def aLenO (C : Addr) (dsp : DSp) : R1D := fun a S q => (∃ ks ds, objOf S a = some (C, ks, ds)) ∧ dsp [a] S fun d S' => ∃ n : Int, d = .int n ∧ 0 ≤ n ∧ n < 2 ^ 63 ∧ q (.int n) S'
theorem or_lenO (F : MFn X.prog X.w X.K X.mg X.base C "__len__" qual st dvs k ps dsp) (hr : RoomG (k + 1) X.A) (b : Bnd "__len__" qual st ps 1 [] [.p 0] dvs.length) : CallR X (.builtin "len") (rLenO C (spOf X.K dsp)) := by
  intro pins s σ H vs us Q I r h
  obtain ⟨a, dx, fs, rfl, ha, hsp⟩ := h
  obtain ⟨u, rfl, ru⟩ := vals1 r
  obtain rfl : u = Value.ref a := ru
  obtain ⟨f, fd, FS, hm, FO⟩ := F.ex
  obtain ⟨its, KB⟩ := kbn_of FS b
  obtain ⟨mA, J, _⟩ := ins_get I.hok ha
  obtain ⟨od, J, _⟩ := J.look
  obtain ⟨mm, hF⟩ := I.fr
  refine PySem.W.len_K hF I.ok.mod.kin J hm.at_ hm.fn ?_
  have r2 : Vals [V.ref a] [Value.ref a] := .cons rfl .nil
  refine wpAny_mono (run_at FO ⟨hr.in1, rfl⟩ KB I r2 rfl (Q := fun v H' => ∃ n : Int, v = .int n ∧ 0 ≤ n ∧ n < 2 ^ 63 ∧ Q (.int n) H') (by simpa [gat, pick] using hsp)) (fun w' s' hq => ?_) fun _ _ z => z
  obtain ⟨z, H', I', rz, n, ez, h0, h1, q⟩ := hq
  subst ez
  obtain ⟨t, rfl⟩ := rz
  exact ⟨⟨h0, h1⟩, .int n, H', I'.tok _, ⟨_, rfl⟩, q⟩
theorem vr_lenO {K : PySem.W.Frag} : VRN K (rLenO C (spOf K dsp)) (a1 (aLenO C dsp)) := vrn1 fun {_ m S Z H d v q Q} w r ⟨⟨ks, ds, h1⟩, h2⟩ kk => by
  obtain ⟨x, dx, vs, ev, hx, _, _⟩ := objOf_rep w r h1
  subst ev
  refine ⟨x, dx, _, rfl, hx, m, S, Z, [d], _, w.w0, Reps.one r, h2, fun v1 H1 m1 d1 S1 e1 w1 rr ⟨n, en, h3, h4, hq⟩ => ?_⟩
  subst en
  have rr' := rr
  rw [rD, Rep] at rr'
  exact ⟨n, rr', h3, h4, kk.at e1 (w.on e1 w1.toWd0) rep_int hq⟩
theorem ifBound_B {M : Model} {A : Around} {E : Value → Shared → Prop} {s : Shared} {self : Value} {name : Str} {id : String} {args : List Value} {Q : Option Value → Shared → Prop} (sp : Looks M s.heap (specialOf self name) (some (.builtin id))) (hb : bindSpecial (.builtin id) self = pure (.builtin id, [self]))
    (hc : wpAny M A (call (.builtin id) (self :: args)) (fun v => Q (some v)) E s) : wpAny M A (callSpecialIfBound? self name args) Q E s := by
  simp only [callSpecialIfBound?, bindSpecialIfBound?]
  refine wpAny_holding (wpAny_bind (wpAny_bind (sp.here ?_)))
  simp only [hb]
  refine wpAny_bind (wpAny_askSetting (wpAny_ite ?_))
  have fin : wpAny M A (call (.builtin id) ([self] ++ args) >>= fun v => pure (some v)) Q E s := wpAny_bind (wpAny_mono hc (fun v s' h' => wpAny_pure h') fun _ _ h' => h')
  split
  · exact wpAny_bind (wpAny_pure (wpAny_pure fin))
  · exact wpAny_tryCatch (wpAny_bind (wpAny_pure (wpAny_pure fin)))
theorem rich_one {prog : Program} {w : World} {A : Around} {E : Value → Shared → Prop} {s : Shared} {K : PySem.W.Frag} {x C : Addr} {ox : Obj} {od : Option Obj} {b tb : Value} {op : CmpOp} {Q : Value → Shared → Prop} (hu : A.units < cLine) (X : K.In s.heap) (I : InstAt s.heap x ox C od) (hb : Looks (model prog w) s.heap (typeOf b) tb) (hn : notFirst K C tb = true)
    (one : wpAny (model prog w) A (tryCompare (.ref x) (cmpInfo op).2.1 b) (fun r s' => ∃ v, r = some v ∧ Q v s') E s) : wpAny (model prog w) A (richCompare op (.ref x) b) Q E s := by
  unfold richCompare
  simp only [oneThing_ref]
  refine wpAny_holding (wpAny_bind (wpAny_cRoomFor hu ?_))
  refine wpAny_bind (I.type.here (wpAny_bind (hb.here ?_)))
  split
  · rename_i q
    have e : subIn K tb (.ref C) = some false := by
      rcases Bool.or_eq_true_iff.mp hn with e | e
      · rw [beq_iff_eq.mp e] at q; simp at q
      · exact beq_iff_eq.mp e
    refine wpAny_bind ((looks_subIn X e).here ?_)
    simp only [Bool.false_eq_true, if_false]
    refine wpAny_bind (wpAny_mono one (fun r s' z => ?_) fun _ _ e => e)
    obtain ⟨v, rfl, hq⟩ := z
    exact wpAny_pure hq
  · refine wpAny_bind (wpAny_pure ?_)
    simp only [Bool.false_eq_true, if_false]
    refine wpAny_bind (wpAny_mono one (fun r s' z => ?_) fun _ _ e => e)
    obtain ⟨v, rfl, hq⟩ := z
    exact wpAny_pure hq
theorem objNe_K {prog : Program} {w : World} {A : Around} {E : Value → Shared → Prop} {s : Shared} {K : PySem.W.Frag} {x y C f : Addr} {ox : Obj} {od : Option Obj} {Q : Fin → Shared → Prop} (hu : A.units < cLine) (X : K.In s.heap) (I : InstAt s.heap x ox C od) (hs : findIn K (.ref C) "__eq__" = some (some (.ref f))) (hf : isFn K (.ref f) = true)
    (hcall : wpAny (model prog w) A (call (.ref f) [.ref x, .ref y]) (fun v s' => ∃ b, v = .bool b ∧ Q (.done (.ret (.bool (!b)))) s') E s) : wpAny (model prog w) A (Builtin.«object.__ne__» ⟨[.ref x, .ref y], []⟩) Q E s := by
  unfold Builtin.«object.__ne__»
  repeat (first
    | with_reducible refine wpAny_cRoomFor hu ?_
    | (refine wpAny_bind (m := callSpecialIfBound? (.ref x) (Str.ofString "__eq__") [.ref y])
        (ifBound_K X I hs hf (wpAny_mono hcall (fun r s' hr => by
          obtain ⟨b, rfl, hq⟩ := hr
          repeat (first | exact hq | exact wpAny_pure hq | exact wpAny_truthy_bool hq | (refine wpAny_bind (m := truthy (.bool _)) (wpAny_truthy_bool ?_)) | wp_step)) fun _ _ e => e)))
    | wp_step)
structure NoNe (K : PySem.W.Frag) (C : Addr) : Prop where
  ne : findIn K (.ref C) "__ne__" = some (some (.builtin "object.__ne__"))
  ob : mroIn K C (.type "object") = some true
def aOwnN (C : Addr) (dsp : DSp) : R2D := fun a b S q => (∃ ks ds, objOf S a = some (C, ks, ds)) ∧ (∃ ks ds, objOf S b = some (C, ks, ds)) ∧ dsp [a, b] S fun d S' => ∃ k, d = .bl k ∧ q (.bl (!k)) S'
def rOwnN (C : Addr) (sp : Sp) : R2 := fun x y H Q => ∃ a b dx dy fs gs, x = .ref a ∧ y = .ref b ∧ H a = some (.ins C dx fs) ∧ H b = some (.ins C dy gs) ∧ sp [x, y] H (fun v H' => ∃ k, v = .bl k ∧ Q (.bl (!k)) H') fun _ _ _ => False
theorem or_ownN (N : NoNe X.K C) (F : MFn X.prog X.w X.K X.mg X.base C "__eq__" qual st dvs k ps dsp) (hr : RoomG (k + 1) X.A) (b : Bnd "__eq__" qual st ps 2 [] [.p 0, .p 1] dvs.length) : OpR X (compareOp .NotEq) (rOwnN C (spOf X.K dsp)) := by
  intro pins s σ H x y v u Q I rx ry d
  obtain ⟨a, b', dx, dy, fs, gs, rfl, rfl, ha, hb', hsp⟩ := d
  cases rx
  cases ry
  obtain ⟨f, fd, FS, hm, FO⟩ := F.ex
  obtain ⟨its, KB⟩ := kbn_of FS b
  obtain ⟨mA, J, _⟩ := ins_get I.hok ha
  obtain ⟨mB, J', _⟩ := ins_get I.hok hb'
  obtain ⟨od, J, _⟩ := J.look
  obtain ⟨od', J', _⟩ := J'.look
  have KX := I.kIn
  show wpAny (model X.prog X.w) X.A (richCompare .NotEq (.ref a) (.ref b')) (EP X pins σ Q) X.xe s
  refine rich_one (op := .NotEq) (tb := .ref C) hr.units0 KX J J'.type (by simp [PySem.W.notFirst]) ?_
  have hin1 : X.A.in1.units < cLine := (hr.in1).units0
  simp only [tryCompare]
  have sp1 : Looks (model X.prog X.w) s.heap (specialOf (.ref a) (cmpInfo .NotEq).2.1) (some (.builtin "object.__ne__")) := J.type.andThen (looks_findIn KX N.ne)
  have inst : Looks (model X.prog X.w) s.heap (isInstance (.ref a) (.type "object")) true := J.type.andThen (looks_mroIn KX N.ob)
  refine wpAny_bind (ifBound_B sp1 (PySem.F.cmp_object.ne.bind _) ?_)
  refine wpAny_call (codeAny_call_builtin PySem.F.cmp_object.ne.plain PySem.F.cmpEntry_ne (@check_slot (model X.prog X.w) _ _ _ "object.__ne__" "object" "__ne__" (.ref a) [.ref b'] [] _ PySem.F.cmpKind_ne PySem.F.cmpSplit_ne inst (PySem.F.cmpArgs_ne _ _) ?_))
  refine objNe_K (A := X.A.in1) hin1 KX J hm.at_ hm.fn ?_
  have r2 : Vals [V.ref a, V.ref b'] [Value.ref a, Value.ref b'] := .cons rfl (.cons rfl .nil)
  refine wpAny_mono (run_at FO ⟨hr.in1, rfl⟩ KB I r2 rfl (Q := fun v H' => ∃ k, v = .bl k ∧ Q (.bl (!k)) H') (by simpa [gat, pick] using hsp)) (fun w' s' hq => ?_) fun _ _ z => z
  obtain ⟨z, H', I', rz, c, ez, q⟩ := hq
  subst ez
  cases rz
  exact ⟨c, rfl, wpAny_pure ⟨_, rfl, .bl (!c), H', I', rfl, q⟩⟩
theorem vr_ownN {K : PySem.W.Frag} : VR2 K (rOwnN C (spOf K dsp)) (aOwnN C dsp) := fun {_ m S Z H a b v u q Q} w r1 r2 ⟨⟨ks, ds, h1⟩, ⟨ks', ds', h2⟩, h3⟩ kk => by
  obtain ⟨x, dx, vs, ev, hx, _, _⟩ := objOf_rep w r1 h1
  obtain ⟨y, dy, us, eu, hy, _, _⟩ := objOf_rep w r2 h2
  refine ⟨x, y, dx, dy, _, _, ev, eu, hx, hy, m, S, Z, [a, b], _, w.w0, Reps.cons r1 (Reps.one r2), h3, fun v1 H1 m1 d1 S1 e1 w1 rr ⟨c, ec, hq⟩ => ?_⟩
  subst ec
  have rr' := rr
  rw [rD, Rep] at rr'
  exact ⟨c, rr', kk.at e1 (w.on e1 w1.toWd0) rep_bl hq⟩
end
end Dl
namespace GB
open PySem PySem.Calls PySem.Spec PyProof.Rows GQ
open PySem.SeqAt
open AutoSeq1 (wpAny_loadPart')
open MeetsSeq MeetsSeq2 MeetsSeq3 SeqRoads2
section
variable {prog : Program} {w : World} {A : Around} {R : Result → Shared → Prop}
/-- at each turn the two lists are read anew: N items each, the i-th two compared say rs i -/
def ListB (prog : Program) (w : World) (A : Around) (E : Value → Shared → Prop) (l b : Addr) (N : Nat) (rs : Nat → Bool) (I : Nat → Shared → Prop) : Prop :=
  ∀ i s, I i s → ∃ (items items2 : Array Value) (n n2 : Nat), s.heap.get? l = some { cls := .type "list", data := .seq items n } ∧ s.heap.get? b = some { cls := .type "list", data := .seq items2 n2 } ∧ items.size = N ∧ items2.size = N ∧
    ∀ (h1 : i < items.size) (h2 : i < items2.size), wpAny (model prog w) A.in1 (eqBool items[i] items2[i]) (fun r s' => r = rs i ∧ I (i + 1) s') E s
/-- code 2: ==; code 3: != -/
def okOf (c : Int) : Bool := c == 2
theorem loopB (c : Int) (hc : c = 2 ∨ c = 3) (l b : Addr) (N : Nat) (rs : Nat → Bool) (out : Bool) (h1 : (∀ j, j < N → rs j = true) → out = okOf c) (h2 : ∀ j, j < N → rs j = false → out = !okOf c) (I : Nat → Shared → Prop) (hl : ListB prog w A (fun e s' => R (.error e) s') l b N rs I)
    (fin : ∀ j s, I j s → R (.ok (.ret (.bool out))) s) (k : Nat) :
    ∀ i : Nat, N - i = k → i ≤ N → (∀ j, j < i → rs j = true) → ∀ s, I i s →
      wpAny (model prog w) A.in1 (Builtin.«list.__eq__.loop» ⟨[.ref l, .ref b, rawInt i, rawInt c], []⟩) (FinOf prog w A R) (fun e s' => R (.error e) s') s := by
  induction k with
  | zero =>
    intro i hk hi hall s h
    obtain ⟨items, items2, n, n2, hl1, hb1, hs1, hs2, _⟩ := hl _ _ h
    have hi' : i = N := by omega
    have hR : R (.ok (.ret (.bool out))) s := fin i s h
    rw [h1 (fun j hj => hall j (by omega))] at hR
    obtain ⟨hp, g, d, tk, os⟩ := s
    rcases hc with rfl | rfl
    · wp_walk using wpAny_loadPart' hl1, wpAny_loadPart' hb1
      have hi1 : items[((i : Nat) : Int).toNat]? = none := by simp; omega
      have hi2 : items2[((i : Nat) : Int).toNat]? = none := by simp; omega
      rw [hi1, hi2]
      wp_walk using wpAny_loadPart' hl1, wpAny_loadPart' hb1
      show R (.ok (.ret (.bool (items.size == items2.size)))) _
      rw [hs1, hs2]
      simpa [okOf] using hR
    · wp_walk using wpAny_loadPart' hl1, wpAny_loadPart' hb1
      have hi1 : items[((i : Nat) : Int).toNat]? = none := by simp; omega
      have hi2 : items2[((i : Nat) : Int).toNat]? = none := by simp; omega
      rw [hi1, hi2]
      wp_walk using wpAny_loadPart' hl1, wpAny_loadPart' hb1
      show R (.ok (.ret (.bool (items.size != items2.size)))) _
      rw [hs1, hs2]
      simpa [okOf] using hR
  | succ k ih =>
    intro i hk hi hall s h
    obtain ⟨items, items2, n, n2, hl1, hb1, hs1, hs2, turn⟩ := hl _ _ h
    have hlt : i < items.size := by omega
    have hlt2 : i < items2.size := by omega
    have ht := turn hlt hlt2
    have hi1 : items[((i : Nat) : Int).toNat]? = some items[i] := by simp [hlt]
    have hi2 : items2[((i : Nat) : Int).toNat]? = some items2[i] := by simp [hlt2]
    have hcc : ((i : Int) + 1) = ((i + 1 : Nat) : Int) := by omega
    cases hr : rs i with
    | true =>
      have step : ∀ s2, I (i + 1) s2 → wpAny (model prog w) A.in1 (Builtin.«list.__eq__.loop» ⟨[.ref l, .ref b, rawInt ((i + 1 : Nat) : Int), rawInt c], []⟩) (FinOf prog w A R) (fun e s' => R (.error e) s') s2 := fun s2 h2' => ih (i + 1) (by omega) (by omega) (fun j hj => by
        rcases Nat.lt_or_ge j i with q | q
        · exact hall j q
        · rw [show j = i by omega]; exact hr) s2 h2'
      obtain ⟨hp, g, d, tk, os⟩ := s
      rcases hc with rfl | rfl
      all_goals
        wp_walk using wpAny_loadPart' hl1, wpAny_loadPart' hb1
        rw [hi1, hi2]
        refine wpAny_bind (wpAny_mono ht (fun r s2 h2' => ?_) fun _ _ x => x)
        obtain ⟨hr', h2'⟩ := h2'
        rw [hr] at hr'
        subst hr'
        have hrec := step s2 h2'
        obtain ⟨hp2, g2, d2, tk2, os2⟩ := s2
        wp_walk
        rw [hcc]
        exact ⟨plainId_quiet plain_eq_loop _, codeAny_builtin entry_eq_loop (by
          rw [Around.under_plainId plain_eq_loop _]
          exact hrec)⟩
    | false =>
      have ho := h2 i (by omega) hr
      have last : ∀ s2, I (i + 1) s2 → ∃ (items items2 : Array Value) (n n2 : Nat), s2.heap.get? l = some { cls := .type "list", data := .seq items n } ∧ s2.heap.get? b = some { cls := .type "list", data := .seq items2 n2 } ∧ i < items.size ∧ i < items2.size ∧ R (.ok (.ret (.bool (!okOf c)))) s2 := fun s2 q => by
        obtain ⟨x1, x2, y1, y2, e1, e2, e3, e4, _⟩ := hl _ _ q
        exact ⟨x1, x2, y1, y2, e1, e2, by omega, by omega, ho ▸ fin _ s2 q⟩
      obtain ⟨hp, g, d, tk, os⟩ := s
      rcases hc with rfl | rfl
      all_goals
        wp_walk using wpAny_loadPart' hl1, wpAny_loadPart' hb1
        rw [hi1, hi2]
        refine wpAny_bind (wpAny_mono ht (fun r s2 h2' => ?_) fun _ _ x => x)
        obtain ⟨hr', h2'⟩ := h2'
        rw [hr] at hr'
        subst hr'
        obtain ⟨x1, x2, y1, y2, e1, e2, e3, e4, hR⟩ := last s2 h2'
        obtain ⟨hp2, g2, d2, tk2, os2⟩ := s2
        wp_walk using wpAny_loadPart' e1, wpAny_loadPart' e2
        have hj1 : x1[((i : Nat) : Int).toNat]? = some x1[i] := by simp [e3]
        have hj2 : x2[((i : Nat) : Int).toNat]? = some x2[i] := by simp [e4]
        rw [hj1, hj2]
        wp_walk
        simpa [okOf] using hR
theorem list_neB (l b : Addr) (N : Nat) (rs : Nat → Bool) (out : Bool) (h1 : (∀ j, j < N → rs j = true) → out = false) (h2 : ∀ j, j < N → rs j = false → out = true) (I : Nat → Shared → Prop) (hl : ListB prog w A (fun e s' => R (.error e) s') l b N rs I)
    (fin : ∀ j s, I j s → R (.ok (.ret (.bool out))) s) {s : Shared} (h : I 0 s) :
    wpAny (model prog w) A.in1 (Builtin.«list.__ne__» ⟨[.ref l, .ref b], []⟩) (FinOf prog w A R) (fun e s' => R (.error e) s') s := by
  obtain ⟨items, items2, n, n2, hl1, hb1, hs1, hs2, _⟩ := hl _ _ h
  have hrec := loopB (A := A) (R := R) 3 (.inr rfl) l b N rs out h1 h2 I hl fin _ 0 rfl (Nat.zero_le _) (fun j hj => absurd hj (by omega)) s h
  obtain ⟨hp, g, d, tk, os⟩ := s
  have f3 := AutoSeq1.sub_list_list
  have hne : ¬ (items.size != items2.size) = true := by simp [hs1, hs2]
  wp_walk using wpAny_loadPart' hl1, wpAny_loadPart' hb1
  exact ⟨plainId_quiet plain_eq_loop _, codeAny_builtin entry_eq_loop (by
    rw [Around.under_plainId plain_eq_loop _]
    exact hrec)⟩
theorem list_neD (l b : Addr) {items items2 : Array Value} {n n2 : Nat} {s : Shared} (hl1 : s.heap.get? l = some { cls := .type "list", data := .seq items n }) (hb1 : s.heap.get? b = some { cls := .type "list", data := .seq items2 n2 }) (hsz : items.size ≠ items2.size) (fin : R (.ok (.ret (.bool true))) s) :
    wpAny (model prog w) A.in1 (Builtin.«list.__ne__» ⟨[.ref l, .ref b], []⟩) (FinOf prog w A R) (fun e s' => R (.error e) s') s := by
  obtain ⟨hp, g, d, tk, os⟩ := s
  have f3 := AutoSeq1.sub_list_list
  have hne : (items.size != items2.size) = true := by simp [hsz]
  wp_walk using wpAny_loadPart' hl1, wpAny_loadPart' hb1
  exact fin
end
section
variable {prog : Program} {w : World} {A : Around} {E : Value → Shared → Prop} {s : Shared}
theorem rc_neB {l b : Addr} {N : Nat} {rs : Nat → Bool} {out : Bool} {Q : Value → Shared → Prop} (hu : A.units < cLine) (h1 : (∀ j, j < N → rs j = true) → out = false) (h2 : ∀ j, j < N → rs j = false → out = true) (I : Nat → Shared → Prop) (hl : ListB prog w A E l b N rs I)
    (fin : ∀ j s, I j s → Q (.bool out) s) (h : I 0 s) : wpAny (model prog w) A (richCompare .NotEq (.ref l) (.ref b)) Q E s := by
  obtain ⟨items, items2, n, n2, hl1, hb1, _, _, _⟩ := hl _ _ h
  refine wpAny_richCompare_same_room (op := .NotEq) ⟨_, hl1, rfl⟩ ⟨_, hb1, rfl⟩ F.slot_list_ne (call_here F.slot_list_ne ⟨_, hl1, rfl⟩ F.entry_list_ne (F.args_list_ne_2 _ _) ?_) hu
  exact list_neB (R := wants (fun v s' => v ≠ .notImplemented ∧ Q v s') E) l b N rs out h1 h2 I hl (fun j s' q => ⟨(fun x => nomatch x), fin j s' q⟩) h
theorem rc_neD {l b : Addr} {items items2 : Array Value} {n n2 : Nat} {Q : Value → Shared → Prop} (hu : A.units < cLine) (hl1 : s.heap.get? l = some { cls := .type "list", data := .seq items n }) (hb1 : s.heap.get? b = some { cls := .type "list", data := .seq items2 n2 }) (hsz : items.size ≠ items2.size) (fin : Q (.bool true) s) :
    wpAny (model prog w) A (richCompare .NotEq (.ref l) (.ref b)) Q E s := by
  refine wpAny_richCompare_same_room (op := .NotEq) ⟨_, hl1, rfl⟩ ⟨_, hb1, rfl⟩ F.slot_list_ne (call_here F.slot_list_ne ⟨_, hl1, rfl⟩ F.entry_list_ne (F.args_list_ne_2 _ _) ?_) hu
  exact list_neD (R := wants (fun v s' => v ≠ .notImplemented ∧ Q v s') E) l b hl1 hb1 hsz ⟨(fun x => nomatch x), fin⟩
end
end GB
namespace Dl
open PySem L2
section
variable {K : PySem.W.Frag} {m : Nat → Addr} {S : Sto} {Z : Addr → Prop} {H H' : Hp}
theorem Ext.all {m' : Nat → Addr} {n : Nat} {Zd : Addr → Prop} {S1 : Sto} (hS : S1 = List.replicate n none) (e : Ext m (List.replicate n none) Zd H m' S1 H') : L2.Ext H H' := fun a o h => by
  by_cases z : Zd a
  · rw [e.zed a z]; exact h
  · refine vis_sub (e.vis a o (vis_of h z fun i l => ?_))
    obtain ⟨u, hu⟩ := l
    rw [List.getElem?_replicate] at hu
    split at hu <;> cases hu
end
section
variable {X : Cx} {C : Addr} {qual : Str} {st : Stmt} {dvs : List V} {k : Nat} {ps : List Str} {dsp : DSp}
def lstOf (S : Sto) : D → Option (List D)
  | .lst ds => some ds
  | .loc n => match S[n]? with
    | some (some (.lst ds)) => some ds
    | _ => none
  | _ => none
theorem lstOf_rep {K : PySem.W.Frag} {m : Nat → Addr} {S : Sto} {Z : Addr → Prop} {H : Hp} {d : D} {v : V} {ds : List D} (w : Wd K U m S Z H) (r : Rep K m S.length (vis m S Z H) d v) (h : lstOf S d = some ds) : ∃ a vs, v = .ref a ∧ H a = some (.lst vs) ∧ Reps K m S.length (vis m S Z H) ds vs := by
  cases d with
  | lst ds' => cases h; rw [Rep] at r; obtain ⟨a, vs, e, h1, h2⟩ := r; exact ⟨a, vs, e, vis_sub h1, h2⟩
  | loc n =>
    rw [Rep] at r
    rw [lstOf] at h
    split at h
    · rename_i q; cases h; obtain ⟨vs, h1, h2⟩ := w.rep n _ q; exact ⟨m n, vs, r.1, h1, h2⟩
    · cases h
  | non => cases h
  | bl _ => cases h
  | int _ => cases h
  | str _ => cases h
  | tup _ => cases h
  | ksq _ => cases h
  | obj _ _ _ => cases h
  | dic _ _ => cases h
  | ref _ => cases h
  | ty _ => cases h
  | exc _ _ _ => cases h
end
def aRev (fz : Bool) : R1D := fun d S q => ∃ ds, seqOf S d = some ds ∧ d.isTup = false ∧ newL fz ds.reverse S q
def gRev (fz : Bool) (ge : G D) : G D := fun ρ S q => ge ρ S fun d S1 => aRev fz d S1 q
section
variable {X : Cx} {ge : G D} {e : Expr} {ga : G (List D)}
theorem d_par3 {i j l : Nat} {x y z : Str} {a b c : Expr} {px py pz pt pos : Pos} {kt k2 pt2} (hN : X.N.Nodup) (ha : PA X [a, b, c] (tofA X.K U ga)) (hc : X.calm = true := by rfl) (hi : X.N[i]? = some x := by rfl) (hj : X.N[j]? = some y := by rfl) (hl : X.N[l]? = some z := by rfl)
    (hij : i ≠ j := by decide) (hil : i ≠ l := by decide) (hjl : j ≠ l := by decide) (hx : X.env.scope.names.lookup x = some .local := by rfl) (hy : X.env.scope.names.lookup y = some .local := by rfl) (hz : X.env.scope.names.lookup z = some .local := by rfl)
    (hw : swappedStores [.Tuple [.Name x px, .Name y py, .Name z pz] kt pt] (.Tuple [a, b, c] k2 pt2) X.env = pure (some [x, y, z]) := by rfl)
    (hs : swapsWithSole [.Tuple [.Name x px, .Name y py, .Name z pz] kt pt] (.Tuple [a, b, c] k2 pt2) pos.line X.env = pure false := by rfl) :
    PS X (.Assign [.Tuple [.Name x px, .Name y py, .Name z pz] kt pt] (.Tuple [a, b, c] k2 pt2) pos) (tofS X.K U (gPar3 i j l ga)) :=
  weakS (ps_par3 hc hN hi hj hl hij hil hjl hx hy hz ha hw hs) fun E σ H ⟨m, S, Z, ρ, D, w, rs, h, k⟩ => tof_in w rs h fun v1 H1 m1 d1 S1 e1 w1 r1 ⟨v, u, z, ed, h1⟩ => by
    subst ed
    obtain ⟨v', t1, ev, rv, r2⟩ := r1
    obtain ⟨u', t2, eu, ru, r3⟩ := r2
    obtain ⟨z', t3, ez, rz, r4⟩ := r3
    subst ev eu ez
    rw [show t3 = [] from r4]
    exact ⟨v', u', z', rfl, k.nx.at e1 w1 ((((rs.ext e1).set rv).set ru).set rz) h1⟩
end
def aPar3 (i j l : Nat) (ρ : Env_) (k : Env_ → Sto → Prop) (as : List D) (S1 : Sto) : Prop := ∃ v u z, as = [v, u, z] ∧ k (((ρ.set i (some v)).set j (some u)).set l (some z)) S1
theorem x_par3 {i j l : Nat} {ga : G (List D)} {E : DE} {ρ : Env_} {S : Sto} : gPar3 i j l ga E ρ S = ga ρ S fun as S1 => aPar3 i j l ρ E.nx as S1 := rfl
theorem x_par33 {i j l : Nat} {k : Env_ → Sto → Prop} {ρ : Env_} {S : Sto} {v u z : D} : aPar3 i j l ρ k [v, u, z] S ↔ k (((ρ.set i (some v)).set j (some u)).set l (some z)) S := by
  constructor
  · rintro ⟨_, _, _, e, h⟩; cases e; exact h
  · exact fun h => ⟨v, u, z, rfl, h⟩
section
variable {X : Cx} {ga : G (List D)} {a b : Expr}
def aLenR : RND := fun as S1 q => ∃ i j : Int, as = [.int i, .int j] ∧ j - i < 2 ^ 62 ∧ q (.int (max 0 (j - i))) S1
def gLenR (ga : G (List D)) : G D := fun ρ S q => ga ρ S fun as S1 => ∃ i j : Int, as = [.int i, .int j] ∧ j - i < 2 ^ 62 ∧ q (.int (max 0 (j - i))) S1
theorem x_lenrI {S : Sto} {q : D → Sto → Prop} {i j : Int} : aLenR [.int i, .int j] S q ↔ j - i < 2 ^ 62 ∧ q (.int (max 0 (j - i))) S := by
  constructor
  · rintro ⟨_, _, e, h⟩; cases e; exact h
  · exact fun h => ⟨i, j, rfl, h⟩
theorem x_lenr {ρ : Env_} {S : Sto} {q : D → Sto → Prop} : gLenR ga ρ S q = ga ρ S fun as S1 => aLenR as S1 q := rfl
end
end Dl
namespace Dl
open PySem L2
section
variable {S0 S T : Sto} {ds : List D} {q : D → Sto → Prop} {c : Sto → Prop} {d v : D} {k : QI} {i : Int} {n : Nat}
theorem x_ixE : aIx (.loc S0.length) (.int i) (S0 ++ [some (.lst ds)]) q ↔ ∃ e, atI ds i = some e ∧ q e (S0 ++ [some (.lst ds)]) := by
  unfold aIx
  have e0 : seqOf (S0 ++ [some (.lst ds)]) (.loc S0.length) = some ds := by simp [seqOf]
  constructor
  · rintro ⟨_, e1, xs, z, e2, e3, h⟩; cases e1; rw [e0] at e2; cases e2; exact ⟨z, e3, h⟩
  · rintro ⟨z, e3, h⟩; exact ⟨_, rfl, ds, z, e0, e3, h⟩
theorem ixN_last {n : Nat} (h : 0 < n) : ixN n (-1) = some (n - 1) := by
  unfold ixN
  rw [if_neg (by omega), if_pos (by omega)]
  exact congrArg some (by omega)
theorem at_last {A : Type} {xs : List A} : atI xs (-1) = xs.getLast? := by
  unfold atI
  rw [List.getLast?_eq_getElem?]
  by_cases h : 0 < xs.length
  · rw [ixN_last h]; rfl
  · have : xs = [] := List.eq_nil_of_length_eq_zero (by omega)
    subst this
    rfl
theorem x_setE (h : ixN ds.length i = some n) : aSetIx (.loc S0.length) (.int i) v (S0 ++ [some (.lst ds)]) c ↔ c (S0 ++ [some (.lst (ds.set n v))]) := by
  constructor
  · rintro ⟨_, _, _, _, e1, e2, e3, e4, h1⟩
    cases e1; cases e2
    rw [snoc_get] at e3
    cases e3
    rw [h] at e4
    cases e4
    rw [snoc_set] at h1
    exact h1
  · exact fun h1 => ⟨_, ds, i, n, rfl, rfl, snoc_get, h, by rw [snoc_set]; exact h1⟩
theorem x_appE : aAppend (.loc S0.length) [d] (S0 ++ [some (.lst ds)]) q ↔ ds.length < sizeLine ∧ q .non (S0 ++ [some (.lst (ds ++ [d]))]) := by
  rw [x_app snoc_get, snoc_set]
theorem x_tyE : isTy "list" (S0 ++ [some (.lst ds)]) (.loc S0.length) = true := x_tyO snoc_get
theorem x_itE : aIt (.loc S0.length) (S0 ++ [some (.lst ds)]) k ↔ k ds (fun S' => seqOf S' (.loc S0.length) = some ds) (S0 ++ [some (.lst ds)]) := x_itO (by simp [seqOf])
theorem x_lenE : aLen (.loc S0.length) (S0 ++ [some (.lst ds)]) q ↔ q (.int ds.length) (S0 ++ [some (.lst ds)]) := x_lenL (by simp [seqOf])
theorem take_snoc : (S0 ++ T).take S0.length = S0 := by simp
/-- what a def gives back -/
theorem x_finE (hS : Sto.under S0.length S0 = true) : fin S0.length q (.loc S0.length) (S0 ++ [some (.lst ds)]) ↔ D.unders S0.length ds = true ∧ q (.lst ds) S0 := by
  unfold fin
  rw [take_snoc]
  simp [hS]
theorem x_finS (hS : Sto.under S0.length S0 = true) {x : Str} : fin S0.length q (.str x) (S0 ++ T) ↔ q (.str x) S0 := by
  unfold fin
  rw [take_snoc]
  simp [hS, D.under]
end
abbrev Pr := Int × Int
abbrev pD (p : Pr) : D := .tup [.int p.1, .int p.2]
abbrev pY (p : Pr) : PyData := .tuple [.int p.1, .int p.2]
theorem toPys_pr : ∀ P : List Pr, toPys (P.map pD) = some (P.map pY)
  | [] => by simp [toPys]
  | p :: P => by simp [toPys, toPy, toPys_pr P]
theorem toPy_pr (P : List Pr) : toPy (.lst (P.map pD)) = some (.list (P.map pY)) := by rw [toPy, toPys_pr]; rfl
theorem can_pr : ∀ P : List Pr, PyData.canLayAll0 (P.map pY) = true
  | [] => by simp [PyData.canLayAll0]
  | p :: P => by simp [PyData.canLayAll0, PyData.canLay0, can_pr P]
theorem dep_pr : ∀ P : List Pr, PyData.depthAll (P.map pY) ≤ 1
  | [] => by simp [PyData.depthAll]
  | p :: P => by
    have := dep_pr P
    simp [PyData.depthAll, PyData.depth]
    omega
theorem sh_pr (P : List Pr) : SeqAt.shaped (.list (P.map pY)) = true := by
  have := dep_pr P
  simp [SeqAt.shaped, PyData.canLay0, PyData.depth, can_pr]
  omega
theorem eqv_pr : ∀ P R : List Pr, PyData.eqvAll (P.map pY) (R.map pY) = decide (P = R)
  | [], [] => by simp [PyData.eqvAll]
  | [], m :: ms => by simp [PyData.eqvAll]
  | n :: ns, [] => by simp [PyData.eqvAll]
  | n :: ns, m :: ms => by
    obtain ⟨a, b⟩ := n
    obtain ⟨c, d⟩ := m
    simp only [List.map_cons, PyData.eqvAll, PyData.eqv, eqv_pr ns ms, List.cons.injEq, Prod.mk.injEq, Bool.and_true]
    rw [show (a == c) = decide (a = c) from rfl, show (b == d) = decide (b = d) from rfl, ← Bool.decide_and, ← Bool.decide_and]
section
variable {S S0 : Sto} {q : D → Sto → Prop} {P R : List Pr}
theorem x_nePr : aNe (.lst (P.map pD)) (.lst (R.map pD)) S q ↔ q (.bl (decide (P ≠ R))) S := by
  rw [x_ne (p := .list (P.map pY)) (p' := .list (R.map pY)) (show toPyS S (.lst (P.map pD)) = _ from toPy_pr P) (show toPyS S (.lst (R.map pD)) = _ from toPy_pr R)]
  simp only [sh_pr, true_and, PyData.eqv, eqv_pr, ← decide_not, ne_eq]
theorem x_eqPr : aEq (.lst (P.map pD)) (.lst (R.map pD)) S q ↔ q (.bl (decide (P = R))) S := by
  rw [x_eq (p := .list (P.map pY)) (p' := .list (R.map pY)) (show toPyS S (.lst (P.map pD)) = _ from toPy_pr P) (show toPyS S (.lst (R.map pD)) = _ from toPy_pr R)]
  simp only [sh_pr, true_and, PyData.eqv, eqv_pr]
theorem x_neE : aNe (.loc S0.length) (.lst []) (S0 ++ [some (.lst (P.map pD))]) q ↔ q (.bl (decide (P ≠ []))) (S0 ++ [some (.lst (P.map pD))]) := by
  rw [x_ne (p := .list (P.map pY)) (p' := .list (([] : List Pr).map pY)) (by simp [toPyS, toPys_pr]) (by simp [toPyS, toPy, toPys])]
  simp only [sh_pr, true_and, PyData.eqv, eqv_pr, ← decide_not, ne_eq]
end
/-- a comprehension over a list known as a map -/
theorem lc_on {A : Type} {F : A → D} (g1 : A → Option D) {L : List A} {S : Sto} {chk : Sto → Prop} {ρ : Env_} {t : Tgt} {gt : G Bool} {ge : G D} {vs : List Nat} {fz : Bool} {q : D → Sto → Prop} (hchk : chk S) (hlen : L.length ≤ sizeLine)
    (step : ∀ x ∈ L, ∀ (acc : List D) (R : List D → Sto → Prop), acc.length < sizeLine → R (acc ++ (g1 x).toList) S →
      ∃ ρ', t.bind (F x) (wipeD ρ vs) = some ρ' ∧ gt ρ' S fun b S2 => if b = true then ge ρ' S2 fun y S3 => acc.length < sizeLine ∧ R (acc ++ [y]) S3 else R acc S2)
    (h : newL fz (L.filterMap g1) S q) : aLc fz t gt ge vs ρ (L.map F) chk S q := by
  refine ⟨fun i acc S' => S' = S ∧ acc = (L.take i).filterMap g1, ⟨rfl, by simp⟩, ?_, ?_⟩
  · rintro i d acc S' hd ⟨rfl, rfl⟩
    rw [List.getElem?_map] at hd
    obtain ⟨x, hx, rfl⟩ := Option.map_eq_some_iff.mp hd
    have hi : i < L.length := (List.getElem?_eq_some_iff.mp hx).1
    have htake : L.take (i + 1) = L.take i ++ [x] := by rw [List.take_add_one, hx]; rfl
    refine ⟨hchk, step x (List.mem_of_getElem? hx) _ (fun acc S'' => S'' = S' ∧ acc = (L.take (i + 1)).filterMap g1) ?_ ⟨rfl, ?_⟩⟩
    · have := List.length_filterMap_le g1 (L.take i)
      rw [List.length_take] at this
      omega
    · rw [htake, List.filterMap_append, List.filterMap_cons]
      cases g1 x <;> simp
  · rintro acc S' ⟨rfl, rfl⟩
    rw [List.length_map, List.take_length]
    exact ⟨hchk, h⟩
theorem fm_some {A B : Type} {g : A → B} {L : List A} : L.filterMap (fun a => some (g a)) = L.map g := by rw [List.filterMap_eq_map']
theorem x_b2 {ρ : Env_} {i j : Nat} {d e : D} : Tgt.bind (.tp [.nm i, .nm j]) (.tup [d, e]) ρ = some ((ρ.set i (some d)).set j (some e)) := by
  rw [x_btp, x_bc, x_bnm]
  show Tgt.binds [.nm j] [e] _ = _
  rw [x_bc, x_bnm]
  show Tgt.binds [] [] _ = _
  rw [x_bn]
end Dl
namespace Dl
open PySem L2 PyProof.Rows
theorem roomCaller {k : Nat} (h : Room k callerA) : RoomG k callerA := ⟨h, rfl⟩
section
variable {P : Program} {w : World} {K : PySem.W.Frag} {mg mb : Str → Option Value} {CX : CXT} {k : Nat} {fa a : Addr} {fd : FuncData} {x : Str} {sp : Sp} {s : Shared} {vs : List Value} {ns : List Int}
/-- the call of the law over an abstract heap that tracks at most the script -/
theorem law_over {H : Hp} (KX : K.In s.heap) (gl : s.heap.Ns mainGlobals mg) (bl : s.heap.Ns builtinsNs mb) (bb : ∀ y : Str, y ≠ "__name__" → mb y = bootBuiltins y) (lim : s.heap.NoLimit) (g0 : s.gens = #[])
    (ha : s.heap.get? a = some { cls := .type "list", data := .seq vs.toArray }) (room : Room k callerA) (F : ∀ base : Heap, K.In base → base.Ns mainGlobals mg → FnG P w K mg base CX k fa fd [x] sp) (bind : ∀ (s' : Shared) (u : Value), BindsTo s' fd ⟨[u], []⟩ [(x, u)])
    (hsp : sp [.ref a] H (fun v _ => v = .bl true) fun _ _ _ => False) (out : ∀ e s', CX [] H s (fun _ _ _ => False) e s' → False) (only : Only H) (ok : HOk P w H s.heap) (at_a : ∀ b, H b ≠ none → b = a) (own : H a ≠ none → K.lookup a = none) :
    codeAny (model P w) callerA (.call (.ref fa) ⟨[.ref a], []⟩) (fun r s' => r = .ok (.ret (.bool true)) ∧ OldK s.heap s'.heap ∧ s'.os = s.os ∧ AllBare s'.gens) s := by
  have free : ∀ {b : Addr} {o : Obj}, s.heap.get? b = some o → (∀ t, o ≠ { cls := .type "list", data := .seq t }) → H b = none := fun {b o} e n => by
    by_cases z : H b = none
    · exact z
    · rw [at_a b z, ha] at e
      exact absurd (Option.some.inj e).symm (n _)
  have ns_of : ∀ {b : Addr} {m : Str → Option Value}, s.heap.Ns b m → (hidT s.heap H).Ns b m := by
    rintro b m ⟨o, es, ep, e, d, r⟩
    refine ⟨o, es, ep, hidT_get e (free e fun t z => ?_), d, r⟩
    rw [z] at d
    cases d
  have kin : K.In (hidT s.heap H) := fun b o e => hidT_get (KX b o e) (by
    by_cases z : H b = none
    · exact z
    · have eb := at_a b z
      subst eb
      rw [own z] at e
      cases e)
  have lim' : (hidT s.heap H).NoLimit := by
    obtain ⟨mc, h1, h2⟩ := lim
    exact ⟨mc, ns_of h1, h2⟩
  have env : Env0 P w K mg (hidT s.heap H) callerA [] s H := {
    frames := rfl
    mod := ⟨kin, ns_of gl, ⟨mb, ns_of bl, bb⟩, lim'⟩
    bs := fun b o e => of_hidT e
    bsz := Nat.le_of_eq (hidT_size _ _)
    funs := trivial
    frf := fun b hb => by simp [frs] at hb
    hok := ok
    bare := .of_eq g0 }
  have run := (F _ kin (ns_of gl)).run callerA [] s H ⟨[.ref a], []⟩ [.ref a] [.ref a] _ _ (roomCaller room) env (bind s (.ref a)) (.cons rfl .nil) hsp
  refine codeAny_mono run fun r s' h => ?_
  match r, h with
  | .error e, h => exact (out e s' h).elim
  | .ok .next, h => exact h.elim
  | .ok .brk, h => exact h.elim
  | .ok .cont, h => exact h.elim
  | .ok (.ret u), ⟨v, H', os, bare, un, ok', rv, q⟩ =>
    have ev : v = .bl true := q
    subst ev
    have eu : u = Value.bool true := rv
    subst eu
    refine ⟨rfl, OldK.of_keep fun b o e => ?_, os, bare⟩
    rcases only b with z | ⟨ob, xs, z⟩
    · exact un.keep b o e z (by simp [frs]) (by simp)
    · obtain ⟨e1, _⟩ := ok b _ z
      obtain ⟨e2, _⟩ := ok' b _ (un.frzs b ob _ z)
      rw [e1] at e
      rw [e2, e]
theorem law_callG (KX : K.In s.heap) (gl : s.heap.Ns mainGlobals mg) (bl : s.heap.Ns builtinsNs mb) (bb : ∀ y : Str, y ≠ "__name__" → mb y = bootBuiltins y) (lim : s.heap.NoLimit) (g0 : s.gens = #[])
    (ha : s.heap.get? a = some { cls := .type "list", data := .seq vs.toArray }) (hi : IntsAre vs ns) (hl : ns.length ≤ sizeLine) (room : Room k callerA) (F : ∀ base : Heap, K.In base → base.Ns mainGlobals mg → FnG P w K mg base CX k fa fd [x] sp)
    (bind : ∀ (s' : Shared) (u : Value), BindsTo s' fd ⟨[u], []⟩ [(x, u)]) (hsp : ∀ H : Hp, Only H → SqL K H a (ns.map V.int) → sp [.ref a] H (fun v _ => v = .bl true) fun _ _ _ => False) (out : ∀ H e s', CX [] H s (fun _ _ _ => False) e s' → False) :
    codeAny (model P w) callerA (.call (.ref fa) ⟨[.ref a], []⟩) (fun r s' => r = .ok (.ret (.bool true)) ∧ OldK s.heap s'.heap ∧ s'.os = s.os ∧ AllBare s'.gens) s := by
  have rv := vals_ints hi
  have go := fun (H : Hp) (o : Only H) (q : SqL K H a (ns.map V.int)) => law_over (H := H) KX gl bl bb lim g0 ha room F bind (hsp H o q) (out H) o
  by_cases kn : K.lookup a = none
  · let Ha : Hp := fun b => if b = a then some (.frz { cls := .type "list", data := .seq vs.toArray } (.lst (ns.map V.int))) else none
    have h1 : Ha a = some (.frz { cls := .type "list", data := .seq vs.toArray } (.lst (ns.map V.int))) := if_pos rfl
    have h2 : ∀ b, b ≠ a → Ha b = none := fun b hb => if_neg hb
    refine go Ha (fun b => ?_) (.inl (.inr ⟨_, h1⟩)) (fun b u z => ?_) (fun b z => ?_) fun _ => kn
    · by_cases hb : b = a
      · rw [hb]; exact .inr ⟨_, _, h1⟩
      · exact .inl (h2 b hb)
    · by_cases hb : b = a
      · subst hb
        rw [h1] at z
        cases z
        exact ⟨ha, by rw [List.length_map]; exact hl, vs, _, rv, ha⟩
      · rw [h2 b hb] at z; cases z
    · by_cases hb : b = a
      · exact hb
      · exact absurd (h2 b hb) z
  · obtain ⟨o, hk⟩ := Option.ne_none_iff_exists'.mp kn
    have e := KX a o hk
    rw [ha] at e
    cases e
    refine go (fun _ => none) (fun _ => .inl rfl) (.inr ⟨_, vs.toArray, _, hk, rfl, rfl, rfl, ?_, ?_⟩) (fun b u z => by cases z) (fun b z => absurd rfl z) fun z => absurd rfl z
    · rw [List.size_toArray, hi.length]; exact hl
    · simpa using rv
end
end Dl
namespace Dl
open PySem L2
/-- a depth that fits -/
def rRepr (K : PySem.W.Frag) : List V → Hp → VK → Prop := fun vs H Q => ∃ (x : V) (p : PyData), vs = [x] ∧ Dp K H x p ∧ p.showable = true ∧ p.hasDict = false ∧ p.depth ≤ 60 ∧ p.shown.length ≤ sizeLine ∧ Q (.str p.shown) H
theorem cr_repr {X : Cx} {k : Nat} (hr : RoomG k X.A) : CallR X (.builtin "repr") (rRepr X.K) := by
  intro pins s σ H vs us Q I r h
  obtain ⟨x, p, rfl, hp, hs, hd, hdep, hz, q⟩ := h
  obtain ⟨u, rfl, ru⟩ := vals1 r
  have un := hr.units
  cases hp with
  | non =>
    obtain rfl : u = Value.none := ru
    rw [PyData.shown] at q
    exact PySem.P.repr_of_none ⟨.str _, H, I.tok _, ⟨_, rfl⟩, q⟩
  | bl b =>
    obtain rfl : u = Value.bool b := ru
    rw [PyData.shown] at q
    exact PySem.P.repr_of_bool ⟨.str _, H, I.tok _, ⟨_, rfl⟩, q⟩
  | int i =>
    obtain ⟨t, rfl⟩ := ru
    rw [PyData.shown] at q
    rw [PyData.showable, decide_eq_true_eq] at hs
    exact PySem.P.repr_of_int hs ⟨.str _, H, I.tok _, ⟨_, rfl⟩, q⟩
  | str z =>
    obtain ⟨t, rfl⟩ := ru
    rw [PyData.shown] at q hz
    exact PySem.P.repr_of_str ⟨.str _, H, I.tok _, ⟨_, rfl⟩, q⟩ hz
  | lst h1 h2 =>
    rename_i a xs ps
    obtain ⟨as, rd⟩ := Dp.reads I _ _ _ (Dp.lst h1 h2) ru
    obtain rfl : u = Value.ref a := ru
    exact PySem.repr_of_reads' rd hs (PySem.PyData.noDict_hsm hd) hr.gd (by omega) (fun _ _ e => e) (fun h' u tk hk => ⟨.str _, H, I.kept hk, ⟨_, rfl⟩, q⟩) hz
  | tup h1 h2 =>
    rename_i a xs ps
    obtain ⟨as, rd⟩ := Dp.reads I _ _ _ (Dp.tup h1 h2) ru
    obtain rfl : u = Value.ref a := ru
    exact PySem.repr_of_reads' rd hs (PySem.PyData.noDict_hsm hd) hr.gd (by omega) (fun _ _ e => e) (fun h' u tk hk => ⟨.str _, H, I.kept hk, ⟨_, rfl⟩, q⟩) hz
def aRepr : R1D := fun d S q => ∃ p, toPyS S d = some p ∧ p.showable = true ∧ p.hasDict = false ∧ p.depth ≤ 60 ∧ p.shown.length ≤ sizeLine ∧ q (.str p.shown) S
theorem vr_repr {K : PySem.W.Frag} : VRN K (rRepr K) (a1 aRepr) := vrn1 fun {_ m S Z H d v q Q} w r ⟨p, h1, h2, h3, h4, h5, h6⟩ k => ⟨v, p, rfl, dpS_of w r h1, h2, h3, h4, h5, k.now w rep_str h6⟩
theorem x_repr {S : Sto} {q : D → Sto → Prop} {d : D} {p : PyData} (h : toPyS S d = some p) : aRepr d S q ↔ p.showable = true ∧ p.hasDict = false ∧ p.depth ≤ 60 ∧ p.shown.length ≤ sizeLine ∧ q (.str p.shown) S := by
  unfold aRepr
  rw [h]
  constructor
  · rintro ⟨_, e, r⟩; cases e; exact r
  · exact fun r => ⟨_, rfl, r⟩
theorem piled_le {M : Nat} : ∀ {ts : List Str}, (∀ t ∈ ts, t.length ≤ M) → piled ts ≤ (M + 2) * ts.length
  | [], _ => Nat.zero_le _
  | t :: r, h => by
    have h1 := h t (List.mem_cons_self ..)
    have h2 := piled_le (M := M) (ts := r) fun u hu => h u (List.mem_cons_of_mem _ hu)
    rw [piled_cons, List.length_cons, Nat.mul_add]
    omega
theorem listText_le (ts : List Str) : (listText ts).length ≤ piled ts + 2 := by
  cases ts with
  | nil => exact Nat.le_of_eq rfl
  | cons t r =>
    have h := textFrom_length_pos r 1 (("[" : Str) ++ (if (0 : Nat) > 0 then ", " else "" : String) ++ t) (Nat.succ_pos 0)
    have e1 : (listText (t :: r)).length = (textFrom 1 (("[" : Str) ++ (if (0 : Nat) > 0 then ", " else "" : String) ++ t) r).length + 1 := strLen_append _ _
    have e2 : ((("[" : Str) ++ (if (0 : Nat) > 0 then ", " else "" : String) ++ t)).length = 1 + t.length := by
      rw [strLen_append, strLen_append]
      exact congrArg (· + t.length) (show 1 + 0 = 1 from rfl)
    rw [e1, h, e2, piled_cons]
    omega
theorem tupleText_le (ts : List Str) : (tupleText ts).length ≤ piled ts + 3 := by
  unfold tupleText
  rw [strLen_append, strLen_append]
  have e1 : ((("(" : String) : Str)).length = 1 := rfl
  have e2 : (((if ts.length == 1 then ",)" else ")" : String) : Str)).length ≤ 2 := by split <;> decide
  rw [e1]
  by_cases h : ts = []
  · subst h
    have : (Str.join ", " []).length = 0 := rfl
    rw [this, piled_nil]
    omega
  · have := join_length_add ts h
    omega
theorem shownAll_map : ∀ ps : List PyData, PyData.shownAll ps = ps.map PyData.shown
  | [] => by rw [PyData.shownAll]; rfl
  | p :: ps => by rw [PyData.shownAll, shownAll_map ps]; rfl
theorem shown_list {ps : List PyData} {M : Nat} (h : ∀ p ∈ ps, p.shown.length ≤ M) : (PyData.list ps).shown.length ≤ (M + 2) * ps.length + 2 := by
  rw [PyData.shown, shownAll_map]
  refine Nat.le_trans (listText_le _) (Nat.add_le_add_right ?_ 2)
  have := piled_le (M := M) (ts := ps.map PyData.shown) fun t ht => by
    obtain ⟨p, hp, rfl⟩ := List.mem_map.mp ht
    exact h p hp
  rwa [List.length_map] at this
theorem shown_tuple {ps : List PyData} {M : Nat} (h : ∀ p ∈ ps, p.shown.length ≤ M) : (PyData.tuple ps).shown.length ≤ (M + 2) * ps.length + 3 := by
  rw [PyData.shown, shownAll_map]
  refine Nat.le_trans (tupleText_le _) (Nat.add_le_add_right ?_ 3)
  have := piled_le (M := M) (ts := ps.map PyData.shown) fun t ht => by
    obtain ⟨p, hp, rfl⟩ := List.mem_map.mp ht
    exact h p hp
  rwa [List.length_map] at this
theorem shown_str {x : Str} {M : Nat} (h : PyData.strOk x = true) (hl : x.length ≤ M) : (PyData.str x).shown.length ≤ 10 * M + 2 := by
  rw [PyData.shown]
  refine Nat.le_trans (StrLaws.reprText_len x fun c hc => ?_) (by omega)
  unfold PyData.strOk at h
  rw [← Array.all_toList, List.all_eq_true] at h
  have h1 := h c hc
  simp only [decide_eq_true_eq] at h1
  exact Nat.lt_of_lt_of_le h1 (by decide)
end Dl
namespace Dl
open PySem L2
def kget : List (Str × Str) → Str → D
  | [], _ => .non
  | p :: r, z => if z = p.1 then .str p.2 else kget r z
def aKGet (a : Addr) (kvs : List (Str × Str)) : D → RND := fun o as S q => ∃ z, o = .ref a ∧ as = [.str z] ∧ q (kget kvs z) S
def gKGet (a : Addr) (kvs : List (Str × Str)) (gs : G (List D)) : G D := fun ρ S q => gs ρ S fun as S1 => aKGet a kvs (.ref a) as S1 q
theorem x_kget {a : Addr} {kvs : List (Str × Str)} {z : Str} {S : Sto} {q : D → Sto → Prop} : aKGet a kvs (.ref a) [.str z] S q ↔ q (kget kvs z) S := ⟨fun ⟨_, _, e, h⟩ => by cases e; exact h, fun h => ⟨z, rfl, rfl, h⟩⟩
def aEqS : R2D := fun a b S q => ∃ x y, a = .str x ∧ b = .str y ∧ q (.bl (decide (x = y))) S
def aNeS : R2D := fun a b S q => ∃ x y, a = .str x ∧ b = .str y ∧ q (.bl (decide (x ≠ y))) S
theorem dec_str {x y : Str} : decide (V.str x = V.str y) = decide (x = y) := decide_eq_decide.mpr ⟨fun h => V.str.inj h, fun h => by rw [h]⟩
theorem vr_neSS {K : PySem.W.Frag} : VR2 K L2.rNe aNeS := fun {_ m S Z H a b v u q Q} w r1 r2 ⟨x, y, e1, e2, h⟩ k => by
  subst e1 e2
  rw [Rep] at r1 r2
  subst r1 r2
  refine ⟨rfl, ?_⟩
  have e : (!decide (V.str x = V.str y)) = decide (x ≠ y) := by rw [dec_str, decide_not]
  first
    | (rw [e]; exact k.now w rep_bl h)
    | (rw [decide_not, dec_str, ← decide_not]; exact k.now w rep_bl h)
theorem x_eqSS {x y : Str} {S : Sto} {q : D → Sto → Prop} : aEqS (.str x) (.str y) S q ↔ q (.bl (decide (x = y))) S := ⟨fun ⟨_, _, e1, e2, h⟩ => by cases e1; cases e2; exact h, fun h => ⟨_, _, rfl, rfl, h⟩⟩
theorem x_neSS {x y : Str} {S : Sto} {q : D → Sto → Prop} : aNeS (.str x) (.str y) S q ↔ q (.bl (decide (x ≠ y))) S := ⟨fun ⟨_, _, e1, e2, h⟩ => by cases e1; cases e2; exact h, fun h => ⟨_, _, rfl, rfl, h⟩⟩
theorem d_thru {X : Cx} {body : List Stmt} {h₀ : ExceptHandler} {hs : List ExceptHandler} {pos : Pos} {g : GS} (hb : PSs X.nox body (tofS X.K U g)) : PS X (.Try body (h₀ :: hs) [] [] pos) (tofS X.K U g) := ps_try_thru0 hb
end Dl
namespace Dl
open PySem L2 PyProof.Rows
def toKey : D → Option Key
  | .int i => some (.inl i)
  | .str x => some (.inr x)
  | _ => none
def kD : Key → D
  | .inl i => .int i
  | .inr x => .str x
/-- keys and values, one put -/
def kput (k : Key) (ks : List Key) : List Key := if (ks.any fun j => decide (j = k)) = true then ks else ks ++ [k]
def dput {A : Type} (k : Key) (y : A) (ks : List Key) (ds : List A) : List A := if (ks.any fun j => decide (j = k)) = true then List.zipWith (fun j d => if j = k then y else d) ks ds else ds ++ [y]
def dget {A : Type} (k : Key) (ks : List Key) (ds : List A) : Option A := ((ks.zip ds).find? fun kv => decide (kv.1 = k)).map (·.2)
def dicOf (S : Sto) : D → Option (List Key × List D)
  | .dic ks ds => some (ks, ds)
  | .loc n => match S[n]? with
    | some (some (.dic ks ds)) => some (ks, ds)
    | _ => none
  | _ => none
section
variable {X : Cx} {pos p' : Pos} {U : Wi}
/-- {} -/
def gDNew (fz : Bool) : G D := fun _ S q => if fz = true then q (.dic [] []) S else q (.loc S.length) (S ++ [some (.dic [] [])])
/-- o[k] = v -/
def gDSet (go gi gv : G D) : GS := fun E ρ S => gv ρ S fun y S1 => go ρ S1 fun o S2 => gi ρ S2 fun x S3 => ∃ n ks ds k, o = .loc n ∧ S3[n]? = some (some (.dic ks ds)) ∧ toKey x = some k ∧ ks.length < sizeLine ∧ E.nx ρ (S3.set n (some (.dic (kput k ks) (dput k y ks ds))))
end
section
open PyProof.Rows
variable {X : Cx} {e : Expr} {te : TE} {p apos cpos pos : Pos} {U : Wi}
/-- sorted(o.items()) -/
def gSItems (go : G D) : G D := fun ρ S q => go ρ S fun o S1 => ∃ ks ds, dicOf S1 o = some (ks, ds) ∧ aSorted true (.lst (List.zipWith (fun k d => D.tup [kD k, d]) ks ds)) S1 q
end
/-- max(xs, default=d), min(..) -/
def aMMDef (b : Bool) : D → D → Sto → (D → Sto → Prop) → Prop := fun o d S q => ∃ ds ps, seqOf S o = some ds ∧ o.isTup = false ∧ toPys ds = some ps ∧ PySem.W.AlikeAll ps ∧ PyData.depthAll ps ≤ 60 ∧ (ds = [] → q d S) ∧
  ∀ (y : PyData) (ys : List PyData) (i : Nat) (x : D), ps = y :: ys → ds[i]? = some x → ps[i]? = some (if b = true then PySem.W.maxD y ys else PySem.W.minD y ys) → q x S
def gMMDef (b : Bool) (ga gk : G (List D)) : G D := fun ρ S q => ga ρ S fun as S1 => gk ρ S1 fun ks S2 => ∃ o d, as = [o] ∧ ks = [d] ∧ aMMDef b o d S2 q
def gAsgL (ts : List Tgt) (ge : G D) : GS := fun E ρ S => ge ρ S fun d S1 => ∃ ds ρ', seqOf S1 d = some ds ∧ d.isTup = false ∧ Tgt.binds ts ds ρ = some ρ' ∧ E.nx ρ' S1
theorem x_b3 {ρ : Env_} {i j l : Nat} {d e f : D} : Tgt.bind (.tp [.nm i, .nm j, .nm l]) (.tup [d, e, f]) ρ = some (((ρ.set i (some d)).set j (some e)).set l (some f)) := by
  simp [Tgt.bind, Tgt.binds]
section
variable {X : Cx} {ρ : Env_} {S : Sto} {q : D → Sto → Prop}
theorem x_dnT : gDNew true ρ S q ↔ q (.dic [] []) S := by simp [gDNew]
theorem x_dnF : gDNew false ρ S q ↔ q (.loc S.length) (S ++ [some (.dic [] [])]) := by simp [gDNew]
end
end Dl
namespace Dl
open PySem L2
end Dl
namespace Dl
open PySem L2
/-- a comprehension with an invariant over the store, its results known by a relation -/
theorem lc_inv {ds : List D} {S : Sto} {chk : Sto → Prop} {ρ : Env_} {t : Tgt} {gt : G Bool} {ge : G D} {vs : List Nat} {fz : Bool} {q : D → Sto → Prop} (I : Nat → List D → Sto → Prop) (h0 : I 0 [] S)
    (step : ∀ i d acc S, ds[i]? = some d → I i acc S → chk S ∧ ∃ ρ', t.bind d (wipeD ρ vs) = some ρ' ∧ gt ρ' S fun b S2 => if b = true then ge ρ' S2 fun y S3 => acc.length < sizeLine ∧ I (i + 1) (acc ++ [y]) S3 else I (i + 1) acc S2)
    (h : ∀ acc S, I ds.length acc S → chk S ∧ newL fz acc S q) : aLc fz t gt ge vs ρ ds chk S q := ⟨I, h0, step, h⟩
theorem toPys_str : ∀ xs : List Str, toPys (xs.map D.str) = some (xs.map PyData.str)
  | [] => by simp [toPys]
  | x :: xs => by simp [toPys, toPy, toPys_str xs]
theorem can_str : ∀ xs : List Str, (∀ x ∈ xs, PyData.strOk x = true) → PyData.canLayAll0 (xs.map PyData.str) = true
  | [], _ => by simp [PyData.canLayAll0]
  | x :: xs, h => by
    rw [List.map_cons, PyData.canLayAll0, can_str xs fun y hy => h y (List.mem_cons_of_mem _ hy), PyData.canLay0, h x List.mem_cons_self]; rfl
theorem dep_str : ∀ xs : List Str, PyData.depthAll (xs.map PyData.str) = 0
  | [] => by simp [PyData.depthAll]
  | x :: xs => by simp [PyData.depthAll, PyData.depth, dep_str xs]
theorem sh_strs {xs : List Str} (h : ∀ x ∈ xs, PyData.strOk x = true) : SeqAt.shaped (.list (xs.map PyData.str)) = true := by
  simp [SeqAt.shaped, PyData.canLay0, PyData.depth, can_str xs h, dep_str]
theorem cut_to {x : Str} (k : Int) (j : Nat) (hk : k = (j : Int)) : (cutS x none (some k)).cps.toList = x.cps.toList.take j := by
  subst hk
  have hl : x.cps.toList.length = x.length := Array.length_toList
  unfold cutS
  rw [List.toList_toArray, HT.sIx_nat, HT.sIx_none, List.drop_zero, Nat.sub_zero]
  by_cases h : j ≤ x.length
  · rw [Nat.min_eq_left h]
  · rw [Nat.min_eq_right (by omega), List.take_of_length_le (by omega), List.take_of_length_le (by omega)]
end Dl
namespace Dl
open PySem L2
theorem cutD_from {ds : List D} (k : Int) (i : Nat) (hk : k = (i : Int)) : cutD ds (some k) none = ds.drop i := by
  subst hk
  unfold cutD
  rw [HT.sIx_nat, HT.sIx_none]
  by_cases h : i ≤ ds.length
  · rw [Nat.min_eq_left h, List.take_of_length_le (by rw [List.length_drop]; omega)]
  · rw [Nat.min_eq_right (by omega), List.drop_eq_nil_of_le (by omega), List.drop_eq_nil_of_le (by omega)]; simp
end Dl
namespace Dl
open PySem L2 PySem.Spec PyProof.Rows
def rNil (neg : Bool) : R2 := fun x y H Q => ∃ (a b : Addr) (vs : List V), x = .ref a ∧ y = .ref b ∧ H a = some (.lst vs) ∧ H b = some (.lst []) ∧ Q (.bl (xor neg vs.isEmpty)) H
theorem or_neNil {X : Cx} {k : Nat} (hr : RoomG k X.A) : OpR X (compareOp .NotEq) (rNil true) := by
  intro pins s σ H x y v u Q I rx ry ⟨a, b, vs, ex, ey, h1, h2, q⟩
  subst ex ey
  cases rx
  cases ry
  show wpAny (model X.prog X.w) X.A (richCompare .NotEq (.ref a) (.ref b)) (EP X pins σ Q) X.xe s
  obtain ⟨z1, its, n, rv, ra, hla⟩ := I.lstM h1
  obtain ⟨z2, its2, n2, rv2, rb, hlb⟩ := I.lstM h2
  cases rv2
  cases vs with
  | nil =>
    cases rv
    exact GB.rc_neB (N := 0) (rs := fun _ => true) (out := false) hr.units0 (fun _ => rfl) (fun j hj => by omega) (fun _ s' => s' = s) (fun i s' e => by subst e; exact ⟨#[], #[], n, n2, hla, hlb, rfl, rfl, fun h => by simp at h⟩) (fun _ s' e => by subst e; exact ⟨.bl false, H, I, rfl, q⟩) rfl
  | cons w vs =>
    refine GB.rc_neD hr.units0 hla hlb ?_ ⟨.bl true, H, I, rfl, q⟩
    rw [List.size_toArray, ← rv.length]; simp
def aNil (neg : Bool) : R2D := fun x y S q => ∃ ds, lstOf S x = some ds ∧ y = .lst [] ∧ q (.bl (xor neg ds.isEmpty)) S
theorem vr_nil {K : PySem.W.Frag} {neg : Bool} : VR2 K (rNil neg) (aNil neg) := fun {_ m S Z H a b v u q Q} w r1 r2 ⟨ds, h1, h2, h3⟩ kk => by
  subst h2
  obtain ⟨a1, vs, e1, hh1, q1⟩ := lstOf_rep w r1 h1
  obtain ⟨b1, us, e2, hh2, q2⟩ := lstOf_rep w r2 rfl
  rw [Reps] at q2
  subst q2
  refine ⟨a1, b1, vs, e1, e2, hh1, hh2, kk.now w ?_ h3⟩
  have : vs.isEmpty = ds.isEmpty := by
    have := Reps.len q1
    cases vs <;> cases ds <;> simp at this ⊢
  rw [this]
  exact rep_bl
section
variable {S : Sto} {q : D → Sto → Prop} {ds : List D}
theorem x_nilL {neg : Bool} : aNil neg (.lst ds) (.lst []) S q ↔ q (.bl (xor neg ds.isEmpty)) S := ⟨fun ⟨_, e, _, h⟩ => by cases e; exact h, fun h => ⟨ds, rfl, rfl, h⟩⟩
theorem x_nilE {neg : Bool} : aNil neg (.loc S.length) (.lst []) (S ++ [some (.lst ds)]) q ↔ q (.bl (xor neg ds.isEmpty)) (S ++ [some (.lst ds)]) := by
  have e0 : lstOf (S ++ [some (.lst ds)]) (.loc S.length) = some ds := by simp [lstOf]
  exact ⟨fun ⟨_, e, _, h⟩ => by rw [e0] at e; cases e; exact h, fun h => ⟨ds, e0, rfl, h⟩⟩
end
end Dl
namespace Dl
open PySem L2 PySem.SeqAt PyProof.Rows PySem.Spec
theorem or_or {X : Cx} {f : Value → Value → Sem Value} {r1 r2 : R2} (h1 : OpR X f r1) (h2 : OpR X f r2) : OpR X f (fun x y H Q => r1 x y H Q ∨ r2 x y H Q) := fun pins s σ H x y v u Q I rx ry h => by
  rcases h with h | h
  · exact h1 pins s σ H x y v u Q I rx ry h
  · exact h2 pins s σ H x y v u Q I rx ry h
def rInT (K : PySem.W.Frag) : R2 := fun x y H Q => ∃ d ds, Dp K H x d ∧ Dp K H y (.tuple ds) ∧ SeqAt.shaped d = true ∧ SeqAt.shaped (.list ds) = true ∧ Q (.bl (ds.any fun z => PyData.eqv z d)) H
def rNotInT (K : PySem.W.Frag) : R2 := fun x y H Q => ∃ d ds, Dp K H x d ∧ Dp K H y (.tuple ds) ∧ SeqAt.shaped d = true ∧ SeqAt.shaped (.list ds) = true ∧ Q (.bl (!ds.any fun z => PyData.eqv z d)) H
theorem op_inT {X : Cx} (hu : X.A.units + 65 < cLine) : OpR X (compareOp .In) (rInT X.K) := by
  intro pins s σ H x y v u Q I rx ry h
  obtain ⟨d, ds, hd, he, sd, se, q⟩ := h
  obtain ⟨as, r1⟩ := Dp.reads I d x v hd rx
  obtain ⟨bs, r2⟩ := Dp.reads I (.tuple ds) y u he ry
  exact SeqAt.in_tuple_reads r2 r1 (SeqAt.canLay_of_shaped se) (SeqAt.canLay_of_shaped sd) (room_in_shaped sd hu) ⟨.bl _, H, I, rfl, q⟩
theorem op_notInT {X : Cx} (hu : X.A.units + 65 < cLine) : OpR X (compareOp .NotIn) (rNotInT X.K) := by
  intro pins s σ H x y v u Q I rx ry h
  obtain ⟨d, ds, hd, he, sd, se, q⟩ := h
  obtain ⟨as, r1⟩ := Dp.reads I d x v hd rx
  obtain ⟨bs, r2⟩ := Dp.reads I (.tuple ds) y u he ry
  exact SeqAt.notIn_tuple_reads r2 r1 (SeqAt.canLay_of_shaped se) (SeqAt.canLay_of_shaped sd) (room_in_shaped sd hu) ⟨.bl _, H, I, rfl, q⟩
def rInAll (K : PySem.W.Frag) : R2 := fun x y H Q => (∃ (c : Nat) (z : Str), x = .str ⟨#[c]⟩ ∧ y = .str z ∧ Q (.bl (decide (c ∈ z.cps.toList))) H) ∨ (∃ i j, x = .str i ∧ y = .str j ∧ Q (.bl (!(Builtin.Str.occurrences j i 0 j.length 1).isEmpty)) H) ∨ rInD K x y H Q ∨ rInT K x y H Q
def rNotInAll (K : PySem.W.Frag) : R2 := fun x y H Q => (∃ (c : Nat) (z : Str), x = .str ⟨#[c]⟩ ∧ y = .str z ∧ Q (.bl (!decide (c ∈ z.cps.toList))) H) ∨ (∃ i j, x = .str i ∧ y = .str j ∧ Q (.bl (!(!(Builtin.Str.occurrences j i 0 j.length 1).isEmpty))) H) ∨ rNotInD K x y H Q ∨ rNotInT K x y H Q
theorem op_inAll {X : Cx} {k : Nat} (hr : RoomG k X.A) : OpR X (compareOp .In) (rInAll X.K) := by
  have hu : X.A.units + 65 < cLine := by have := hr.un; omega
  exact or_or op_in_sign (or_or op_in_str (or_or (op_inD hu) (op_inT hu)))
theorem op_notInAll {X : Cx} {k : Nat} (hr : RoomG k X.A) : OpR X (compareOp .NotIn) (rNotInAll X.K) := by
  have hu : X.A.units + 65 < cLine := by have := hr.un; omega
  exact or_or op_notIn_sign (or_or op_notIn_str (or_or (op_notInD hu) (op_notInT hu)))
/-- things in a list or a tuple -/
def inP (p : PyData) (ps : List PyData) : Bool := ps.any fun z => PyData.eqv z p
def hasT (x y : Str) : Bool := !(Builtin.Str.occurrences y x 0 y.length 1).isEmpty
def aInX (neg : Bool) : R2D := fun a b S q => (∃ (c : Nat) (z : Str), a = .str ⟨#[c]⟩ ∧ b = .str z ∧ q (.bl (neg ^^ decide (c ∈ z.cps.toList))) S) ∨ (∃ x y, a = .str x ∧ b = .str y ∧ x.length ≠ 1 ∧ q (.bl (neg ^^ hasT x y)) S) ∨
  ∃ p ps, toPyS S a = some p ∧ (toPyS S b = some (.list ps) ∨ toPyS S b = some (.tuple ps)) ∧ SeqAt.shaped p = true ∧ SeqAt.shaped (.list ps) = true ∧ q (.bl (neg ^^ inP p ps)) S
section
variable {K : PySem.W.Frag}
theorem vr_inX : VR2 K (rInAll K) (aInX false) := fun {_ m S Z H a b v u q Q} w r1 r2 h k => by
  rcases h with ⟨c, z, e1, e2, h⟩ | ⟨x, y, e1, e2, _, h⟩ | ⟨p, ps, h1, h2, h3, h4, h5⟩
  · subst e1 e2
    rw [Rep] at r1 r2
    rw [Bool.false_xor] at h
    exact .inl ⟨c, z, r1, r2, k.now w rep_bl h⟩
  · subst e1 e2
    rw [Rep] at r1 r2
    rw [Bool.false_xor] at h
    exact .inr (.inl ⟨x, y, r1, r2, k.now w rep_bl h⟩)
  · rw [Bool.false_xor] at h5
    rcases h2 with h2 | h2
    · exact .inr (.inr (.inl ⟨p, ps, dpS_of w r1 h1, dpS_of w r2 h2, h3, h4, k.now w rep_bl h5⟩))
    · exact .inr (.inr (.inr ⟨p, ps, dpS_of w r1 h1, dpS_of w r2 h2, h3, h4, k.now w rep_bl h5⟩))
theorem vr_notInX : VR2 K (rNotInAll K) (aInX true) := fun {_ m S Z H a b v u q Q} w r1 r2 h k => by
  rcases h with ⟨c, z, e1, e2, h⟩ | ⟨x, y, e1, e2, _, h⟩ | ⟨p, ps, h1, h2, h3, h4, h5⟩
  · subst e1 e2
    rw [Rep] at r1 r2
    rw [Bool.true_xor] at h
    exact .inl ⟨c, z, r1, r2, k.now w rep_bl h⟩
  · subst e1 e2
    rw [Rep] at r1 r2
    rw [Bool.true_xor] at h
    exact .inr (.inl ⟨x, y, r1, r2, k.now w rep_bl h⟩)
  · rw [Bool.true_xor] at h5
    rcases h2 with h2 | h2
    · exact .inr (.inr (.inl ⟨p, ps, dpS_of w r1 h1, dpS_of w r2 h2, h3, h4, k.now w rep_bl h5⟩))
    · exact .inr (.inr (.inr ⟨p, ps, dpS_of w r1 h1, dpS_of w r2 h2, h3, h4, k.now w rep_bl h5⟩))
end
section
variable {S : Sto} {q : D → Sto → Prop} {neg : Bool}
/-- a sign in a text -/
theorem x_inX1 {c : Nat} {y : Str} (h : q (.bl (neg ^^ decide (c ∈ y.cps.toList))) S) : aInX neg (.str ⟨#[c]⟩) (.str y) S q := .inl ⟨c, y, rfl, rfl, h⟩
theorem x_inXs {c : Nat} {y : Str} : aInX neg (.str ⟨#[c]⟩) (.str y) S q ↔ q (.bl (neg ^^ decide (c ∈ y.cps.toList))) S := by
  constructor
  · rintro (⟨c', z, e1, e2, h⟩ | ⟨x, y, e1, e2, hl, h⟩ | ⟨p, ps, h1, h2 | h2, _⟩)
    · cases e1; cases e2; exact h
    · cases e1; exact absurd rfl hl
    · simp [toPyS, toPy] at h2
    · simp [toPyS, toPy] at h2
  · exact x_inX1
theorem inP_str (x : Str) (xs : List Str) : inP (.str x) (xs.map PyData.str) = decide (x ∈ xs) := by
  unfold inP
  rw [List.any_map]
  have e : ((fun z => PyData.eqv z (PyData.str x)) ∘ PyData.str) = fun z => decide (z = x) := funext fun z => by show PyData.eqv (.str z) (.str x) = _; unfold PyData.eqv; rfl
  rw [e]
  apply Bool.eq_iff_iff.mpr
  rw [List.any_eq_true, decide_eq_true_iff]
  constructor
  · rintro ⟨z, hz, e⟩; rw [decide_eq_true_iff] at e; exact e ▸ hz
  · exact fun h => ⟨x, h, decide_eq_true rfl⟩
/-- a text in a tuple, a list of texts -/
theorem x_inTs {x : Str} {xs : List Str} (h1 : PyData.strOk x = true) (h2 : ∀ y ∈ xs, PyData.strOk y = true) (h : q (.bl (neg ^^ decide (x ∈ xs))) S) : aInX neg (.str x) (.tup (xs.map D.str)) S q :=
  .inr (.inr ⟨.str x, xs.map PyData.str, rfl, .inr (by simp [toPyS, toPy, toPys_str]), sh_str h1, sh_strs h2, by rw [inP_str]; exact h⟩)
end
end Dl
namespace PySem
namespace HandSPX
open Builtin Builtin.ObjectAttr
end HandSPX
end PySem
namespace Dl
open PySem L2 PyProof.Rows
end Dl
namespace Dl
open PySem L2 PyProof.Rows
section
variable {X : Cx} {C : Addr} {x qual : Str} {st : Stmt} {ps flds : List Str} {p pos pos2 : Pos} {es : List Expr} {n : Nat} {src : List Src} {ga : GA}
/-- raise C(..): by data, the fields the last one first -/
def gRaise (WD : XW) (C : Addr) (flds : List Str) (n : Nat) (src : List Src) (ga : GA) : GS := fun E ρ S => ga ρ S fun as zs S1 => as.length = n ∧ zs.length = 0 ∧ as.length ≤ 1000 ∧ ∃ ds, (∀ s : D, gat src (s :: as) [] [] = s :: ds) ∧ ds.length = flds.length ∧ WD (.own C) flds.reverse ds.reverse ρ S1
end
end Dl
namespace Dl
open PySem L2 PyProof.Rows
abbrev XE_ := XC → List Str → List D → Sto → Prop
/-- a promise: the arguments, the store, what is wanted of the answer, of an exception -/
abbrev XSp := List D → Sto → (D → Sto → Prop) → XE_ → Prop
def gCallX (WD : XW) (n nk : Nat) (src : List Src) (dds : List D) (dsp : XSp) (ga : GA) : G D := fun ρ S q => ga ρ S fun as ks S1 => as.length = n ∧ ks.length = nk ∧ dsp (gat src as dds ks) S1 q fun c fs ds S2 => WD c fs ds ρ S2
def gMethX (WD : XW) (C : Addr) (m : Str) (n nk : Nat) (src : List Src) (dds : List D) (dsp : XSp) (go : G D) (ga : GA) : G D := fun ρ S q => go ρ S fun o S1 => ∃ ks ds, objOf S1 o = some (C, ks, ds) ∧ ks.contains m = false ∧
  ga ρ S1 fun as zs S2 => as.length = n ∧ zs.length = nk ∧ dsp (gat src (o :: as) dds zs) S2 q fun c fs ds S3 => WD c fs ds ρ S3
/-- C(..), its __init__ may raise; the new instance given up at once -/
def gMakeX (WD : XW) (C : Addr) (n nk : Nat) (src : List Src) (dds : List D) (dsp : XSp) (ga : GA) : G D := fun ρ S q => ga ρ S fun as zs S1 => as.length = n ∧ zs.length = nk ∧ (D.unders S1.length as = true → D.unders S1.length zs = true →
  dsp (gat src (.loc S1.length :: as) dds zs) (S1 ++ [some (.obj C [] [])]) (fun v S2 => v = .non ∧ ∃ ks ds, S2 = S1 ++ [some (.obj C ks ds)] ∧ D.unders S1.length ds = true ∧ q (.obj C ks ds) S1) fun c fs ds S2 => WD c fs ds ρ S2)
end Dl
namespace Dl
open PySem L2 PyProof.Rows
/-- which class a clause takes -/
structure Exm (K : PySem.W.Frag) (cc : Value) (c : XC) (b : Bool) : Prop where
  is : PySem.W.exmOne K c.val cc = some b
/-- try: gb / except cc as i: gs -/
def gTryAs (K : PySem.W.Frag) (WD : XW) (cc : Value) (i : Nat) (gb : XW → GS) (gs : GS) : GS := fun E ρ S =>
  gb (fun c fs ds ρ' S' => ∃ b, Exm K cc c b ∧ (b = true → gs { nx := fun ρ'' S'' => E.nx (ρ''.set i none) S'', rt := E.rt, bk := fun ρ'' S'' => E.bk (ρ''.set i none) S'', ct := fun ρ'' S'' => E.ct (ρ''.set i none) S'' } (ρ'.set i (some (.exc c fs ds))) S') ∧ (b = false → WD c fs ds ρ' S')) E ρ S
/-- try: gb / except cc: gs -/
def gTryO (K : PySem.W.Frag) (WD : XW) (cc : Value) (gb : XW → GS) (gs : GS) : GS := fun E ρ S =>
  gb (fun c fs ds ρ' S' => ∃ b, Exm K cc c b ∧ (b = true → gs E ρ' S') ∧ (b = false → WD c fs ds ρ' S')) E ρ S
/-- what an exception's class must bear so that its instances are looked at -/
structure XLk (K : PySem.W.Frag) (C : Addr) : Prop where
  ga : PySem.W.findIn K (.ref C) "__getattribute__" = some (some (.builtin "BaseException.__getattribute__"))
  gg : PySem.W.findIn K (.ref C) "__getattr__" = some none
  exC : PySem.W.subIn K (.ref C) (.type "BaseException") = some true
  hdC : PySem.W.hasDictIn K C = true
  ha : PySem.W.findIn K (.ref C) "__class__" = some (some (.builtin "object.__class__"))
  hn : PySem.W.specialIn K (.builtin "object.__class__") "__get__" = some (some (.builtin "getset_descriptor.__get__"))
  ht : PySem.W.takesIn K (.builtin "object.__class__") = some true
  hm : PySem.W.mroIn K C (.type "object") = some true
structure XFd (K : PySem.W.Frag) (C : Addr) (f : Str) : Prop where
  lk : XLk K C
  no : PySem.W.findIn K (.ref C) f = some none
def gFldX (K : PySem.W.Frag) (f : Str) (go : G D) : G D := fun ρ S q => go ρ S fun o S1 => ∃ C ks ds d, o = .exc (.own C) ks ds ∧ XFd K C f ∧ fget f ks ds = some d ∧ q d S1
end Dl
namespace Dl
open PySem L2 PyProof.Rows
end Dl
namespace Dl
open PySem L2
def truD : D → Option Bool
  | .non => some false
  | .bl b => some b
  | .int i => some (i != 0)
  | .str x => if x.length ≤ sizeLine then some ((x.length : Int) != 0) else none
  | _ => none
def gOrT (ga gb : G D) : G D := fun ρ S q => ga ρ S fun d S1 => ∃ k, truD d = some k ∧ if k = true then q d S1 else gb ρ S1 q
def gAndT (ga gb : G D) : G D := fun ρ S q => ga ρ S fun d S1 => ∃ k, truD d = some k ∧ if k = true then gb ρ S1 q else q d S1
end Dl
namespace Dl
open PySem L2
end Dl
namespace DZ
open PySem
open PySem.Sem (wp)
/-- a list's or a tuple's iterator, and what it draws from -/
def ItOn (t : Bool) (h : Heap) (i l : Addr) (k : Nat) : Prop := if t = true then h.IsTupleIter i l k else h.IsListIter i l k
def SqOn (t : Bool) (h : Heap) (l : Addr) (xs : Array Value) : Prop := if t = true then h.IsTuple l xs else h.IsList l xs
theorem ItOn.at {t : Bool} {h h' : Heap} {i l : Addr} {k : Nat} (q : ItOn t h i l k) (e : ∀ o, h.get? i = some o → h'.get? i = some o) : ItOn t h' i l k := by
  cases t
  · exact Heap.IsListIter.at (show h.IsListIter i l k from q) e
  · exact Heap.IsTupleIter.at (show h.IsTupleIter i l k from q) e
theorem draws_on {prog : Program} {w : World} {A : Around} (hh : A.handled = none) (t : Bool) (it l : Addr) (hne : l ≠ it) (items : Array Value) :
    Draws prog w A it [it, l] items.size (fun i v => items[i]? = some v) (fun i h => ItOn t h it l i ∧ SqOn t h l items) := by
  cases t
  · exact Draws.list hh it l hne items
  · exact Draws.tuple hh it l hne items
abbrev IsZipS (h : Heap) (z TI TO : Addr) (f0 : Value) (f : Bool) : Prop :=
  h.get? z = some { cls := .type "zip", dict := none, data := .fields #[f0, .bool f, .bool true, .ref TI, .ref TO], slots := #[] }
section
variable {prog : Program} {w : World} {A : Around} {E : Value → Shared → Prop} {s : Shared} {z TI TO i1 i2 : Addr} {fp1 fp2 : List Addr} {n1 n2 i : Nat} {P1 P2 : Nat → Value → Prop} {St1 St2 : Nat → Heap → Prop} {a1 a2 f0 : Value} {f : Bool}
/-- the first field of a zip: nothing, or the number of a tuple that was given out -/
def Loose (f0 : Value) : Prop := f0 = .none ∨ ∃ T : Addr, f0 = rawInt T
end
def ZSt (t1 t2 : Bool) (z TI TO i1 i2 l1 l2 : Addr) (i : Nat) (h : Heap) : Prop :=
  ∃ f0 f, Loose f0 ∧ IsZipS h z TI TO f0 f ∧ IsTupOf2 h TI (.ref i1) (.ref i2) ∧ (∃ a1 a2, IsTupOf2 h TO a1 a2) ∧ ItOn t1 h i1 l1 i ∧ ItOn t2 h i2 l2 i
section
variable {prog : Program} {w : World} {A : Around} {E : Value → Shared → Prop} {s : Shared} {t1 t2 : Bool} {z TI TO i1 i2 l1 l2 : Addr} {i : Nat} {xs ys : Array Value} {x y : Value}
theorem ZSt.keep {h h' : Heap} (st : ZSt t1 t2 z TI TO i1 i2 l1 l2 i h) (k : ∀ b ∈ [z, TI, TO, i1, i2], ∀ o, h.get? b = some o → h'.get? b = some o) : ZSt t1 t2 z TI TO i1 i2 l1 l2 i h' := by
  obtain ⟨f0, f, hl, hz, hTI, ⟨a1, a2, hTO⟩, h1, h2⟩ := st
  exact ⟨f0, f, hl, k z (by simp) _ hz, k TI (by simp) _ hTI, ⟨a1, a2, k TO (by simp) _ hTO⟩, h1.at (k i1 (by simp)), h2.at (k i2 (by simp))⟩
end
end DZ
namespace DZ
open PySem
open PySem.Sem (wp)
end DZ
namespace DZ
open PySem PySem.Spec L2
/-- a list or a tuple -/
def SqX (K : PySem.W.Frag) (t : Bool) (H : Hp) (a : Addr) (xs : List V) : Prop := if t = true then SqT K H a xs else SqL K H a xs
theorem SqX.get {X : Cx} {pins : List (Addr × Obj)} {σ : L2.St} {H : Hp} {s : Shared} {t : Bool} {a : Addr} {xs : List V} (I : Inv X pins σ H s) (h : SqX X.K t H a xs) : ∃ its : List Value, Vals xs its ∧ SqOn t s.heap a its.toArray := by
  cases t
  · obtain ⟨its, rv, p, _⟩ := I.list (show SqL X.K H a xs from h)
    exact ⟨its, rv, p.isList⟩
  · obtain ⟨its, rv, p, _⟩ := I.tuple (show SqT X.K H a xs from h)
    exact ⟨its, rv, p⟩
theorem SqX.inj {X : Cx} {pins : List (Addr × Obj)} {σ : L2.St} {H : Hp} {s : Shared} {t : Bool} {a : Addr} {xs ys : List V} (I : Inv X pins σ H s) (h : SqX X.K t H a xs) (h2 : SqX X.K t H a ys) : xs = ys := by
  cases t
  · exact I.list_inj (show SqL X.K H a xs from h) (show SqL X.K H a ys from h2)
  · exact I.tuple_inj (show SqT X.K H a xs from h) (show SqT X.K H a ys from h2)
theorem SqOn.lt {t : Bool} {h : Heap} {a : Addr} {xs : Array Value} (q : SqOn t h a xs) : a < h.objs.size := by
  cases t
  · obtain ⟨o, e, _⟩ := (show h.IsList a xs from q)
    exact Heap.lt_size e
  · obtain ⟨o, e, _⟩ := (show h.IsTuple a xs from q)
    exact Heap.lt_size e
section
variable {M : Model} {A : Around} {E : Value → Shared → Prop} {s : Shared} {env : Env}
theorem callWith_typeK {pos : Pos} {T : String} {e : Expr} {rest : List Expr} {kws : List Keyword} {Q : Value → Shared → Prop}
    (h : wpAny M A (spliced (backTo pos (starEach (e :: rest) env))) (fun vs s₁ => wpAny M A (evalAll ((backToKw pos (keywordEach kws env)).map (·.2)))
      (fun kvs s₂ => wpAny M A (call (.type T) vs (((backToKw pos (keywordEach kws env)).filterMap (·.1)).zip kvs)) Q E s₂) E s₁) E s)
    (he : backTo pos (starEach (e :: rest) env) = (false, eval e env) :: backTo pos (starEach rest env))
    (hplain : (backTo pos (starEach (e :: rest) env)).any (·.1) = false)
    (hall : (backToKw pos (keywordEach kws env)).all (·.1.isSome) = true)
    (hkw : (backToKw pos (keywordEach kws env)).any (·.1.isNone) = false) :
    wpAny M A (callWith pos (.type T) [] (backTo pos (starEach (e :: rest) env)) (backToKw pos (keywordEach kws env))) Q E s := by
  have h2 : wpAny M A (evalArgs (.type T) true (backTo pos (starEach (e :: rest) env)) (backToKw pos (keywordEach kws env))) (fun a s₁ => wpAny M A (call (.type T) ([] ++ a.pos) a.kw) Q E s₁) E s := by
    rw [he] at h ⊢
    exact PyProof.Rows.evalArgs_kwB hall h
  unfold callWith
  refine wpAny_bind (wpAny_holding (wpAny_mono h2 (fun a s₁ h₁ => wpAny_bind (wpAny_standAt ?_)) fun _ _ x => x))
  simp only [hplain, hkw, Bool.or_false]
  refine wpAny_bind (wpAny_pure ?_)
  exact wpAny_bind (wpAny_mono h₁ (fun r s₂ hr => wpAny_bind (wpAny_holding (wpAny_point (wpAny_pure hr)))) fun _ _ x => x)
end
end DZ
namespace Dl
open PySem L2 DZ
def gZipS (ga : G (List D)) : GI := fun ρ S q => ga ρ S fun as S1 => ∃ d e ds es, as = [d, e] ∧ seqOf S1 d = some ds ∧ seqOf S1 e = some es ∧ ds.length = es.length ∧ q (zipD ds es) (fun S' => seqOf S' d = some ds ∧ seqOf S' e = some es) S1
def gZipE (ga : G (List D)) : GI := fun ρ S q => ga ρ S fun as S1 => ∃ d e ds es, as = [d, e] ∧ seqOf S1 d = some ds ∧ seqOf S1 e = some es ∧ ds.length = es.length ∧ q (enumD (zipD ds es)) (fun S' => seqOf S' d = some ds ∧ seqOf S' e = some es) S1
def aZipS (as : List D) (S1 : Sto) (q : List D → (Sto → Prop) → Sto → Prop) : Prop := ∃ d e ds es, as = [d, e] ∧ seqOf S1 d = some ds ∧ seqOf S1 e = some es ∧ ds.length = es.length ∧ q (zipD ds es) (fun S' => seqOf S' d = some ds ∧ seqOf S' e = some es) S1
def aZipE (as : List D) (S1 : Sto) (q : List D → (Sto → Prop) → Sto → Prop) : Prop := aZipS as S1 fun ds c S2 => q (enumD ds) c S2
theorem x_zipS {ga : G (List D)} {ρ : Env_} {S : Sto} {k : List D → (Sto → Prop) → Sto → Prop} : gZipS ga ρ S k = ga ρ S fun as S1 => aZipS as S1 k := rfl
theorem x_zipE {ga : G (List D)} {ρ : Env_} {S : Sto} {k : List D → (Sto → Prop) → Sto → Prop} : gZipE ga ρ S k = ga ρ S fun as S1 => aZipE as S1 k := rfl
theorem x_zipSL {ds es : List D} {S : Sto} {k : List D → (Sto → Prop) → Sto → Prop} : aZipS [.lst ds, .lst es] S k ↔ ds.length = es.length ∧ k (zipD ds es) (fun _ => True) S := by
  have h : (fun S' : Sto => seqOf S' (.lst ds) = some ds ∧ seqOf S' (.lst es) = some es) = fun _ => True := funext fun S' => propext ⟨fun _ => trivial, fun _ => ⟨rfl, rfl⟩⟩
  constructor
  · rintro ⟨_, _, _, _, e1, e2, e3, e4, h1⟩; cases e1; cases e2; cases e3; rw [h] at h1; exact ⟨e4, h1⟩
  · rintro ⟨e4, h1⟩; exact ⟨_, _, _, _, rfl, rfl, rfl, e4, by rw [h]; exact h1⟩
theorem x_zipST {ds es : List D} {S : Sto} {k : List D → (Sto → Prop) → Sto → Prop} : aZipS [.tup ds, .tup es] S k ↔ ds.length = es.length ∧ k (zipD ds es) (fun _ => True) S := by
  have h : (fun S' : Sto => seqOf S' (.tup ds) = some ds ∧ seqOf S' (.tup es) = some es) = fun _ => True := funext fun S' => propext ⟨fun _ => trivial, fun _ => ⟨rfl, rfl⟩⟩
  constructor
  · rintro ⟨_, _, _, _, e1, e2, e3, e4, h1⟩; cases e1; cases e2; cases e3; rw [h] at h1; exact ⟨e4, h1⟩
  · rintro ⟨e4, h1⟩; exact ⟨_, _, _, _, rfl, rfl, rfl, e4, by rw [h]; exact h1⟩
theorem x_zipEL {ds es : List D} {S : Sto} {k : List D → (Sto → Prop) → Sto → Prop} : aZipE [.lst ds, .lst es] S k ↔ ds.length = es.length ∧ k (enumD (zipD ds es)) (fun _ => True) S := x_zipSL
end Dl
namespace DZ
open PySem PySem.Spec L2
/-- the list at a as it stands at each turn, each item in a new pair, counted from k on -/
def IteK (K : PySem.W.Frag) (k : Int) (a : Addr) : It :=
  ⟨fun i H => ∃ (xs : List V) (x : V), SqL K H a xs ∧ xs[i]? = some x, fun i H v H' => ∃ T x, v = .ref T ∧ H T = none ∧ H' = upd H T (.tup [.int ((i : Nat) + k), x]) ∧ ∀ xs, SqL K H a xs → xs[i]? = some x, fun i H => ∃ xs : List V, SqL K H a xs ∧ xs.length = i⟩
theorem turn_enumK {P : Program} {w : World} {K : PySem.W.Frag} {elts : List Expr} {kk : Nat} {tpos : Pos} (k : Int) (a e it : Addr) :
    Turn P w K (.Tuple elts kk tpos) (IteK K k a) [e, it] e (fun i h => (∃ old, IsEnum h e it (((i : Nat) : Int) + k) old) ∧ h.IsListIter it a i ∧ e ≠ it ∧ a ≠ it ∧ a ≠ e) where
  mem := by simp
  obj := fun i h st b hb => by
    obtain ⟨⟨old, he⟩, ⟨o, ho, hc, hd⟩, _⟩ := st
    have e' : b = e ∨ b = it := by simpa using hb
    rcases e' with z | z
    · rw [z]; exact ⟨_, he, fun v q => nomatch q⟩
    · rw [z]; exact ⟨o, ho, fun v q => by rw [hd] at q; cases q⟩
  keep := fun i h h' st k => let ⟨⟨old, he⟩, hi, hne⟩ := st; ⟨⟨old, k e (by simp) _ he⟩, hi.at fun o q => k it (by simp) o q, hne⟩
  item := by
    intro X hP hw hK hc i pins s σ H E I hf st hg
    subst hP hw hK
    obtain ⟨⟨old, he⟩, hit, hne, ha1, ha2⟩ := st
    obtain ⟨xs, x, hq, hx⟩ := hg
    obtain ⟨its, rv, p, hz⟩ := I.list hq
    obtain ⟨u, hu, ru⟩ := rv.get hx
    have hel : e < s.heap.objs.size := Heap.lt_size he
    have hil : it < s.heap.objs.size := by obtain ⟨_, q, _⟩ := hit; exact Heap.lt_size q
    have hlt : i < its.toArray.size := by
      have := (List.getElem?_eq_some_iff.mp hu).1
      simpa using this
    refine wpAny_pyNext_enum_itemC (draws_on (A := X.A.in1) (I.ok.hd hc) false it a ha1 its.toArray) he ⟨hit, p.isList⟩ hlt hne (by simp; exact ⟨hne, fun z => ha2 z.symm⟩) fun u' h' tk hu' ho hst' hT hsz hk => ?_
    have eu : u' = u := by
      have h1 : its.toArray[i]? = some u' := hu'
      have h2 : its.toArray[i]? = some u := by simpa using hu
      rw [h2] at h1; cases h1; rfl
    subst eu
    refine ⟨_, rfl, wpAny_letOwnedTupleGo_enum (s := { s with heap := h', toks := tk + 1 }) ho fun h'' he' sb => ?_⟩
    have hT2 : h''.get? s.heap.objs.size = some { cls := .type "tuple", data := .seq #[.int (i + k) tk, u'] } := (sb.2 _ (Nat.ne_of_gt hel)).trans hT
    have new : ObjOk X.prog X.w (upd H s.heap.objs.size (.tup [.int ((i : Nat) + k), x])) h'' s.heap.objs.size (.tup [.int ((i : Nat) + k), x]) :=
      ⟨by show 2 ≤ sizeLine; decide, [.int (i + k) tk, u'], .cons ⟨_, rfl⟩ (.cons ru .nil), ⟨_, hT2, rfl, _, rfl⟩⟩
    have I1 : Inv X pins σ (upd H s.heap.objs.size (.tup [.int ((i : Nat) + k), x])) { s with heap := h'', toks := tk + 1 } :=
      I.turnedNew (ch := [e, it]) (fun b ob hb q => (sb.2 b (fun z => hb (by simp [z]))).trans (hk b ob (fun z => hb (by simp [z])) (fun z => hb (by simp [z])) q)) hf (Nat.le_refl _) new
    have hit' : h'.IsListIter it a (i + 1) := hst'.1
    refine ⟨.ref s.heap.objs.size, _, I1, rfl, ⟨_, x, rfl, I.hok.fresh (Nat.le_refl _), rfl, fun ys hy => by rw [I.list_inj hy hq]; exact hx⟩, ⟨⟨u', ?_⟩, hit'.at fun o q => (sb.2 it (Ne.symm hne)).trans q, hne, ha1, ha2⟩, fun b hb => ?_⟩
    · have e1 : ((i + 1 : Nat) : Int) + k = (i : Int) + k + 1 := by omega
      rw [e1]; exact he'
    · have hb' : b < s.heap.objs.size := by
        have e' : b = e ∨ b = it := by simpa using hb
        rcases e' with z | z
        · rw [z]; exact hel
        · rw [z]; exact hil
      rw [upd_ne (Nat.ne_of_lt hb')]
      exact (hf b hb).1
  done := by
    intro X hP hw hK hc i pins s σ H E I hf st hg
    subst hP hw hK
    obtain ⟨⟨old, he⟩, hit, hne, ha1, ha2⟩ := st
    obtain ⟨xs, hq, hx⟩ := hg
    obtain ⟨its, rv, p, hz⟩ := I.list hq
    obtain ⟨f0, f1, f2, f3, f4, f5⟩ := hf it (by simp)
    have hl := rv.length
    have D := draws_on (prog := X.prog) (w := X.w) (A := X.A.in1) (I.ok.hd hc) false it a ha1 its.toArray
    have c : its.toArray.size = i := by simp; omega
    rw [c] at D
    exact wpAny_pyNext_enum_endD D he ⟨hit, p.isList⟩ fun h' eb => ⟨rfl, I.turned (t' := s.toks) (fun b o hb q => eb b o hb q) f0 f1 f3 f4 f5⟩
  self := fun A i s Q E st h => let ⟨⟨_, he⟩, _⟩ := st; wpAny_pyIter_enum he h
def iEnumK (K : PySem.W.Frag) (k : Int) (ta : TA) : TI := fun σ H R => ta σ H fun vs H1 => ∃ a xs, vs = [.ref a] ∧ SqL K H1 a xs ∧ R (IteK K k a) H1
theorem pi_enumK {X : Cx} {e : Expr} {kws : List Keyword} {ta : TA} {p pos tpos : Pos} {elts : List Expr} {kk : Nat} {k : Int} (h1 : -(2 ^ 63) ≤ k) (h2 : k < 2 ^ 63) (hg : Gl X "enumerate") (hm : X.mg "enumerate" = none) (ha : PA X [e] ta) (hk : PK X kws (tCons (tC (.int k)) tNil))
    (he : backTo pos (starEach [e] X.env) = (false, eval e X.env) :: backTo pos (starEach [] X.env) := by rfl) (hpl : (backTo pos (starEach [e] X.env)).any (·.1) = false := by rfl)
    (hall : (backToKw pos (keywordEach kws X.env)).all (·.1.isSome) = true := by rfl) (hnone : (backToKw pos (keywordEach kws X.env)).any (·.1.isNone) = false := by rfl) (hks : (backToKw pos (keywordEach kws X.env)).filterMap (·.1) = [Str.ofString "start"] := by rfl) :
    PI X (.Tuple elts kk tpos) (.Call (.Name "enumerate" p) [e] kws pos) (iEnumK X.K k ta) := by
  refine ⟨fun pins s σ H R I h => ?_⟩
  refine wpAny_Call_Name_kw (ld_blt I hg hm PyProof.Rows.boot_enumerate ?_)
  refine callWith_typeK (thn (ha.run pos pins s σ H _ I h) fun us s1 ⟨vs, H1, I1, r1, q1⟩ => thn (hk.run pos pins s1 σ H1 (fun zs H2 => zs = [V.int k] ∧ H2 = H1) I1 ⟨rfl, rfl⟩) fun ws s2 ⟨zs, H2, I2, r2, q2⟩ => ?_) he hpl hall hnone
  obtain ⟨a, xs, ex, hq, q⟩ := q1
  obtain ⟨ez, eH⟩ := q2
  subst ex ez eH
  obtain ⟨w1, rfl, ew⟩ := vals1 r2
  obtain ⟨t, rfl⟩ : ∃ t, w1 = Value.int k t := ew
  obtain ⟨u1, rfl, eu1⟩ := vals1 r1
  obtain rfl : u1 = Value.ref a := eu1
  rw [hks]
  obtain ⟨its, rv, p', hz⟩ := I2.list hq
  refine enum_begins_start (begins_list a its.toArray) p'.isList h1 h2 fun h' he hit hsz hkk => wpAny_pyIter_enum he ?_
  have I3 : Inv X pins σ _ { s2 with heap := h' } := I2.kept (t' := s2.toks) hkk
  have hal : a < s2.heap.objs.size := by obtain ⟨_, q, _⟩ := p'.isList; exact Heap.lt_size q
  have hii : h'.IsListIter s2.heap.objs.size a 0 := ⟨_, hit, rfl, rfl⟩
  refine ⟨s2.heap.objs.size + 1, [s2.heap.objs.size + 1, s2.heap.objs.size], _, _, _, rfl, I3, turn_enumK k a (s2.heap.objs.size + 1) s2.heap.objs.size, ⟨⟨.none, by rw [show ((0 : Nat) : Int) + k = k by omega]; exact he⟩, hii, Nat.succ_ne_self _, Nat.ne_of_lt hal, Nat.ne_of_lt (Nat.lt_succ_of_lt hal)⟩, fun b hb => ?_, q⟩
  have e' : b = s2.heap.objs.size + 1 ∨ b = s2.heap.objs.size := by simpa using hb
  have hle : s2.heap.objs.size ≤ b := by
    rcases e' with z | z
    · rw [z]; exact Nat.le_add_right _ _
    · rw [z]; exact Nat.le_refl _
  exact I2.fpOk hle (I2.hok.fresh hle)
end DZ
namespace Dl
open PySem L2 DZ
def enumK (k : Int) (ds : List D) : List D := ds.zipIdx.map fun p => .tup [.int ((p.2 : Nat) + k), p.1]
def gEnumK (k : Int) (ga : G (List D)) : GI := fun ρ S q => ga ρ S fun as S1 => ∃ d ds, as = [d] ∧ d.isTup = false ∧ seqOf S1 d = some ds ∧ q (enumK k ds) (fun S' => seqOf S' d = some ds) S1
section
variable {X : Cx} {U : Wi} {pos p tpos : Pos} {kws : List Keyword} {ga : G (List D)}
theorem pk_start {j : Nat} {q kp : Pos} {nm : Option Str} {k : Int} : PK X [⟨nm, .Constant (.int k) j q, kp⟩] (tCons (tC (.int k)) tNil) := pk_cons pe_int pk_nil
theorem di_enumK {elts : List Expr} {kk : Nat} {a : Expr} {k : Int} (hk : PK X kws (tCons (tC (.int k)) tNil)) (h1 : -(2 ^ 63) ≤ k) (h2 : k < 2 ^ 63) (hg : Gl X "enumerate") (hm : X.mg "enumerate" = none) (ha : PA X [a] (tofA X.K U ga))
    (he : backTo pos (starEach [a] X.env) = (false, eval a X.env) :: backTo pos (starEach [] X.env) := by rfl) (hpl : (backTo pos (starEach [a] X.env)).any (·.1) = false := by rfl)
    (hall : (backToKw pos (keywordEach kws X.env)).all (·.1.isSome) = true := by rfl) (hnone : (backToKw pos (keywordEach kws X.env)).any (·.1.isNone) = false := by rfl) (hks : (backToKw pos (keywordEach kws X.env)).filterMap (·.1) = [Str.ofString "start"] := by rfl) :
    PI X (.Tuple elts kk tpos) (.Call (.Name "enumerate" p) [a] kws pos) (tofI X.K U (gEnumK k ga)) :=
  weakI (pi_enumK h1 h2 hg hm ha hk he hpl hall hnone hks) fun σ H R ⟨m, S, Z, ρ, q, w, rs, h, k⟩ => tof_in w rs h fun v1 H1 m1 d1 S1 e1 w1 r1 ⟨d, ds, ed, hd, hq, h1⟩ => by
    subst ed
    obtain ⟨v, ev, rv⟩ := reps1 r1
    obtain ⟨a, vs, e, hr, _, hl⟩ := seqOf_rep w1 rv hq
    subst e
    refine ⟨a, vs, ev, hl hd, k _ _ _ _ _ _ e1 w1 ⟨fun {_ m' S' Z' H' i} l w hc hi => ?_, fun {_ m' S' Z' H'} l w hc => ?_⟩ h1⟩
    · obtain ⟨a', vs', e', hr', _, hl'⟩ := seqOf_rep w (rv.lt l) hc
      cases e'
      have hi' : i < ds.length := by simpa [enumK] using hi
      obtain ⟨d', hd'⟩ : ∃ d', ds[i]? = some d' := ⟨ds[i], by simp [hi']⟩
      obtain ⟨u, hu, ru⟩ := Reps.get hr' hd'
      refine ⟨⟨vs', u, hl' hd, hu⟩, fun x H2 ⟨T, x', ex, hT, eH, hx⟩ => ?_⟩
      have := hx vs' (hl' hd)
      rw [hu] at this; cases this
      subst ex eH
      obtain ⟨w3, e3, hv3⟩ := w.new (o := .tup [.int ((i : Nat) + _), u]) hT
      refine ⟨.tup [.int ((i : Nat) + _), d'], ?_, w3, e3, rep_tup (SqT.of hv3) (Reps.cons rep_int (Reps.one (ru.ext e3)))⟩
      unfold enumK
      rw [List.getElem?_map, List.getElem?_zipIdx, hd']
      simp
    · obtain ⟨a', vs', e', hr', _, hl'⟩ := seqOf_rep w (rv.lt l) hc
      cases e'
      exact ⟨vs', hl' hd, by rw [Reps.len hr']; simp [enumK]⟩
end
def aEnumK (k : Int) (as : List D) (S1 : Sto) (q : List D → (Sto → Prop) → Sto → Prop) : Prop := ∃ d ds, as = [d] ∧ d.isTup = false ∧ seqOf S1 d = some ds ∧ q (enumK k ds) (fun S' => seqOf S' d = some ds) S1
theorem x_enumK {i : Int} {ga : G (List D)} {ρ : Env_} {S : Sto} {k : List D → (Sto → Prop) → Sto → Prop} : gEnumK i ga ρ S k = ga ρ S fun as S1 => aEnumK i as S1 k := rfl
theorem x_enumKL {i : Int} {ds : List D} {S : Sto} {k : List D → (Sto → Prop) → Sto → Prop} : aEnumK i [.lst ds] S k ↔ k (enumK i ds) (fun _ => True) S := by
  have h : (fun S' : Sto => seqOf S' (.lst ds) = some ds) = fun _ => True := funext fun S' => propext ⟨fun _ => trivial, fun _ => rfl⟩
  constructor
  · rintro ⟨_, _, e1, _, e3, h1⟩; cases e1; cases e3; rw [h] at h1; exact h1
  · intro h1; exact ⟨_, _, rfl, rfl, rfl, by rw [h]; exact h1⟩
theorem enumK_get {j : Int} {ds : List D} {i : Nat} {d : D} (h : (enumK j ds)[i]? = some d) : ∃ x, ds[i]? = some x ∧ d = .tup [.int ((i : Nat) + j), x] := by
  unfold enumK at h
  rw [List.getElem?_map, List.getElem?_zipIdx] at h
  cases hx : ds[i]? with
  | none => rw [hx] at h; cases h
  | some x => rw [hx] at h; cases h; exact ⟨x, rfl, by simp⟩
theorem enumK_len {j : Int} {ds : List D} : (enumK j ds).length = ds.length := by
  unfold enumK
  rw [List.length_map, List.length_zipIdx]
end Dl
namespace Dl
open PySem L2 PyProof.Rows
def aAugIx (g : R2D) (o i : D) (S2 : Sto) (ge : (D → Sto → Prop) → Prop) (c : Sto → Prop) : Prop := ∃ n ds k j x, o = .loc n ∧ i = .int k ∧ S2[n]? = some (some (.lst ds)) ∧ ixN ds.length k = some j ∧ ds[j]? = some x ∧
  ge fun y S3 => g x y S3 fun z S4 => ∃ es j2, S4[n]? = some (some (.lst es)) ∧ ixN es.length k = some j2 ∧ c (S4.set n (some (.lst (es.set j2 z))))
def gAugIx (g : R2D) (go gi ge : G D) : GS := fun E ρ S => go ρ S fun o S1 => gi ρ S1 fun i S2 => aAugIx g o i S2 (fun q => ge ρ S2 q) (E.nx ρ)
def aIsB (neg : Bool) : R2D := fun x y S q => ∃ a b : Bool, x = .bl a ∧ y = .bl b ∧ q (.bl (neg ^^ decide (a = b))) S
theorem x_isB {a b : Bool} {S : Sto} {q : D → Sto → Prop} : aIsB false (.bl a) (.bl b) S q ↔ q (.bl (decide (a = b))) S :=
  ⟨fun ⟨_, _, e1, e2, h⟩ => by cases e1; cases e2; simpa using h, fun h => ⟨a, b, rfl, rfl, by simpa using h⟩⟩
theorem x_notB {a b : Bool} {S : Sto} {q : D → Sto → Prop} : aIsB true (.bl a) (.bl b) S q ↔ q (.bl (!decide (a = b))) S :=
  ⟨fun ⟨_, _, e1, e2, h⟩ => by cases e1; cases e2; simpa using h, fun h => ⟨a, b, rfl, rfl, by simpa using h⟩⟩
theorem x_augix {g : R2D} {go gi ge : G D} {E : DE} {ρ : Env_} {S : Sto} : gAugIx g go gi ge E ρ S = go ρ S fun o S1 => gi ρ S1 fun i S2 => aAugIx g o i S2 (fun q => ge ρ S2 q) (E.nx ρ) := rfl
end Dl
namespace Dl
open PySem L2
def gLR1 (fz : Bool) (ge : G D) : G D := fun ρ S q => ge ρ S fun d S1 => ∃ n : Int, d = .int n ∧ -(2 ^ 62) ≤ n ∧ n ≤ 2 ^ 24 ∧ newL fz (rngD 0 n.toNat) S1 q
def gLR2 (fz : Bool) (ga gb : G D) : G D := fun ρ S q => ga ρ S fun d S1 => gb ρ S1 fun e S2 => ∃ i j : Int, d = .int i ∧ e = .int j ∧ (-(2 ^ 62) ≤ i ∧ i < 2 ^ 62 ∧ -(2 ^ 62) ≤ j ∧ j < 2 ^ 62 ∧ j - i ≤ 2 ^ 24) ∧ newL fz (rngD i (j - i).toNat) S2 q
end Dl
namespace Dl
open PySem PySem.Spec PyProof.Rows L2
end Dl
namespace Dl
open PySem L2
end Dl
namespace Dl
open PySem L2
section
variable {κ : Type} [DecidableEq κ]
def kputP (k : κ) (ks : List κ) : List κ := if (ks.any fun j => decide (j = k)) = true then ks else ks ++ [k]
def dputP {A : Type} (k : κ) (y : A) (ks : List κ) (ds : List A) : List A := if (ks.any fun j => decide (j = k)) = true then List.zipWith (fun j d => if j = k then y else d) ks ds else ds ++ [y]
def dgetP {A : Type} (k : κ) (ks : List κ) (ds : List A) : Option A := ((ks.zip ds).find? fun kv => decide (kv.1 = k)).map (·.2)
variable {K : PySem.W.Frag} {m : Nat → Addr} {N : Nat} {Hv : Hp}
end
def dicTOf (S : Sto) : D → Option (List (List Key) × List D)
  | .loc n => match S[n]? with
    | some (some (.dicT ks ds)) => some (ks, ds)
    | _ => none
  | _ => none
def toKeys : List D → Option (List Key)
  | [] => some []
  | d :: ds => match toKey d, toKeys ds with
    | some k, some ks => some (k :: ks)
    | _, _ => none
section
variable {X : Cx} {pos p' p1 apos cpos : Pos} {o i e f value : Expr} {es : List Expr} {x1 : Nat} {go gi gf gv : G D} {gs : G (List D)}
/-- d[k] -/
def gDIx (go gi : G D) : G D := fun ρ S q => go ρ S fun o S1 => gi ρ S1 fun x S2 => ∃ ks ds k d, dicOf S2 o = some (ks, ds) ∧ toKey x = some k ∧ dget k ks ds = some d ∧ q d S2
end
section
variable {X : Cx} {pos p' p1 apos cpos : Pos} {o i e f value : Expr} {es : List Expr} {x1 : Nat} {go gi gf gv : G D} {gs : G (List D)}
/-- d.get(k): the dict stands while k is read -/
def gDGt1 (go gi : G D) : G D := fun ρ S q => go ρ S fun o S1 => (∃ ks' ds', dicOf S1 o = some (ks', ds')) ∧ gi ρ S1 fun x S2 => ∃ ks ds k, dicOf S2 o = some (ks, ds) ∧ toKey x = some k ∧ q ((dget k ks ds).getD .non) S2
def gDGt2 (go gi gf : G D) : G D := fun ρ S q => go ρ S fun o S1 => (∃ ks' ds', dicOf S1 o = some (ks', ds')) ∧ gi ρ S1 fun x S2 => gf ρ S2 fun z S3 => ∃ ks ds k, dicOf S3 o = some (ks, ds) ∧ toKey x = some k ∧ q ((dget k ks ds).getD z) S3
/-- k in d, k not in d -/
def gDIn (neg : Bool) (gi go : G D) : G D := fun ρ S q => gi ρ S fun x S1 => go ρ S1 fun o S2 => ∃ ks ds k, dicOf S2 o = some (ks, ds) ∧ toKey x = some k ∧ q (.bl (xor neg (dget k ks ds).isSome)) S2
/-- {} for keys that are tuples -/
def gDNewT : G D := fun _ S q => q (.loc S.length) (S ++ [some (.dicT [] [])])
def gDIxT (go : G D) (gs : G (List D)) : G D := fun ρ S q => go ρ S fun o S1 => gs ρ S1 fun xs S2 => xs.length ≤ sizeLine ∧ ∃ ks ds k d, dicTOf S2 o = some (ks, ds) ∧ toKeys xs = some k ∧ dgetP k ks ds = some d ∧ q d S2
def gDGt1T (go : G D) (gs : G (List D)) : G D := fun ρ S q => go ρ S fun o S1 => (∃ ks' ds', dicTOf S1 o = some (ks', ds')) ∧ gs ρ S1 fun xs S2 => xs.length ≤ sizeLine ∧ ∃ ks ds k, dicTOf S2 o = some (ks, ds) ∧ toKeys xs = some k ∧ q ((dgetP k ks ds).getD .non) S2
/-- d[(..)] = v -/
def gDSetT (go : G D) (gs : G (List D)) (gv : G D) : GS := fun E ρ S => gv ρ S fun y S1 => go ρ S1 fun o S2 => gs ρ S2 fun xs S3 => xs.length ≤ sizeLine ∧ ∃ n ks ds k, o = .loc n ∧ S3[n]? = some (some (.dicT ks ds)) ∧ toKeys xs = some k ∧ ks.length < sizeLine ∧ E.nx ρ (S3.set n (some (.dicT (kputP k ks) (dputP k y ks ds))))
end
end Dl
namespace Dl
open PySem L2 PySem.Spec PyProof.Rows
def kdrop (k : Key) (ks : List Key) : List Key := ks.filter fun j => decide (j ≠ k)
def ddrop {A : Type} (k : Key) (ks : List Key) (ds : List A) : List A := ((ks.zip ds).filter fun kv => decide (kv.1 ≠ k)).map (·.2)
section
variable {X : Cx} {U : Wi} {pos apos cpos : Pos} {o i f : Expr} {go gi gf : G D}
/-- d.setdefault(k, x) -/
def gDSetd (go gi gf : G D) : G D := fun ρ S q => go ρ S fun o S1 => (∃ ks' ds', dicOf S1 o = some (ks', ds')) ∧ gi ρ S1 fun x S2 => gf ρ S2 fun y S3 => ∃ n ks ds k, o = .loc n ∧ S3[n]? = some (some (.dic ks ds)) ∧ toKey x = some k ∧ ks.length < sizeLine ∧
  (∀ d, dget k ks ds = some d → q d S3) ∧ (dget k ks ds = none → q y (S3.set n (some (.dic (kput k ks) (dput k y ks ds)))))
/-- d.pop(k), d.pop(k, x) -/
def gDPop1 (go gi : G D) : G D := fun ρ S q => go ρ S fun o S1 => (∃ ks' ds', dicOf S1 o = some (ks', ds')) ∧ gi ρ S1 fun x S2 => ∃ n ks ds k d, o = .loc n ∧ S2[n]? = some (some (.dic ks ds)) ∧ toKey x = some k ∧ dget k ks ds = some d ∧ q d (S2.set n (some (.dic (kdrop k ks) (ddrop k ks ds))))
def gDPop2 (go gi gf : G D) : G D := fun ρ S q => go ρ S fun o S1 => (∃ ks' ds', dicOf S1 o = some (ks', ds')) ∧ gi ρ S1 fun x S2 => gf ρ S2 fun y S3 => ∃ n ks ds k, o = .loc n ∧ S3[n]? = some (some (.dic ks ds)) ∧ toKey x = some k ∧
  (∀ d, dget k ks ds = some d → q d (S3.set n (some (.dic (kdrop k ks) (ddrop k ks ds))))) ∧ (dget k ks ds = none → q y S3)
end
structure KTt (K : PySem.W.Frag) (a : Addr) (xs : List Str) : Prop where
  ex : ∃ (o : Obj) (its : Array Value) (n : Nat), K.lookup a = some o ∧ o.cls = .type "tuple" ∧ o.dict = none ∧ o.data = .seq its n ∧ its.size ≤ sizeLine ∧ Vals (xs.map V.str) its.toList
theorem reps_strs {K : PySem.W.Frag} {m : Nat → Addr} {N : Nat} {Hv : Hp} (xs : List Str) : Reps K m N Hv (xs.map D.str) (xs.map V.str) := Reps.ofStrs xs
theorem KTt.tup {K : PySem.W.Frag} {a : Addr} {xs : List Str} (h : KTt K a xs) : KTup K (xs.map .str) a := ⟨fun m N Hv => by
  obtain ⟨o, its, n, h1, h2, h3, h4, h5, h6⟩ := h.ex
  rw [Rep]
  exact ⟨a, xs.map V.str, rfl, .inr ⟨o, its, n, h1, h2, h4, h5, h6⟩, reps_strs xs⟩⟩
def gTIdx (xs : List Str) (gs : G (List D)) : G D := fun ρ S q => gs ρ S fun as S2 => ∃ (x : Str) (j : Nat), as = [.str x] ∧ xs[j]? = some x ∧ (∀ m, m < j → xs[m]? ≠ some x) ∧ q (.int (j : Nat)) S2
/-- {k: v, ..}, the dict live -/
def gDisp (ks : List Key) (gs : G (List D)) : G D := fun ρ S q => gs ρ (S ++ [some (.dic [] [])]) fun ds S2 => S2[S.length]? = some (some (.dic [] [])) ∧ q (.loc S.length) (S2.set S.length (some (.dic ks ds)))
def gLKeys (fz : Bool) (go : G D) : G D := fun ρ S q => go ρ S fun o S1 => ∃ ks ds, dicOf S1 o = some (ks, ds) ∧ newL fz (ks.map kD) S1 q
end Dl
namespace Dl
open PySem L2 PySem.Calls PySem.Spec PyProof.Rows
open PySem.SeqAt
open AutoSeq1 (wpAny_loadPart')
open MeetsSeq
def D.bk : D → Option String
  | .non => some "NoneType"
  | .bl _ => some "bool"
  | .int _ => some "int"
  | .str _ => some "str"
  | .tup _ => some "tuple"
  | .lst _ => some "list"
  | .dic _ _ => some "dict"
  | _ => none
structure EqE where
  C : Addr
  k : Nat
  dsp : DSp
end Dl
namespace Dl
open PySem L2 PySem.Calls PySem.Spec PyProof.Rows
open PySem.SeqAt
open AutoSeq1 (wpAny_loadPart')
open MeetsSeq MeetsSeq2 SeqRoads2
end Dl
namespace Dl
open PySem L2 PySem.Calls PySem.Spec PyProof.Rows
structure StOk (X : Cx) (nm : Str) (c : EqE) : Prop where
  f : ∃ (qual : Str) (st : Stmt) (dvs : List V) (ps : List Str), MFn X.prog X.w X.K X.mg X.base c.C nm qual st dvs c.k ps c.dsp ∧ Bnd nm qual st ps 1 [] [.p 0] dvs.length
def StsOk (X : Cx) (nm : Str) (cs : List EqE) : Prop := ∀ c ∈ cs, StOk X nm c
theorem sts_nil {X : Cx} {nm : Str} : StsOk X nm [] := fun c h => by cases h
theorem sts_cons {X : Cx} {nm : Str} {c : EqE} {cs : List EqE} (h : StOk X nm c) (hs : StsOk X nm cs) : StsOk X nm (c :: cs) := fun d hd => by
  rcases List.mem_cons.mp hd with rfl | hd
  · exact h
  · exact hs d hd
section
variable {X : Cx} {cs : List EqE} {n : Nat} {nm : Str}
def aStA (cs : List EqE) (n : Nat) : R1D := fun a S q => ∃ c ks ds, c ∈ cs ∧ c.k ≤ n ∧ objOf S a = some (c.C, ks, ds) ∧ c.dsp [a] S fun d S' => ∃ x, d = .str x ∧ q (.str x) S'
def rStA (X : Cx) (cs : List EqE) (n : Nat) : List V → Hp → VK → Prop := fun vs H Q => ∃ c a dx fs, c ∈ cs ∧ c.k ≤ n ∧ vs = [.ref a] ∧ H a = some (.ins c.C dx fs) ∧ spOf X.K c.dsp [.ref a] H (fun v H' => ∃ x, v = .str x ∧ Q (.str x) H') fun _ _ _ => False
theorem vr_stA : VRN X.K (rStA X cs n) (a1 (aStA cs n)) := vrn1 fun {_ m S Z H d v q Q} w r ⟨c, ks, ds, hc, hk, h1, h2⟩ kk => by
  obtain ⟨x, dx, vs, ev, hx, _, _⟩ := objOf_rep w r h1
  subst ev
  refine ⟨c, x, dx, _, hc, hk, rfl, hx, m, S, Z, [d], _, w.w0, Reps.one r, h2, fun v1 H1 m1 d1 S1 e1 w1 rr ⟨y, en, hq⟩ => ?_⟩
  subst en
  have rr' := rr
  rw [rD, Rep] at rr'
  exact ⟨y, rr', kk.at e1 (w.on e1 w1.toWd0) rep_str hq⟩
/-- the method run, below the running body -/
theorem st_run (hcs : StsOk X nm cs) {c : EqE} (hc : c ∈ cs) (hk : c.k ≤ n) {A : Around} (sb : SubG X n A) {pins : List (Addr × Obj)} {σ : L2.St} {H : Hp} {s : Shared} {a dx : Addr} {fs : List (Str × V)} {Q : VK} (I : L2.Inv X pins σ H s) (hx : H a = some (.ins c.C dx fs))
    (h : spOf X.K c.dsp [.ref a] H (fun v H' => ∃ x, v = .str x ∧ Q (.str x) H') fun _ _ _ => False) :
    ∃ ox od f, PySem.W.InstAt s.heap a ox c.C od ∧ PySem.W.findIn X.K (.ref c.C) nm = some (some (.ref f)) ∧ PySem.W.isFn X.K (.ref f) = true ∧
      ∀ s2, L2.Inv X pins σ H s2 → wpAny (model X.prog X.w) A (call (.ref f) [.ref a]) (PySem.W.StrBack (EP X pins σ Q)) X.xe s2 := by
  obtain ⟨qual, st, dvs, ps, F, b⟩ := (hcs c hc).f
  obtain ⟨f, fd, FS, hm, FO⟩ := F.ex
  obtain ⟨its, KB⟩ := kbn_of FS b
  obtain ⟨mA, J, _⟩ := ins_get I.hok hx
  obtain ⟨od, J, _⟩ := J.look
  have r2 : Vals [V.ref a] [Value.ref a] := .cons rfl .nil
  refine ⟨_, _, f, J, hm.at_, hm.fn, fun s2 I2 => ?_⟩
  refine wpAny_mono (run_at FO (sb.mono hk) KB I2 r2 rfl (Q := fun v H' => ∃ x, v = .str x ∧ Q (.str x) H') (by simpa [gat, pick] using h)) (fun w' s' hq => ?_) fun _ _ z => z
  obtain ⟨z, H', I', rz, y, ez, q⟩ := hq
  subst ez
  obtain ⟨t, rfl⟩ := rz
  exact ⟨.str y, H', I', ⟨t, rfl⟩, q⟩
theorem cr_strA (hcs : StsOk X "__str__" cs) (hr : RoomG (n + 2) X.A) : CallR X (.type "str") (rStA X cs n) := by
  intro pins s σ H vs us Q I r ⟨c, a, dx, fs, hc, hk, e, hx, h⟩
  subst e
  obtain ⟨u, rfl, ru⟩ := vals1 r
  obtain rfl : u = Value.ref a := ru
  obtain ⟨ox, od, f, J, hs, hf, run⟩ := st_run hcs hc hk (⟨hr.in1.in1, rfl⟩ : SubG X n X.A.in1.in1) I hx h
  exact PySem.W.kso_call hr.in1.in1.units0 I.kIn J hs hf (run s I)
/-- f"{text!r}" -/
def gFmtR (ge : G D) : G D := fun ρ S q => ge ρ S fun d S1 => match d with
  | .str y => (reprText y).length ≤ sizeLine ∧ q (.str (reprText y)) S1
  | .int i => i.natAbs.log2 < 1920 ∧ q (.str (showI i)) S1
  | _ => False
end
structure NoBool (K : PySem.W.Frag) (C : Addr) : Prop where
  nb : PySem.W.findIn K (.ref C) "__bool__" = some none
section
variable {prog : Program} {w : World} {A : Around} {E : Value → Shared → Prop} {s : Shared} {K : PySem.W.Frag}
theorem truthy_len {x C f : Addr} {ox : Obj} {od : Option Obj} {Q : Bool → Shared → Prop} (X : K.In s.heap) (I : PySem.W.InstAt s.heap x ox C od) (hb : PySem.W.findIn K (.ref C) "__bool__" = some none) (hs : PySem.W.findIn K (.ref C) "__len__" = some (some (.ref f))) (hf : PySem.W.isFn K (.ref f) = true)
    (h : wpAny (model prog w) A.in1 (call (.ref f) [.ref x]) (PySem.W.LenBack fun v s' => ∃ (n : Int) (t : Tok), v = .int n t ∧ Q (n != 0) s') E s) : wpAny (model prog w) A (truthy (.ref x)) Q E s := by
  unfold truthy
  refine wpAny_bind (m := callSpecial? (.ref x) (Str.ofString "__bool__")) (wpAny_bind (wpAny_bind (I.type.here ((PySem.W.looks_findIn X hb).here (wpAny_pure ?_)))))
  refine wpAny_bind (wpAny_bind (I.type.here ((PySem.W.looks_findIn X hs).here ?_)))
  have key : wpAny (model prog w) A (runValue (.builtin "len" ⟨[.ref x], []⟩)) (fun v s' => ∃ (n : Int) (t : Tok), v = .int n t ∧ Q (n != 0) s') E s := by
    refine wpAny_runValue (codeAny_builtin PySem.entry_len ?_)
    rw [Around.under_plainId PySem.plain_len _]
    unfold Builtin.«len»
    refine wpAny_bind (m := oneArg "len" _) (wpAny_pure ?_)
    refine wpAny_bind (m := callSpecial? (.ref x) (Str.ofString "__len__")) (PySem.W.special_fn X I hs (beq_iff_eq.mp hf) (wpAny_mono h (fun r s' hr => ?_) fun _ _ y => y))
    cases r <;> first | exact hr.elim | skip
    rename_i n u
    obtain ⟨⟨h0, h1⟩, hq⟩ := hr
    refine wpAny_bind (wpAny_holding (wpAny_pure ?_))
    refine wpAny_bind (wpAny_letGo ?_)
    show wpAny _ _ (if n < 0 then _ else _) _ _ _
    rw [if_neg (by omega)]
    show wpAny _ _ (if n ≥ 2 ^ 63 then _ else _) _ _ _
    rw [if_neg (by omega)]
    obtain ⟨m, tt, e, hq⟩ := hq
    cases e
    exact wpAny_bind (wpAny_mkInt (wpAny_pure ⟨_, _, rfl, hq⟩))
  refine wpAny_bind (wpAny_mono key (fun v s' hv => ?_) fun _ _ e => e)
  obtain ⟨n, t, rfl, hq⟩ := hv
  exact wpAny_pure hq
end
section
variable {X : Cx} {C : Addr} {qual : Str} {st : Stmt} {dvs : List V} {k : Nat} {ps : List Str} {dsp : DSp}
/-- the truth, somewhere below the running body -/
theorem truth_own (N : NoBool X.K C) (F : MFn X.prog X.w X.K X.mg X.base C "__len__" qual st dvs k ps dsp) (b : Bnd "__len__" qual st ps 1 [] [.p 0] dvs.length) {A : Around} (sb : SubG X (k + 1) A) {pins : List (Addr × Obj)} {σ : L2.St} {H : Hp} {s : Shared} {Q : Bool → Hp → Prop} {a dx : Addr} {fs : List (Str × V)} (I : L2.Inv X pins σ H s) (ha : H a = some (.ins C dx fs))
    (h : spOf X.K dsp [.ref a] H (fun v H' => ∃ n : Int, v = .int n ∧ 0 ≤ n ∧ n < 2 ^ 63 ∧ Q (n != 0) H') fun _ _ _ => False) : wpAny (model X.prog X.w) A (truthy (.ref a)) (fun b s' => ∃ H', L2.Inv X pins σ H' s' ∧ Q b H') X.xe s := by
  obtain ⟨f, fd, FS, hm, FO⟩ := F.ex
  obtain ⟨its, KB⟩ := kbn_of FS b
  obtain ⟨mA, J, _⟩ := ins_get I.hok ha
  obtain ⟨od, J, _⟩ := J.look
  refine truthy_len I.kIn J N.nb hm.at_ hm.fn ?_
  have r2 : Vals [V.ref a] [Value.ref a] := .cons rfl .nil
  refine wpAny_mono (run_at FO sb.in1 KB I r2 rfl (Q := fun v H' => ∃ n : Int, v = .int n ∧ 0 ≤ n ∧ n < 2 ^ 63 ∧ Q (n != 0) H') (by simpa [gat, pick] using h)) (fun w' s' hq => ?_) fun _ _ z => z
  obtain ⟨z, H', I', rz, n, ez, h0, h1, q⟩ := hq
  subst ez
  obtain ⟨t, rfl⟩ := rz
  exact ⟨⟨h0, h1⟩, n, _, rfl, H', I'.tok _, q⟩
end
def aFmtR : R1D := fun d S1 q => match d with
  | .str y => (reprText y).length ≤ sizeLine ∧ q (.str (reprText y)) S1
  | .int i => i.natAbs.log2 < 1920 ∧ q (.str (showI i)) S1
  | _ => False
theorem x_fmtRS {ge : G D} {ρ : Env_} {S : Sto} {q : D → Sto → Prop} : gFmtR ge ρ S q = ge ρ S fun d S1 => aFmtR d S1 q := rfl
theorem x_afRS {x : Str} {S : Sto} {q : D → Sto → Prop} : aFmtR (.str x) S q ↔ (reprText x).length ≤ sizeLine ∧ q (.str (reprText x)) S := Iff.rfl
theorem x_afRI {i : Int} {S : Sto} {q : D → Sto → Prop} : aFmtR (.int i) S q ↔ i.natAbs.log2 < 1920 ∧ q (.str (showI i)) S := Iff.rfl
/-- str(own), one class -/
theorem x_stO {C : Addr} {k n : Nat} {dsp : DSp} {ks : List Str} {ds : List D} {S : Sto} {q : D → Sto → Prop} : aStA [⟨C, k, dsp⟩] n (.obj C ks ds) S q ↔ k ≤ n ∧ dsp [.obj C ks ds] S fun d S' => ∃ x, d = .str x ∧ q (.str x) S' := by
  constructor
  · rintro ⟨c, ks', ds', hc, hk, e, h⟩
    rw [List.mem_singleton] at hc
    subst hc
    exact ⟨hk, h⟩
  · exact fun ⟨hk, h⟩ => ⟨_, ks, ds, List.mem_singleton.mpr rfl, hk, rfl, h⟩
end Dl
namespace Dl
open PySem L2
section
variable {X : Cx} {C : Addr} {qual : Str} {st : Stmt} {dvs : List V} {k : Nat} {ps : List Str} {dsp : DSp}
def rNotO (C : Addr) (sp : Sp) : V → Hp → VK → Prop := fun v H Q => ∃ a dx fs, v = .ref a ∧ H a = some (.ins C dx fs) ∧ sp [.ref a] H (fun v H' => ∃ n : Int, v = .int n ∧ 0 ≤ n ∧ n < 2 ^ 63 ∧ Q (.bl (!(n != 0))) H') fun _ _ _ => False
def aNotO (C : Addr) (dsp : DSp) : R1D := fun a S q => (∃ ks ds, objOf S a = some (C, ks, ds)) ∧ dsp [a] S fun d S' => ∃ n : Int, d = .int n ∧ 0 ≤ n ∧ n < 2 ^ 63 ∧ q (.bl (!(n != 0))) S'
theorem vr_notO {K : PySem.W.Frag} : VR1 K (rNotO C (spOf K dsp)) (aNotO C dsp) := fun {_ m S Z H d v q Q} w r ⟨⟨ks, ds, h1⟩, h2⟩ kk => by
  obtain ⟨x, dx, vs, ev, hx, _, _⟩ := objOf_rep w r h1
  subst ev
  refine ⟨x, dx, _, rfl, hx, m, S, Z, [d], _, w.w0, Reps.one r, h2, fun v1 H1 m1 d1 S1 e1 w1 rr ⟨n, en, h3, h4, hq⟩ => ?_⟩
  subst en
  have rr' := rr
  rw [rD, Rep] at rr'
  exact ⟨n, rr', h3, h4, kk.at e1 (w.on e1 w1.toWd0) rep_bl hq⟩
theorem un_notO (N : NoBool X.K C) (F : MFn X.prog X.w X.K X.mg X.base C "__len__" qual st dvs k ps dsp) (hr : RoomG (k + 3) X.A) (b : Bnd "__len__" qual st ps 1 [] [.p 0] dvs.length) : UnR X (unaryOp .Not) (rNotO C (spOf X.K dsp)) := by
  intro pins s σ H v u Q I r h
  obtain ⟨a, dx, fs, rfl, ha, hsp⟩ := h
  obtain rfl : u = Value.ref a := r
  refine PyProof.Rows.not_of ?_
  refine wpAny_mono (truth_own (Q := fun b H' => Q (.bl (!b)) H') N F b (⟨hr.mono (by omega), rfl⟩ : SubG X (k + 1) X.A) I ha (by
    obtain ⟨m, S, Z, ds, q, w, rr, hd, kk⟩ := hsp
    exact ⟨m, S, Z, ds, q, w, rr, hd, kk⟩)) (fun b s' hq => ?_) fun _ _ z => z
  obtain ⟨H', I', q⟩ := hq
  exact ⟨.bl (!b), H', I', rfl, q⟩
end
end Dl
namespace Hd
open PySem PySem.Spec PyProof.Rows L2 Dl
abbrev Fq := PySem.W.Frag → Bool
def obsQ (fa : List Fq) (fn : List He.DefD) (K : PySem.W.Frag) : He.AlD := ((fa.all fun f => f K) && fn.all fun d => d.ok K, fn.map fun d => He.fnW K d.at_)
def SaysQ (fa : List Fq) (fn : List He.DefD) (K : PySem.W.Frag) : Prop := obsQ fa fn K = He.valD fn
/-- what the module's names reach in n steps, step by step -/
def goF (g : Addr → Option Obj) : Nat → List Addr → List Addr
  | 0, fr => fr
  | n + 1, fr => fr ++ goF g n (fr.flatMap fun a => match g a with
    | some o => He.refsD o
    | none => [])
def partG (n : Nat) (g : Addr → Option Obj) : PySem.W.Frag := He.frG g (goF g n [mainGlobals])
abbrev Qs := List (List Fq × List He.DefD)
def obsQG (n : Nat) (fa : List Fq) (fn : List He.DefD) (g : Addr → Option Obj) : He.AlD := obsQ fa fn (partG n g)
def obsL (n : Nat) (qs : Qs) (g : Addr → Option Obj) : List He.AlD := qs.map fun q => obsQG n q.1 q.2 g
def valL (qs : Qs) : List He.AlD := qs.map fun q => He.valD q.2
def SaysL (qs : Qs) (K : PySem.W.Frag) : Prop := ∀ q ∈ qs, SaysQ q.1 q.2 K
theorem says_of : ∀ {qs : Qs} {n : Nat} {g : Addr → Option Obj}, obsL n qs g = valL qs → SaysL qs (partG n g)
  | [], _, _, _, q, h => (nomatch h)
  | q0 :: qs, n, g, e, q, h => by
    have e1 : obsQG n q0.1 q0.2 g = He.valD q0.2 := (List.cons.inj e).1
    rcases List.mem_cons.mp h with z | z
    · rw [z]; exact e1
    · exact says_of (List.cons.inj e).2 q z
def hookQ (n : Nat) (qs : Qs) : PySem.W.Hook where
  α := List He.AlD
  obs := fun s => obsL n qs s.heap.get?
  val := fun _ => valL qs
  says := fun _ h => ∃ K : PySem.W.Frag, K.In h ∧ SaysL qs K
  of := fun _ _ e => ⟨_, He.frG_in, says_of e⟩
  keeps := fun _ _ _ ⟨K, hK, c⟩ k => ⟨K, PySem.W.Frag.In.keeps hK k, c⟩
theorem obsL_eq {n : Nat} {qs : Qs} {g : Addr → Option Obj} {s : Shared} (h : ∀ a, g a = s.heap.get? a) : obsL n qs g = (hookQ n qs).obs s := by
  have e : g = s.heap.get? := funext h
  rw [e] <;> rfl
section
open PySem.W PySem.Calls
def Looks (r : OpenRow) (q : Program) (M : Nat) (loose : List PySem.Str) (w : World) : Prop :=
  ∀ os : OsState, (HandSHeadRun.endF (HandSHeadRun.stepQ (HandSHeadRun.denQ HandSHeadRun.tabQ) r.prog w) M r.prog w os).map (fun s => (HandSHeadRun.looksF r.prog (boot_heap w.params) s.abs, HandSHeadRun.seenQ q loose (importedModules r.prog.main.body) (fun s => xlAt q [] s && recOk r.toRowW.records s) s.abs)) = some (true, openGood q loose)
def Obs1 (r : OpenRow) (n : Nat) (fa : List Fq) (fn : List He.DefD) (M : Nat) (w : World) : Prop :=
  ∀ os : OsState, (HandSHeadRun.endF (HandSHeadRun.stepQ (HandSHeadRun.denQ HandSHeadRun.tabQ) r.prog w) M r.prog w os).map (fun s => obsQG n fa fn (HandSHeadRun.getT s)) = some (He.valD fn)
def ObsA (r : OpenRow) (n : Nat) (qs : Qs) (M : Nat) (w : World) : Prop :=
  ∀ os : OsState, (HandSHeadRun.endF (HandSHeadRun.stepQ (HandSHeadRun.denQ HandSHeadRun.tabQ) r.prog w) M r.prog w os).map (fun s => obsL n qs (HandSHeadRun.getT s)) = some (valL qs)
variable {r : OpenRow} {q : Program} {n M : Nat} {loose : List PySem.Str} {w : World} {qs : Qs} {fa : List Fq} {fn : List He.DefD}
theorem obsA_nil (h : Looks r q M loose w) : ObsA r n [] M w := fun os => by
  have := h os
  cases e : HandSHeadRun.endF (HandSHeadRun.stepQ (HandSHeadRun.denQ HandSHeadRun.tabQ) r.prog w) M r.prog w os with
  | none => rw [e] at this; cases this
  | some s => rfl
theorem obsA_cons (h1 : Obs1 r n fa fn M w) (h2 : ObsA r n qs M w) : ObsA r n ((fa, fn) :: qs) M w := fun os => by
  have a := h1 os
  have b := h2 os
  cases e : HandSHeadRun.endF (HandSHeadRun.stepQ (HandSHeadRun.denQ HandSHeadRun.tabQ) r.prog w) M r.prog w os with
  | none => rw [e] at a; cases a
  | some s =>
    rw [e] at a b
    have a2 : obsQG n fa fn (HandSHeadRun.getT s) = He.valD fn := Option.some.inj a
    have b2 : obsL n qs (HandSHeadRun.getT s) = valL qs := Option.some.inj b
    show some (obsQG n fa fn (HandSHeadRun.getT s) :: obsL n qs (HandSHeadRun.getT s)) = some (He.valD fn :: valL qs)
    rw [a2, b2]
theorem runEq_of (h1 : Looks r q M loose w) (h2 : ObsA r n qs M w) : HandSHeadRun.RunEq r q (hookQ n qs) (fun s => obsL n qs (HandSHeadRun.getT s)) M loose w := fun os => by
  have a := h1 os
  have b := h2 os
  cases e : HandSHeadRun.endF (HandSHeadRun.stepQ (HandSHeadRun.denQ HandSHeadRun.tabQ) r.prog w) M r.prog w os with
  | none => rw [e] at a; cases a
  | some s =>
    rw [e] at a b
    have a2 := Option.some.inj a
    have b2 : obsL n qs (HandSHeadRun.getT s) = valL qs := Option.some.inj b
    obtain ⟨a3, a4⟩ := Prod.mk.injEq .. ▸ a2
    show some (HandSHeadRun.looksF r.prog (boot_heap w.params) s.abs, HandSHeadRun.seenQ q loose (importedModules r.prog.main.body) (fun s => xlAt q [] s && recOk r.toRowW.records s) s.abs, obsL n qs (HandSHeadRun.getT s)) = some (true, openGood q loose, valL qs)
    rw [a3, a4, b2]
end
section
variable {fa : List Fq} {fn : List He.DefD} {K : PySem.W.Frag}
theorem SaysQ.fact (c : SaysQ fa fn K) (i : Nat) {f : Fq} (h : fa[i]? = some f) : f K = true := by
  have c1 := (He.ba (show ((fa.all fun f => f K) && fn.all fun d => d.ok K) = true from congrArg (fun z : He.AlD => z.1) c)).1
  exact List.all_eq_true.mp c1 f (List.mem_of_getElem? h)
theorem SaysQ.def_ (c : SaysQ fa fn K) (i : Nat) {d : He.DefD} (h : fn[i]? = some d) : ∃ fd, FunD K d.name d.qual d.params d.body d.scope (d.dvs K) (d.kws K) (He.fAd K d.at_) fd := by
  have c2 := (He.ba (show ((fa.all fun f => f K) && fn.all fun d => d.ok K) = true from congrArg (fun z : He.AlD => z.1) c)).2
  have e : fn.map (fun d => He.fnW K d.at_) = fn.map He.DefD.val := congrArg (fun z : He.AlD => z.2) c
  have e2 : (fn.map fun d => He.fnW K d.at_)[i]? = (fn.map He.DefD.val)[i]? := by rw [e]
  rw [List.getElem?_map, List.getElem?_map, h] at e2
  exact He.DefD.funD (Option.some.inj e2) (List.all_eq_true.mp c2 d (List.mem_of_getElem? h))
end
/-- a constant tuple of texts -/
def kttB (K : PySem.W.Frag) (a : Addr) (xs : List Str) : Bool := match K.lookup a with
  | some ⟨.type c, none, .seq its _, _⟩ => decide (c = "tuple") && (decide (its.size ≤ sizeLine) && He.relAll (xs.map V.str) its.toList)
  | _ => false
theorem kttB_ok {K : PySem.W.Frag} {a : Addr} {xs : List Str} (h : kttB K a xs = true) : ∃ (o : Obj) (its : Array Value) (n : Nat), K.lookup a = some o ∧ o.cls = .type "tuple" ∧ o.dict = none ∧ o.data = .seq its n ∧ its.size ≤ sizeLine ∧ Vals (xs.map V.str) its.toList := by
  unfold kttB at h
  split at h
  · rename_i c its n sl q
    obtain ⟨h1, h⟩ := He.ba h
    obtain ⟨h2, h3⟩ := He.ba h
    have e1 : c = "tuple" := of_decide_eq_true h1
    subst e1
    exact ⟨_, its, n, q, rfl, rfl, rfl, of_decide_eq_true h2, He.relAll_ok h3⟩
  · cases h
theorem walk_ofQ {l : PySem.W.OpenLaw} {n k : Nat} {q : Program} {loose : List Str} {XP : (Str → Option Value) → Heap → Prop} {YP : World → Heap → Prop} {d : DefRec} {x : Str} {sp : PySem.W.Frag → Sp}
    (hn : l.most = some n) (hn2 : n ≤ sizeLine) (hdf : d.params.defaults = []) (room : Room k callerA)
    (F : ∀ (w : World) (mg : Str → Option Value) (fa : Addr) (h : Heap), YP w h → h.Ns mainGlobals mg → mg d.name = some (.ref fa) →
      ∃ (K : PySem.W.Frag) (fd : FuncData), K.In h ∧ (∀ (s : Shared) (u : Value), BindsTo s fd ⟨[u], []⟩ [(x, u)]) ∧ ∀ base : Heap, K.In base → base.Ns mainGlobals mg → FnG l.prog w K mg base CX0 k fa fd [x] (sp K))
    (hsp : ∀ (K : PySem.W.Frag) (H : Hp) (a : Addr) (ns : List Int), ns.length ≤ n → Only H → SqL K H a (ns.map V.int) → sp K [.ref a] H (fun v _ => v = .bl true) fun _ _ _ => False) : PySem.W.WalkO q loose XP YP l.row.toRowW d [] (fun f vs => PySem.call f vs) := by
  refine Att.attach_call hn hdf fun w s₀ s₁ mg mb fa o pm cd doc a vs ns G Y ho hd hcd hmg hobj hints hlen hg => ?_
  obtain ⟨K, fd, KX, hb, hF⟩ := F w mg fa _ Y G.T.g hmg
  exact law_callG KX G.T.g G.T.b G.T.builtins G.T.nolimit hg hobj hints (Nat.le_trans hlen hn2) room hF hb (fun H o q => hsp K H a ns hlen o q) fun H e s' z => z
end Hd
namespace Mt
open PySem L2 Dl
/-- two figures of a number -/
def tw (n : Nat) : Str := ⟨#[48 + n / 10, 48 + n % 10]⟩
theorem tw_zfill : ∀ n, n < 60 → Txt.zfill (showI (n : Nat)) 2 = tw n := by decide +kernel
def figs (x : Str) : Bool := !(x == Str.empty) && x.cps.toList.all fun c => decide (48 ≤ c) && decide (c ≤ 57)
theorem day_figs : ∀ n, n < 700 → figs (showI (n : Nat)) = true := by decide +kernel
theorem day_len : ∀ n, n < 700 → (showI (n : Nat)).length ≤ 3 ∧ 0 < (showI (n : Nat)).length := by decide +kernel
theorem rpart_none {a : List Nat} {c : Nat} (h : c ∉ a) : rpartS ⟨a.toArray⟩ ⟨#[c]⟩ = (Str.empty, Str.empty, ⟨a.toArray⟩) := by
  unfold rpartS
  rcases StrLaws.last_spec ⟨a.toArray⟩ ⟨#[c]⟩ with ⟨e, _⟩ | ⟨i, e, hA, _⟩
  · rw [e]
  · have h1 := (StrLaws.subAt_one ⟨a.toArray⟩ c i).mp hA
    exact absurd (List.mem_of_getElem? h1) h
theorem rpart_one {a b : List Nat} {c : Nat} (h : c ∉ b) : rpartS ⟨(a ++ c :: b).toArray⟩ ⟨#[c]⟩ = (⟨a.toArray⟩, ⟨#[c]⟩, ⟨b.toArray⟩) := by
  have key : Builtin.Str.lastOccurrence ⟨(a ++ c :: b).toArray⟩ ⟨#[c]⟩ 0 (⟨(a ++ c :: b).toArray⟩ : Str).length = some a.length := by
    have h0 : StrLaws.At ⟨(a ++ c :: b).toArray⟩ ⟨#[c]⟩ (⟨(a ++ c :: b).toArray⟩ : Str).length a.length := (StrLaws.subAt_one _ c _).mpr (by simp)
    rcases StrLaws.last_spec ⟨(a ++ c :: b).toArray⟩ ⟨#[c]⟩ with ⟨e, hn⟩ | ⟨i, e, hA, hl⟩
    · exact absurd h0 (hn _)
    · rw [e]
      have h1 := (StrLaws.subAt_one _ c i).mp hA
      rcases Nat.lt_trichotomy i a.length with hi | hi | hi
      · exact absurd h0 (hl _ hi)
      · rw [hi]
      · refine absurd ?_ h
        simp only [List.getElem?_append_right (Nat.le_of_lt hi)] at h1
        obtain ⟨j, hj⟩ : ∃ j, i - a.length = j + 1 := ⟨i - a.length - 1, by omega⟩
        rw [hj, List.getElem?_cons_succ] at h1
        exact List.mem_of_getElem? h1
  unfold rpartS
  rw [key]
  have e1 : (⟨#[c]⟩ : Str).length = 1 := rfl
  have e2 : (⟨(a ++ c :: b).toArray⟩ : Str).length = a.length + (b.length + 1) := by show (a ++ c :: b).toArray.size = _; simp
  refine Prod.ext ?_ (Prod.ext rfl ?_)
  · show Builtin.Str.strSub _ 0 a.length = _
    refine congrArg Str.mk ?_
    apply Array.toList_inj.mp
    have := StrLaws.strSub_toList ⟨(a ++ c :: b).toArray⟩ 0 a.length
    rw [show (Builtin.Str.strSub ⟨(a ++ c :: b).toArray⟩ 0 a.length).cps = (a ++ c :: b).toArray.extract 0 a.length from rfl] at this
    rw [this]; simp
  · show Builtin.Str.strSub _ (a.length + _) _ = _
    rw [e1, e2]
    refine congrArg Str.mk ?_
    apply Array.toList_inj.mp
    have := StrLaws.strSub_toList ⟨(a ++ c :: b).toArray⟩ (a.length + 1) (a.length + (b.length + 1))
    rw [show (Builtin.Str.strSub ⟨(a ++ c :: b).toArray⟩ (a.length + 1) (a.length + (b.length + 1))).cps = (a ++ c :: b).toArray.extract (a.length + 1) (a.length + (b.length + 1)) from rfl] at this
    rw [this]; simp
    exact List.take_of_length_le (by omega)
def hm (h m : Nat) : Str := ⟨#[48 + h / 10, 48 + h % 10, 58, 48 + m / 10, 48 + m % 10]⟩
def plus : Str := (("+" : String) : Str)
/-- a minute as the text shows it -/
def T (w : Nat) : Str := if w < 1440 then hm (w / 60) (w % 60) else hm (w % 1440 / 60) (w % 60) ++ (plus ++ showI (w / 1440 : Nat))
theorem plus_eq : plus = ⟨#[43]⟩ := by decide +kernel
theorem hm_free {h m : Nat} (h1 : h < 60) (h2 : m < 60) : 43 ∉ [48 + h / 10, 48 + h % 10, 58, 48 + m / 10, 48 + m % 10] := by
  simp only [List.mem_cons, List.not_mem_nil, or_false]; omega
theorem rp_hm {h m : Nat} (h1 : h < 60) (h2 : m < 60) : rpartS (hm h m) plus = (Str.empty, Str.empty, hm h m) := by
  rw [plus_eq]; exact rpart_none (hm_free h1 h2)
theorem figs_free {x : Str} {c : Nat} (h : figs x = true) (hc : c < 48) : c ∉ x.cps.toList := fun hm => by
  unfold figs at h
  rw [Bool.and_eq_true, List.all_eq_true] at h
  have := h.2 c hm
  simp at this; omega
theorem rp_day {h m d : Nat} (hd : d < 700) : rpartS (hm h m ++ (plus ++ showI (d : Nat))) plus = (hm h m, plus, showI (d : Nat)) := by
  have e : hm h m ++ (plus ++ showI (d : Nat)) = ⟨([48 + h / 10, 48 + h % 10, 58, 48 + m / 10, 48 + m % 10] ++ 43 :: (showI (d : Nat)).cps.toList).toArray⟩ := by
    rw [plus_eq]
    refine congrArg Str.mk ?_
    apply Array.toList_inj.mp
    show ((#[48 + h / 10, 48 + h % 10, 58, 48 + m / 10, 48 + m % 10] : Array Nat) ++ (#[43] ++ (showI (d : Nat)).cps)).toList = _
    simp
  rw [e, plus_eq, rpart_one (figs_free (day_figs d hd) (by decide))]
  rfl
theorem T_len {w : Nat} (h : w ≤ 1000000) : (T w).length ≤ 10 := by
  unfold T
  split
  · exact Nat.le_trans (show (5 : Nat) ≤ 10 by decide) (Nat.le_refl _)
  · have := (day_len (w / 1440) (by omega)).1
    show ((hm (w % 1440 / 60) (w % 60)).cps ++ (plus.cps ++ (showI (w / 1440 : Nat)).cps)).size ≤ 10
    have e : (plus.cps).size = 1 := by decide +kernel
    have e2 : (hm (w % 1440 / 60) (w % 60)).cps.size = 5 := rfl
    have e3 : (showI (w / 1440 : Nat)).cps.size ≤ 3 := this
    rw [Array.size_append, Array.size_append, e, e2]
    omega
theorem log2_small {i : Int} (h0 : 0 ≤ i) (h : i < 2 ^ 64) : i.natAbs.log2 < 1920 := by
  have h1 : i.natAbs < 2 ^ 64 := by omega
  by_cases hz : i.natAbs = 0
  · rw [hz]; decide
  · have := (Nat.log2_lt hz).mpr h1
    omega
theorem show_len10 {i : Int} (h0 : 0 ≤ i) (h : i < 10 ^ 10) : (showI i).length ≤ 10 := PyProof.Rows.toString_length_le h0 (by decide) h
end Mt
namespace Mt
open PySem L2 Dl
def Tp (B : Int) (o : Option MO) : Prop := ∃ (ns : List Int) (t r : Int), o = some (.lst [.lst (ns.map .int), .int t, .int r]) ∧ 0 ≤ t ∧ t ≤ B ∧ 0 ≤ r
theorem Tp.mono {B B' : Int} {o : Option MO} (h : Tp B o) (l : B ≤ B') : Tp B' o := by
  obtain ⟨ns, t, r, e, h1, h2, h3⟩ := h
  exact ⟨ns, t, r, e, h1, by omega, h3⟩
/-- a def that draws at most k times -/
def tk (k : Int) (args : List D) (R : D → Prop) : DSp := fun ds S q => ∃ o R0 B, ds = .loc 0 :: args ∧ S = o :: R0 ∧ Tp B o ∧ B + k ≤ 10 ^ 12 ∧ ∀ d o', R d → Tp (B + k) o' → q d (o' :: R0)
theorem tk_in {k B : Int} {args : List D} {R : D → Prop} {o : Option MO} {R0 : Sto} {q : D → Sto → Prop} (h : Tp B o) (hb : B + k ≤ 10 ^ 12) (hq : ∀ d o', R d → Tp (B + k) o' → q d (o' :: R0)) : tk k args R (.loc 0 :: args) (o :: R0) q :=
  ⟨o, R0, B, rfl, rfl, h, hb, hq⟩
theorem tk_len {k : Int} {args : List D} {R : D → Prop} {ds : List D} {S : Sto} {q : D → Sto → Prop} {n : Nat} (hn : args.length + 1 = n) (h : tk k args R ds S q) : ds.length = n := by
  obtain ⟨o, R0, B, e, _⟩ := h
  rw [e, ← hn]; rfl
def intIn (lo hi : Int) : D → Prop := fun d => ∃ x, d = .int x ∧ lo ≤ x ∧ x < hi
def draw : DSp := fun ds S q => ∃ many, 0 < many ∧ many < 1073741824 ∧ tk 1 [.int many] (intIn 0 many) ds S q
theorem draw_in {many B : Int} {o : Option MO} {R0 : Sto} {q : D → Sto → Prop} (h1 : 0 < many) (h2 : many < 1073741824) (h : Tp B o) (hb : B + 1 ≤ 10 ^ 12) (hq : ∀ x o', 0 ≤ x → x < many → Tp (B + 1) o' → q (.int x) (o' :: R0)) :
    draw [.loc 0, .int many] (o :: R0) q := ⟨many, h1, h2, tk_in h hb fun d o' ⟨x, e, h3, h4⟩ t => by subst e; exact hq x o' h3 h4 t⟩
def sOk (x : Str) : Prop := x.length ≤ sizeLine ∧ PyData.strOk x = true
def figures : DSp := fun ds S q => ∃ x, ds = [.str x] ∧ sOk x ∧ q (.bl (figs x)) S
def val (x : Str) : Int := (PySem.NumText.digitsVal x.cps.toList : Nat)
def optD : Option Int → D
  | some i => .int i
  | none => .non
/-- the first sign -/
def sgn (x : Str) (i : Nat) : Nat := x.cps.toList.getD i 0
def numI (x : Str) (lo hi : Int) : Option Int := if 9 < x.length then none else if figs x = false then none else if sgn x 0 = 48 ∧ x ≠ (("0" : String) : Str) then none else if lo ≤ val x ∧ val x ≤ hi then some (val x) else none
def number : DSp := fun ds S q => ∃ x lo hi, ds = [.str x, .int lo, .int hi] ∧ sOk x ∧ q (optD (numI x lo hi)) S
def clockI (x : Str) : Option Int := if x.length ≠ 5 then none else if sgn x 2 ≠ 58 then none else if figs (cutS x none (some 2) ++ cutS x (some 3) none) = false then none
  else if val (cutS x none (some 2)) < 24 ∧ val (cutS x (some 3) none) < 60 then some (val (cutS x none (some 2)) * 60 + val (cutS x (some 3) none)) else none
def clock : DSp := fun ds S q => ∃ x, ds = [.str x] ∧ sOk x ∧ q (optD (clockI x)) S
def timeI (x : Str) : Option Int := if (rpartS x plus).2.1 = Str.empty then clockI x else
  match clockI (rpartS x plus).1, numI (rpartS x plus).2.2 1 999999999 with
  | some c, some d => if d * 1440 + c ≤ 1000000 then some (d * 1440 + c) else none
  | _, _ => none
def time : DSp := fun ds S q => ∃ x, ds = [.str x] ∧ sOk x ∧ q (optD (timeI x)) S
def shClock : DSp := fun ds S q => ∃ m : Nat, ds = [.int m] ∧ m < 1440 ∧ q (.str (hm (m / 60) (m % 60))) S
def shTime : DSp := fun ds S q => ∃ m : Nat, ds = [.int m] ∧ m < 10000000000 ∧ q (.str (T m)) S
def tape : DSp := fun ds S q => ∃ ns : List Int, ds = [.ksq (ns.map .int)] ∧ S = [] ∧ q (.loc 0) [some (.lst [.lst ((ns.take 63).map .int), .int 0, .int 0])]
def law : DSp := fun ds S q => ∃ ns : List Int, ds = [.ksq (ns.map .int)] ∧ S = [] ∧ ∀ S', q (.bl true) S'
theorem app3 (x y z : Str) : x ++ y ++ z = x ++ (y ++ z) := congrArg Str.mk (Array.append_assoc ..)
theorem len_app (x y : Str) : (x ++ y).length = x.length + y.length := Array.size_append ..
theorem figs_empty {x : Str} (h : x = Str.empty) : figs x = false := by rw [h]; rfl
theorem figs_all {x : Str} (h : x ≠ Str.empty) : figs x = ((x.cps.toList.map fun c => decide (48 ≤ c) && decide (c ≤ 57)).all id) := by
  unfold figs
  rw [List.all_map, beq_eq_false_iff_ne.mpr h]
  rfl
theorem signs_get {x : Str} {i : Nat} {d : D} (h : (signsD x)[i]? = some d) : ∃ c, d = .str ⟨#[c]⟩ := by
  unfold signsD at h
  rw [List.getElem?_map] at h
  cases hc : x.cps.toList[i]? with
  | none => rw [hc] at h; cases h
  | some c => rw [hc] at h; cases h; exact ⟨c, rfl⟩
theorem dig_in (c : Nat) : decide (c ∈ (Str.ofString "0123456789").cps.toList) = (decide (48 ≤ c) && decide (c ≤ 57)) := by
  rw [show (Str.ofString "0123456789").cps.toList = [48, 49, 50, 51, 52, 53, 54, 55, 56, 57] by decide +kernel]
  rw [← Bool.decide_and]
  refine decide_eq_decide.mpr ?_
  simp only [List.mem_cons, List.not_mem_nil, or_false]
  omega
theorem fm_map {A B : Type} {f : A → Option B} {g : A → B} (h : ∀ a, f a = some (g a)) (l : List A) : l.filterMap f = l.map g := by
  rw [show f = fun a => some (g a) from funext h, List.filterMap_eq_map']
theorem l_tw1 (n : Nat) : (tw n).length + (Str.ofString ":").length ≤ sizeLine := (by decide : 3 ≤ sizeLine)
theorem l_tw2 (n k : Nat) : (tw n ++ Str.ofString ":").length + (tw k).length ≤ sizeLine := (by decide : 5 ≤ sizeLine)
theorem l_hm1 (n k : Nat) : (hm n k).length + (Str.ofString "+").length ≤ sizeLine := (by decide : 6 ≤ sizeLine)
theorem ok_all {x : Str} : PyData.strOk x = true ↔ ∀ c ∈ x.cps.toList, c < 0x110000 := by
  unfold PyData.strOk
  rw [← Array.all_toList, List.all_eq_true]
  simp only [decide_eq_true_eq]
theorem ok_sub {x y : Str} (h : PyData.strOk x = true) (hs : ∀ c ∈ y.cps.toList, c ∈ x.cps.toList) : PyData.strOk y = true := ok_all.mpr fun c hc => ok_all.mp h c (hs c hc)
theorem ok_app {x y : Str} (h : PyData.strOk x = true) (h' : PyData.strOk y = true) : PyData.strOk (x ++ y) = true := ok_all.mpr fun c hc => by
  have hc : c ∈ (x.cps ++ y.cps).toList := hc
  rw [Array.toList_append, List.mem_append] at hc
  exact hc.elim (ok_all.mp h c) (ok_all.mp h' c)
theorem cut_sub {x : Str} {lo hi : Option Int} : ∀ c ∈ (cutS x lo hi).cps.toList, c ∈ x.cps.toList := fun c hc => by
  unfold cutS at hc
  simp only [List.toList_toArray] at hc
  exact List.mem_of_mem_drop (List.mem_of_mem_take hc)
theorem cut_len {x : Str} {lo hi : Option Int} : (cutS x lo hi).length ≤ x.length := by
  unfold cutS Str.length
  rw [List.size_toArray, List.length_take, List.length_drop, Array.length_toList]
  omega
theorem strOk_cut {x : Str} {lo hi : Option Int} (h : PyData.strOk x = true) : PyData.strOk (cutS x lo hi) = true := ok_sub h cut_sub
theorem ok_one {c : Nat} {x : Str} {i : Nat} (h : PyData.strOk x = true) (hc : x.cps.toList[i]? = some c) : PyData.strOk ⟨#[c]⟩ = true := ok_sub h fun d hd => by
  simp only [List.mem_singleton] at hd
  rw [hd]; exact List.mem_of_getElem? hc
theorem figs_iff {x : Str} : figs x = true ↔ x.cps.toList ≠ [] ∧ ∀ c ∈ x.cps.toList, 48 ≤ c ∧ c ≤ 57 := by
  have h0 : x = Str.empty ↔ x.cps.toList = [] := ⟨fun h => by rw [h]; rfl, fun h => congrArg Str.mk (Array.toList_inj.mp h)⟩
  unfold figs
  rw [Bool.and_eq_true, List.all_eq_true, Bool.not_eq_true', beq_eq_false_iff_ne]
  simp only [Bool.and_eq_true, decide_eq_true_eq, ne_eq, h0]
theorem int_val {x : Str} (h0 : x.cps.toList ≠ []) (h : ∀ c ∈ x.cps.toList, 48 ≤ c ∧ c ≤ 57) (hl : x.length ≤ 4300) : PySem.intText? x = some (val x) := PySem.intText_digits h h0 hl
theorem at_of {x : Str} {i : Nat} (h : i < x.length) : ∃ c, x.cps.toList[i]? = some c ∧ sgn x i = c := by
  have h' : i < x.cps.toList.length := by rw [Array.length_toList]; exact h
  exact ⟨x.cps.toList[i], List.getElem?_eq_getElem h', by unfold sgn; rw [List.getD_eq_getElem?_getD, List.getElem?_eq_getElem h']; rfl⟩
theorem one_eq {c k : Nat} : (⟨#[c]⟩ : Str) = ⟨#[k]⟩ ↔ c = k := by
  constructor
  · intro h; cases h; rfl
  · intro h; rw [h]
theorem rp_sub {x y : Str} : (∀ c ∈ (rpartS x y).1.cps.toList, c ∈ x.cps.toList) ∧ (∀ c ∈ (rpartS x y).2.2.cps.toList, c ∈ x.cps.toList) ∧ ((rpartS x y).2.1 = y ∨ (rpartS x y).2.1 = Str.empty) ∧ (rpartS x y).1.length ≤ x.length ∧ (rpartS x y).2.2.length ≤ x.length := by
  unfold rpartS
  cases Builtin.Str.lastOccurrence x y 0 x.length with
  | none => exact ⟨fun c hc => (by cases hc), fun c hc => hc, .inr rfl, Nat.zero_le _, Nat.le_refl _⟩
  | some i =>
    refine ⟨fun c hc => ?_, fun c hc => ?_, .inl rfl, ?_, ?_⟩
    · rw [PySem.StrLaws.strSub_toList] at hc
      exact List.mem_of_mem_drop (List.mem_of_mem_take hc)
    · rw [PySem.StrLaws.strSub_toList] at hc
      exact List.mem_of_mem_drop (List.mem_of_mem_take hc)
    · exact le_strSub x _ _
    · exact le_strSub x _ _
theorem mem_app {x y : Str} {c : Nat} : c ∈ (x ++ y).cps.toList ↔ c ∈ x.cps.toList ∨ c ∈ y.cps.toList := by
  show c ∈ (x.cps ++ y.cps).toList ↔ _
  rw [Array.toList_append, List.mem_append]
theorem cut_two {x : Str} (h : 0 < x.length) : (cutS x none (some 2)).cps.toList ≠ [] := by
  have h' : x.cps.toList.length = x.length := Array.length_toList
  apply List.ne_nil_of_length_pos
  unfold cutS
  have e1 : HT.sIx x.length 0 none = 0 := rfl
  have e2 : HT.sIx x.length x.length (some 2) = min 2 x.length := rfl
  rw [List.toList_toArray, List.length_take, List.length_drop, e1, e2]
  omega
theorem cut_three {x : Str} (h : 3 < x.length) : (cutS x (some 3) none).cps.toList ≠ [] := by
  have h' : x.cps.toList.length = x.length := Array.length_toList
  apply List.ne_nil_of_length_pos
  unfold cutS
  have e1 : HT.sIx x.length 0 (some 3) = min 3 x.length := rfl
  have e2 : HT.sIx x.length x.length none = x.length := rfl
  rw [List.toList_toArray, List.length_take, List.length_drop, e1, e2]
  omega
theorem clock_hm : ∀ h, h < 24 → ∀ m, m < 60 → clockI (hm h m) = some ((h * 60 + m : Nat) : Int) := by decide +kernel
theorem num_day : ∀ d, d < 700 → 0 < d → numI (showI (d : Nat)) 1 999999999 = some ((d : Nat) : Int) := by decide +kernel
theorem time_T {w : Nat} (h : w ≤ 1000000) : timeI (T w) = some (w : Int) := by
  by_cases hd : w < 1440
  · have e : T w = hm (w / 60) (w % 60) := if_pos hd
    have e1 : rpartS (T w) plus = (Str.empty, Str.empty, hm (w / 60) (w % 60)) := by rw [e]; exact rp_hm (by omega) (by omega)
    unfold timeI
    rw [e1, if_pos rfl, e, clock_hm _ (by omega) _ (by omega)]
    exact congrArg some (by omega)
  · have e : T w = hm (w % 1440 / 60) (w % 60) ++ (plus ++ showI (w / 1440 : Nat)) := if_neg hd
    have e1 : rpartS (T w) plus = (hm (w % 1440 / 60) (w % 60), plus, showI (w / 1440 : Nat)) := by rw [e]; exact rp_day (by omega)
    unfold timeI
    have hne : ¬ ((hm (w % 1440 / 60) (w % 60), plus, showI (w / 1440 : Nat)).2.1 = Str.empty) := (by decide +kernel : ¬ plus = Str.empty)
    rw [e1, if_neg hne, clock_hm _ (by omega) _ (by omega), num_day _ (by omega) (by omega)]
    dsimp only
    rw [if_pos (by omega)]
    exact congrArg some (by omega)
theorem ten15 : (10 : Int) ^ 12 = 1000000000000 := by decide
/-- from a list of the store too -/
def pickL : DSp := fun ds S q => ∃ d es, 0 < es.length ∧ (es.length : Int) < 1073741824 ∧ (∃ o R0 B, ds = [.loc 0, d] ∧ S = o :: R0 ∧ Tp B o ∧ B + 1 ≤ 10 ^ 12 ∧ (∀ o', seqOf (o' :: R0) d = some es) ∧ ∀ e o', e ∈ es → Tp (B + 1) o' → q e (o' :: R0))
theorem pickL_in {es : List D} {B : Int} {o : Option MO} {R0 : Sto} {q : D → Sto → Prop} (h1 : 0 < es.length) (h2 : (es.length : Int) < 1073741824) (h : Tp B o) (hb : B + 1 ≤ 10 ^ 12) (hq : ∀ e o', e ∈ es → Tp (B + 1) o' → q e (o' :: R0)) :
    pickL [.loc 0, .lst es] (o :: R0) q := ⟨.lst es, es, h1, h2, o, R0, B, rfl, rfl, h, hb, fun _ => rfl, hq⟩
end Mt
namespace Dl
open PySem L2
theorem mulOk_r {i j : Int} (h : -(2 ^ 64) < j) (h' : j < 2 ^ 64) : mulOk i j := .inl (.inr ⟨h, h'⟩)
theorem mulOk_l {i j : Int} (h : -(2 ^ 64) < i) (h' : i < 2 ^ 64) : mulOk i j := .inl (.inl ⟨h, h'⟩)
end Dl
namespace Mt
open PySem L2 Dl
theorem list5 {l : List Nat} (h : l.length = 5) : ∃ a b c d e, l = [a, b, c, d, e] := by
  match l, h with
  | [a, b, c, d, e], _ => exact ⟨a, b, c, d, e, rfl⟩
theorem str_eq {x : Str} {l : List Nat} (h : x.cps.toList = l) : x = ⟨l.toArray⟩ := by
  subst h
  cases x
  simp
theorem dv2 (a b : Nat) : PySem.NumText.digitsVal [a, b] = (a - 48) * 10 + (b - 48) := by simp [PySem.NumText.digitsVal]
theorem clock_inv {x : Str} {c : Int} (h : clockI x = some c) : ∃ hh mm : Nat, hh < 24 ∧ mm < 60 ∧ x = hm hh mm ∧ c = ((hh * 60 + mm : Nat) : Int) := by
  unfold clockI at h
  by_cases h1 : x.length ≠ 5
  · rw [if_pos h1] at h; cases h
  rw [if_neg h1] at h
  have hl : x.cps.toList.length = 5 := by
    rw [Array.length_toList]
    exact Decidable.not_not.mp h1
  obtain ⟨a, b, c0, d, e, hx⟩ := list5 hl
  have ex := str_eq hx
  subst ex
  have k1 : cutS ⟨#[a, b, c0, d, e]⟩ none (some 2) = ⟨#[a, b]⟩ := rfl
  have k2 : cutS ⟨#[a, b, c0, d, e]⟩ (some 3) none = ⟨#[d, e]⟩ := rfl
  have k3 : sgn ⟨#[a, b, c0, d, e]⟩ 2 = c0 := rfl
  have k4 : (⟨#[a, b]⟩ : Str) ++ (⟨#[d, e]⟩ : Str) = ⟨#[a, b, d, e]⟩ := rfl
  have v1 : val ⟨#[a, b]⟩ = (((a - 48) * 10 + (b - 48) : Nat) : Int) := congrArg Nat.cast (dv2 a b)
  have v2 : val ⟨#[d, e]⟩ = (((d - 48) * 10 + (e - 48) : Nat) : Int) := congrArg Nat.cast (dv2 d e)
  change (if sgn ⟨#[a, b, c0, d, e]⟩ 2 ≠ 58 then none else if figs (cutS ⟨#[a, b, c0, d, e]⟩ none (some 2) ++ cutS ⟨#[a, b, c0, d, e]⟩ (some 3) none) = false then none
    else if val (cutS ⟨#[a, b, c0, d, e]⟩ none (some 2)) < 24 ∧ val (cutS ⟨#[a, b, c0, d, e]⟩ (some 3) none) < 60 then some (val (cutS ⟨#[a, b, c0, d, e]⟩ none (some 2)) * 60 + val (cutS ⟨#[a, b, c0, d, e]⟩ (some 3) none)) else none) = some c at h
  rw [k1, k2, k3, k4, v1, v2] at h
  by_cases h2 : c0 ≠ 58
  · rw [if_pos h2] at h; cases h
  rw [if_neg h2] at h
  by_cases h3 : figs ⟨#[a, b, d, e]⟩ = false
  · rw [if_pos h3] at h; cases h
  rw [if_neg h3] at h
  have h3' : figs ⟨#[a, b, d, e]⟩ = true := by simpa using h3
  have h4 : (48 ≤ a ∧ a ≤ 57) ∧ (48 ≤ b ∧ b ≤ 57) ∧ (48 ≤ d ∧ d ≤ 57) ∧ (48 ≤ e ∧ e ≤ 57) := by
    unfold figs at h3'
    rw [Bool.and_eq_true] at h3'
    have := h3'.2
    simpa [List.all_cons] using this
  obtain ⟨⟨a1, a2⟩, ⟨b1, b2⟩, ⟨d1, d2⟩, e1, e2⟩ := h4
  by_cases h5 : ((((a - 48) * 10 + (b - 48) : Nat) : Int) < 24 ∧ (((d - 48) * 10 + (e - 48) : Nat) : Int) < 60)
  · rw [if_pos h5] at h
    refine ⟨(a - 48) * 10 + (b - 48), (d - 48) * 10 + (e - 48), by omega, by omega, ?_, ?_⟩
    · have q1 : 48 + ((a - 48) * 10 + (b - 48)) / 10 = a := by omega
      have q2 : 48 + ((a - 48) * 10 + (b - 48)) % 10 = b := by omega
      have q3 : 48 + ((d - 48) * 10 + (e - 48)) / 10 = d := by omega
      have q4 : 48 + ((d - 48) * 10 + (e - 48)) % 10 = e := by omega
      have q5 : c0 = 58 := Decidable.not_not.mp h2
      unfold hm
      rw [q1, q2, q3, q4, q5]
    · have := Option.some.inj h
      omega
  · rw [if_neg h5] at h; cases h
theorem show1 : ∀ n, n < 10 → showI (n : Nat) = ⟨#[48 + n]⟩ := by decide +kernel
theorem show2 : ∀ n, n < 100 → 10 ≤ n → showI (n : Nat) = ⟨#[48 + n / 10, 48 + n % 10]⟩ := by decide +kernel
theorem show3 : ∀ n, n < 700 → 100 ≤ n → showI (n : Nat) = ⟨#[48 + n / 100, 48 + n / 10 % 10, 48 + n % 10]⟩ := by decide +kernel
theorem fold_ge : ∀ (l : List Nat) (acc : Nat), acc ≤ l.foldl (fun acc c => acc * 10 + (c - 48)) acc
  | [], acc => Nat.le_refl _
  | c :: l, acc => by
    rw [List.foldl_cons]
    have := fold_ge l (acc * 10 + (c - 48))
    omega
theorem dig_inv : ∀ (l : List Nat) (n : Nat), l ≠ [] → (∀ c ∈ l, 48 ≤ c ∧ c ≤ 57) → l.getD 0 0 ≠ 48 → PySem.NumText.digitsVal l = n → n < 700 → 0 < n ∧ showI (n : Nat) = ⟨l.toArray⟩
  | [], _, h, _, _, _, _ => absurd rfl h
  | [a], n, _, hd, h0, hv, hn => by
    have ha := hd a (by simp)
    have h0 : a ≠ 48 := h0
    have hv : 0 * 10 + (a - 48) = n := hv
    refine ⟨by omega, ?_⟩
    rw [show1 n (by omega), show 48 + n = a by omega]
  | [a, b], n, _, hd, h0, hv, hn => by
    have ha := hd a (by simp)
    have hb := hd b (by simp)
    have h0 : a ≠ 48 := h0
    have hv : (0 * 10 + (a - 48)) * 10 + (b - 48) = n := hv
    refine ⟨by omega, ?_⟩
    rw [show2 n (by omega) (by omega), show 48 + n / 10 = a by omega, show 48 + n % 10 = b by omega]
  | [a, b, c], n, _, hd, h0, hv, hn => by
    have ha := hd a (by simp)
    have hb := hd b (by simp)
    have hc := hd c (by simp)
    have h0 : a ≠ 48 := h0
    have hv : ((0 * 10 + (a - 48)) * 10 + (b - 48)) * 10 + (c - 48) = n := hv
    refine ⟨by omega, ?_⟩
    rw [show3 n hn (by omega), show 48 + n / 100 = a by omega, show 48 + n / 10 % 10 = b by omega, show 48 + n % 10 = c by omega]
  | a :: b :: c :: d :: l, n, _, hd, h0, hv, hn => by
    have ha := hd a (by simp)
    have h0 : a ≠ 48 := h0
    have hv : l.foldl (fun acc c => acc * 10 + (c - 48)) ((((0 * 10 + (a - 48)) * 10 + (b - 48)) * 10 + (c - 48)) * 10 + (d - 48)) = n := hv
    have := fold_ge l ((((0 * 10 + (a - 48)) * 10 + (b - 48)) * 10 + (c - 48)) * 10 + (d - 48))
    omega
theorem figs_each {x : Str} (h : figs x = true) : x.cps.toList ≠ [] ∧ ∀ c ∈ x.cps.toList, 48 ≤ c ∧ c ≤ 57 := by
  unfold figs at h
  rw [Bool.and_eq_true, List.all_eq_true] at h
  refine ⟨fun e => ?_, fun c hc => by simpa using h.2 c hc⟩
  have e' : x = Str.empty := by
    rw [str_eq e]
    rfl
  have h1 := h.1
  rw [e'] at h1
  exact absurd h1 (by decide +kernel)
theorem num_inv {x : Str} {d : Int} (h : numI x 1 999999999 = some d) (hd : d < 700) : ∃ n : Nat, 0 < n ∧ n < 700 ∧ d = n ∧ x = showI (n : Nat) := by
  unfold numI at h
  by_cases h1 : 9 < x.length
  · rw [if_pos h1] at h; cases h
  rw [if_neg h1] at h
  by_cases h2 : figs x = false
  · rw [if_pos h2] at h; cases h
  rw [if_neg h2] at h
  have h2' : figs x = true := by simpa using h2
  obtain ⟨f1, f2⟩ := figs_each h2'
  by_cases h3 : sgn x 0 = 48 ∧ x ≠ (("0" : String) : Str)
  · rw [if_pos h3] at h; cases h
  rw [if_neg h3] at h
  by_cases h4 : 1 ≤ val x ∧ val x ≤ 999999999
  · rw [if_pos h4] at h
    have e := Option.some.inj h
    have h0 : x.cps.toList.getD 0 0 ≠ 48 := fun q => by
      by_cases hz : x = (("0" : String) : Str)
      · have : val x = 0 := by
          rw [hz]
          exact (by decide +kernel : val (("0" : String) : Str) = 0)
        omega
      · exact h3 ⟨q, hz⟩
    have hv : PySem.NumText.digitsVal x.cps.toList < 700 := by
      have : val x = ((PySem.NumText.digitsVal x.cps.toList : Nat) : Int) := rfl
      omega
    obtain ⟨k1, k2⟩ := dig_inv _ _ f1 f2 h0 rfl hv
    refine ⟨_, k1, hv, e.symm, ?_⟩
    rw [k2]
  · rw [if_neg h4] at h; cases h
theorem last_split {c : Nat} : ∀ {l : List Nat}, c ∈ l → ∃ a b, l = a ++ c :: b ∧ c ∉ b
  | x :: l, h => by
    by_cases hl : c ∈ l
    · obtain ⟨a, b, e, hb⟩ := last_split hl
      exact ⟨x :: a, b, by rw [e]; rfl, hb⟩
    · rcases List.mem_cons.mp h with e | e
      · exact ⟨[], l, by rw [e]; rfl, hl⟩
      · exact absurd e hl
theorem timeI_inv {x : Str} {m : Int} (h : timeI x = some m) : ∃ w : Nat, w ≤ 1000000 ∧ m = w ∧ x = T w := by
  by_cases hp : 43 ∈ x.cps.toList
  · obtain ⟨a, b, e, hb⟩ := last_split hp
    have ex := str_eq e
    have e1 : rpartS x plus = (⟨a.toArray⟩, ⟨#[43]⟩, ⟨b.toArray⟩) := by rw [ex, plus_eq]; exact rpart_one hb
    unfold timeI at h
    have hne : ¬ (((⟨a.toArray⟩ : Str), (⟨#[43]⟩ : Str), (⟨b.toArray⟩ : Str)).2.1 = Str.empty) := (by decide +kernel : ¬ (⟨#[43]⟩ : Str) = Str.empty)
    rw [e1, if_neg hne] at h
    cases hc : clockI ⟨a.toArray⟩ with
    | none => rw [hc] at h; cases h
    | some c =>
      cases hn : numI ⟨b.toArray⟩ 1 999999999 with
      | none => rw [hc, hn] at h; cases h
      | some d =>
        rw [hc, hn] at h
        dsimp only at h
        by_cases hk : d * 1440 + c ≤ 1000000
        · rw [if_pos hk] at h
          have em := Option.some.inj h
          obtain ⟨hh, mm, l1, l2, x1, x2⟩ := clock_inv hc
          obtain ⟨n, n1, n2, n3, n4⟩ := num_inv hn (by omega)
          refine ⟨n * 1440 + (hh * 60 + mm), by omega, by omega, ?_⟩
          unfold T
          rw [if_neg (by omega), show (n * 1440 + (hh * 60 + mm)) % 1440 / 60 = hh by omega, show (n * 1440 + (hh * 60 + mm)) % 60 = mm by omega, show (n * 1440 + (hh * 60 + mm)) / 1440 = n by omega, ← x1, ← n4, ex, plus_eq]
          show (⟨(a ++ 43 :: b).toArray⟩ : Str) = ⟨a.toArray ++ (#[43] ++ b.toArray)⟩
          simp
        · rw [if_neg hk] at h; cases h
  · have ex : x = ⟨x.cps.toList.toArray⟩ := str_eq rfl
    have e1 : rpartS x plus = (Str.empty, Str.empty, x) := by
      rw [plus_eq]
      have := rpart_none hp
      rw [← ex] at this
      exact this
    unfold timeI at h
    rw [e1, if_pos rfl] at h
    obtain ⟨hh, mm, l1, l2, x1, x2⟩ := clock_inv h
    refine ⟨hh * 60 + mm, by omega, x2, ?_⟩
    unfold T
    rw [if_pos (by omega), show (hh * 60 + mm) / 60 = hh by omega, show (hh * 60 + mm) % 60 = mm by omega]
    exact x1
/-- the minute that a text writes is the one whose text it is -/
theorem timeI_iff {x : Str} {m : Int} : timeI x = some m ↔ ∃ w : Nat, w ≤ 1000000 ∧ m = w ∧ x = T w :=
  ⟨timeI_inv, fun ⟨w, h, e, ex⟩ => by rw [ex, e]; exact time_T h⟩
end Mt
namespace Lw
open PySem L2 Dl
def top (i : Nat) : Stmt := PySem.Challenge.pw_boatbridge_k69_books_written_and_read.main.body.getD i (.Pass ⟨0, 0, 0, 0⟩)
abbrev s_is_name : Stmt := (top 8)
abbrev N_is_name : List Str := ["thing", "sign"]
abbrev ps_is_name : List Str := ["thing"]
theorem sc_is_name : FnScope N_is_name ps_is_name (defScope s_is_name) := ⟨rfl, rfl, rfl, by decide +kernel, rfl, by decide +kernel, by decide +kernel⟩
abbrev dv_is_name : List V := []
abbrev s_are_figures : Stmt := (top 9)
abbrev N_are_figures : List Str := ["word", "sign"]
abbrev ps_are_figures : List Str := ["word"]
theorem sc_are_figures : FnScope N_are_figures ps_are_figures (defScope s_are_figures) := ⟨rfl, rfl, rfl, by decide +kernel, rfl, by decide +kernel, by decide +kernel⟩
abbrev dv_are_figures : List V := []
abbrev s_number_in : Stmt := (top 10)
abbrev N_number_in : List Str := ["word", "least", "most", "number"]
abbrev ps_number_in : List Str := ["word", "least", "most"]
theorem sc_number_in : FnScope N_number_in ps_number_in (defScope s_number_in) := ⟨rfl, rfl, rfl, by decide +kernel, rfl, by decide +kernel, by decide +kernel⟩
abbrev dv_number_in : List V := [.int 0, .int 999999999]
theorem dfv_number_in : DfV [.int 0, .int 999999999] dv_number_in := fun _ _ _ _ => by simp [Reps, Rep]
abbrev s_show_clock : Stmt := (top 16)
abbrev N_show_clock : List Str := ["clock", "hour", "rest"]
abbrev ps_show_clock : List Str := ["clock"]
theorem sc_show_clock : FnScope N_show_clock ps_show_clock (defScope s_show_clock) := ⟨rfl, rfl, rfl, by decide +kernel, rfl, by decide +kernel, by decide +kernel⟩
abbrev dv_show_clock : List V := []
abbrev s_show_time : Stmt := (top 17)
abbrev N_show_time : List Str := ["minute", "day", "clock", "shown"]
abbrev ps_show_time : List Str := ["minute"]
theorem sc_show_time : FnScope N_show_time ps_show_time (defScope s_show_time) := ⟨rfl, rfl, rfl, by decide +kernel, rfl, by decide +kernel, by decide +kernel⟩
abbrev dv_show_time : List V := []
abbrev s_clock_in : Stmt := (top 18)
abbrev N_clock_in : List Str := ["word", "hour", "rest"]
abbrev ps_clock_in : List Str := ["word"]
theorem sc_clock_in : FnScope N_clock_in ps_clock_in (defScope s_clock_in) := ⟨rfl, rfl, rfl, by decide +kernel, rfl, by decide +kernel, by decide +kernel⟩
abbrev dv_clock_in : List V := []
abbrev s_time_in : Stmt := (top 19)
abbrev N_time_in : List Str := ["word", "head", "plus", "last", "clock", "day", "minute"]
abbrev ps_time_in : List Str := ["word"]
theorem sc_time_in : FnScope N_time_in ps_time_in (defScope s_time_in) := ⟨rfl, rfl, rfl, by decide +kernel, rfl, by decide +kernel, by decide +kernel⟩
abbrev dv_time_in : List V := []
abbrev s_Book_init : Stmt := (inClass (top 22) 0)
abbrev N_Book_init : List Str := ["self", "bank"]
abbrev ps_Book_init : List Str := ["self", "bank"]
theorem sc_Book_init : FnScope N_Book_init ps_Book_init (defScope s_Book_init) := ⟨rfl, rfl, rfl, by decide +kernel, rfl, by decide +kernel, by decide +kernel⟩
abbrev dv_Book_init : List V := []
abbrev s_Book_write : Stmt := (inClass (top 22) 1)
abbrev N_Book_write : List Str := ["self", "minute", "word", "name"]
abbrev ps_Book_write : List Str := ["self", "minute", "word", "name"]
theorem sc_Book_write : FnScope N_Book_write ps_Book_write (defScope s_Book_write) := ⟨rfl, rfl, rfl, by decide +kernel, rfl, by decide +kernel, by decide +kernel⟩
abbrev dv_Book_write : List V := []
abbrev s_Book_rows : Stmt := (inClass (top 22) 2)
abbrev N_Book_rows : List Str := ["self"]
abbrev ps_Book_rows : List Str := ["self"]
theorem sc_Book_rows : FnScope N_Book_rows ps_Book_rows (defScope s_Book_rows) := ⟨rfl, rfl, rfl, by decide +kernel, rfl, by decide +kernel, by decide +kernel⟩
abbrev dv_Book_rows : List V := []
abbrev s_Book_len : Stmt := (inClass (top 22) 3)
abbrev N_Book_len : List Str := ["self"]
abbrev ps_Book_len : List Str := ["self"]
theorem sc_Book_len : FnScope N_Book_len ps_Book_len (defScope s_Book_len) := ⟨rfl, rfl, rfl, by decide +kernel, rfl, by decide +kernel, by decide +kernel⟩
abbrev dv_Book_len : List V := []
abbrev s_Book_eq : Stmt := (inClass (top 22) 4)
abbrev N_Book_eq : List Str := ["self", "other"]
abbrev ps_Book_eq : List Str := ["self", "other"]
theorem sc_Book_eq : FnScope N_Book_eq ps_Book_eq (defScope s_Book_eq) := ⟨rfl, rfl, rfl, by decide +kernel, rfl, by decide +kernel, by decide +kernel⟩
abbrev dv_Book_eq : List V := []
abbrev s_Book_str : Stmt := (inClass (top 22) 5)
abbrev N_Book_str : List Str := ["self", "lines", "minute", "word", "name"]
abbrev ps_Book_str : List Str := ["self"]
theorem sc_Book_str : FnScope N_Book_str ps_Book_str (defScope s_Book_str) := ⟨rfl, rfl, rfl, by decide +kernel, rfl, by decide +kernel, by decide +kernel⟩
abbrev dv_Book_str : List V := []
abbrev s_row_in : Stmt := (top 23)
abbrev N_row_in : List Str := ["line", "words", "minute"]
abbrev ps_row_in : List Str := ["line"]
theorem sc_row_in : FnScope N_row_in ps_row_in (defScope s_row_in) := ⟨rfl, rfl, rfl, by decide +kernel, rfl, by decide +kernel, by decide +kernel⟩
abbrev dv_row_in : List V := []
abbrev s_read_book : Stmt := (top 24)
abbrev N_read_book : List Str := ["text", "lines", "book", "at", "line", "row", "e"]
abbrev ps_read_book : List Str := ["text"]
theorem sc_read_book : FnScope N_read_book ps_read_book (defScope s_read_book) := ⟨rfl, rfl, rfl, by decide +kernel, rfl, by decide +kernel, by decide +kernel⟩
abbrev dv_read_book : List V := []
abbrev s__law_feed : Stmt := (top 26)
abbrev N__law_feed : List Str := ["_law_script"]
abbrev ps__law_feed : List Str := ["_law_script"]
theorem sc__law_feed : FnScope N__law_feed ps__law_feed (defScope s__law_feed) := ⟨rfl, rfl, rfl, by decide +kernel, rfl, by decide +kernel, by decide +kernel⟩
abbrev dv__law_feed : List V := []
abbrev s__law_draw : Stmt := (top 27)
abbrev N__law_draw : List Str := ["_law_feed_here", "_law_many", "_law_found", "_law_spot", "_law_cell", "_law_mixed"]
abbrev ps__law_draw : List Str := ["_law_feed_here", "_law_many"]
theorem sc__law_draw : FnScope N__law_draw ps__law_draw (defScope s__law_draw) := ⟨rfl, rfl, rfl, by decide +kernel, rfl, by decide +kernel, by decide +kernel⟩
abbrev dv__law_draw : List V := []
abbrev s__law_of : Stmt := (top 28)
abbrev N__law_of : List Str := ["_law_feed_here", "_law_some"]
abbrev ps__law_of : List Str := ["_law_feed_here", "_law_some"]
theorem sc__law_of : FnScope N__law_of ps__law_of (defScope s__law_of) := ⟨rfl, rfl, rfl, by decide +kernel, rfl, by decide +kernel, by decide +kernel⟩
abbrev dv__law_of : List V := []
abbrev s__law_names : Stmt := (top 29)
abbrev N__law_names : List Str := ["_law_feed_here", "_law_many", "_law_letters", "_law_some", "_law_place", "_law_short", "_law_found", "_law_k", "_law_turned", "_law_shown", "_law_one"]
abbrev ps__law_names : List Str := ["_law_feed_here", "_law_many"]
theorem sc__law_names : FnScope N__law_names ps__law_names (defScope s__law_names) := ⟨rfl, rfl, rfl, by decide +kernel, rfl, by decide +kernel, by decide +kernel⟩
abbrev dv__law_names : List V := []
abbrev s__law_time : Stmt := (top 30)
abbrev N__law_time : List Str := ["_law_moment", "_law_clock", "_law_shown"]
abbrev ps__law_time : List Str := ["_law_moment"]
theorem sc__law_time : FnScope N__law_time ps__law_time (defScope s__law_time) := ⟨rfl, rfl, rfl, by decide +kernel, rfl, by decide +kernel, by decide +kernel⟩
abbrev dv__law_time : List V := []
abbrev s__law_rows : Stmt := (top 31)
abbrev N__law_rows : List Str := ["_law_feed_here", "_law_names_here", "_law_many", "_law_moment", "_law_found", "_law_k"]
abbrev ps__law_rows : List Str := ["_law_feed_here", "_law_names_here", "_law_many"]
theorem sc__law_rows : FnScope N__law_rows ps__law_rows (defScope s__law_rows) := ⟨rfl, rfl, rfl, by decide +kernel, rfl, by decide +kernel, by decide +kernel⟩
abbrev dv__law_rows : List V := []
abbrev s__law_text : Stmt := (top 32)
abbrev N__law_text : List Str := ["_law_side", "_law_rows_here", "_law_when", "_law_deed", "_law_who"]
abbrev ps__law_text : List Str := ["_law_side", "_law_rows_here"]
theorem sc__law_text : FnScope N__law_text ps__law_text (defScope s__law_text) := ⟨rfl, rfl, rfl, by decide +kernel, rfl, by decide +kernel, by decide +kernel⟩
abbrev dv__law_text : List V := []
abbrev s_law : Stmt := (top 33)
abbrev N_law : List Str := ["_law_script", "_law_feed_here", "_law_k", "_law_side", "_law_names_here", "_law_rows_here", "_law_shown", "_law_kept", "_law_book", "_law_other", "_law_when", "_law_deed", "_law_who", "_law_last", "_law_row"]
abbrev ps_law : List Str := ["_law_script"]
theorem sc_law : FnScope N_law ps_law (defScope s_law) := ⟨rfl, rfl, rfl, by decide +kernel, rfl, by decide +kernel, by decide +kernel⟩
abbrev dv_law : List V := []
structure Ad where
  C_Book : Addr
  T_BANKS : Addr
  T_WORDS : Addr
theorem bnd_are_figures_1 : Bnd "are_figures" "are_figures" s_are_figures ps_are_figures 1 [] [.p 0] dv_are_figures.length := .zero fun _ _ _ _ _ _ us ws h1 h2 => match us, ws, h1, h2 with | [_], [], _, _ => rfl
theorem bnd_show_clock_1 : Bnd "show_clock" "show_clock" s_show_clock ps_show_clock 1 [] [.p 0] dv_show_clock.length := .zero fun _ _ _ _ _ _ us ws h1 h2 => match us, ws, h1, h2 with | [_], [], _, _ => rfl
theorem bnd_clock_in_1 : Bnd "clock_in" "clock_in" s_clock_in ps_clock_in 1 [] [.p 0] dv_clock_in.length := .zero fun _ _ _ _ _ _ us ws h1 h2 => match us, ws, h1, h2 with | [_], [], _, _ => rfl
theorem bnd_number_in_1_least : Bnd "number_in" "number_in" s_number_in ps_number_in 1 ["least"] [.p 0, .k 0, .d 1] dv_number_in.length := .more 1 fun _ _ _ _ _ _ _ us its ws h1 h2 h3 => match us, its, ws, h1, h2, h3 with | [_], [_, _], [_], _, _, _ => ⟨_, rfl, rfl⟩
theorem bnd_show_time_1 : Bnd "show_time" "show_time" s_show_time ps_show_time 1 [] [.p 0] dv_show_time.length := .zero fun _ _ _ _ _ _ us ws h1 h2 => match us, ws, h1, h2 with | [_], [], _, _ => rfl
theorem bnd_is_name_1 : Bnd "is_name" "is_name" s_is_name ps_is_name 1 [] [.p 0] dv_is_name.length := .zero fun _ _ _ _ _ _ us ws h1 h2 => match us, ws, h1, h2 with | [_], [], _, _ => rfl
theorem bnd_time_in_1 : Bnd "time_in" "time_in" s_time_in ps_time_in 1 [] [.p 0] dv_time_in.length := .zero fun _ _ _ _ _ _ us ws h1 h2 => match us, ws, h1, h2 with | [_], [], _, _ => rfl
theorem bnd_Book_init_1_bank : Bnd "__init__" "Book.__init__" s_Book_init ps_Book_init 1 ["bank"] [.p 0, .k 0] dv_Book_init.length := .zero fun _ _ _ _ _ _ us ws h1 h2 => match us, ws, h1, h2 with | [_], [_], _, _ => rfl
theorem bnd_row_in_1 : Bnd "row_in" "row_in" s_row_in ps_row_in 1 [] [.p 0] dv_row_in.length := .zero fun _ _ _ _ _ _ us ws h1 h2 => match us, ws, h1, h2 with | [_], [], _, _ => rfl
theorem bnd_Book_write_4 : Bnd "write" "Book.write" s_Book_write ps_Book_write 4 [] [.p 0, .p 1, .p 2, .p 3] dv_Book_write.length := .zero fun _ _ _ _ _ _ us ws h1 h2 => match us, ws, h1, h2 with | [_, _, _, _], [], _, _ => rfl
theorem bnd__law_draw_2 : Bnd "_law_draw" "_law_draw" s__law_draw ps__law_draw 2 [] [.p 0, .p 1] dv__law_draw.length := .zero fun _ _ _ _ _ _ us ws h1 h2 => match us, ws, h1, h2 with | [_, _], [], _, _ => rfl
theorem bnd__law_of_2 : Bnd "_law_of" "_law_of" s__law_of ps__law_of 2 [] [.p 0, .p 1] dv__law_of.length := .zero fun _ _ _ _ _ _ us ws h1 h2 => match us, ws, h1, h2 with | [_, _], [], _, _ => rfl
theorem bnd__law_time_1 : Bnd "_law_time" "_law_time" s__law_time ps__law_time 1 [] [.p 0] dv__law_time.length := .zero fun _ _ _ _ _ _ us ws h1 h2 => match us, ws, h1, h2 with | [_], [], _, _ => rfl
theorem bnd__law_feed_1 : Bnd "_law_feed" "_law_feed" s__law_feed ps__law_feed 1 [] [.p 0] dv__law_feed.length := .zero fun _ _ _ _ _ _ us ws h1 h2 => match us, ws, h1, h2 with | [_], [], _, _ => rfl
theorem bnd__law_names_2 : Bnd "_law_names" "_law_names" s__law_names ps__law_names 2 [] [.p 0, .p 1] dv__law_names.length := .zero fun _ _ _ _ _ _ us ws h1 h2 => match us, ws, h1, h2 with | [_, _], [], _, _ => rfl
theorem bnd__law_rows_3 : Bnd "_law_rows" "_law_rows" s__law_rows ps__law_rows 3 [] [.p 0, .p 1, .p 2] dv__law_rows.length := .zero fun _ _ _ _ _ _ us ws h1 h2 => match us, ws, h1, h2 with | [_, _, _], [], _, _ => rfl
theorem bnd__law_text_2 : Bnd "_law_text" "_law_text" s__law_text ps__law_text 2 [] [.p 0, .p 1] dv__law_text.length := .zero fun _ _ _ _ _ _ us ws h1 h2 => match us, ws, h1, h2 with | [_, _], [], _, _ => rfl
theorem bnd_Book_init_2 : Bnd "__init__" "Book.__init__" s_Book_init ps_Book_init 2 [] [.p 0, .p 1] dv_Book_init.length := .zero fun _ _ _ _ _ _ us ws h1 h2 => match us, ws, h1, h2 with | [_, _], [], _, _ => rfl
theorem bnd_read_book_1 : Bnd "read_book" "read_book" s_read_book ps_read_book 1 [] [.p 0] dv_read_book.length := .zero fun _ _ _ _ _ _ us ws h1 h2 => match us, ws, h1, h2 with | [_], [], _, _ => rfl
theorem bnd_read_book_0_text : Bnd "read_book" "read_book" s_read_book ps_read_book 0 ["text"] [.k 0] dv_read_book.length := .zero fun _ _ _ _ _ _ us ws h1 h2 => match us, ws, h1, h2 with | [], [_], _, _ => rfl
theorem bnd_Book_eq_2 : Bnd "__eq__" "Book.__eq__" s_Book_eq ps_Book_eq 2 [] [.p 0, .p 1] dv_Book_eq.length := .zero fun _ _ _ _ _ _ us ws h1 h2 => match us, ws, h1, h2 with | [_, _], [], _, _ => rfl
theorem bnd_Book_rows_1 : Bnd "rows" "Book.rows" s_Book_rows ps_Book_rows 1 [] [.p 0] dv_Book_rows.length := .zero fun _ _ _ _ _ _ us ws h1 h2 => match us, ws, h1, h2 with | [_], [], _, _ => rfl
theorem bnd_Book_str_1 : Bnd "__str__" "Book.__str__" s_Book_str ps_Book_str 1 [] [.p 0] dv_Book_str.length := .zero fun _ _ _ _ _ _ us ws h1 h2 => match us, ws, h1, h2 with | [_], [], _, _ => rfl
theorem bnd_Book_len_1 : Bnd "__len__" "Book.__len__" s_Book_len ps_Book_len 1 [] [.p 0] dv_Book_len.length := .zero fun _ _ _ _ _ _ us ws h1 h2 => match us, ws, h1, h2 with | [_], [], _, _ => rfl
structure Txt (K : PySem.W.Frag) (mg : Str → Option Value) (a : Ad) : Prop where
  b_is_name : FnB K mg "is_name" s_is_name dv_is_name
  b_are_figures : FnB K mg "are_figures" s_are_figures dv_are_figures
  b_number_in : FnB K mg "number_in" s_number_in dv_number_in
  b_show_clock : FnB K mg "show_clock" s_show_clock dv_show_clock
  b_show_time : FnB K mg "show_time" s_show_time dv_show_time
  b_clock_in : FnB K mg "clock_in" s_clock_in dv_clock_in
  b_time_in : FnB K mg "time_in" s_time_in dv_time_in
  b_Book_init : MkB K a.C_Book "Book.__init__" s_Book_init dv_Book_init
  b_Book_write : MtB K a.C_Book "write" "Book.write" s_Book_write dv_Book_write
  b_Book_rows : MtB K a.C_Book "rows" "Book.rows" s_Book_rows dv_Book_rows
  b_Book_len : MtB K a.C_Book "__len__" "Book.__len__" s_Book_len dv_Book_len
  b_Book_eq : MtB K a.C_Book "__eq__" "Book.__eq__" s_Book_eq dv_Book_eq
  b_Book_str : MtB K a.C_Book "__str__" "Book.__str__" s_Book_str dv_Book_str
  b_row_in : FnB K mg "row_in" s_row_in dv_row_in
  b_read_book : FnB K mg "read_book" s_read_book dv_read_book
  b__law_feed : FnB K mg "_law_feed" s__law_feed dv__law_feed
  b__law_draw : FnB K mg "_law_draw" s__law_draw dv__law_draw
  b__law_of : FnB K mg "_law_of" s__law_of dv__law_of
  b__law_names : FnB K mg "_law_names" s__law_names dv__law_names
  b__law_time : FnB K mg "_law_time" s__law_time dv__law_time
  b__law_rows : FnB K mg "_law_rows" s__law_rows dv__law_rows
  b__law_text : FnB K mg "_law_text" s__law_text dv__law_text
  b_law : FnB K mg "law" s_law dv_law
  mC_Book : mg "Book" = some (.ref a.C_Book)
  cl_Book : Cls K a.C_Book
  no_all : mg "all" = none
  no_divmod : mg "divmod" = none
  no_enumerate : mg "enumerate" = none
  no_int : mg "int" = none
  no_isinstance : mg "isinstance" = none
  no_len : mg "len" = none
  no_list : mg "list" = none
  no_max : mg "max" = none
  no_min : mg "min" = none
  no_range : mg "range" = none
  no_repr : mg "repr" = none
  no_str : mg "str" = none
  c_BANKS : mg "BANKS" = some (.ref a.T_BANKS)
  ck_BANKS : KTt K a.T_BANKS ["near", "far"]
  c_DAY : ∃ t, mg "DAY" = some (.int 1440 t)
  c_FIGURES : ∃ t, mg "FIGURES" = some (.str "0123456789" t)
  c_HOUR : ∃ t, mg "HOUR" = some (.int 60 t)
  c_LAST_MINUTE : ∃ t, mg "LAST_MINUTE" = some (.int 1000000 t)
  c_LETTERS : ∃ t, mg "LETTERS" = some (.str "abcdefghijklmnopqrstuvwxyz" t)
  c_LONGEST_NAME : ∃ t, mg "LONGEST_NAME" = some (.int 8 t)
  c_MOST_FIGURES : ∃ t, mg "MOST_FIGURES" = some (.int 9 t)
  c_WORDS : mg "WORDS" = some (.ref a.T_WORDS)
  ck_WORDS : KTt K a.T_WORDS ["on", "off"]
  f_Book_bank : FldOk K a.C_Book "bank"
  f_Book_kept : FldOk K a.C_Book "kept"
  kb_Book : KitB K a.C_Book
  kc_Book_Book : KitC K a.C_Book a.C_Book true
  nb_Book : NoBool K a.C_Book
  nn_Book : NoNe K a.C_Book
  is_Book : IsC K a.C_Book
theorem st_is_name (d0 : D) : startD N_is_name [d0] = [some d0, none] := rfl
theorem st_are_figures (d0 : D) : startD N_are_figures [d0] = [some d0, none] := rfl
theorem st_number_in (d0 d1 d2 : D) : startD N_number_in [d0, d1, d2] = [some d0, some d1, some d2, none] := rfl
theorem st_show_clock (d0 : D) : startD N_show_clock [d0] = [some d0, none, none] := rfl
theorem st_show_time (d0 : D) : startD N_show_time [d0] = [some d0, none, none, none] := rfl
theorem st_clock_in (d0 : D) : startD N_clock_in [d0] = [some d0, none, none] := rfl
theorem st_time_in (d0 : D) : startD N_time_in [d0] = [some d0, none, none, none, none, none, none] := rfl
theorem st_Book_init (d0 d1 : D) : startD N_Book_init [d0, d1] = [some d0, some d1] := rfl
theorem st_Book_write (d0 d1 d2 d3 : D) : startD N_Book_write [d0, d1, d2, d3] = [some d0, some d1, some d2, some d3] := rfl
theorem st_Book_rows (d0 : D) : startD N_Book_rows [d0] = [some d0] := rfl
theorem st_Book_len (d0 : D) : startD N_Book_len [d0] = [some d0] := rfl
theorem st_Book_eq (d0 d1 : D) : startD N_Book_eq [d0, d1] = [some d0, some d1] := rfl
theorem st_Book_str (d0 : D) : startD N_Book_str [d0] = [some d0, none, none, none, none] := rfl
theorem st_row_in (d0 : D) : startD N_row_in [d0] = [some d0, none, none] := rfl
theorem st_read_book (d0 : D) : startD N_read_book [d0] = [some d0, none, none, none, none, none, none] := rfl
theorem st__law_feed (d0 : D) : startD N__law_feed [d0] = [some d0] := rfl
theorem st__law_draw (d0 d1 : D) : startD N__law_draw [d0, d1] = [some d0, some d1, none, none, none, none] := rfl
theorem st__law_of (d0 d1 : D) : startD N__law_of [d0, d1] = [some d0, some d1] := rfl
theorem st__law_names (d0 d1 : D) : startD N__law_names [d0, d1] = [some d0, some d1, none, none, none, none, none, none, none, none, none] := rfl
theorem st__law_time (d0 : D) : startD N__law_time [d0] = [some d0, none, none] := rfl
theorem st__law_rows (d0 d1 d2 : D) : startD N__law_rows [d0, d1, d2] = [some d0, some d1, some d2, none, none, none] := rfl
theorem st__law_text (d0 d1 : D) : startD N__law_text [d0, d1] = [some d0, some d1, none, none, none] := rfl
theorem st_law (d0 : D) : startD N_law [d0] = [some d0, none, none, none, none, none, none, none, none, none, none, none, none, none, none] := rfl
theorem pk_Book_bank : putK "bank" [] = (["bank"] : List Str) := by decide +kernel
theorem px_Book_bank {x0 : D} : putX "bank" x0 [] [] = [x0] := rfl
theorem fg_Book_bank {x0 x1 : D} : fget "bank" ["bank", "kept"] [x0, x1] = some x0 := rfl
theorem pk_Book_kept : putK "kept" ["bank"] = (["bank", "kept"] : List Str) := by decide +kernel
theorem px_Book_kept {x0 x1 : D} : putX "kept" x1 ["bank"] [x0] = [x0, x1] := rfl
theorem fg_Book_kept {x0 x1 : D} : fget "kept" ["bank", "kept"] [x0, x1] = some x1 := rfl
end Lw
namespace Lw
open PySem L2 Dl
def NmOk (x : Str) : Prop := 1 ≤ x.length ∧ x.length ≤ 8 ∧ ∀ c ∈ x.cps.toList, 97 ≤ c ∧ c ≤ 122
theorem nm_ok {x : Str} (h : NmOk x) : PyData.strOk x = true := Mt.ok_all.mpr fun c hc => by have := h.2.2 c hc; omega
/-- a row of a book -/
structure Rw where
  m : Nat
  w : Str
  n : Str
  deriving DecidableEq
def WdOk (x : Str) : Prop := x = "on" ∨ x = "off"
def BaOk (x : Str) : Prop := x = "near" ∨ x = "far"
def RwOk (r : Rw) : Prop := r.m ≤ 1000000 ∧ WdOk r.w ∧ NmOk r.n
def Rise (R : List Rw) : Prop := R.Pairwise fun r s => r.m ≤ s.m
abbrev rwD (r : Rw) : D := .tup [.int (r.m : Nat), .str r.w, .str r.n]
def spS : Str := " "
def rowT (r : Rw) : Str := Mt.T r.m ++ spS ++ r.w ++ spS ++ r.n
def bkT (b : Str) (R : List Rw) : Str := Txt.join "\n" (b :: R.map rowT)
abbrev bkO (a : Ad) (b : Str) (j : Nat) : MO := .obj a.C_Book ["bank", "kept"] [.str b, .loc j]
/-- a book in the store: its cell, the cell of its rows -/
def BkAt (a : Ad) (S : Sto) (n j : Nat) (b : Str) (R : List Rw) : Prop := S[n]? = some (some (bkO a b j)) ∧ S[j]? = some (some (.lst (R.map rwD)))
abbrev bk2 (a : Ad) (n : Nat) (b : Str) (R : List Rw) : Sto := [some (bkO a b (n + 1)), some (.lst (R.map rwD))]
abbrev sp_is_name (a : Ad) : DSp := fun ds S q => ∃ x : Str, ds = [.str x] ∧ NmOk x ∧ q (.bl true) S
abbrev sp_are_figures (a : Ad) : DSp := Mt.figures
abbrev sp_number_in (a : Ad) : DSp := Mt.number
abbrev sp_show_clock (a : Ad) : DSp := Mt.shClock
abbrev sp_show_time (a : Ad) : DSp := Mt.shTime
abbrev sp_clock_in (a : Ad) : DSp := Mt.clock
abbrev sp_time_in (a : Ad) : DSp := Mt.time
abbrev sp_Book_init (a : Ad) : DSp := fun ds S q => ∃ S0 b, ds = [.loc S0.length, .str b] ∧ S = S0 ++ [some (.obj a.C_Book [] [])] ∧ q .non (S0 ++ bk2 a S0.length b [])
abbrev sp_Book_write (a : Ad) : DSp := fun ds S q => ∃ n j b R m w x, ds = [.loc n, .int ((m : Nat) : Int), .str w, .str x] ∧ BkAt a S n j b R ∧ (∀ r, R.getLast? = some r → r.m ≤ m) ∧ R.length ≤ 100000 ∧ q .non (S.set j (some (.lst ((R ++ [Rw.mk m w x]).map rwD))))
abbrev sp_Book_rows (a : Ad) : DSp := fun ds S q => ∃ n j b R, ds = [.loc n] ∧ BkAt a S n j b R ∧ R.length ≤ 100000 ∧ q (.lst (R.map rwD)) S
abbrev sp_Book_len (a : Ad) : DSp := fun ds S q => ∃ n j b R, ds = [.loc n] ∧ BkAt a S n j b R ∧ q (.int (R.length : Nat)) S
abbrev sp_Book_eq (a : Ad) : DSp := fun ds S q => ∃ n j b R n' j' b' R', ds = [.loc n, .loc n'] ∧ BkAt a S n j b R ∧ BkAt a S n' j' b' R' ∧ BaOk b ∧ BaOk b' ∧ (∀ r ∈ R, RwOk r) ∧ (∀ r ∈ R', RwOk r) ∧ q (.bl (decide (b = b' ∧ R = R'))) S
abbrev sp_Book_str (a : Ad) : DSp := fun ds S q => ∃ n j b R, ds = [.loc n] ∧ BkAt a S n j b R ∧ BaOk b ∧ (∀ r ∈ R, RwOk r) ∧ R.length ≤ 1000 ∧ q (.str (bkT b R)) S
abbrev sp_row_in (a : Ad) : DSp := fun ds S q => ∃ r, ds = [.str (rowT r)] ∧ RwOk r ∧ q (rwD r) S
abbrev sp_read_book (a : Ad) : DSp := fun ds S q => ∃ b R, ds = [.str (bkT b R)] ∧ BaOk b ∧ (∀ r ∈ R, RwOk r) ∧ Rise R ∧ R.length ≤ 1000 ∧ q (.loc S.length) (S ++ bk2 a S.length b R)
abbrev sp__law_feed (a : Ad) : DSp := Mt.tape
abbrev sp__law_draw (a : Ad) : DSp := Mt.draw
abbrev sp__law_of (a : Ad) : DSp := Mt.pickL
abbrev sp__law_names (a : Ad) : DSp := fun ds S q => ∃ many : Int, 0 < many ∧ many ≤ 26 ∧ Mt.tk 20 [.int many] (fun d => ∃ xs : List Str, d = .lst (xs.map D.str) ∧ (xs.length : Int) = many ∧ xs.Nodup ∧ ∀ x ∈ xs, NmOk x) ds S q
abbrev sp__law_time (a : Ad) : DSp := Mt.shTime
abbrev sp__law_rows (a : Ad) : DSp := fun ds S q => ∃ (xs : List Str) (many : Nat), (0 < xs.length ∧ xs.length ≤ 26 ∧ ∀ x ∈ xs, NmOk x) ∧ many ≤ 150 ∧ Mt.tk 1000 [.lst (xs.map D.str), .int (many : Nat)] (fun d => ∃ R : List Rw, d = .lst (R.map rwD) ∧ R.length = many ∧ (∀ r ∈ R, RwOk r) ∧ Rise R) ds S q
abbrev sp__law_text (a : Ad) : DSp := fun ds S q => ∃ b R, ds = [.str b, .lst (R.map rwD)] ∧ BaOk b ∧ (∀ r ∈ R, RwOk r) ∧ R.length ≤ 1000 ∧ q (.str (bkT b R)) S
abbrev sp_law : DSp := Mt.law
end Lw
namespace Lw
open PySem L2 Dl
section
variable {P : Program} {w : World} {K : PySem.W.Frag} {mg : Str → Option Value} {base : Heap} {a : Ad}
def g_is_name (K : PySem.W.Frag) (a : Ad) : GS :=
  (gSeq (gIfS (gOrB (gNotB (gTest (gCB (a2 aIsi) (Dl.gCons (gVar 0) (Dl.gCons (gC (.ty "str")) Dl.gNil))))) (gNotB (gTest (gChain aLe aLe (gC (.int 1)) (gCB (a1 aLen) (Dl.gCons (gVar 0) Dl.gNil)) (gC (.int 8)))))) (gRet (gC (.bl false))) gNext) (gRet (gCB (a1 aAll) (Dl.gCons (gLc true (gIt (gVar 0)) (.nm 1) gYes (gB2 (aInX false) (gVar 1) (gC (.str "abcdefghijklmnopqrstuvwxyz"))) [1]) Dl.gNil))))
theorem t_is_name (T : Txt K mg a)  {f : Addr} {cdv : Value} {A : Around} {outer : List Env} {s : Shared} {H : Hp} {E : XK} (hr : RoomG 0 (A.deeper (PyProof.Rows.envOfC "is_name" (defScope s_is_name) s.heap.objs.size f cdv))) :
    PSs (cxOf CX0 P w K mg base N_is_name "is_name" (defScope s_is_name) f cdv A outer s H E).nox (defBody s_is_name) (tofS K U0 (g_is_name K a)) :=
  (ds_cons (d_if (PW.pt (d_or (d_not (d_val (d_callB call_isi vr_isi (by rfl) T.no_isinstance (by decide +kernel) (d_cons (d_var 0) (d_cons (d_gty (by rfl) T.no_str (by decide +kernel)) d_nil))))) (d_or1 (d_not (d_tchain op_le op_le vr_le vr_le d_int (d_callB or_len vr_len (by rfl) T.no_len (by decide +kernel) (d_cons (d_var 0) d_nil)) (d_gint (by rfl) T.c_LONGEST_NAME))))))
      (ds_one (d_ret d_bl))
      ds_nil)
    (ds_one (d_ret (d_callB (cr_all rfl) vr_all (by rfl) T.no_all (by decide +kernel) (d_cons (d_lc (own := [("sign", 1)]) (t := (.nm 1)) true rfl sc_is_name.nd (di_seq (d_var 0)) (blkOk_by (own := [("sign", 1)]) (N := N_is_name) (sc := defScope s_is_name) (by decide +kernel)) (by decide) (fun _ _ _ _ _ => (pg_name (i := 1) sc_is_name.nd rfl (by first | exact .inl rfl | exact .inr rfl))) (fun _ _ _ _ _ => dt_nil) (fun _ _ _ _ _ => (d_cmp (op_inAll hr) vr_inX (d_var 1) (d_gstr (by rfl) T.c_LETTERS)))) d_nil)))))
def g_are_figures (K : PySem.W.Frag) (a : Ad) : GS :=
  (gRet (gAndV (gB2 aNe (gVar 0) (gC (.str ""))) (gCB (a1 aAll) (Dl.gCons (gLc true (gIt (gVar 0)) (.nm 1) gYes (gB2 (aInX false) (gVar 1) (gC (.str "0123456789"))) [1]) Dl.gNil))))
theorem t_are_figures (T : Txt K mg a)  {f : Addr} {cdv : Value} {A : Around} {outer : List Env} {s : Shared} {H : Hp} {E : XK} (hr : RoomG 0 (A.deeper (PyProof.Rows.envOfC "are_figures" (defScope s_are_figures) s.heap.objs.size f cdv))) :
    PSs (cxOf CX0 P w K mg base N_are_figures "are_figures" (defScope s_are_figures) f cdv A outer s H E).nox (defBody s_are_figures) (tofS K U0 (g_are_figures K a)) :=
  (ds_one (d_ret (d_andV (d_cmp (op_neD hr.units) vr_ne (d_var 0) d_str) (d_oneV (d_callB (cr_all rfl) vr_all (by rfl) T.no_all (by decide +kernel) (d_cons (d_lc (own := [("sign", 1)]) (t := (.nm 1)) true rfl sc_are_figures.nd (di_seq (d_var 0)) (blkOk_by (own := [("sign", 1)]) (N := N_are_figures) (sc := defScope s_are_figures) (by decide +kernel)) (by decide) (fun _ _ _ _ _ => (pg_name (i := 1) sc_are_figures.nd rfl (by first | exact .inl rfl | exact .inr rfl))) (fun _ _ _ _ _ => dt_nil) (fun _ _ _ _ _ => (d_cmp (op_inAll hr) vr_inX (d_var 1) (d_gstr (by rfl) T.c_FIGURES)))) d_nil))))))
def g_number_in (K : PySem.W.Frag) (a : Ad) : GS :=
  (gSeq (gIfS (gOrB (gTest (gB2 aGt (gCB (a1 aLen) (Dl.gCons (gVar 0) Dl.gNil)) (gC (.int 9)))) (gOrB (gNotB (gTest (gCall 1 0 [.p 0] [] (sp_are_figures a) (gArgs (Dl.gCons (gVar 0) Dl.gNil) Dl.gNil)))) (gAndB (gTest (gB2 aEq (gIx (gVar 0) (gC (.int 0))) (gC (.str "0")))) (gTest (gB2 aNe (gVar 0) (gC (.str "0"))))))) (gRet (gC .non)) gNext) (gSeq (gSet 3 (gCB (a1 aInt) (Dl.gCons (gVar 0) Dl.gNil))) (gRet (gIf (gTest (gChain aLe aLe (gVar 1) (gVar 3) (gVar 2))) (gVar 3) (gC .non)))))
theorem t_number_in (T : Txt K mg a) (F_are_figures : Fnc P w K mg base "are_figures" s_are_figures dv_are_figures 1 ps_are_figures (sp_are_figures a)) {f : Addr} {cdv : Value} {A : Around} {outer : List Env} {s : Shared} {H : Hp} {E : XK} (hr : RoomG 1 (A.deeper (PyProof.Rows.envOfC "number_in" (defScope s_number_in) s.heap.objs.size f cdv))) :
    PSs (cxOf CX0 P w K mg base N_number_in "number_in" (defScope s_number_in) f cdv A outer s H E).nox (defBody s_number_in) (tofS K U0 (g_number_in K a)) :=
  (ds_cons (d_if (PW.pt (d_or (d_tcmp op_gt vr_gt (d_callB or_len vr_len (by rfl) T.no_len (by decide +kernel) (d_cons (d_var 0) d_nil)) (d_gint (by rfl) T.c_MOST_FIGURES)) (d_or (d_not (d_val (d_call F_are_figures (hr.mono (by decide)) (by rfl) bnd_are_figures_1 dfv_nil (da_p0 (d_cons (d_var 0) d_nil))))) (d_or1 (PW.pt (d_and (d_tcmp (op_eqD hr.units) vr_eq (d_ix (d_var 0) d_int) d_str) (d_and1 (d_tcmp (op_neD hr.units) vr_ne (d_var 0) d_str))))))))
      (ds_one (d_ret d_non))
      ds_nil)
    (ds_cons (d_set (i := 3) sc_number_in.nd rfl (by first | exact .inl rfl | exact .inr rfl) (d_callTy or_int vr_int (by rfl) T.no_int (by decide +kernel) (d_cons (d_var 0) d_nil)))
    (ds_one (d_ret (d_ifExp (d_tchain op_le op_le vr_le vr_le (d_var 1) (d_var 3) (d_var 2)) (d_var 3) d_non)))))
def g_show_clock (K : PySem.W.Frag) (a : Ad) : GS :=
  (gSeq (gAsg (.tp [(.nm 1), (.nm 2)]) (gCB (a2 aDivmod) (Dl.gCons (gVar 0) (Dl.gCons (gC (.int 60)) Dl.gNil)))) (gRet (gB2 (aAdd true) (gB2 (aAdd true) (gMt "str" (aSI (fun _ i => PadOk i = true) fun x i => .str (Txt.zfill x i)) (gCB (a1 aStr) (Dl.gCons (gVar 1) Dl.gNil)) (Dl.gCons (gC (.int 2)) Dl.gNil)) (gC (.str ":"))) (gMt "str" (aSI (fun _ i => PadOk i = true) fun x i => .str (Txt.zfill x i)) (gCB (a1 aStr) (Dl.gCons (gVar 2) Dl.gNil)) (Dl.gCons (gC (.int 2)) Dl.gNil)))))
theorem t_show_clock (T : Txt K mg a)  {f : Addr} {cdv : Value} {A : Around} {outer : List Env} {s : Shared} {H : Hp} {E : XK} (hr : RoomG 0 (A.deeper (PyProof.Rows.envOfC "show_clock" (defScope s_show_clock) s.heap.objs.size f cdv))) :
    PSs (cxOf CX0 P w K mg base N_show_clock "show_clock" (defScope s_show_clock) f cdv A outer s H E).nox (defBody s_show_clock) (tofS K U0 (g_show_clock K a)) :=
  (ds_cons (d_asg (t := (.tp [(.nm 1), (.nm 2)])) (d_callB call_divmod vr_divmod (by rfl) T.no_divmod (by decide +kernel) (d_cons (d_var 0) (d_cons (d_gint (by rfl) T.c_HOUR) d_nil))) (pg_tup rfl (pgs_cons (pg_name (i := 1) sc_show_clock.nd rfl (by first | exact .inl rfl | exact .inr rfl)) (pgs_cons (pg_name (i := 2) sc_show_clock.nd rfl (by first | exact .inl rfl | exact .inr rfl)) pgs_nil))))
    (ds_one (d_ret (d_op or_add (vr_add (fz := true)) (d_op or_add (vr_add (fz := true)) (d_bm (by decide) PySem.F.plainAttrs_str PySem.F.slot_str_zfill PySem.F.type_str_zfill mt_zfill vm_zfill (d_callTy call_str_int vr_str (by rfl) T.no_str (by decide +kernel) (d_cons (d_var 1) d_nil)) (d_cons d_int d_nil)) d_str) (d_bm (by decide) PySem.F.plainAttrs_str PySem.F.slot_str_zfill PySem.F.type_str_zfill mt_zfill vm_zfill (d_callTy call_str_int vr_str (by rfl) T.no_str (by decide +kernel) (d_cons (d_var 2) d_nil)) (d_cons d_int d_nil))))))
def g_show_time (K : PySem.W.Frag) (a : Ad) : GS :=
  (gSeq (gAsg (.tp [(.nm 1), (.nm 2)]) (gCB (a2 aDivmod) (Dl.gCons (gVar 0) (Dl.gCons (gC (.int 1440)) Dl.gNil)))) (gSeq (gSet 3 (gCall 1 0 [.p 0] [] (sp_show_clock a) (gArgs (Dl.gCons (gVar 2) Dl.gNil) Dl.gNil))) (gSeq (gIfS (gTest (gB2 aGt (gVar 1) (gC (.int 0)))) (gAug 3 aIadd (gJoined [(gC (.str "+")), (gFmt (gVar 1))])) gNext) (gRet (gVar 3)))))
theorem t_show_time (T : Txt K mg a) (F_show_clock : Fnc P w K mg base "show_clock" s_show_clock dv_show_clock 1 ps_show_clock (sp_show_clock a)) {f : Addr} {cdv : Value} {A : Around} {outer : List Env} {s : Shared} {H : Hp} {E : XK} (hr : RoomG 1 (A.deeper (PyProof.Rows.envOfC "show_time" (defScope s_show_time) s.heap.objs.size f cdv))) :
    PSs (cxOf CX0 P w K mg base N_show_time "show_time" (defScope s_show_time) f cdv A outer s H E).nox (defBody s_show_time) (tofS K U0 (g_show_time K a)) :=
  (ds_cons (d_asg (t := (.tp [(.nm 1), (.nm 2)])) (d_callB call_divmod vr_divmod (by rfl) T.no_divmod (by decide +kernel) (d_cons (d_var 0) (d_cons (d_gint (by rfl) T.c_DAY) d_nil))) (pg_tup rfl (pgs_cons (pg_name (i := 1) sc_show_time.nd rfl (by first | exact .inl rfl | exact .inr rfl)) (pgs_cons (pg_name (i := 2) sc_show_time.nd rfl (by first | exact .inl rfl | exact .inr rfl)) pgs_nil))))
    (ds_cons (d_set (i := 3) sc_show_time.nd rfl (by first | exact .inl rfl | exact .inr rfl) (d_call F_show_clock (hr.mono (by decide)) (by rfl) bnd_show_clock_1 dfv_nil (da_p0 (d_cons (d_var 2) d_nil))))
    (ds_cons (d_if (d_tcmp op_gt vr_gt (d_var 1) d_int)
      (ds_one (d_aug (i := 3) sc_show_time.nd rfl (by first | exact .inl rfl | exact .inr rfl) or_iadd vr_iadd (d_joined (.cons d_str (.cons (d_fmt (d_var 1)) .nil)))))
      ds_nil)
    (ds_one (d_ret (d_var 3))))))
def g_clock_in (K : PySem.W.Frag) (a : Ad) : GS :=
  (gSeq (gIfS (gOrB (gTest (gB2 aNe (gCB (a1 aLen) (Dl.gCons (gVar 0) Dl.gNil)) (gC (.int 5)))) (gOrB (gTest (gB2 aNe (gIx (gVar 0) (gC (.int 2))) (gC (.str ":")))) (gNotB (gTest (gCall 1 0 [.p 0] [] (sp_are_figures a) (gArgs (Dl.gCons (gB2 (aAdd true) (gSl true (gVar 0) gNoP (gPart (gC (.int 2)))) (gSl true (gVar 0) (gPart (gC (.int 3))) gNoP)) Dl.gNil) Dl.gNil)))))) (gRet (gC .non)) gNext) (gSeq (gPar 1 2 (Dl.gCons (gCB (a1 aInt) (Dl.gCons (gSl true (gVar 0) gNoP (gPart (gC (.int 2)))) Dl.gNil)) (Dl.gCons (gCB (a1 aInt) (Dl.gCons (gSl true (gVar 0) (gPart (gC (.int 3))) gNoP) Dl.gNil)) Dl.gNil))) (gRet (gIf (gAndB (gTest (gB2 aLt (gVar 1) (gC (.int 24)))) (gTest (gB2 aLt (gVar 2) (gC (.int 60))))) (gB2 (aAdd true) (gB2 (aMul true) (gVar 1) (gC (.int 60))) (gVar 2)) (gC .non)))))
theorem t_clock_in (T : Txt K mg a) (F_are_figures : Fnc P w K mg base "are_figures" s_are_figures dv_are_figures 1 ps_are_figures (sp_are_figures a)) {f : Addr} {cdv : Value} {A : Around} {outer : List Env} {s : Shared} {H : Hp} {E : XK} (hr : RoomG 1 (A.deeper (PyProof.Rows.envOfC "clock_in" (defScope s_clock_in) s.heap.objs.size f cdv))) :
    PSs (cxOf CX0 P w K mg base N_clock_in "clock_in" (defScope s_clock_in) f cdv A outer s H E).nox (defBody s_clock_in) (tofS K U0 (g_clock_in K a)) :=
  (ds_cons (d_if (PW.pt (d_or (d_tcmp (op_neD hr.units) vr_ne (d_callB or_len vr_len (by rfl) T.no_len (by decide +kernel) (d_cons (d_var 0) d_nil)) d_int) (d_or (d_tcmp (op_neD hr.units) vr_ne (d_ix (d_var 0) d_int) d_str) (d_or1 (d_not (d_val (d_call F_are_figures (hr.mono (by decide)) (by rfl) bnd_are_figures_1 dfv_nil (da_p0 (d_cons (d_op or_add (vr_add (fz := true)) (d_sl true (d_var 0) do_none (do_some d_int)) (d_sl true (d_var 0) (do_some d_int) do_none)) d_nil)))))))))
      (ds_one (d_ret d_non))
      ds_nil)
    (ds_cons (d_par sc_clock_in.nd (d_cons (d_callTy or_int vr_int (by rfl) T.no_int (by decide +kernel) (d_cons (d_sl true (d_var 0) do_none (do_some d_int)) d_nil)) (d_cons (d_callTy or_int vr_int (by rfl) T.no_int (by decide +kernel) (d_cons (d_sl true (d_var 0) (do_some d_int) do_none) d_nil)) d_nil)))
    (ds_one (d_ret (d_ifExp (PW.pt (d_and (d_tcmp op_lt vr_lt (d_var 1) d_int) (d_and1 (d_tcmp op_lt vr_lt (d_var 2) (d_gint (by rfl) T.c_HOUR))))) (d_op or_add (vr_add (fz := true)) (d_op or_mul (vr_mul (fz := true)) (d_var 1) (d_gint (by rfl) T.c_HOUR)) (d_var 2)) d_non)))))
def g_time_in (K : PySem.W.Frag) (a : Ad) : GS :=
  (gSeq (gAsg (.tp [(.nm 1), (.nm 2), (.nm 3)]) (gMt "str" aRpart (gVar 0) (Dl.gCons (gC (.str "+")) Dl.gNil))) (gSeq (gIfS (gTest (gB2 aEq (gVar 2) (gC (.str "")))) (gRet (gCall 1 0 [.p 0] [] (sp_clock_in a) (gArgs (Dl.gCons (gVar 0) Dl.gNil) Dl.gNil))) gNext) (gSeq (gSet 4 (gCall 1 0 [.p 0] [] (sp_clock_in a) (gArgs (Dl.gCons (gVar 1) Dl.gNil) Dl.gNil))) (gSeq (gSet 5 (gCall 1 1 [.p 0, .k 0, .d 1] [.int 0, .int 999999999] (sp_number_in a) (gArgs (Dl.gCons (gVar 3) Dl.gNil) (Dl.gCons (gC (.int 1)) Dl.gNil)))) (gSeq (gIfS (gOrB (gTest (gIsN (gVar 4))) (gTest (gIsN (gVar 5)))) (gRet (gC .non)) gNext) (gSeq (gSet 6 (gB2 (aAdd true) (gB2 (aMul true) (gVar 5) (gC (.int 1440))) (gVar 4))) (gRet (gIf (gTest (gB2 aLe (gVar 6) (gC (.int 1000000)))) (gVar 6) (gC .non)))))))))
theorem t_time_in (T : Txt K mg a) (F_clock_in : Fnc P w K mg base "clock_in" s_clock_in dv_clock_in 2 ps_clock_in (sp_clock_in a)) (F_number_in : Fnc P w K mg base "number_in" s_number_in dv_number_in 2 ps_number_in (sp_number_in a)) {f : Addr} {cdv : Value} {A : Around} {outer : List Env} {s : Shared} {H : Hp} {E : XK} (hr : RoomG 2 (A.deeper (PyProof.Rows.envOfC "time_in" (defScope s_time_in) s.heap.objs.size f cdv))) :
    PSs (cxOf CX0 P w K mg base N_time_in "time_in" (defScope s_time_in) f cdv A outer s H E).nox (defBody s_time_in) (tofS K U0 (g_time_in K a)) :=
  (ds_cons (d_asg (t := (.tp [(.nm 1), (.nm 2), (.nm 3)])) (d_bm (by decide) PySem.F.plainAttrs_str PySem.F.slot_str_rpartition PySem.F.type_str_rpartition mt_rpartition vm_rpartition (d_var 0) (d_cons d_str d_nil)) (pg_tup rfl (pgs_cons (pg_name (i := 1) sc_time_in.nd rfl (by first | exact .inl rfl | exact .inr rfl)) (pgs_cons (pg_name (i := 2) sc_time_in.nd rfl (by first | exact .inl rfl | exact .inr rfl)) (pgs_cons (pg_name (i := 3) sc_time_in.nd rfl (by first | exact .inl rfl | exact .inr rfl)) pgs_nil)))))
    (ds_cons (d_if (d_tcmp (op_eqD hr.units) vr_eq (d_var 2) d_str)
      (ds_one (d_ret (d_call F_clock_in (hr.mono (by decide)) (by rfl) bnd_clock_in_1 dfv_nil (da_p0 (d_cons (d_var 0) d_nil)))))
      ds_nil)
    (ds_cons (d_set (i := 4) sc_time_in.nd rfl (by first | exact .inl rfl | exact .inr rfl) (d_call F_clock_in (hr.mono (by decide)) (by rfl) bnd_clock_in_1 dfv_nil (da_p0 (d_cons (d_var 1) d_nil))))
    (ds_cons (d_set (i := 5) sc_time_in.nd rfl (by first | exact .inl rfl | exact .inr rfl) (d_call F_number_in (hr.mono (by decide)) (by rfl) bnd_number_in_1_least dfv_number_in (da_pk (d_cons (d_var 3) d_nil) (dk_cons d_int dk_nil))))
    (ds_cons (d_if (PW.pt (d_or (d_tisN (d_var 4)) (d_or1 (d_tisN (d_var 5)))))
      (ds_one (d_ret d_non))
      ds_nil)
    (ds_cons (d_set (i := 6) sc_time_in.nd rfl (by first | exact .inl rfl | exact .inr rfl) (d_op or_add (vr_add (fz := true)) (d_op or_mul (vr_mul (fz := true)) (d_var 5) (d_gint (by rfl) T.c_DAY)) (d_var 4)))
    (ds_one (d_ret (d_ifExp (d_tcmp op_le vr_le (d_var 6) (d_gint (by rfl) T.c_LAST_MINUTE)) (d_var 6) d_non)))))))))
def g_Book_init (K : PySem.W.Frag) (a : Ad) : GS :=
  (gSeq (gFldSet K "bank" (gVar 0) (gVar 1)) (gFldSet K "kept" (gVar 0) (Dl.gLst false Dl.gNil)))
theorem t_Book_init (T : Txt K mg a)  {f : Addr} {cdv : Value} {A : Around} {outer : List Env} {s : Shared} {H : Hp} {E : XK} (hr : RoomG 0 (A.deeper (PyProof.Rows.envOfC "Book.__init__" (defScope s_Book_init) s.heap.objs.size f cdv))) :
    PSs (cxOf CX0 P w K mg base N_Book_init "Book.__init__" (defScope s_Book_init) f cdv A outer s H E).nox (defBody s_Book_init) (tofS K U0 (g_Book_init K a)) :=
  (ds_cons (d_fldset (d_var 0) (d_var 1))
    (ds_one (d_fldset (d_var 0) (d_lst false d_nil))))
def g_Book_write (K : PySem.W.Frag) (a : Ad) : GS :=
  (gSeq (gIfS (gAndB (gTest (gB2 (aNil true) (gFld K "kept" (gVar 0)) (Dl.gLst true Dl.gNil))) (gTest (gB2 aLt (gVar 1) (gIx (gIx (gFld K "kept" (gVar 0)) (gU aNeg (gC (.int 1)))) (gC (.int 0)))))) gDead gNext) (gDrop (gMt "list" aAppend (gFld K "kept" (gVar 0)) (Dl.gCons (Dl.gTup (Dl.gCons (gVar 1) (Dl.gCons (gVar 2) (Dl.gCons (gVar 3) Dl.gNil)))) Dl.gNil))))
theorem t_Book_write (T : Txt K mg a)  {f : Addr} {cdv : Value} {A : Around} {outer : List Env} {s : Shared} {H : Hp} {E : XK} (hr : RoomG 0 (A.deeper (PyProof.Rows.envOfC "Book.write" (defScope s_Book_write) s.heap.objs.size f cdv))) :
    PSs (cxOf CX0 P w K mg base N_Book_write "Book.write" (defScope s_Book_write) f cdv A outer s H E).nox (defBody s_Book_write) (tofS K U0 (g_Book_write K a)) :=
  (ds_cons (d_if (PW.pt (d_and (d_tcmp (or_neNil hr) vr_nil (d_fld (d_var 0)) (d_lst true d_nil)) (d_and1 (d_tcmp op_lt vr_lt (d_var 1) (d_ix (d_ix (d_fld (d_var 0)) (d_un un_neg vr_neg d_int)) d_int)))))
      (ds_one d_dead)
      ds_nil)
    (ds_one (d_expr (d_bm (by decide) PySem.F.plainAttrs_list PySem.F.slot_list_append PySem.F.type_list_append mt_append vm_append (d_fld (d_var 0)) (d_cons (d_tup (d_cons (d_var 1) (d_cons (d_var 2) (d_cons (d_var 3) d_nil)))) d_nil)))))
def g_Book_rows (K : PySem.W.Frag) (a : Ad) : GS :=
  (gRet (gCB (a1 (aList true)) (Dl.gCons (gFld K "kept" (gVar 0)) Dl.gNil)))
theorem t_Book_rows (T : Txt K mg a)  {f : Addr} {cdv : Value} {A : Around} {outer : List Env} {s : Shared} {H : Hp} {E : XK} (hr : RoomG 0 (A.deeper (PyProof.Rows.envOfC "Book.rows" (defScope s_Book_rows) s.heap.objs.size f cdv))) :
    PSs (cxOf CX0 P w K mg base N_Book_rows "Book.rows" (defScope s_Book_rows) f cdv A outer s H E).nox (defBody s_Book_rows) (tofS K U0 (g_Book_rows K a)) :=
  (ds_one (d_ret (d_callTy call_list_of (vr_list (fz := true)) (by rfl) T.no_list (by decide +kernel) (d_cons (d_fld (d_var 0)) d_nil))))
def g_Book_len (K : PySem.W.Frag) (a : Ad) : GS :=
  (gRet (gCB (a1 aLen) (Dl.gCons (gFld K "kept" (gVar 0)) Dl.gNil)))
theorem t_Book_len (T : Txt K mg a)  {f : Addr} {cdv : Value} {A : Around} {outer : List Env} {s : Shared} {H : Hp} {E : XK} (hr : RoomG 0 (A.deeper (PyProof.Rows.envOfC "Book.__len__" (defScope s_Book_len) s.heap.objs.size f cdv))) :
    PSs (cxOf CX0 P w K mg base N_Book_len "Book.__len__" (defScope s_Book_len) f cdv A outer s H E).nox (defBody s_Book_len) (tofS K U0 (g_Book_len K a)) :=
  (ds_one (d_ret (d_callB or_len vr_len (by rfl) T.no_len (by decide +kernel) (d_cons (d_fld (d_var 0)) d_nil))))
def g_Book_eq (K : PySem.W.Frag) (a : Ad) : GS :=
  (gRet (gAndV (gCB (a2 (aIsiC K)) (Dl.gCons (gVar 1) (Dl.gCons (gC (.ref a.C_Book)) Dl.gNil))) (gAndV (gB2 aEq (gFld K "bank" (gVar 0)) (gFld K "bank" (gVar 1))) (gB2 aEq (gFld K "kept" (gVar 0)) (gFld K "kept" (gVar 1))))))
theorem t_Book_eq (T : Txt K mg a)  {f : Addr} {cdv : Value} {A : Around} {outer : List Env} {s : Shared} {H : Hp} {E : XK} (hr : RoomG 0 (A.deeper (PyProof.Rows.envOfC "Book.__eq__" (defScope s_Book_eq) s.heap.objs.size f cdv))) :
    PSs (cxOf CX0 P w K mg base N_Book_eq "Book.__eq__" (defScope s_Book_eq) f cdv A outer s H E).nox (defBody s_Book_eq) (tofS K U0 (g_Book_eq K a)) :=
  (ds_one (d_ret (d_andV (d_callB call_isi vr_isiC (by rfl) T.no_isinstance (by decide +kernel) (d_cons (d_var 1) (d_cons (d_gref (by rfl) T.mC_Book) d_nil))) (d_andV (d_cmp (op_eqD hr.units) vr_eq (d_fld (d_var 0)) (d_fld (d_var 1))) (d_oneV (d_cmp (op_eqD hr.units) vr_eq (d_fld (d_var 0)) (d_fld (d_var 1))))))))
def g_Book_str (K : PySem.W.Frag) (a : Ad) : GS :=
  (gSeq (gSet 1 (Dl.gLst false (Dl.gCons (gFld K "bank" (gVar 0)) Dl.gNil))) (gSeq (gFor (gIt (gFld K "kept" (gVar 0))) (.tp [(.nm 2), (.nm 3), (.nm 4)]) (gDrop (gMt "list" aAppend (gVar 1) (Dl.gCons (gJoined [(gFmt (gCall 1 0 [.p 0] [] (sp_show_time a) (gArgs (Dl.gCons (gVar 2) Dl.gNil) Dl.gNil))), (gC (.str " ")), (gFmt (gVar 3)), (gC (.str " ")), (gFmt (gVar 4))]) Dl.gNil)))) (gRet (gMt "str" aJoin (gC (.str "\n")) (Dl.gCons (gVar 1) Dl.gNil)))))
theorem t_Book_str (T : Txt K mg a) (F_show_time : Fnc P w K mg base "show_time" s_show_time dv_show_time 2 ps_show_time (sp_show_time a)) {f : Addr} {cdv : Value} {A : Around} {outer : List Env} {s : Shared} {H : Hp} {E : XK} (hr : RoomG 2 (A.deeper (PyProof.Rows.envOfC "Book.__str__" (defScope s_Book_str) s.heap.objs.size f cdv))) :
    PSs (cxOf CX0 P w K mg base N_Book_str "Book.__str__" (defScope s_Book_str) f cdv A outer s H E).nox (defBody s_Book_str) (tofS K U0 (g_Book_str K a)) :=
  (ds_cons (d_set (i := 1) sc_Book_str.nd rfl (by first | exact .inl rfl | exact .inr rfl) (d_lst false (d_cons (d_fld (d_var 0)) d_nil)))
    (ds_cons (d_for (t := (.tp [(.nm 2), (.nm 3), (.nm 4)])) PassesOwn.never rfl (di_seq (d_fld (d_var 0))) (pg_tup rfl (pgs_cons (pg_name (i := 2) sc_Book_str.nd rfl (by first | exact .inl rfl | exact .inr rfl)) (pgs_cons (pg_name (i := 3) sc_Book_str.nd rfl (by first | exact .inl rfl | exact .inr rfl)) (pgs_cons (pg_name (i := 4) sc_Book_str.nd rfl (by first | exact .inl rfl | exact .inr rfl)) pgs_nil))))
      (ds_one (d_expr (d_bm (by decide) PySem.F.plainAttrs_list PySem.F.slot_list_append PySem.F.type_list_append mt_append vm_append (d_var 1) (d_cons (d_joined (.cons (d_fmt (d_call F_show_time (hr.mono (by decide)) (by rfl) bnd_show_time_1 dfv_nil (da_p0 (d_cons (d_var 2) d_nil)))) (.cons d_str (.cons (d_fmt (d_var 3)) (.cons d_str (.cons (d_fmt (d_var 4)) .nil)))))) d_nil)))))
    (ds_one (d_ret (d_bm (by decide) PySem.F.plainAttrs_str PySem.F.slot_str_join PySem.F.type_str_join mt_join vm_join d_str (d_cons (d_var 1) d_nil))))))
def g_row_in (K : PySem.W.Frag) (a : Ad) : GS :=
  (gSeq (gSet 1 (gMt "str" (aSplit true) (gVar 0) (Dl.gCons (gC (.str " ")) Dl.gNil))) (gSeq (gIfS (gOrB (gTest (gB2 aNe (gCB (a1 aLen) (Dl.gCons (gVar 1) Dl.gNil)) (gC (.int 3)))) (gOrB (gTest (gB2 (aInX true) (gIx (gVar 1) (gC (.int 1))) (gC (.tup [.str "on", .str "off"])))) (gNotB (gTest (gCall 1 0 [.p 0] [] (sp_is_name a) (gArgs (Dl.gCons (gIx (gVar 1) (gC (.int 2))) Dl.gNil) Dl.gNil)))))) (gRet (gC .non)) gNext) (gSeq (gSet 2 (gCall 1 0 [.p 0] [] (sp_time_in a) (gArgs (Dl.gCons (gIx (gVar 1) (gC (.int 0))) Dl.gNil) Dl.gNil))) (gRet (gIf (gTest (gIsN (gVar 2))) (gC .non) (Dl.gTup (Dl.gCons (gVar 2) (Dl.gCons (gIx (gVar 1) (gC (.int 1))) (Dl.gCons (gIx (gVar 1) (gC (.int 2))) Dl.gNil)))))))))
theorem t_row_in (T : Txt K mg a) (F_is_name : Fnc P w K mg base "is_name" s_is_name dv_is_name 1 ps_is_name (sp_is_name a)) (F_time_in : Fnc P w K mg base "time_in" s_time_in dv_time_in 3 ps_time_in (sp_time_in a)) {f : Addr} {cdv : Value} {A : Around} {outer : List Env} {s : Shared} {H : Hp} {E : XK} (hr : RoomG 3 (A.deeper (PyProof.Rows.envOfC "row_in" (defScope s_row_in) s.heap.objs.size f cdv))) :
    PSs (cxOf CX0 P w K mg base N_row_in "row_in" (defScope s_row_in) f cdv A outer s H E).nox (defBody s_row_in) (tofS K U0 (g_row_in K a)) :=
  (ds_cons (d_set (i := 1) sc_row_in.nd rfl (by first | exact .inl rfl | exact .inr rfl) (d_bm (by decide) PySem.F.plainAttrs_str PySem.F.slot_str_split PySem.F.type_str_split mt_split (vm_split (fz := true)) (d_var 0) (d_cons d_str d_nil)))
    (ds_cons (d_if (PW.pt (d_or (d_tcmp (op_neD hr.units) vr_ne (d_callB or_len vr_len (by rfl) T.no_len (by decide +kernel) (d_cons (d_var 1) d_nil)) d_int) (d_or (d_tcmp (op_notInAll hr) vr_notInX (d_ix (d_var 1) d_int) (d_gtup (by rfl) T.c_WORDS T.ck_WORDS.tup)) (d_or1 (d_not (d_val (d_call F_is_name (hr.mono (by decide)) (by rfl) bnd_is_name_1 dfv_nil (da_p0 (d_cons (d_ix (d_var 1) d_int) d_nil)))))))))
      (ds_one (d_ret d_non))
      ds_nil)
    (ds_cons (d_set (i := 2) sc_row_in.nd rfl (by first | exact .inl rfl | exact .inr rfl) (d_call F_time_in (hr.mono (by decide)) (by rfl) bnd_time_in_1 dfv_nil (da_p0 (d_cons (d_ix (d_var 1) d_int) d_nil))))
    (ds_one (d_ret (d_ifExp (d_tisN (d_var 2)) d_non (d_tup (d_cons (d_var 2) (d_cons (d_ix (d_var 1) d_int) (d_cons (d_ix (d_var 1) d_int) d_nil))))))))))
def g_read_book (K : PySem.W.Frag) (a : Ad) : GS :=
  (gSeq (gSet 1 (gIf (gTest (gCB (a2 aIsi) (Dl.gCons (gVar 0) (Dl.gCons (gC (.ty "str")) Dl.gNil)))) (gMt "str" (aSplit true) (gVar 0) (Dl.gCons (gC (.str "\n")) Dl.gNil)) (Dl.gLst true (Dl.gCons (gC (.str "")) Dl.gNil)))) (gSeq (gIfS (gTest (gB2 (aInX true) (gIx (gVar 1) (gC (.int 0))) (gC (.tup [.str "near", .str "far"])))) gDead gNext) (gSeq (gSet 2 (gMake a.C_Book 0 1 [.p 0, .k 0] [] (sp_Book_init a) (gArgs Dl.gNil (Dl.gCons (gIx (gVar 1) (gC (.int 0))) Dl.gNil)))) (gSeq (gFor (gEnumK 1 (Dl.gCons (gSl true (gVar 1) (gPart (gC (.int 1))) gNoP) Dl.gNil)) (.tp [(.nm 3), (.nm 4)]) (gSeq (gSet 5 (gCall 1 0 [.p 0] [] (sp_row_in a) (gArgs (Dl.gCons (gVar 4) Dl.gNil) Dl.gNil))) (gSeq (gIfS (gTest (gIsN (gVar 5))) gDead gNext) (gDrop (gMeth a.C_Book "write" 3 0 [.p 0, .p 1, .p 2, .p 3] [] (sp_Book_write a) (gVar 2) (gArgs (Dl.gCons (gIx (gVar 5) (gC (.int 0))) (Dl.gCons (gIx (gVar 5) (gC (.int 1))) (Dl.gCons (gIx (gVar 5) (gC (.int 2))) Dl.gNil))) Dl.gNil)))))) (gRet (gVar 2))))))
theorem t_read_book (T : Txt K mg a) (F_Book_init : CFn P w K mg base "Book" a.C_Book "Book.__init__" s_Book_init dv_Book_init 1 ps_Book_init (sp_Book_init a)) (F_Book_write : MFn P w K mg base a.C_Book "write" "Book.write" s_Book_write dv_Book_write 1 ps_Book_write (sp_Book_write a)) (F_row_in : Fnc P w K mg base "row_in" s_row_in dv_row_in 4 ps_row_in (sp_row_in a)) {f : Addr} {cdv : Value} {A : Around} {outer : List Env} {s : Shared} {H : Hp} {E : XK} (hr : RoomG 4 (A.deeper (PyProof.Rows.envOfC "read_book" (defScope s_read_book) s.heap.objs.size f cdv))) :
    PSs (cxOf CX0 P w K mg base N_read_book "read_book" (defScope s_read_book) f cdv A outer s H E).nox (defBody s_read_book) (tofS K U0 (g_read_book K a)) :=
  (ds_cons (d_set (i := 1) sc_read_book.nd rfl (by first | exact .inl rfl | exact .inr rfl) (d_ifExp (d_val (d_callB call_isi vr_isi (by rfl) T.no_isinstance (by decide +kernel) (d_cons (d_var 0) (d_cons (d_gty (by rfl) T.no_str (by decide +kernel)) d_nil)))) (d_bm (by decide) PySem.F.plainAttrs_str PySem.F.slot_str_split PySem.F.type_str_split mt_split (vm_split (fz := true)) (d_var 0) (d_cons d_str d_nil)) (d_lst true (d_cons d_str d_nil))))
    (ds_cons (d_if (d_tcmp (op_notInAll hr) vr_notInX (d_ix (d_var 1) d_int) (d_gtup (by rfl) T.c_BANKS T.ck_BANKS.tup))
      (ds_one d_dead)
      ds_nil)
    (ds_cons (d_set (i := 2) sc_read_book.nd rfl (by first | exact .inl rfl | exact .inr rfl) (d_make F_Book_init (hr.mono (by decide)) (by rfl) bnd_Book_init_1_bank dfv_nil (da_0k (dk_cons (d_ix (d_var 1) d_int) dk_nil))))
    (ds_cons (d_for (t := (.tp [(.nm 3), (.nm 4)])) PassesOwn.never rfl (di_enumK (k := 1) pk_start (by decide) (by decide) (by rfl) T.no_enumerate (d_cons (d_sl true (d_var 1) (do_some d_int) do_none) d_nil)) (pg_tup rfl (pgs_cons (pg_name (i := 3) sc_read_book.nd rfl (by first | exact .inl rfl | exact .inr rfl)) (pgs_cons (pg_name (i := 4) sc_read_book.nd rfl (by first | exact .inl rfl | exact .inr rfl)) pgs_nil)))
      (ds_cons (d_set (i := 5) sc_read_book.nd rfl (by first | exact .inl rfl | exact .inr rfl) (d_call F_row_in (hr.mono (by decide)) (by rfl) bnd_row_in_1 dfv_nil (da_p0 (d_cons (d_var 4) d_nil))))
    (ds_cons (d_if (d_tisN (d_var 5))
      (ds_one d_dead)
      ds_nil)
    (ds_one (d_thru (ds_one (d_expr (d_meth F_Book_write (hr.mono (by decide)) bnd_Book_write_4 dfv_nil (d_var 2) (da_p0 (d_cons (d_ix (d_var 5) d_int) (d_cons (d_ix (d_var 5) d_int) (d_cons (d_ix (d_var 5) d_int) d_nil))))))))))))
    (ds_one (d_ret (d_var 2)))))))
def g__law_feed (K : PySem.W.Frag) (a : Ad) : GS :=
  (gRet (Dl.gLst false (Dl.gCons (gCB (a1 (aList true)) (Dl.gCons (gSl true (gVar 0) gNoP (gPart (gC (.int 63)))) Dl.gNil)) (Dl.gCons (gC (.int 0)) (Dl.gCons (gC (.int 0)) Dl.gNil)))))
theorem t__law_feed (T : Txt K mg a)  {f : Addr} {cdv : Value} {A : Around} {outer : List Env} {s : Shared} {H : Hp} {E : XK} (hr : RoomG 0 (A.deeper (PyProof.Rows.envOfC "_law_feed" (defScope s__law_feed) s.heap.objs.size f cdv))) :
    PSs (cxOf CX0 P w K mg base N__law_feed "_law_feed" (defScope s__law_feed) f cdv A outer s H E).nox (defBody s__law_feed) (tofS K U0 (g__law_feed K a)) :=
  (ds_one (d_ret (d_lst false (d_cons (d_callTy call_list_of (vr_list (fz := true)) (by rfl) T.no_list (by decide +kernel) (d_cons (d_sl true (d_var 0) do_none (do_some d_int)) d_nil)) (d_cons d_int (d_cons d_int d_nil))))))
def g__law_draw (K : PySem.W.Frag) (a : Ad) : GS :=
  (gSeq (gIfS (gTest (gB2 aGt (gIx (gVar 0) (gC (.int 2))) (gC (.int 0)))) (gSeq (gSet 2 (gB2 aMod (gIx (gVar 0) (gC (.int 2))) (gVar 1))) (gSeq (gSetIx (gVar 0) (gC (.int 2)) (gB2 aFdiv (gIx (gVar 0) (gC (.int 2))) (gVar 1))) (gRet (gVar 2)))) gNext) (gSeq (gSet 3 (gIx (gVar 0) (gC (.int 1)))) (gSeq (gSetIx (gVar 0) (gC (.int 1)) (gB2 (aAdd true) (gVar 3) (gC (.int 1)))) (gSeq (gSet 4 (gIf (gTest (gB2 aNe (gIx (gVar 0) (gC (.int 0))) (Dl.gLst true Dl.gNil))) (gIx (gIx (gVar 0) (gC (.int 0))) (gB2 aMod (gVar 3) (gCB (a1 aLen) (Dl.gCons (gIx (gVar 0) (gC (.int 0))) Dl.gNil)))) (gB2 (aAdd true) (gB2 (aMul true) (gC (.int 7919)) (gVar 3)) (gC (.int 11))))) (gSeq (gIfS (gAndB (gTest (gB2 aLt (gVar 3) (gCB (a1 aLen) (Dl.gCons (gIx (gVar 0) (gC (.int 0))) Dl.gNil)))) (gTest (gB2 aGe (gVar 4) (gB2 aPow (gC (.int 10)) (gC (.int 18)))))) (gSeq (gSetIx (gVar 0) (gC (.int 2)) (gB2 aFdiv (gVar 4) (gVar 1))) (gRet (gB2 aMod (gVar 4) (gVar 1)))) gNext) (gSeq (gSet 5 (gB2 aMod (gB2 aPow (gB2 (aAdd true) (gB2 (aAdd true) (gB2 aMod (gVar 4) (gC (.int 2147483629))) (gB2 (aMul true) (gC (.int 104729)) (gVar 3))) (gC (.int 1013))) (gC (.int 3))) (gC (.int 2147483647)))) (gSeq (gSet 5 (gB2 aMod (gB2 (aMul true) (gB2 (aAdd true) (gB2 aFdiv (gVar 5) (gC (.int 16))) (gC (.int 40763))) (gB2 (aAdd true) (gB2 aMod (gB2 (aMul true) (gC (.int 48271)) (gVar 3)) (gC (.int 65521))) (gC (.int 3)))) (gC (.int 2147483587)))) (gRet (gB2 aMod (gB2 aFdiv (gVar 5) (gC (.int 32))) (gVar 1))))))))))
theorem t__law_draw (T : Txt K mg a)  {f : Addr} {cdv : Value} {A : Around} {outer : List Env} {s : Shared} {H : Hp} {E : XK} (hr : RoomG 0 (A.deeper (PyProof.Rows.envOfC "_law_draw" (defScope s__law_draw) s.heap.objs.size f cdv))) :
    PSs (cxOf CX0 P w K mg base N__law_draw "_law_draw" (defScope s__law_draw) f cdv A outer s H E).nox (defBody s__law_draw) (tofS K U0 (g__law_draw K a)) :=
  (ds_cons (d_if (d_tcmp op_gt vr_gt (d_ix (d_var 0) d_int) d_int)
      (ds_cons (d_set (i := 2) sc__law_draw.nd rfl (by first | exact .inl rfl | exact .inr rfl) (d_op op_mod vr_mod (d_ix (d_var 0) d_int) (d_var 1)))
    (ds_cons (d_setix (d_var 0) d_int (d_op or_fdiv vr_fdiv (d_ix (d_var 0) d_int) (d_var 1)))
    (ds_one (d_ret (d_var 2)))))
      ds_nil)
    (ds_cons (d_set (i := 3) sc__law_draw.nd rfl (by first | exact .inl rfl | exact .inr rfl) (d_ix (d_var 0) d_int))
    (ds_cons (d_setix (d_var 0) d_int (d_op or_add (vr_add (fz := true)) (d_var 3) d_int))
    (ds_cons (d_set (i := 4) sc__law_draw.nd rfl (by first | exact .inl rfl | exact .inr rfl) (d_ifExp (d_tcmp (op_neD hr.units) vr_ne (d_ix (d_var 0) d_int) (d_lst true d_nil)) (d_ix (d_ix (d_var 0) d_int) (d_op op_mod vr_mod (d_var 3) (d_callB or_len vr_len (by rfl) T.no_len (by decide +kernel) (d_cons (d_ix (d_var 0) d_int) d_nil)))) (d_op or_add (vr_add (fz := true)) (d_op or_mul (vr_mul (fz := true)) d_int (d_var 3)) d_int)))
    (ds_cons (d_if (PW.pt (d_and (d_tcmp op_lt vr_lt (d_var 3) (d_callB or_len vr_len (by rfl) T.no_len (by decide +kernel) (d_cons (d_ix (d_var 0) d_int) d_nil))) (d_and1 (d_tcmp op_ge vr_ge (d_var 4) (d_op op_pow vr_pow d_int d_int)))))
      (ds_cons (d_setix (d_var 0) d_int (d_op or_fdiv vr_fdiv (d_var 4) (d_var 1)))
    (ds_one (d_ret (d_op op_mod vr_mod (d_var 4) (d_var 1)))))
      ds_nil)
    (ds_cons (d_set (i := 5) sc__law_draw.nd rfl (by first | exact .inl rfl | exact .inr rfl) (d_op op_mod vr_mod (d_op op_pow vr_pow (d_op or_add (vr_add (fz := true)) (d_op or_add (vr_add (fz := true)) (d_op op_mod vr_mod (d_var 4) d_int) (d_op or_mul (vr_mul (fz := true)) d_int (d_var 3))) d_int) d_int) d_int))
    (ds_cons (d_set (i := 5) sc__law_draw.nd rfl (by first | exact .inl rfl | exact .inr rfl) (d_op op_mod vr_mod (d_op or_mul (vr_mul (fz := true)) (d_op or_add (vr_add (fz := true)) (d_op or_fdiv vr_fdiv (d_var 5) d_int) d_int) (d_op or_add (vr_add (fz := true)) (d_op op_mod vr_mod (d_op or_mul (vr_mul (fz := true)) d_int (d_var 3)) d_int) d_int)) d_int))
    (ds_one (d_ret (d_op op_mod vr_mod (d_op or_fdiv vr_fdiv (d_var 5) d_int) (d_var 1)))))))))))
def g__law_of (K : PySem.W.Frag) (a : Ad) : GS :=
  (gRet (gIx (gVar 1) (gCall 2 0 [.p 0, .p 1] [] (sp__law_draw a) (gArgs (Dl.gCons (gVar 0) (Dl.gCons (gCB (a1 aLen) (Dl.gCons (gVar 1) Dl.gNil)) Dl.gNil)) Dl.gNil))))
theorem t__law_of (T : Txt K mg a) (F__law_draw : Fnc P w K mg base "_law_draw" s__law_draw dv__law_draw 1 ps__law_draw (sp__law_draw a)) {f : Addr} {cdv : Value} {A : Around} {outer : List Env} {s : Shared} {H : Hp} {E : XK} (hr : RoomG 1 (A.deeper (PyProof.Rows.envOfC "_law_of" (defScope s__law_of) s.heap.objs.size f cdv))) :
    PSs (cxOf CX0 P w K mg base N__law_of "_law_of" (defScope s__law_of) f cdv A outer s H E).nox (defBody s__law_of) (tofS K U0 (g__law_of K a)) :=
  (ds_one (d_ret (d_ix (d_var 1) (d_call F__law_draw (hr.mono (by decide)) (by rfl) bnd__law_draw_2 dfv_nil (da_p0 (d_cons (d_var 0) (d_cons (d_callB or_len vr_len (by rfl) T.no_len (by decide +kernel) (d_cons (d_var 1) d_nil)) d_nil)))))))
def g__law_names (K : PySem.W.Frag) (a : Ad) : GS :=
  (gSeq (gSet 2 (gC (.str "abcdefghijklmnopqrstuvwxyz"))) (gSeq (gSet 3 (gLc true (gRng1 (Dl.gCons (gB2 (aAdd true) (gC (.int 1)) (gCall 2 0 [.p 0, .p 1] [] (sp__law_draw a) (gArgs (Dl.gCons (gVar 0) (Dl.gCons (gC (.int 8)) Dl.gNil)) Dl.gNil))) Dl.gNil)) (.nm 7) gYes (gCall 2 0 [.p 0, .p 1] [] (sp__law_draw a) (gArgs (Dl.gCons (gVar 0) (Dl.gCons (gC (.int 26)) Dl.gNil)) Dl.gNil)) [7])) (gSeq (gPar 4 5 (Dl.gCons (gCall 2 0 [.p 0, .p 1] [] (sp__law_draw a) (gArgs (Dl.gCons (gVar 0) (Dl.gCons (gCB (a1 aLen) (Dl.gCons (gVar 3) Dl.gNil)) Dl.gNil)) Dl.gNil)) (Dl.gCons (gCall 2 0 [.p 0, .p 1] [] (sp__law_draw a) (gArgs (Dl.gCons (gVar 0) (Dl.gCons (gC (.int 2)) Dl.gNil)) Dl.gNil)) Dl.gNil))) (gSeq (gSet 6 (Dl.gLst false Dl.gNil)) (gSeq (gFor (gRng1 (Dl.gCons (gVar 1) Dl.gNil)) (.nm 7) (gSeq (gSet 8 (gCB (a1 (aList false)) (Dl.gCons (gVar 3) Dl.gNil))) (gSeq (gSetIx (gVar 8) (gVar 4) (gB2 aMod (gB2 (aAdd true) (gIx (gVar 3) (gVar 4)) (gB2 (aMul true) (gC (.int 7)) (gVar 7))) (gC (.int 26)))) (gSeq (gSet 9 (gMt "str" aJoin (gC (.str "")) (Dl.gCons (gLc true (gIt (gVar 8)) (.nm 10) gYes (gIx (gVar 2) (gVar 10)) [10]) Dl.gNil))) (gDrop (gMt "list" aAppend (gVar 6) (Dl.gCons (gSl true (gVar 9) gNoP (gPart (gCB (a2 aMax2) (Dl.gCons (gB2 (aAdd true) (gVar 4) (gC (.int 1))) (Dl.gCons (gB2 aSub (gCB (a1 aLen) (Dl.gCons (gVar 9) Dl.gNil)) (gB2 (aMul true) (gVar 5) (gB2 aMod (gVar 7) (gC (.int 3))))) Dl.gNil))))) Dl.gNil))))))) (gRet (gVar 6)))))))
theorem t__law_names (T : Txt K mg a) (F__law_draw : Fnc P w K mg base "_law_draw" s__law_draw dv__law_draw 1 ps__law_draw (sp__law_draw a)) {f : Addr} {cdv : Value} {A : Around} {outer : List Env} {s : Shared} {H : Hp} {E : XK} (hr : RoomG 1 (A.deeper (PyProof.Rows.envOfC "_law_names" (defScope s__law_names) s.heap.objs.size f cdv))) :
    PSs (cxOf CX0 P w K mg base N__law_names "_law_names" (defScope s__law_names) f cdv A outer s H E).nox (defBody s__law_names) (tofS K U0 (g__law_names K a)) :=
  (ds_cons (d_set (i := 2) sc__law_names.nd rfl (by first | exact .inl rfl | exact .inr rfl) d_str)
    (ds_cons (d_setLc (own := [("_law_k", 7)]) (t := (.nm 7)) true (i := 3) rfl sc__law_names.nd rfl rfl (sw_true rfl rfl rfl (by decide +kernel)) (di_rng1 (by rfl) T.no_range (d_cons (d_op or_add (vr_add (fz := true)) d_int (d_call F__law_draw (hr.mono (by decide)) (by rfl) bnd__law_draw_2 dfv_nil (da_p0 (d_cons (d_var 0) (d_cons d_int d_nil))))) d_nil)) (blkOk_by (own := [("_law_k", 7)]) (N := N__law_names) (sc := defScope s__law_names) (by decide +kernel)) (by decide) (fun _ _ _ _ _ => (pg_name (i := 7) sc__law_names.nd rfl (by first | exact .inl rfl | exact .inr rfl))) (fun _ _ _ _ _ => dt_nil) (fun _ _ _ _ _ => (d_call F__law_draw (hr.mono (by decide)) (by rfl) bnd__law_draw_2 dfv_nil (da_p0 (d_cons (d_var 0) (d_cons d_int d_nil))))))
    (ds_cons (d_par sc__law_names.nd (d_cons (d_call F__law_draw (hr.mono (by decide)) (by rfl) bnd__law_draw_2 dfv_nil (da_p0 (d_cons (d_var 0) (d_cons (d_callB or_len vr_len (by rfl) T.no_len (by decide +kernel) (d_cons (d_var 3) d_nil)) d_nil)))) (d_cons (d_call F__law_draw (hr.mono (by decide)) (by rfl) bnd__law_draw_2 dfv_nil (da_p0 (d_cons (d_var 0) (d_cons d_int d_nil)))) d_nil)))
    (ds_cons (d_set (i := 6) sc__law_names.nd rfl (by first | exact .inl rfl | exact .inr rfl) (d_lst false d_nil))
    (ds_cons (d_for (t := (.nm 7)) PassesOwn.never rfl (di_rng1 (by rfl) T.no_range (d_cons (d_var 1) d_nil)) (pg_name (i := 7) sc__law_names.nd rfl (by first | exact .inl rfl | exact .inr rfl))
      (ds_cons (d_set (i := 8) sc__law_names.nd rfl (by first | exact .inl rfl | exact .inr rfl) (d_callTy call_list_of (vr_list (fz := false)) (by rfl) T.no_list (by decide +kernel) (d_cons (d_var 3) d_nil)))
    (ds_cons (d_setix (d_var 8) (d_var 4) (d_op op_mod vr_mod (d_op or_add (vr_add (fz := true)) (d_ix (d_var 3) (d_var 4)) (d_op or_mul (vr_mul (fz := true)) d_int (d_var 7))) d_int))
    (ds_cons (d_set (i := 9) sc__law_names.nd rfl (by first | exact .inl rfl | exact .inr rfl) (d_bm (by decide) PySem.F.plainAttrs_str PySem.F.slot_str_join PySem.F.type_str_join mt_join vm_join d_str (d_cons (d_lc (own := [("_law_one", 10)]) (t := (.nm 10)) true rfl sc__law_names.nd (di_seq (d_var 8)) (blkOk_by (own := [("_law_one", 10)]) (N := N__law_names) (sc := defScope s__law_names) (by decide +kernel)) (by decide) (fun _ _ _ _ _ => (pg_name (i := 10) sc__law_names.nd rfl (by first | exact .inl rfl | exact .inr rfl))) (fun _ _ _ _ _ => dt_nil) (fun _ _ _ _ _ => (d_ix (d_var 2) (d_var 10)))) d_nil)))
    (ds_one (d_expr (d_bm (by decide) PySem.F.plainAttrs_list PySem.F.slot_list_append PySem.F.type_list_append mt_append vm_append (d_var 6) (d_cons (d_sl true (d_var 9) do_none (do_some (d_callB (call_max2 rfl) vr_max2 (by rfl) T.no_max (by decide +kernel) (d_cons (d_op or_add (vr_add (fz := true)) (d_var 4) d_int) (d_cons (d_op op_sub vr_sub (d_callB or_len vr_len (by rfl) T.no_len (by decide +kernel) (d_cons (d_var 9) d_nil)) (d_op or_mul (vr_mul (fz := true)) (d_var 5) (d_op op_mod vr_mod (d_var 7) d_int))) d_nil))))) d_nil))))))))
    (ds_one (d_ret (d_var 6))))))))
def g__law_time (K : PySem.W.Frag) (a : Ad) : GS :=
  (gSeq (gSet 1 (gB2 aMod (gVar 0) (gC (.int 1440)))) (gSeq (gSet 2 (gB2 (aAdd true) (gB2 (aAdd true) (gCB (a1 aStr) (Dl.gCons (gB2 aFdiv (gVar 1) (gC (.int 600))) Dl.gNil)) (gCB (a1 aStr) (Dl.gCons (gB2 aMod (gB2 aFdiv (gVar 1) (gC (.int 60))) (gC (.int 10))) Dl.gNil))) (gC (.str ":")))) (gSeq (gSet 2 (gB2 (aAdd true) (gB2 (aAdd true) (gVar 2) (gCB (a1 aStr) (Dl.gCons (gB2 aFdiv (gB2 aMod (gVar 1) (gC (.int 60))) (gC (.int 10))) Dl.gNil))) (gCB (a1 aStr) (Dl.gCons (gB2 aMod (gVar 1) (gC (.int 10))) Dl.gNil)))) (gRet (gIf (gTest (gB2 aLt (gVar 0) (gC (.int 1440)))) (gVar 2) (gB2 (aAdd true) (gB2 (aAdd true) (gVar 2) (gC (.str "+"))) (gCB (a1 aStr) (Dl.gCons (gB2 aFdiv (gVar 0) (gC (.int 1440))) Dl.gNil))))))))
theorem t__law_time (T : Txt K mg a)  {f : Addr} {cdv : Value} {A : Around} {outer : List Env} {s : Shared} {H : Hp} {E : XK} (hr : RoomG 0 (A.deeper (PyProof.Rows.envOfC "_law_time" (defScope s__law_time) s.heap.objs.size f cdv))) :
    PSs (cxOf CX0 P w K mg base N__law_time "_law_time" (defScope s__law_time) f cdv A outer s H E).nox (defBody s__law_time) (tofS K U0 (g__law_time K a)) :=
  (ds_cons (d_set (i := 1) sc__law_time.nd rfl (by first | exact .inl rfl | exact .inr rfl) (d_op op_mod vr_mod (d_var 0) d_int))
    (ds_cons (d_set (i := 2) sc__law_time.nd rfl (by first | exact .inl rfl | exact .inr rfl) (d_op or_add (vr_add (fz := true)) (d_op or_add (vr_add (fz := true)) (d_callTy call_str_int vr_str (by rfl) T.no_str (by decide +kernel) (d_cons (d_op or_fdiv vr_fdiv (d_var 1) d_int) d_nil)) (d_callTy call_str_int vr_str (by rfl) T.no_str (by decide +kernel) (d_cons (d_op op_mod vr_mod (d_op or_fdiv vr_fdiv (d_var 1) d_int) d_int) d_nil))) d_str))
    (ds_cons (d_set (i := 2) sc__law_time.nd rfl (by first | exact .inl rfl | exact .inr rfl) (d_op or_add (vr_add (fz := true)) (d_op or_add (vr_add (fz := true)) (d_var 2) (d_callTy call_str_int vr_str (by rfl) T.no_str (by decide +kernel) (d_cons (d_op or_fdiv vr_fdiv (d_op op_mod vr_mod (d_var 1) d_int) d_int) d_nil))) (d_callTy call_str_int vr_str (by rfl) T.no_str (by decide +kernel) (d_cons (d_op op_mod vr_mod (d_var 1) d_int) d_nil))))
    (ds_one (d_ret (d_ifExp (d_tcmp op_lt vr_lt (d_var 0) d_int) (d_var 2) (d_op or_add (vr_add (fz := true)) (d_op or_add (vr_add (fz := true)) (d_var 2) d_str) (d_callTy call_str_int vr_str (by rfl) T.no_str (by decide +kernel) (d_cons (d_op or_fdiv vr_fdiv (d_var 0) d_int) d_nil)))))))))
def g__law_rows (K : PySem.W.Frag) (a : Ad) : GS :=
  (gSeq (gPar 3 4 (Dl.gCons (gCall 2 0 [.p 0, .p 1] [] (sp__law_of a) (gArgs (Dl.gCons (gVar 0) (Dl.gCons (Dl.gLst true (Dl.gCons (gC (.int 0)) (Dl.gCons (gCall 2 0 [.p 0, .p 1] [] (sp__law_draw a) (gArgs (Dl.gCons (gVar 0) (Dl.gCons (gC (.int 1500)) Dl.gNil)) Dl.gNil)) (Dl.gCons (gCall 2 0 [.p 0, .p 1] [] (sp__law_draw a) (gArgs (Dl.gCons (gVar 0) (Dl.gCons (gC (.int 900000)) Dl.gNil)) Dl.gNil)) Dl.gNil)))) Dl.gNil)) Dl.gNil)) (Dl.gCons (Dl.gLst false Dl.gNil) Dl.gNil))) (gSeq (gSet 3 (gCB (a2 aMin2) (Dl.gCons (gVar 3) (Dl.gCons (gB2 aSub (gB2 aPow (gC (.int 10)) (gC (.int 6))) (gB2 (aMul true) (gC (.int 3000)) (gVar 2))) Dl.gNil)))) (gSeq (gFor (gRng1 (Dl.gCons (gVar 2) Dl.gNil)) (.nm 5) (gSeq (gSet 3 (gB2 (aAdd true) (gVar 3) (gCall 2 0 [.p 0, .p 1] [] (sp__law_of a) (gArgs (Dl.gCons (gVar 0) (Dl.gCons (Dl.gLst true (Dl.gCons (gC (.int 0)) (Dl.gCons (gC (.int 0)) (Dl.gCons (gC (.int 1)) (Dl.gCons (gCall 2 0 [.p 0, .p 1] [] (sp__law_draw a) (gArgs (Dl.gCons (gVar 0) (Dl.gCons (gC (.int 90)) Dl.gNil)) Dl.gNil)) (Dl.gCons (gCall 2 0 [.p 0, .p 1] [] (sp__law_draw a) (gArgs (Dl.gCons (gVar 0) (Dl.gCons (gC (.int 3000)) Dl.gNil)) Dl.gNil)) Dl.gNil)))))) Dl.gNil)) Dl.gNil)))) (gDrop (gMt "list" aAppend (gVar 4) (Dl.gCons (Dl.gTup (Dl.gCons (gVar 3) (Dl.gCons (gIx (Dl.gLst true (Dl.gCons (gC (.str "on")) (Dl.gCons (gC (.str "off")) Dl.gNil))) (gCall 2 0 [.p 0, .p 1] [] (sp__law_draw a) (gArgs (Dl.gCons (gVar 0) (Dl.gCons (gC (.int 2)) Dl.gNil)) Dl.gNil))) (Dl.gCons (gCall 2 0 [.p 0, .p 1] [] (sp__law_of a) (gArgs (Dl.gCons (gVar 0) (Dl.gCons (gVar 1) Dl.gNil)) Dl.gNil)) Dl.gNil)))) Dl.gNil))))) (gRet (gVar 4)))))
theorem t__law_rows (T : Txt K mg a) (F__law_draw : Fnc P w K mg base "_law_draw" s__law_draw dv__law_draw 1 ps__law_draw (sp__law_draw a)) (F__law_of : Fnc P w K mg base "_law_of" s__law_of dv__law_of 2 ps__law_of (sp__law_of a)) {f : Addr} {cdv : Value} {A : Around} {outer : List Env} {s : Shared} {H : Hp} {E : XK} (hr : RoomG 2 (A.deeper (PyProof.Rows.envOfC "_law_rows" (defScope s__law_rows) s.heap.objs.size f cdv))) :
    PSs (cxOf CX0 P w K mg base N__law_rows "_law_rows" (defScope s__law_rows) f cdv A outer s H E).nox (defBody s__law_rows) (tofS K U0 (g__law_rows K a)) :=
  (ds_cons (d_par sc__law_rows.nd (d_cons (d_call F__law_of (hr.mono (by decide)) (by rfl) bnd__law_of_2 dfv_nil (da_p0 (d_cons (d_var 0) (d_cons (d_lst true (d_cons d_int (d_cons (d_call F__law_draw (hr.mono (by decide)) (by rfl) bnd__law_draw_2 dfv_nil (da_p0 (d_cons (d_var 0) (d_cons d_int d_nil)))) (d_cons (d_call F__law_draw (hr.mono (by decide)) (by rfl) bnd__law_draw_2 dfv_nil (da_p0 (d_cons (d_var 0) (d_cons d_int d_nil)))) d_nil)))) d_nil)))) (d_cons (d_lst false d_nil) d_nil)))
    (ds_cons (d_set (i := 3) sc__law_rows.nd rfl (by first | exact .inl rfl | exact .inr rfl) (d_callB (call_min2 rfl) vr_min2 (by rfl) T.no_min (by decide +kernel) (d_cons (d_var 3) (d_cons (d_op op_sub vr_sub (d_op op_pow vr_pow d_int d_int) (d_op or_mul (vr_mul (fz := true)) d_int (d_var 2))) d_nil))))
    (ds_cons (d_for (t := (.nm 5)) PassesOwn.never rfl (di_rng1 (by rfl) T.no_range (d_cons (d_var 2) d_nil)) (pg_name (i := 5) sc__law_rows.nd rfl (by first | exact .inl rfl | exact .inr rfl))
      (ds_cons (d_set (i := 3) sc__law_rows.nd rfl (by first | exact .inl rfl | exact .inr rfl) (d_op or_add (vr_add (fz := true)) (d_var 3) (d_call F__law_of (hr.mono (by decide)) (by rfl) bnd__law_of_2 dfv_nil (da_p0 (d_cons (d_var 0) (d_cons (d_lst true (d_cons d_int (d_cons d_int (d_cons d_int (d_cons (d_call F__law_draw (hr.mono (by decide)) (by rfl) bnd__law_draw_2 dfv_nil (da_p0 (d_cons (d_var 0) (d_cons d_int d_nil)))) (d_cons (d_call F__law_draw (hr.mono (by decide)) (by rfl) bnd__law_draw_2 dfv_nil (da_p0 (d_cons (d_var 0) (d_cons d_int d_nil)))) d_nil)))))) d_nil))))))
    (ds_one (d_expr (d_bm (by decide) PySem.F.plainAttrs_list PySem.F.slot_list_append PySem.F.type_list_append mt_append vm_append (d_var 4) (d_cons (d_tup (d_cons (d_var 3) (d_cons (d_ix (d_lst true (d_cons d_str (d_cons d_str d_nil))) (d_call F__law_draw (hr.mono (by decide)) (by rfl) bnd__law_draw_2 dfv_nil (da_p0 (d_cons (d_var 0) (d_cons d_int d_nil))))) (d_cons (d_call F__law_of (hr.mono (by decide)) (by rfl) bnd__law_of_2 dfv_nil (da_p0 (d_cons (d_var 0) (d_cons (d_var 1) d_nil)))) d_nil)))) d_nil))))))
    (ds_one (d_ret (d_var 4))))))
def g__law_text (K : PySem.W.Frag) (a : Ad) : GS :=
  (gRet (gMt "str" aJoin (gC (.str "\n")) (Dl.gCons (gB2 (aAdd true) (Dl.gLst true (Dl.gCons (gVar 0) Dl.gNil)) (gLc true (gIt (gVar 1)) (.tp [(.nm 2), (.nm 3), (.nm 4)]) gYes (gB2 (aAdd true) (gB2 (aAdd true) (gB2 (aAdd true) (gB2 (aAdd true) (gCall 1 0 [.p 0] [] (sp__law_time a) (gArgs (Dl.gCons (gVar 2) Dl.gNil) Dl.gNil)) (gC (.str " "))) (gVar 3)) (gC (.str " "))) (gVar 4)) [2, 3, 4])) Dl.gNil)))
theorem t__law_text (T : Txt K mg a) (F__law_time : Fnc P w K mg base "_law_time" s__law_time dv__law_time 1 ps__law_time (sp__law_time a)) {f : Addr} {cdv : Value} {A : Around} {outer : List Env} {s : Shared} {H : Hp} {E : XK} (hr : RoomG 1 (A.deeper (PyProof.Rows.envOfC "_law_text" (defScope s__law_text) s.heap.objs.size f cdv))) :
    PSs (cxOf CX0 P w K mg base N__law_text "_law_text" (defScope s__law_text) f cdv A outer s H E).nox (defBody s__law_text) (tofS K U0 (g__law_text K a)) :=
  (ds_one (d_ret (d_bm (by decide) PySem.F.plainAttrs_str PySem.F.slot_str_join PySem.F.type_str_join mt_join vm_join d_str (d_cons (d_op or_add (vr_add (fz := true)) (d_lst true (d_cons (d_var 0) d_nil)) (d_lc (own := [("_law_when", 2), ("_law_deed", 3), ("_law_who", 4)]) (t := (.tp [(.nm 2), (.nm 3), (.nm 4)])) true rfl sc__law_text.nd (di_seq (d_var 1)) (blkOk_by (own := [("_law_when", 2), ("_law_deed", 3), ("_law_who", 4)]) (N := N__law_text) (sc := defScope s__law_text) (by decide +kernel)) (by decide) (fun _ _ _ _ _ => (pg_tup rfl (pgs_cons (pg_name (i := 2) sc__law_text.nd rfl (by first | exact .inl rfl | exact .inr rfl)) (pgs_cons (pg_name (i := 3) sc__law_text.nd rfl (by first | exact .inl rfl | exact .inr rfl)) (pgs_cons (pg_name (i := 4) sc__law_text.nd rfl (by first | exact .inl rfl | exact .inr rfl)) pgs_nil))))) (fun _ _ _ _ _ => dt_nil) (fun _ _ _ _ _ => (d_op or_add (vr_add (fz := true)) (d_op or_add (vr_add (fz := true)) (d_op or_add (vr_add (fz := true)) (d_op or_add (vr_add (fz := true)) (d_call F__law_time (hr.mono (by decide)) (by rfl) bnd__law_time_1 dfv_nil (da_p0 (d_cons (d_var 2) d_nil))) d_str) (d_var 3)) d_str) (d_var 4))))) d_nil))))
def g_law (K : PySem.W.Frag) (a : Ad) : GS :=
  (gSeq (gSet 1 (gCall 1 0 [.p 0] [] (sp__law_feed a) (gArgs (Dl.gCons (gVar 0) Dl.gNil) Dl.gNil))) (gSeq (gFor (gRng1 (Dl.gCons (gC (.int 3)) Dl.gNil)) (.nm 2) (gSeq (gPar 3 4 (Dl.gCons (gIx (Dl.gLst true (Dl.gCons (gC (.str "near")) (Dl.gCons (gC (.str "far")) Dl.gNil))) (gCall 2 0 [.p 0, .p 1] [] (sp__law_draw a) (gArgs (Dl.gCons (gVar 1) (Dl.gCons (gC (.int 2)) Dl.gNil)) Dl.gNil))) (Dl.gCons (gCall 2 0 [.p 0, .p 1] [] (sp__law_names a) (gArgs (Dl.gCons (gVar 1) (Dl.gCons (gC (.int 5)) Dl.gNil)) Dl.gNil)) Dl.gNil))) (gSeq (gSet 5 (gCall 3 0 [.p 0, .p 1, .p 2] [] (sp__law_rows a) (gArgs (Dl.gCons (gVar 1) (Dl.gCons (gVar 4) (Dl.gCons (gCall 2 0 [.p 0, .p 1] [] (sp__law_draw a) (gArgs (Dl.gCons (gVar 1) (Dl.gCons (gCall 2 0 [.p 0, .p 1] [] (sp__law_of a) (gArgs (Dl.gCons (gVar 1) (Dl.gCons (Dl.gLst true (Dl.gCons (gC (.int 31)) (Dl.gCons (gC (.int 31)) (Dl.gCons (gC (.int 151)) Dl.gNil)))) Dl.gNil)) Dl.gNil)) Dl.gNil)) Dl.gNil)) Dl.gNil))) Dl.gNil))) (gSeq (gSet 6 (gCall 2 0 [.p 0, .p 1] [] (sp__law_text a) (gArgs (Dl.gCons (gVar 3) (Dl.gCons (gVar 5) Dl.gNil)) Dl.gNil))) (gSeq (gPar3 7 8 9 (Dl.gCons (gMake a.C_Book 1 0 [.p 0, .p 1] [] (sp_Book_init a) (gArgs (Dl.gCons (gVar 3) Dl.gNil) Dl.gNil)) (Dl.gCons (gCall 1 0 [.p 0] [] (sp_read_book a) (gArgs (Dl.gCons (gVar 6) Dl.gNil) Dl.gNil)) (Dl.gCons (gCall 0 1 [.k 0] [] (sp_read_book a) (gArgs Dl.gNil (Dl.gCons (gVar 6) Dl.gNil))) Dl.gNil)))) (gSeq (gFor (gIt (gVar 5)) (.tp [(.nm 10), (.nm 11), (.nm 12)]) (gDrop (gMeth a.C_Book "write" 3 0 [.p 0, .p 1, .p 2, .p 3] [] (sp_Book_write a) (gVar 7) (gArgs (Dl.gCons (gVar 10) (Dl.gCons (gVar 11) (Dl.gCons (gVar 12) Dl.gNil))) Dl.gNil)))) (gSeq (gIfS (gOrB (gNotB (gTest (gCB (a2 (aIsiC K)) (Dl.gCons (gVar 8) (Dl.gCons (gC (.ref a.C_Book)) Dl.gNil))))) (gOrB (gTest (gB2 (aOwnN a.C_Book (sp_Book_eq a)) (gVar 8) (gVar 7))) (gOrB (gTest (gB2 (aOwnN a.C_Book (sp_Book_eq a)) (gVar 9) (gVar 8))) (gTest (gB2 aNeS (gCB (a1 aRepr) (Dl.gCons (gMeth a.C_Book "rows" 0 0 [.p 0] [] (sp_Book_rows a) (gVar 8) (gArgs Dl.gNil Dl.gNil)) Dl.gNil)) (gCB (a1 aRepr) (Dl.gCons (gVar 5) Dl.gNil))))))) (gRet (gC (.bl false))) gNext) (gSeq (gIfS (gOrB (gTest (gB2 aNe (gFld K "bank" (gVar 8)) (gVar 3))) (gOrB (gTest (gB2 aNe (gCB (a1 (aStA [⟨a.C_Book, 3, (sp_Book_str a)⟩] 3)) (Dl.gCons (gVar 8) Dl.gNil)) (gVar 6))) (gTest (gB2 aNe (gCB (a1 (aLenO a.C_Book (sp_Book_len a))) (Dl.gCons (gVar 8) Dl.gNil)) (gCB (a1 aLen) (Dl.gCons (gVar 5) Dl.gNil)))))) (gRet (gC (.bl false))) gNext) (gSeq (gSet 13 (gCB (a1 aMaxL) (Dl.gCons (gB2 (aAdd true) (gLc true (gIt (gVar 5)) (.nm 14) gYes (gIx (gVar 14) (gC (.int 0))) [14]) (Dl.gLst true (Dl.gCons (gC (.int 0)) Dl.gNil))) Dl.gNil))) (gSeq (gDrop (gMeth a.C_Book "write" 3 0 [.p 0, .p 1, .p 2, .p 3] [] (sp_Book_write a) (gVar 8) (gArgs (Dl.gCons (gVar 13) (Dl.gCons (gC (.str "off")) (Dl.gCons (gC (.str "zz")) Dl.gNil))) Dl.gNil))) (gSeq (gIfS (gOrB (gTest (gB2 (aOwnN a.C_Book (sp_Book_eq a)) (gVar 9) (gVar 7))) (gOrB (gTest (gB2 (aOwn a.C_Book (sp_Book_eq a)) (gVar 8) (gVar 9))) (gOrB (gTest (gB2 (aOwnN a.C_Book (sp_Book_eq a)) (gCall 1 0 [.p 0] [] (sp_read_book a) (gArgs (Dl.gCons (gVar 6) Dl.gNil) Dl.gNil)) (gVar 7))) (gTest (gB2 aNe (gCB (a1 (aLenO a.C_Book (sp_Book_len a))) (Dl.gCons (gVar 8) Dl.gNil)) (gB2 (aAdd true) (gCB (a1 aLen) (Dl.gCons (gVar 5) Dl.gNil)) (gC (.int 1)))))))) (gRet (gC (.bl false))) gNext) (gIfS (gTest (gB2 (aOwnN a.C_Book (sp_Book_eq a)) (gCall 1 0 [.p 0] [] (sp_read_book a) (gArgs (Dl.gCons (gCB (a1 (aStA [⟨a.C_Book, 3, (sp_Book_str a)⟩] 3)) (Dl.gCons (gVar 8) Dl.gNil)) Dl.gNil) Dl.gNil)) (gVar 8))) (gRet (gC (.bl false))) gNext)))))))))))) (gRet (gAndV (gB2 (aOwn a.C_Book (sp_Book_eq a)) (gCall 1 0 [.p 0] [] (sp_read_book a) (gArgs (Dl.gCons (gC (.str "near")) Dl.gNil) Dl.gNil)) (gMake a.C_Book 1 0 [.p 0, .p 1] [] (sp_Book_init a) (gArgs (Dl.gCons (gC (.str "near")) Dl.gNil) Dl.gNil))) (gAndV (gB2 (aOwnN a.C_Book (sp_Book_eq a)) (gCall 1 0 [.p 0] [] (sp_read_book a) (gArgs (Dl.gCons (gC (.str "far")) Dl.gNil) Dl.gNil)) (gMake a.C_Book 1 0 [.p 0, .p 1] [] (sp_Book_init a) (gArgs (Dl.gCons (gC (.str "near")) Dl.gNil) Dl.gNil))) (gU (aNotO a.C_Book (sp_Book_len a)) (gCall 1 0 [.p 0] [] (sp_read_book a) (gArgs (Dl.gCons (gC (.str "far")) Dl.gNil) Dl.gNil))))))))
theorem t_law (T : Txt K mg a) (F_Book_eq : MFn P w K mg base a.C_Book "__eq__" "Book.__eq__" s_Book_eq dv_Book_eq 1 ps_Book_eq (sp_Book_eq a)) (F_Book_init : CFn P w K mg base "Book" a.C_Book "Book.__init__" s_Book_init dv_Book_init 1 ps_Book_init (sp_Book_init a)) (F_Book_len : MFn P w K mg base a.C_Book "__len__" "Book.__len__" s_Book_len dv_Book_len 1 ps_Book_len (sp_Book_len a)) (F_Book_str : MFn P w K mg base a.C_Book "__str__" "Book.__str__" s_Book_str dv_Book_str 3 ps_Book_str (sp_Book_str a)) (F_Book_rows : MFn P w K mg base a.C_Book "rows" "Book.rows" s_Book_rows dv_Book_rows 1 ps_Book_rows (sp_Book_rows a)) (F_Book_write : MFn P w K mg base a.C_Book "write" "Book.write" s_Book_write dv_Book_write 1 ps_Book_write (sp_Book_write a)) (F__law_draw : Fnc P w K mg base "_law_draw" s__law_draw dv__law_draw 1 ps__law_draw (sp__law_draw a)) (F__law_feed : Fnc P w K mg base "_law_feed" s__law_feed dv__law_feed 1 ps__law_feed (sp__law_feed a)) (F__law_names : Fnc P w K mg base "_law_names" s__law_names dv__law_names 2 ps__law_names (sp__law_names a)) (F__law_of : Fnc P w K mg base "_law_of" s__law_of dv__law_of 2 ps__law_of (sp__law_of a)) (F__law_rows : Fnc P w K mg base "_law_rows" s__law_rows dv__law_rows 3 ps__law_rows (sp__law_rows a)) (F__law_text : Fnc P w K mg base "_law_text" s__law_text dv__law_text 2 ps__law_text (sp__law_text a)) (F_read_book : Fnc P w K mg base "read_book" s_read_book dv_read_book 5 ps_read_book (sp_read_book a)) {f : Addr} {cdv : Value} {A : Around} {outer : List Env} {s : Shared} {H : Hp} {E : XK} (hr : RoomG 5 (A.deeper (PyProof.Rows.envOfC "law" (defScope s_law) s.heap.objs.size f cdv))) :
    PSs (cxOf CX0 P w K mg base N_law "law" (defScope s_law) f cdv A outer s H E).nox (defBody s_law) (tofS K U0 (g_law K a)) :=
  (ds_cons (d_set (i := 1) sc_law.nd rfl (by first | exact .inl rfl | exact .inr rfl) (d_call F__law_feed (hr.mono (by decide)) (by rfl) bnd__law_feed_1 dfv_nil (da_p0 (d_cons (d_var 0) d_nil))))
    (ds_cons (d_for (t := (.nm 2)) PassesOwn.never rfl (di_rng1 (by rfl) T.no_range (d_cons d_int d_nil)) (pg_name (i := 2) sc_law.nd rfl (by first | exact .inl rfl | exact .inr rfl))
      (ds_cons (d_par sc_law.nd (d_cons (d_ix (d_lst true (d_cons d_str (d_cons d_str d_nil))) (d_call F__law_draw (hr.mono (by decide)) (by rfl) bnd__law_draw_2 dfv_nil (da_p0 (d_cons (d_var 1) (d_cons d_int d_nil))))) (d_cons (d_call F__law_names (hr.mono (by decide)) (by rfl) bnd__law_names_2 dfv_nil (da_p0 (d_cons (d_var 1) (d_cons d_int d_nil)))) d_nil)))
    (ds_cons (d_set (i := 5) sc_law.nd rfl (by first | exact .inl rfl | exact .inr rfl) (d_call F__law_rows (hr.mono (by decide)) (by rfl) bnd__law_rows_3 dfv_nil (da_p0 (d_cons (d_var 1) (d_cons (d_var 4) (d_cons (d_call F__law_draw (hr.mono (by decide)) (by rfl) bnd__law_draw_2 dfv_nil (da_p0 (d_cons (d_var 1) (d_cons (d_call F__law_of (hr.mono (by decide)) (by rfl) bnd__law_of_2 dfv_nil (da_p0 (d_cons (d_var 1) (d_cons (d_lst true (d_cons d_int (d_cons d_int (d_cons d_int d_nil)))) d_nil)))) d_nil)))) d_nil))))))
    (ds_cons (d_set (i := 6) sc_law.nd rfl (by first | exact .inl rfl | exact .inr rfl) (d_call F__law_text (hr.mono (by decide)) (by rfl) bnd__law_text_2 dfv_nil (da_p0 (d_cons (d_var 3) (d_cons (d_var 5) d_nil)))))
    (ds_cons (d_par3 sc_law.nd (d_cons (d_make F_Book_init (hr.mono (by decide)) (by rfl) bnd_Book_init_2 dfv_nil (da_p0 (d_cons (d_var 3) d_nil))) (d_cons (d_call F_read_book (hr.mono (by decide)) (by rfl) bnd_read_book_1 dfv_nil (da_p0 (d_cons (d_var 6) d_nil))) (d_cons (d_call F_read_book (hr.mono (by decide)) (by rfl) bnd_read_book_0_text dfv_nil (da_0k (dk_cons (d_var 6) dk_nil))) d_nil))))
    (ds_cons (d_for (t := (.tp [(.nm 10), (.nm 11), (.nm 12)])) PassesOwn.never rfl (di_seq (d_var 5)) (pg_tup rfl (pgs_cons (pg_name (i := 10) sc_law.nd rfl (by first | exact .inl rfl | exact .inr rfl)) (pgs_cons (pg_name (i := 11) sc_law.nd rfl (by first | exact .inl rfl | exact .inr rfl)) (pgs_cons (pg_name (i := 12) sc_law.nd rfl (by first | exact .inl rfl | exact .inr rfl)) pgs_nil))))
      (ds_one (d_expr (d_meth F_Book_write (hr.mono (by decide)) bnd_Book_write_4 dfv_nil (d_var 7) (da_p0 (d_cons (d_var 10) (d_cons (d_var 11) (d_cons (d_var 12) d_nil))))))))
    (ds_cons (d_if (PW.pt (d_or (d_not (d_val (d_callB call_isi vr_isiC (by rfl) T.no_isinstance (by decide +kernel) (d_cons (d_var 8) (d_cons (d_gref (by rfl) T.mC_Book) d_nil))))) (d_or (d_tcmp (or_ownN T.nn_Book F_Book_eq (hr.mono (by decide)) bnd_Book_eq_2) vr_ownN (d_var 8) (d_var 7)) (d_or (d_tcmp (or_ownN T.nn_Book F_Book_eq (hr.mono (by decide)) bnd_Book_eq_2) vr_ownN (d_var 9) (d_var 8)) (d_or1 (d_tcmp op_ne vr_neSS (d_callB (cr_repr hr) vr_repr (by rfl) T.no_repr (by decide +kernel) (d_cons (d_meth F_Book_rows (hr.mono (by decide)) bnd_Book_rows_1 dfv_nil (d_var 8) da_00) d_nil)) (d_callB (cr_repr hr) vr_repr (by rfl) T.no_repr (by decide +kernel) (d_cons (d_var 5) d_nil))))))))
      (ds_one (d_ret d_bl))
      ds_nil)
    (ds_cons (d_if (PW.pt (d_or (d_tcmp (op_neD hr.units) vr_ne (d_fld (d_var 8)) (d_var 3)) (d_or (d_tcmp (op_neD hr.units) vr_ne (d_callTy (cr_strA (sts_cons (c := ⟨a.C_Book, 3, (sp_Book_str a)⟩) ⟨_, _, _, _, F_Book_str , bnd_Book_str_1⟩ sts_nil) (hr.mono (by decide))) vr_stA (by rfl) T.no_str (by decide +kernel) (d_cons (d_var 8) d_nil)) (d_var 6)) (d_or1 (d_tcmp (op_neD hr.units) vr_ne (d_callB (or_lenO F_Book_len (hr.mono (by decide)) bnd_Book_len_1) vr_lenO (by rfl) T.no_len (by decide +kernel) (d_cons (d_var 8) d_nil)) (d_callB or_len vr_len (by rfl) T.no_len (by decide +kernel) (d_cons (d_var 5) d_nil)))))))
      (ds_one (d_ret d_bl))
      ds_nil)
    (ds_cons (d_set (i := 13) sc_law.nd rfl (by first | exact .inl rfl | exact .inr rfl) (d_callB (cr_max rfl) vr_maxL (by rfl) T.no_max (by decide +kernel) (d_cons (d_op or_add (vr_add (fz := true)) (d_lc (own := [("_law_row", 14)]) (t := (.nm 14)) true rfl sc_law.nd (di_seq (d_var 5)) (blkOk_by (own := [("_law_row", 14)]) (N := N_law) (sc := defScope s_law) (by decide +kernel)) (by decide) (fun _ _ _ _ _ => (pg_name (i := 14) sc_law.nd rfl (by first | exact .inl rfl | exact .inr rfl))) (fun _ _ _ _ _ => dt_nil) (fun _ _ _ _ _ => (d_ix (d_var 14) d_int))) (d_lst true (d_cons d_int d_nil))) d_nil)))
    (ds_cons (d_expr (d_meth F_Book_write (hr.mono (by decide)) bnd_Book_write_4 dfv_nil (d_var 8) (da_p0 (d_cons (d_var 13) (d_cons d_str (d_cons d_str d_nil))))))
    (ds_cons (d_if (PW.pt (d_or (d_tcmp (or_ownN T.nn_Book F_Book_eq (hr.mono (by decide)) bnd_Book_eq_2) vr_ownN (d_var 9) (d_var 7)) (d_or (d_tcmp (or_own F_Book_eq (hr.mono (by decide)) bnd_Book_eq_2) vr_own (d_var 8) (d_var 9)) (d_or (d_tcmp (or_ownN T.nn_Book F_Book_eq (hr.mono (by decide)) bnd_Book_eq_2) vr_ownN (d_call F_read_book (hr.mono (by decide)) (by rfl) bnd_read_book_1 dfv_nil (da_p0 (d_cons (d_var 6) d_nil))) (d_var 7)) (d_or1 (d_tcmp (op_neD hr.units) vr_ne (d_callB (or_lenO F_Book_len (hr.mono (by decide)) bnd_Book_len_1) vr_lenO (by rfl) T.no_len (by decide +kernel) (d_cons (d_var 8) d_nil)) (d_op or_add (vr_add (fz := true)) (d_callB or_len vr_len (by rfl) T.no_len (by decide +kernel) (d_cons (d_var 5) d_nil)) d_int)))))))
      (ds_one (d_ret d_bl))
      ds_nil)
    (ds_one (d_if (d_tcmp (or_ownN T.nn_Book F_Book_eq (hr.mono (by decide)) bnd_Book_eq_2) vr_ownN (d_call F_read_book (hr.mono (by decide)) (by rfl) bnd_read_book_1 dfv_nil (da_p0 (d_cons (d_callTy (cr_strA (sts_cons (c := ⟨a.C_Book, 3, (sp_Book_str a)⟩) ⟨_, _, _, _, F_Book_str , bnd_Book_str_1⟩ sts_nil) (hr.mono (by decide))) vr_stA (by rfl) T.no_str (by decide +kernel) (d_cons (d_var 8) d_nil)) d_nil))) (d_var 8))
      (ds_one (d_ret d_bl))
      ds_nil)))))))))))))
    (ds_one (d_ret (d_andV (d_cmp (or_own F_Book_eq (hr.mono (by decide)) bnd_Book_eq_2) vr_own (d_call F_read_book (hr.mono (by decide)) (by rfl) bnd_read_book_1 dfv_nil (da_p0 (d_cons d_str d_nil))) (d_make F_Book_init (hr.mono (by decide)) (by rfl) bnd_Book_init_2 dfv_nil (da_p0 (d_cons d_str d_nil)))) (d_andV (d_cmp (or_ownN T.nn_Book F_Book_eq (hr.mono (by decide)) bnd_Book_eq_2) vr_ownN (d_call F_read_book (hr.mono (by decide)) (by rfl) bnd_read_book_1 dfv_nil (da_p0 (d_cons d_str d_nil))) (d_make F_Book_init (hr.mono (by decide)) (by rfl) bnd_Book_init_2 dfv_nil (da_p0 (d_cons d_str d_nil)))) (d_oneV (d_un (un_notO T.nb_Book F_Book_len (hr.mono (by decide)) bnd_Book_len_1) vr_notO (d_call F_read_book (hr.mono (by decide)) (by rfl) bnd_read_book_1 dfv_nil (da_p0 (d_cons d_str d_nil)))))))))))
end
end Lw
namespace Lw
open PySem L2 Dl
section
variable {P : Program} {w : World} {K : PySem.W.Frag} {mg : Str → Option Value} {base : Heap} {a : Ad}
theorem r__law_feed : ∀ ds S q, sp__law_feed a ds S q → g__law_feed K a { nx := fun _ S' => q .non S', rt := q } (startD N__law_feed ds) S := by
  rintro ds S q ⟨ns, rfl, rfl, h⟩
  rw [st__law_feed]
  simp only [g__law_feed, ↓gRet, ↓gCB, ↓gC, ↓Dl.gCons, ↓Dl.gNil, ↓Dl.gLst, ↓gSl, ↓gPart, ↓gNoP, ↓x_slL_k, ↓x_newT, ↓x_newF, ↓x_a1, ↓x_var0, Option.some.injEq, D.bl.injEq, D.int.injEq, D.str.injEq, D.tup.injEq, D.lst.injEq, List.cons.injEq, List.length_cons, List.length_nil, exists_eq_left']
  refine ⟨_, rfl, ?_⟩
  rw [x_newT]
  refine ⟨by decide, ?_⟩
  rw [show cutD (ns.map D.int) none (some 63) = (ns.take 63).map D.int from ?_]
  · exact h
  · simp [cutD, HT.sIx, List.map_take]
theorem r__law_draw : ∀ ds S q, sp__law_draw a ds S q → g__law_draw K a { nx := fun _ S' => q .non S', rt := q } (startD N__law_draw ds) S := by
  rintro ds S q ⟨many, h1, h2, o, R0, B, rfl, rfl, ⟨ns, t, r, rfl, h3, h4, h5⟩, hb, h⟩
  rw [st__law_draw]
  simp only [g__law_draw, ↓x_neNil, ↓x_gset, ↓x_ixS0, ↓x_ixL, x_at0, x_at1, x_at2, ↓x_set01, ↓x_set02, Int.reduceToNat, Int.reducePow, ↓gSeq, ↓gIfS, ↓gSet, ↓gRet, ↓gNext, ↓gCB, ↓gB2, ↓gC, ↓Dl.gCons, ↓Dl.gNil, ↓Dl.gLst, ↓gTest, ↓gAndB, ↓gIf, ↓gIx, ↓x_i2, ↓aFdiv, ↓aMod, ↓aPow, ↓aLt, ↓aGt, ↓aGe, ↓x_addI, ↓x_mulI, ↓x_lenL_l, ↓x_newT, ↓x_a1, ↓x_var0, ↓x_varS, Option.some.injEq, D.bl.injEq, D.int.injEq, D.str.injEq, D.tup.injEq, D.lst.injEq, List.cons.injEq, true_and, List.set_cons_zero, List.set_cons_succ, List.length_nil, ↓reduceIte, Bool.false_eq_true, decide_eq_true_eq, exists_eq_left']
  have hT : ∀ x r', 0 ≤ x → x < many → 0 ≤ r' → q (.int x) (some (.lst [.lst (ns.map .int), .int (t + 1), .int r']) :: R0) := fun x r' a1 a2 a3 => h _ _ ⟨x, rfl, a1, a2⟩ ⟨ns, t + 1, r', rfl, by omega, by omega, a3⟩
  have m1 : ∀ x, 0 ≤ x % many ∧ x % many < many := fun x => ⟨Int.emod_nonneg _ (by omega), Int.emod_lt_of_pos _ h1⟩
  have hb' : B + 1 ≤ 1000000000000 := hb
  have u1 : ∀ x : Int, 0 ≤ x % 2147483629 ∧ x % 2147483629 < 2147483629 := fun x => ⟨Int.emod_nonneg _ (by decide), Int.emod_lt_of_pos _ (by decide)⟩
  split
  · exact ⟨h1, .inl ⟨h1, h2⟩, h _ _ ⟨_, rfl, (m1 _).1, (m1 _).2⟩ ⟨ns, t, r / many, rfl, h3, by omega, Int.ediv_nonneg h5 (by omega)⟩⟩
  · refine ⟨by decide, ?_⟩
    by_cases hn : ns = []
    · rw [if_neg (by simpa using hn)]
      subst hn
      refine ⟨mulOk_l (by decide) (by decide), ?_⟩
      rw [if_neg (by simp; omega)]
      have := u1 (7919 * t + 11)
      refine ⟨by decide, mulOk_l (by decide) (by decide), ⟨by decide, by decide, by omega⟩, by decide, .inl ⟨by decide, by decide⟩, mulOk_l (by decide) (by decide), by decide, ?_⟩
      generalize hy : (_ : Int) % 2147483647 = y
      have hy0 : 0 ≤ y ∧ y < 2147483647 := by rw [← hy]; exact ⟨Int.emod_nonneg _ (by decide), Int.emod_lt_of_pos _ (by decide)⟩
      refine ⟨mulOk_l (by omega) (by omega), by decide, .inl ⟨by decide, by decide⟩, h1, ?_⟩
      exact hT _ _ (m1 _).1 (m1 _).2 h5
    · rw [if_pos hn]
      have hl : 0 < ns.length := List.length_pos_iff.mpr hn
      have hlm : (ns.map D.int).length = ns.length := List.length_map ..
      have hk0 : 0 ≤ t % ((ns.map D.int).length : Int) := Int.emod_nonneg _ (by omega)
      have hk1 : t % ((ns.map D.int).length : Int) < ((ns.map D.int).length : Int) := Int.emod_lt_of_pos _ (by omega)
      obtain ⟨c, hc⟩ : ∃ c, ns[(t % ((ns.map D.int).length : Int)).toNat]? = some c := ⟨ns[(t % ((ns.map D.int).length : Int)).toNat]'(by omega), by simp⟩
      refine ⟨by omega, .int c, ?_, ?_⟩
      · have e := atI_lit (xs := ns.map D.int) (k := (t % ((ns.map D.int).length : Int)).toNat) (v := .int c) (by rw [List.getElem?_map, hc]; rfl)
        rwa [show (((t % ((ns.map D.int).length : Int)).toNat : Nat) : Int) = t % ((ns.map D.int).length : Int) by omega] at e
      · simp only [↓x_set02, Int.reduceToNat, ↓gRet, ↓gB2, ↓x_i2, ↓x_addI, ↓x_mulI, ↓x_var0, ↓x_varS, Option.some.injEq, D.bl.injEq, D.int.injEq, D.str.injEq, D.tup.injEq, D.lst.injEq, List.cons.injEq, true_and, decide_eq_true_eq, exists_eq_left']
        have := u1 c
        split
        · refine ⟨⟨by decide, by decide, by decide⟩, ?_⟩
          split
          · rename_i hc1
            exact ⟨.inl ⟨h1, h2⟩, h1, hT _ _ (m1 _).1 (m1 _).2 (Int.ediv_nonneg (by omega) (by omega))⟩
          · refine ⟨by decide, mulOk_l (by decide) (by decide), ⟨by decide, by decide, by omega⟩, by decide, .inl ⟨by decide, by decide⟩, mulOk_l (by decide) (by decide), by decide, ?_⟩
            generalize hy : (_ : Int) % 2147483647 = y
            have hy0 : 0 ≤ y ∧ y < 2147483647 := by rw [← hy]; exact ⟨Int.emod_nonneg _ (by decide), Int.emod_lt_of_pos _ (by decide)⟩
            refine ⟨mulOk_l (by omega) (by omega), by decide, .inl ⟨by decide, by decide⟩, h1, ?_⟩
            exact hT _ _ (m1 _).1 (m1 _).2 h5
        · refine ⟨by decide, mulOk_l (by decide) (by decide), ⟨by decide, by decide, by omega⟩, by decide, .inl ⟨by decide, by decide⟩, mulOk_l (by decide) (by decide), by decide, ?_⟩
          generalize hy : (_ : Int) % 2147483647 = y
          have hy0 : 0 ≤ y ∧ y < 2147483647 := by rw [← hy]; exact ⟨Int.emod_nonneg _ (by decide), Int.emod_lt_of_pos _ (by decide)⟩
          refine ⟨mulOk_l (by omega) (by omega), by decide, .inl ⟨by decide, by decide⟩, h1, ?_⟩
          exact hT _ _ (m1 _).1 (m1 _).2 h5
theorem r__law_of : ∀ ds S q, sp__law_of a ds S q → g__law_of K a { nx := fun _ S' => q .non S', rt := q } (startD N__law_of ds) S := by
  rintro ds S q ⟨d, es, h1, h2, o, R0, B, rfl, rfl, ht, hb, hd, h⟩
  rw [st__law_of]
  simp only [g__law_of, ↓gRet, ↓gCB, ↓gB2, ↓Dl.gCons, ↓Dl.gNil, ↓gIx, ↓gCall, ↓gArgs, ↓x_a1, ↓x_var0, ↓x_varS, gat, pick, true_and, List.length_cons, List.length_nil, List.filterMap_cons, List.filterMap_nil, List.getElem?_cons_zero, List.getElem?_cons_succ]
  rw [x_lenL (hd o)]
  refine Mt.draw_in (by omega) h2 ht hb fun x o' h3 h4 h5 => ?_
  obtain ⟨e, he⟩ : ∃ e, es[x.toNat]? = some e := ⟨es[x.toNat]'(by omega), by simp⟩
  have hat := atI_lit he
  rw [show ((x.toNat : Nat) : Int) = x by omega] at hat
  rw [x_ix (hd o') hat]
  exact h e o' (List.mem_of_getElem? he) h5
def ofL (l : List Nat) : Str := ⟨l.toArray⟩
theorem ofL_len (l : List Nat) : (ofL l).length = l.length := by unfold ofL Str.length; rw [List.size_toArray]
theorem ofL_cps (l : List Nat) : (ofL l).cps.toList = l := by unfold ofL; rw [List.toList_toArray]
theorem str_ext {x y : Str} (h : x.cps.toList = y.cps.toList) : x = y := congrArg Str.mk (Array.toList_inj.mp h)
theorem join_ones (l : List Nat) : Txt.join (Str.ofString "") (l.map fun c => (⟨#[c]⟩ : Str)) = ofL l := by
  have e0 : (Str.ofString "") = Str.empty := by decide +kernel
  show Builtin.Str.glued _ _ = _
  rw [StrLaws.glued_eq_join, e0]
  apply str_ext
  rw [ofL_cps]
  have app : ∀ x y : Str, (x ++ y).cps.toList = x.cps.toList ++ y.cps.toList := fun x y => by
    show (x.cps ++ y.cps).toList = _
    rw [Array.toList_append]
  induction l with
  | nil => rfl
  | cons c l ih =>
    cases l with
    | nil => rfl
    | cons d l =>
      show ((⟨#[c]⟩ : Str) ++ Str.empty ++ Str.join Str.empty (((d :: l).map fun c => (⟨#[c]⟩ : Str)))).cps.toList = _
      rw [app, app, ih]
      rfl
def lets : PySem.Str := Str.ofString "abcdefghijklmnopqrstuvwxyz"
theorem let_at : ∀ k, k < 26 → atI lets.cps.toList ((k : Nat) : Int) = some (97 + k) := by decide +kernel
def oneL (x : Int) : PySem.Str := ⟨#[97 + x.toNat]⟩
theorem x_finG {S0 G : Sto} {ds : List D} {q : D → Sto → Prop} (hS : Sto.under S0.length S0 = true) : fin S0.length q (.loc S0.length) (S0 ++ (some (.lst ds) :: G)) ↔ D.unders S0.length ds = true ∧ q (.lst ds) S0 := by
  unfold fin
  rw [List.take_left]
  simp [hS]
theorem und_strs {n : Nat} : ∀ {xs : List PySem.Str}, D.unders n (xs.map D.str) = true
  | [] => by simp [D.unders]
  | x :: xs => by simp [D.unders, D.under, und_strs (xs := xs)]
theorem under_cons {n : Nat} {o : Option MO} {S : Sto} : Sto.under n (o :: S) = ((match o with | none => true | some x => x.under n) && Sto.under n S) := by
  unfold Sto.under
  rw [List.all_cons]
  all_goals (cases o <;> rfl)
theorem und_int {n : Nat} : ∀ {P : List Int}, D.unders n (P.map D.int) = true
  | [] => rfl
  | p :: P => by
    rw [List.map_cons, D.unders, und_int (P := P)]
    rfl
theorem tape_under {o o' : Option MO} {R0 : Sto} {B : Int} (h : Mt.Tp B o') (hs : Sto.under (R0.length + 1) (o :: R0) = true) : Sto.under (o' :: R0).length (o' :: R0) = true := by
  obtain ⟨ns, t, r, rfl, _⟩ := h
  rw [under_cons, Bool.and_eq_true] at hs
  rw [under_cons, Bool.and_eq_true]
  refine ⟨?_, hs.2⟩
  show D.unders _ [.lst (ns.map D.int), .int t, .int r] = true
  simp [D.unders, D.under, und_int]
theorem nm_of {l : List Nat} (h1 : 1 ≤ l.length) (h2 : l.length ≤ 8) (h3 : ∀ c ∈ l, 97 ≤ c ∧ c ≤ 122) : NmOk (ofL l) := ⟨by rw [ofL_len]; exact h1, by rw [ofL_len]; exact h2, by rw [ofL_cps]; exact h3⟩
/-- names told apart by the sign at one place -/
def NmAt (pn : Nat) (mv : Int) (xs : List Str) : Prop := ∀ (j : Nat) (x : Str), xs[j]? = some x → NmOk x ∧ x.cps.toList[pn]? = some (97 + ((mv + 7 * (j : Nat)) % 26).toNat)
theorem NmAt.nodup {pn : Nat} {mv : Int} {xs : List Str} (h : NmAt pn mv xs) (hl : xs.length ≤ 26) : xs.Nodup := by
  refine List.pairwise_iff_getElem.mpr fun i j hi hj hij e => ?_
  have h1 := (h i xs[i] (List.getElem?_eq_getElem hi)).2
  have h2 := (h j xs[j] (List.getElem?_eq_getElem hj)).2
  rw [e, h2] at h1
  have := Option.some.inj h1
  omega
theorem NmAt.snoc {pn : Nat} {mv : Int} {xs : List Str} {x : Str} (h : NmAt pn mv xs) (hx : NmOk x ∧ x.cps.toList[pn]? = some (97 + ((mv + 7 * (xs.length : Nat)) % 26).toNat)) : NmAt pn mv (xs ++ [x]) := by
  intro j y hy
  by_cases c : j < xs.length
  · rw [List.getElem?_append_left c] at hy; exact h j y hy
  · rw [List.getElem?_append_right (by omega)] at hy
    have : j - xs.length = 0 := by
      have := (List.getElem?_eq_some_iff.mp hy).1
      simp at this; omega
    rw [this] at hy
    cases hy
    rw [show j = xs.length by omega]
    exact hx
theorem rf__law_names : ∀ ds S q, D.unders S.length ds = true → Sto.under S.length S = true → sp__law_names a ds S q → g__law_names K a { nx := fun _ S' => fin S.length q .non S', rt := fin S.length q } (startD N__law_names ds) S := by
  rintro ds S q hu hs ⟨many, h1, h2, o, R0, B, rfl, rfl, ht, hb, hq⟩
  rw [st__law_names]
  simp only [g__law_names, ↓x_lc, ↓x_for, ↓x_rn1, ↓x_rn1I, Int.reducePow, ↓gSeq, ↓gSet, ↓x_par, ↓x_par2, ↓gCB, ↓gB2, ↓gC, ↓Dl.gCons, ↓Dl.gNil, ↓Dl.gLst, ↓gIx, ↓gCall, ↓gArgs, ↓aSub, ↓aMod, ↓x_newF, ↓x_a1, ↓x_var0, ↓x_varS, gat, pick, true_and, List.set_cons_zero, List.set_cons_succ, List.length_cons, List.length_nil, List.filterMap_cons, List.filterMap_nil, List.getElem?_cons_zero, List.getElem?_cons_succ]
  have hs' : 1000 ≤ sizeLine := by decide
  have t15 := Mt.ten15
  refine Mt.draw_in (by decide) (by decide) ht (by omega) fun u o1 hu1 hu2 ht1 => ?_
  simp only [↓x_rn1I, Int.reducePow, ↓x_addI]
  refine ⟨by omega, by omega, ?_⟩
  refine lc_inv (fun i acc S' => ∃ (o' : Option MO) (M : List Int), Mt.Tp (B + 1 + i) o' ∧ S' = o' :: R0 ∧ acc = M.map D.int ∧ M.length = i ∧ ∀ x ∈ M, 0 ≤ x ∧ x < 26) ⟨o1, [], ht1.mono (by omega), rfl, rfl, rfl, fun _ h => (nomatch h)⟩ ?_ ?_
  · rintro i d acc S' hd ⟨o', M, ht', rfl, rfl, hM, hMb⟩
    have hi : i < (1 + u).toNat := by
      have := (List.getElem?_eq_some_iff.mp hd).1
      rwa [x_rngL] at this
    refine ⟨trivial, _, x_bnm, ?_⟩
    simp only [wipeD, ↓gC, ↓Dl.gCons, ↓Dl.gNil, ↓gCall, ↓gArgs, ↓gYes, ↓x_var0, gat, pick, true_and, List.set_cons_zero, List.set_cons_succ, List.length_cons, List.length_nil, List.filterMap_cons, List.filterMap_nil, List.getElem?_cons_zero, List.getElem?_cons_succ, ↓reduceIte]
    refine Mt.draw_in (by decide) (by decide) ht' (by omega) fun x o2 hx0 hx1 ht2 => ?_
    refine ⟨by rw [List.length_map]; omega, o2, M ++ [x], ht2.mono (by omega), rfl, by simp, by simp [hM], fun y hy => ?_⟩
    rcases List.mem_append.mp hy with z | z
    · exact hMb y z
    · rw [List.mem_singleton.mp z]; exact ⟨hx0, hx1⟩
  rintro acc S' ⟨o2, M, ht2, rfl, rfl, hM, hMb⟩
  rw [x_rngL] at hM ht2
  refine ⟨trivial, ?_⟩
  rw [x_newT]
  simp only [↓x_lenL_l]
  refine Mt.draw_in (by rw [List.length_map]; omega) (by rw [List.length_map]; omega) ht2 (by omega) fun place o3 hp0 hp1 ht3 => Mt.draw_in (by decide) (by decide) ht3 (by omega) fun short o4 hs0 hs1 ht4 => ?_
  rw [List.length_map] at hp1
  simp only [List.length_cons]
  refine ⟨by decide, by omega, by omega, ?_⟩
  obtain ⟨pn, rfl⟩ := Int.eq_ofNat_of_zero_le hp0
  obtain ⟨mv, hmv⟩ : ∃ mv, M[pn]? = some mv := ⟨M[pn]'(by omega), List.getElem?_eq_getElem (by omega)⟩
  have hL : (Str.ofString "abcdefghijklmnopqrstuvwxyz") = lets := rfl
  rw [hL]
  refine ⟨fun (i : Nat) ρ S' => ∃ (G : Sto) (xs : List PySem.Str) (y7 y8 y9 y10 : Option D), S' = (o4 :: (R0 ++ [some (MO.lst (xs.map D.str))])) ++ G ∧ xs.length = i ∧ NmAt pn mv xs ∧
    ρ = [some (D.loc 0), some (D.int many), some (D.str lets), some (D.lst (M.map D.int)), some (D.int (pn : Nat)), some (D.int short), some (D.loc (R0.length + 1)), y7, y8, y9, y10], ⟨[], [], _, _, _, _, by simp, rfl, fun j x h => (by simp at h), rfl⟩, ?_, ?_⟩
  · rintro i d ρ S' hd ⟨G, xs, y7, y8, y9, y10, rfl, hx, hxb, rfl⟩
    have hi : i < many.toNat := by
      have := (List.getElem?_eq_some_iff.mp hd).1
      rwa [x_rngL] at this
    rw [x_rng, if_pos hi] at hd
    cases hd
    refine ⟨trivial, _, x_bnm, ?_⟩
    have hget : ((o4 :: (R0 ++ [some (MO.lst (xs.map D.str))])) ++ G)[R0.length + 1]? = some (some (MO.lst (xs.map D.str))) := by simp
    generalize hS0 : (o4 :: (R0 ++ [some (MO.lst (xs.map D.str))])) ++ G = S0 at hget
    simp only [↓x_gset, ↓x_ixL, ↓gSeq, ↓gSet, ↓gCB, ↓gB2, ↓gC, ↓Dl.gCons, ↓Dl.gNil, ↓x_mulI, ↓x_a1, ↓x_var0, ↓x_varS, List.set_cons_zero, List.set_cons_succ]
    refine ⟨_, rfl, ?_⟩
    rw [x_newF]
    refine ⟨.int mv, atI_lit (by rw [List.getElem?_map, hmv]; rfl), ?_⟩
    obtain ⟨v, hv, hv0, hv1⟩ : ∃ v : Int, (mv + 7 * (0 + (i : Int))) % 26 = v ∧ 0 ≤ v ∧ v < 26 := ⟨_, rfl, by omega, by omega⟩
    refine ⟨mulOk_r (by omega) (by omega), ?_⟩
    simp only [hv, ↓x_i2, ↓x_addI]
    refine ⟨by decide, (x_setE (n := pn) (ixN_lit (by rw [List.length_map]; omega))).mpr ?_⟩
    have hset : (M.map D.int).set pn (.int v) = (M.set pn v).map D.int := by rw [List.map_set]
    rw [hset]
    obtain ⟨M2, hM2, hM2l, hM2v, hM2b⟩ : ∃ M2 : List Int, M.set pn v = M2 ∧ M2.length = M.length ∧ M2[pn]? = some v ∧ ∀ x ∈ M2, 0 ≤ x ∧ x < 26 := by
      refine ⟨_, rfl, by rw [List.length_set], by rw [List.getElem?_set_self (by omega)], fun x hx => ?_⟩
      rcases List.mem_or_eq_of_mem_set hx with z | z
      · exact hMb x z
      · rw [z]; exact ⟨hv0, hv1⟩
    rw [hM2]
    simp only [↓x_itE, ↓x_lc, ↓x_it, ↓gSeq, ↓gSet, ↓gDrop, ↓gCB, ↓gB2, ↓gC, ↓Dl.gCons, ↓Dl.gNil, ↓gSl, ↓gPart, ↓gNoP, ↓gMt, ↓x_tyS, ↓x_i2, ↓x_addI, ↓x_mulI, ↓x_a1, ↓x_a2, ↓x_var0, ↓x_varS, Option.some.injEq, D.bl.injEq, D.int.injEq, D.str.injEq, D.tup.injEq, D.lst.injEq, List.cons.injEq, and_true, true_and, List.set_cons_zero, List.set_cons_succ]
    refine lc_on (F := D.int) (fun x : Int => some (D.str (oneL x))) (by simp [seqOf]) (by omega) (fun x hx acc R' hac hR' => ⟨_, x_bnm, ?_⟩) ?_
    · simp only [wipeD, ↓gB2, ↓gYes, ↓x_ixS, ↓x_var0, ↓x_varS, List.set_cons_zero, List.set_cons_succ, ↓reduceIte]
      obtain ⟨b1, b2⟩ := hM2b x hx
      obtain ⟨xn, rfl⟩ := Int.eq_ofNat_of_zero_le b1
      exact ⟨by decide +kernel, _, let_at xn (by omega), hac, hR'⟩
    rw [fm_some, x_newT]
    have hmap : M2.map (fun x => D.str (oneL x)) = (M2.map oneL).map D.str := by rw [List.map_map]; rfl
    rw [hmap]
    have ones : ∀ y ∈ M2.map oneL, y.length = 1 := fun y hy => by
      obtain ⟨x, _, rfl⟩ := List.mem_map.mp hy
      rfl
    have hsum : ((M2.map oneL).map (·.length)).sum ≤ M2.length := by
      have : ∀ l : List PySem.Str, (∀ y ∈ l, y.length = 1) → (l.map (·.length)).sum = l.length := by
        intro l
        induction l with
        | nil => intro _; rfl
        | cons y l ih =>
          intro h
          rw [List.map_cons, List.sum_cons, ih fun z hz => h z (List.mem_cons_of_mem _ hz), h y List.mem_cons_self, List.length_cons]
          omega
      rw [this _ ones, List.length_map]
      exact Nat.le_refl _
    have hjn : Txt.join (Str.ofString "") (M2.map oneL) = ofL (M2.map fun x => 97 + x.toNat) := by
      rw [← join_ones, List.map_map]; rfl
    refine ⟨_, _, _, rfl, rfl, rfl, ?_, ?_⟩
    · have z : (Str.ofString "").length = 0 := by decide +kernel
      rw [z]
      omega
    rw [hjn]
    have hjl : (ofL (M2.map fun x => 97 + x.toNat)).length = M2.length := by rw [ofL_len, List.length_map]
    simp only [↓x_i2, ↓x_lenS, ↓x_max2, ↓x_slS, Option.some.injEq, D.bl.injEq, D.int.injEq, D.str.injEq, D.tup.injEq, D.lst.injEq, List.cons.injEq, true_and, exists_eq_left']
    have hlt : R0.length + 1 < S0.length := (List.getElem?_eq_some_iff.mp hget).1
    have hget2 : (S0 ++ [some (MO.lst (M2.map D.int))])[R0.length + 1]? = some (some (MO.lst (xs.map D.str))) := by rw [List.getElem?_append_left hlt]; exact hget
    rw [hjl]
    obtain ⟨kk, hkk, hk1⟩ : ∃ kk : Nat, max ((pn : Int) + 1) ((M2.length : Int) - short * ((0 + (i : Int)) % 3)) = (kk : Int) ∧ pn + 1 ≤ kk := ⟨(max ((pn : Int) + 1) ((M2.length : Int) - short * ((0 + (i : Int)) % 3))).toNat, by omega, by omega⟩
    rw [hkk]
    have hcut : cutS (ofL (M2.map fun x => 97 + x.toNat)) none (some (kk : Int)) = ofL ((M2.map fun x => 97 + x.toNat).take kk) := str_ext (by rw [cut_to _ kk rfl, ofL_cps, ofL_cps])
    rw [hcut]
    have hnew : NmOk (ofL ((M2.map fun x => 97 + x.toNat).take kk)) ∧ (ofL ((M2.map fun x => 97 + x.toNat).take kk)).cps.toList[pn]? = some (97 + ((mv + 7 * (xs.length : Nat)) % 26).toNat) := by
      refine ⟨nm_of (by rw [List.length_take, List.length_map]; omega) (by rw [List.length_take, List.length_map]; omega) fun c hc => ?_, ?_⟩
      · obtain ⟨x, hx, rfl⟩ := List.mem_map.mp (List.mem_of_mem_take hc)
        have := hM2b x hx
        omega
      · rw [ofL_cps, List.getElem?_take, if_pos (by omega), List.getElem?_map, hM2v, ← hv, hx, Int.zero_add]; rfl
    refine ⟨x_tyO hget2, by omega, by decide, mulOk_r (by omega) (by omega), by omega, (x_app hget2).mpr ⟨by rw [List.length_map]; omega, G ++ [some (MO.lst (M2.map D.int))], xs ++ [ofL ((M2.map fun x => 97 + x.toNat).take kk)], _, _, _, _, ?_, by simp [hx], hxb.snoc hnew, rfl, rfl, rfl, rfl⟩⟩
    rw [← hS0]
    simp
  · rintro ρ S' ⟨G, xs, y7, y8, y9, y10, rfl, hx, hxb, rfl⟩
    refine ⟨trivial, ?_⟩
    rw [x_rngL] at hx
    dsimp only
    simp only [↓gRet, ↓x_var0, ↓x_varS]
    have hs2 : Sto.under (o4 :: R0).length (o4 :: R0) = true := tape_under ht4 (by simpa using hs)
    have e : (o4 :: (R0 ++ [some (MO.lst (xs.map D.str))])) ++ G = (o4 :: R0) ++ (some (MO.lst (xs.map D.str)) :: G) := by simp
    rw [e]
    exact (x_finG (S0 := o4 :: R0) hs2).mpr ⟨und_strs, hq _ o4 ⟨xs, rfl, by omega, hxb.nodup (by omega), fun x hx => by obtain ⟨j, hj⟩ := List.getElem?_of_mem hx; exact (hxb j x hj).1⟩ (ht4.mono (by omega))⟩
end
end Lw
namespace Lw
open PySem L2 Dl
section
variable {P : Program} {w : World} {K : PySem.W.Frag} {mg : Str → Option Value} {base : Heap} {a : Ad}
theorem all_true {A : Type} {L : List A} {S : Sto} {q : D → Sto → Prop} (h : q (.bl true) S) : aAll (.lst (L.map fun _ => D.bl true)) S q := by
  refine x_all (bs := L.map fun _ => true) rfl (by rw [List.map_map]; rfl) ?_
  rw [show (L.map fun _ => true).all id = true by simp]
  exact h
theorem r_is_name : ∀ ds S q, sp_is_name a ds S q → g_is_name K a { nx := fun _ S' => q .non S', rt := q } (startD N_is_name ds) S := by
  rintro ds S q ⟨x, rfl, hx, h⟩
  rw [st_is_name]
  have hs' : 100 ≤ sizeLine := by decide
  have hz : x.length ≤ sizeLine := Nat.le_trans hx.2.1 (by decide)
  simp only [g_is_name, ↓x_eqSS, ↓x_neSS, ↓gKGet, ↓x_kget, ↓x_ixE, at_last, ↓x_appE, ↓x_tyE, ↓x_itE, ↓x_lenE, ↓x_nePr, ↓x_eqPr, ↓x_neE, ↓x_lenr, ↓x_lenrI, ↓gRev, ↓x_par3, ↓x_par33, ↓x_fld, ↓x_fset, ↓x_mkF, ↓x_mk, ↓x_meth, ↓x_fldO, ↓x_fsetE, ↓x_fldE, ↓x_methO, ↓x_isiCO, ↓x_isiCN, ↓x_isiCT, ↓x_isiCLi, ↓x_isiCS, ↓x_isiCI, ↓x_own, ↓x_eqT2, ↓x_neT2, ↓x_neL4, ↓x_eqLN, ↓x_neNil, ↓x_gset, ↓x_lc, ↓x_for, ↓x_it, ↓x_rn1, ↓x_rn2, ↓x_enu, ↓x_zip, ↓x_itS, ↓x_itL, ↓x_itK, ↓x_itT, ↓x_rn1I, ↓x_rn2I, ↓x_enuL, ↓x_enuK, ↓x_zipL, ↓x_ixS0, ↓x_ixL, ↓x_ixT, ↓x_ixK, x_at0, x_at1, x_at2, x_at3, x_at4, ↓x_set00, ↓x_set01, ↓x_set02, ↓x_aug1, ↓x_aug2, ↓x_aug3, ↓x_aug4, ↓x_aug5, ↓x_aug6, ↓x_aug7, ↓x_aug8, ↓x_aug9, ↓x_aug10, ↓x_aug11, ↓x_aug12, ↓x_aug13, ↓x_aug14, ↓x_aug15, ↓x_aug16, ↓x_aug17, ↓x_aug18, ↓x_aug19, ↓x_aug20, ↓x_aug21, ↓x_aug22, ↓x_aug23, Int.reduceToNat, Int.reducePow, ↓gSeq, ↓gIfS, ↓gSet, ↓gAsg, ↓x_par, ↓x_par2, ↓gRet, ↓gRetN, ↓gNext, ↓gDrop, ↓gBreak, ↓gCont, ↓gDead, ↓gCB, ↓gB2, ↓gU, ↓gC, ↓Dl.gCons, ↓Dl.gNil, ↓Dl.gTup, ↓Dl.gLst, ↓gTest, ↓gOrB, ↓gAndB, ↓gNotB, ↓gAndV, ↓gOrV, ↓gNotV, ↓gIf, ↓gIx, ↓gSl, ↓gPart, ↓gNoP, ↓gMt, ↓gCall, ↓gArgs, ↓gIsN, ↓gNotN, ↓gChain, ↓x_fmtS, ↓x_afS, ↓x_afI, ↓x_js0, ↓x_jsc, ↓gJoined, ↓gYes, ↓x_bnm, ↓x_btp, ↓x_bn, ↓x_bc, ↓x_nnN, ↓x_nnI, ↓x_nnS, ↓x_nnB, ↓x_nnT, ↓x_nnL, ↓x_nnO, ↓x_nnl, ↓x_tyS, ↓x_tyL, ↓x_i2, ↓aSub, ↓aFdiv, ↓aMod, ↓aPow, ↓aShr, ↓aLt, ↓aLe, ↓aGt, ↓aGe, ↓x_addI, ↓x_addS, ↓x_mulI, ↓x_iaddS, ↓x_iaddI, ↓x_neg, ↓x_eqI, ↓x_neI, ↓x_eqS, ↓x_neS, ↓x_eqB, ↓x_neB, ↓x_eqNI, ↓x_neNI, ↓x_lenS, ↓x_lenL_l, ↓x_lenL_k, ↓x_lenL_t, ↓x_str, ↓x_intI, ↓x_intB, ↓x_divmod, ↓x_max2, ↓x_min2, ↓x_ixS, ↓x_slS, ↓x_slT, ↓x_slL_l, ↓x_slL_k, ↓x_inS, ↓x_newT, ↓x_newF, ↓x_si, ↓x_s1, ↓x_s0, ↓x_rpart, ↓x_part, ↓x_a1, ↓x_a2, ↓x_isiStr, ↓x_isiInt, ↓x_isiIntB, ↓x_isiIntS, ↓x_isiBB, ↓x_isiBI, ↓x_isiStrI, ↓x_isiNonI, ↓x_isiNonS, ↓x_isiT, ↓x_isiL, ↓x_var0, ↓x_varS, ↓x_ex, ↓x_aug0, gat, pick, Option.some.injEq, D.bl.injEq, D.int.injEq, D.str.injEq, D.tup.injEq, D.lst.injEq, List.cons.injEq, and_true, true_and, List.set_cons_zero, List.set_cons_succ, List.length_cons, List.length_nil, List.filterMap_cons, List.filterMap_nil, List.getElem?_cons_zero, List.getElem?_cons_succ, Option.bind_some, ↓reduceIte, if_true, if_false, Bool.false_eq_true, Bool.true_eq_false, decide_eq_true_eq, beq_self_eq_true, Bool.not_true, Bool.not_false, Bool.not_eq_true', decide_eq_false_iff_not, exists_eq_left', exists_eq_left, exists_eq, ↓x_dnT, ↓x_dnF, ↓gAsgL, ↓gMMDef, ↓gDSet, ↓gSItems, ↓x_nilL, ↓x_nilE, List.isEmpty_nil, List.isEmpty_cons, Bool.true_xor, Bool.false_xor, ↓gOrT, ↓gAndT, ↓gTryAs, ↓gTryO, ↓gRaise, ↓gCallX, ↓gMethX, ↓gMakeX, ↓gFldX, ↓x_inXs, Bool.false_xor, Bool.true_xor, ↓x_fmtRS, ↓x_afRS, ↓x_afRI, ↓x_stO, ↓x_zipS, ↓x_zipE, ↓x_zipSL, ↓x_zipST, ↓x_zipEL, ↓x_augix, ↓x_isB, ↓x_notB, ↓gLR1, ↓gLR2, ↓gDIxT, ↓gDGt1T, ↓gDSetT, ↓gDNewT, ↓gDIx, ↓gDGt1, ↓gDGt2, ↓gDIn, ↓gDSetd, ↓gDPop1, ↓gDPop2, ↓gTIdx, ↓gLKeys, ↓gDisp, ↓x_enumK, ↓x_enumKL]
  have h1 := hx.1
  have h2 := hx.2.1
  refine ⟨hz, ?_⟩
  rw [if_pos (by omega), if_neg (by omega)]
  unfold signsD
  have hlet : ∀ c, c < 123 → 97 ≤ c → c ∈ (Str.ofString "abcdefghijklmnopqrstuvwxyz").cps.toList := by decide +kernel
  refine lc_on (fun c : Nat => some (.bl true)) trivial (by rw [Array.length_toList]; exact hz) (fun c hc acc R hac hR => ⟨_, x_bnm, ?_⟩) ?_
  · simp only [wipeD, ↓x_eqSS, ↓x_neSS, ↓gKGet, ↓x_kget, ↓x_ixE, at_last, ↓x_appE, ↓x_tyE, ↓x_itE, ↓x_lenE, ↓x_nePr, ↓x_eqPr, ↓x_neE, ↓x_lenr, ↓x_lenrI, ↓gRev, ↓x_par3, ↓x_par33, ↓x_fld, ↓x_fset, ↓x_mkF, ↓x_mk, ↓x_meth, ↓x_fldO, ↓x_fsetE, ↓x_fldE, ↓x_methO, ↓x_isiCO, ↓x_isiCN, ↓x_isiCT, ↓x_isiCLi, ↓x_isiCS, ↓x_isiCI, ↓x_own, ↓x_eqT2, ↓x_neT2, ↓x_neL4, ↓x_eqLN, ↓x_neNil, ↓x_gset, ↓x_lc, ↓x_for, ↓x_it, ↓x_rn1, ↓x_rn2, ↓x_enu, ↓x_zip, ↓x_itS, ↓x_itL, ↓x_itK, ↓x_itT, ↓x_rn1I, ↓x_rn2I, ↓x_enuL, ↓x_enuK, ↓x_zipL, ↓x_ixS0, ↓x_ixL, ↓x_ixT, ↓x_ixK, x_at0, x_at1, x_at2, x_at3, x_at4, ↓x_set00, ↓x_set01, ↓x_set02, ↓x_aug1, ↓x_aug2, ↓x_aug3, ↓x_aug4, ↓x_aug5, ↓x_aug6, ↓x_aug7, ↓x_aug8, ↓x_aug9, ↓x_aug10, ↓x_aug11, ↓x_aug12, ↓x_aug13, ↓x_aug14, ↓x_aug15, ↓x_aug16, ↓x_aug17, ↓x_aug18, ↓x_aug19, ↓x_aug20, ↓x_aug21, ↓x_aug22, ↓x_aug23, Int.reduceToNat, Int.reducePow, ↓gSeq, ↓gIfS, ↓gSet, ↓gAsg, ↓x_par, ↓x_par2, ↓gRet, ↓gRetN, ↓gNext, ↓gDrop, ↓gBreak, ↓gCont, ↓gDead, ↓gCB, ↓gB2, ↓gU, ↓gC, ↓Dl.gCons, ↓Dl.gNil, ↓Dl.gTup, ↓Dl.gLst, ↓gTest, ↓gOrB, ↓gAndB, ↓gNotB, ↓gAndV, ↓gOrV, ↓gNotV, ↓gIf, ↓gIx, ↓gSl, ↓gPart, ↓gNoP, ↓gMt, ↓gCall, ↓gArgs, ↓gIsN, ↓gNotN, ↓gChain, ↓x_fmtS, ↓x_afS, ↓x_afI, ↓x_js0, ↓x_jsc, ↓gJoined, ↓gYes, ↓x_bnm, ↓x_btp, ↓x_bn, ↓x_bc, ↓x_nnN, ↓x_nnI, ↓x_nnS, ↓x_nnB, ↓x_nnT, ↓x_nnL, ↓x_nnO, ↓x_nnl, ↓x_tyS, ↓x_tyL, ↓x_i2, ↓aSub, ↓aFdiv, ↓aMod, ↓aPow, ↓aShr, ↓aLt, ↓aLe, ↓aGt, ↓aGe, ↓x_addI, ↓x_addS, ↓x_mulI, ↓x_iaddS, ↓x_iaddI, ↓x_neg, ↓x_eqI, ↓x_neI, ↓x_eqS, ↓x_neS, ↓x_eqB, ↓x_neB, ↓x_eqNI, ↓x_neNI, ↓x_lenS, ↓x_lenL_l, ↓x_lenL_k, ↓x_lenL_t, ↓x_str, ↓x_intI, ↓x_intB, ↓x_divmod, ↓x_max2, ↓x_min2, ↓x_ixS, ↓x_slS, ↓x_slT, ↓x_slL_l, ↓x_slL_k, ↓x_inS, ↓x_newT, ↓x_newF, ↓x_si, ↓x_s1, ↓x_s0, ↓x_rpart, ↓x_part, ↓x_a1, ↓x_a2, ↓x_isiStr, ↓x_isiInt, ↓x_isiIntB, ↓x_isiIntS, ↓x_isiBB, ↓x_isiBI, ↓x_isiStrI, ↓x_isiNonI, ↓x_isiNonS, ↓x_isiT, ↓x_isiL, ↓x_var0, ↓x_varS, ↓x_ex, ↓x_aug0, gat, pick, Option.some.injEq, D.bl.injEq, D.int.injEq, D.str.injEq, D.tup.injEq, D.lst.injEq, List.cons.injEq, and_true, true_and, List.set_cons_zero, List.set_cons_succ, List.length_cons, List.length_nil, List.filterMap_cons, List.filterMap_nil, List.getElem?_cons_zero, List.getElem?_cons_succ, Option.bind_some, ↓reduceIte, if_true, if_false, Bool.false_eq_true, Bool.true_eq_false, decide_eq_true_eq, beq_self_eq_true, Bool.not_true, Bool.not_false, Bool.not_eq_true', decide_eq_false_iff_not, exists_eq_left', exists_eq_left, exists_eq, ↓x_dnT, ↓x_dnF, ↓gAsgL, ↓gMMDef, ↓gDSet, ↓gSItems, ↓x_nilL, ↓x_nilE, List.isEmpty_nil, List.isEmpty_cons, Bool.true_xor, Bool.false_xor, ↓gOrT, ↓gAndT, ↓gTryAs, ↓gTryO, ↓gRaise, ↓gCallX, ↓gMethX, ↓gMakeX, ↓gFldX, ↓x_inXs, Bool.false_xor, Bool.true_xor, ↓x_fmtRS, ↓x_afRS, ↓x_afRI, ↓x_stO, ↓x_zipS, ↓x_zipE, ↓x_zipSL, ↓x_zipST, ↓x_zipEL, ↓x_augix, ↓x_isB, ↓x_notB, ↓gLR1, ↓gLR2, ↓gDIxT, ↓gDGt1T, ↓gDSetT, ↓gDNewT, ↓gDIx, ↓gDGt1, ↓gDGt2, ↓gDIn, ↓gDSetd, ↓gDPop1, ↓gDPop2, ↓gTIdx, ↓gLKeys, ↓gDisp, ↓x_enumK, ↓x_enumKL]
    have hb := hx.2.2 c hc
    rw [decide_eq_true (hlet c (by omega) hb.1)]
    exact ⟨hac, hR⟩
  · rw [x_newT, fm_some]
    exact all_true h
theorem r_are_figures : ∀ ds S q, sp_are_figures a ds S q → g_are_figures K a { nx := fun _ S' => q .non S', rt := q } (startD N_are_figures ds) S := by
  rintro ds S q ⟨x, rfl, hx, h⟩
  rw [st_are_figures]
  simp only [g_are_figures, ↓x_eqSS, ↓x_neSS, ↓gKGet, ↓x_kget, ↓x_ixE, at_last, ↓x_appE, ↓x_tyE, ↓x_itE, ↓x_lenE, ↓x_nePr, ↓x_eqPr, ↓x_neE, ↓x_lenr, ↓x_lenrI, ↓gRev, ↓x_par3, ↓x_par33, ↓x_fld, ↓x_fset, ↓x_mkF, ↓x_mk, ↓x_meth, ↓x_fldO, ↓x_fsetE, ↓x_fldE, ↓x_methO, ↓x_isiCO, ↓x_isiCN, ↓x_isiCT, ↓x_isiCLi, ↓x_isiCS, ↓x_isiCI, ↓x_own, ↓x_eqT2, ↓x_neT2, ↓x_neL4, ↓x_eqLN, ↓x_neNil, ↓x_gset, ↓x_lc, ↓x_for, ↓x_it, ↓x_rn1, ↓x_rn2, ↓x_enu, ↓x_zip, ↓x_itS, ↓x_itL, ↓x_itK, ↓x_itT, ↓x_rn1I, ↓x_rn2I, ↓x_enuL, ↓x_enuK, ↓x_zipL, ↓x_ixS0, ↓x_ixL, ↓x_ixT, ↓x_ixK, x_at0, x_at1, x_at2, x_at3, x_at4, ↓x_set00, ↓x_set01, ↓x_set02, ↓x_aug1, ↓x_aug2, ↓x_aug3, ↓x_aug4, ↓x_aug5, ↓x_aug6, ↓x_aug7, ↓x_aug8, ↓x_aug9, ↓x_aug10, ↓x_aug11, ↓x_aug12, ↓x_aug13, ↓x_aug14, ↓x_aug15, ↓x_aug16, ↓x_aug17, ↓x_aug18, ↓x_aug19, ↓x_aug20, ↓x_aug21, ↓x_aug22, ↓x_aug23, Int.reduceToNat, Int.reducePow, ↓gSeq, ↓gIfS, ↓gSet, ↓gAsg, ↓x_par, ↓x_par2, ↓gRet, ↓gRetN, ↓gNext, ↓gDrop, ↓gBreak, ↓gCont, ↓gDead, ↓gCB, ↓gB2, ↓gU, ↓gC, ↓Dl.gCons, ↓Dl.gNil, ↓Dl.gTup, ↓Dl.gLst, ↓gTest, ↓gOrB, ↓gAndB, ↓gNotB, ↓gAndV, ↓gOrV, ↓gNotV, ↓gIf, ↓gIx, ↓gSl, ↓gPart, ↓gNoP, ↓gMt, ↓gCall, ↓gArgs, ↓gIsN, ↓gNotN, ↓gChain, ↓x_fmtS, ↓x_afS, ↓x_afI, ↓x_js0, ↓x_jsc, ↓gJoined, ↓gYes, ↓x_bnm, ↓x_btp, ↓x_bn, ↓x_bc, ↓x_nnN, ↓x_nnI, ↓x_nnS, ↓x_nnB, ↓x_nnT, ↓x_nnL, ↓x_nnO, ↓x_nnl, ↓x_tyS, ↓x_tyL, ↓x_i2, ↓aSub, ↓aFdiv, ↓aMod, ↓aPow, ↓aShr, ↓aLt, ↓aLe, ↓aGt, ↓aGe, ↓x_addI, ↓x_addS, ↓x_mulI, ↓x_iaddS, ↓x_iaddI, ↓x_neg, ↓x_eqI, ↓x_neI, ↓x_eqS, ↓x_neS, ↓x_eqB, ↓x_neB, ↓x_eqNI, ↓x_neNI, ↓x_lenS, ↓x_lenL_l, ↓x_lenL_k, ↓x_lenL_t, ↓x_str, ↓x_intI, ↓x_intB, ↓x_divmod, ↓x_max2, ↓x_min2, ↓x_ixS, ↓x_slS, ↓x_slT, ↓x_slL_l, ↓x_slL_k, ↓x_inS, ↓x_newT, ↓x_newF, ↓x_si, ↓x_s1, ↓x_s0, ↓x_rpart, ↓x_part, ↓x_a1, ↓x_a2, ↓x_isiStr, ↓x_isiInt, ↓x_isiIntB, ↓x_isiIntS, ↓x_isiBB, ↓x_isiBI, ↓x_isiStrI, ↓x_isiNonI, ↓x_isiNonS, ↓x_isiT, ↓x_isiL, ↓x_var0, ↓x_varS, ↓x_ex, ↓x_aug0, gat, pick, Option.some.injEq, D.bl.injEq, D.int.injEq, D.str.injEq, D.tup.injEq, D.lst.injEq, List.cons.injEq, and_true, true_and, List.set_cons_zero, List.set_cons_succ, List.length_cons, List.length_nil, List.filterMap_cons, List.filterMap_nil, List.getElem?_cons_zero, List.getElem?_cons_succ, Option.bind_some, ↓reduceIte, if_true, if_false, Bool.false_eq_true, Bool.true_eq_false, decide_eq_true_eq, beq_self_eq_true, Bool.not_true, Bool.not_false, Bool.not_eq_true', decide_eq_false_iff_not, exists_eq_left', exists_eq_left, exists_eq, ↓x_dnT, ↓x_dnF, ↓gAsgL, ↓gMMDef, ↓gDSet, ↓gSItems, ↓x_nilL, ↓x_nilE, List.isEmpty_nil, List.isEmpty_cons, Bool.true_xor, Bool.false_xor, ↓gOrT, ↓gAndT, ↓gTryAs, ↓gTryO, ↓gRaise, ↓gCallX, ↓gMethX, ↓gMakeX, ↓gFldX, ↓x_inXs, Bool.false_xor, Bool.true_xor, ↓x_fmtRS, ↓x_afRS, ↓x_afRI, ↓x_stO, ↓x_zipS, ↓x_zipE, ↓x_zipSL, ↓x_zipST, ↓x_zipEL, ↓x_augix, ↓x_isB, ↓x_notB, ↓gLR1, ↓gLR2, ↓gDIxT, ↓gDGt1T, ↓gDSetT, ↓gDNewT, ↓gDIx, ↓gDGt1, ↓gDGt2, ↓gDIn, ↓gDSetd, ↓gDPop1, ↓gDPop2, ↓gTIdx, ↓gLKeys, ↓gDisp, ↓x_enumK, ↓x_enumKL]
  rw [show (Str.ofString "") = Str.empty from rfl]
  refine ⟨hx.2, by decide +kernel, ?_⟩
  by_cases he : x = Str.empty
  · rw [if_neg (by simpa using he)]
    rw [Mt.figs_empty he] at h
    exact h
  · rw [if_pos he]
    refine lc_run (fun d => match d with | .str y => some (.bl (decide (Mt.sgn y 0 ∈ (Str.ofString "0123456789").cps.toList))) | _ => none) trivial (by rw [signsD, List.length_map]; exact hx.1) ?_ ?_
    · intro i d acc R hd hl hR
      obtain ⟨c, rfl⟩ := Mt.signs_get hd
      refine ⟨_, x_bnm, ?_⟩
      simp only [wipeD, ↓x_eqSS, ↓x_neSS, ↓gKGet, ↓x_kget, ↓x_ixE, at_last, ↓x_appE, ↓x_tyE, ↓x_itE, ↓x_lenE, ↓x_nePr, ↓x_eqPr, ↓x_neE, ↓x_lenr, ↓x_lenrI, ↓gRev, ↓x_par3, ↓x_par33, ↓x_fld, ↓x_fset, ↓x_mkF, ↓x_mk, ↓x_meth, ↓x_fldO, ↓x_fsetE, ↓x_fldE, ↓x_methO, ↓x_isiCO, ↓x_isiCN, ↓x_isiCT, ↓x_isiCLi, ↓x_isiCS, ↓x_isiCI, ↓x_own, ↓x_eqT2, ↓x_neT2, ↓x_neL4, ↓x_eqLN, ↓x_neNil, ↓x_gset, ↓x_lc, ↓x_for, ↓x_it, ↓x_rn1, ↓x_rn2, ↓x_enu, ↓x_zip, ↓x_itS, ↓x_itL, ↓x_itK, ↓x_itT, ↓x_rn1I, ↓x_rn2I, ↓x_enuL, ↓x_enuK, ↓x_zipL, ↓x_ixS0, ↓x_ixL, ↓x_ixT, ↓x_ixK, x_at0, x_at1, x_at2, x_at3, x_at4, ↓x_set00, ↓x_set01, ↓x_set02, ↓x_aug1, ↓x_aug2, ↓x_aug3, ↓x_aug4, ↓x_aug5, ↓x_aug6, ↓x_aug7, ↓x_aug8, ↓x_aug9, ↓x_aug10, ↓x_aug11, ↓x_aug12, ↓x_aug13, ↓x_aug14, ↓x_aug15, ↓x_aug16, ↓x_aug17, ↓x_aug18, ↓x_aug19, ↓x_aug20, ↓x_aug21, ↓x_aug22, ↓x_aug23, Int.reduceToNat, Int.reducePow, ↓gSeq, ↓gIfS, ↓gSet, ↓gAsg, ↓x_par, ↓x_par2, ↓gRet, ↓gRetN, ↓gNext, ↓gDrop, ↓gBreak, ↓gCont, ↓gDead, ↓gCB, ↓gB2, ↓gU, ↓gC, ↓Dl.gCons, ↓Dl.gNil, ↓Dl.gTup, ↓Dl.gLst, ↓gTest, ↓gOrB, ↓gAndB, ↓gNotB, ↓gAndV, ↓gOrV, ↓gNotV, ↓gIf, ↓gIx, ↓gSl, ↓gPart, ↓gNoP, ↓gMt, ↓gCall, ↓gArgs, ↓gIsN, ↓gNotN, ↓gChain, ↓x_fmtS, ↓x_afS, ↓x_afI, ↓x_js0, ↓x_jsc, ↓gJoined, ↓gYes, ↓x_bnm, ↓x_btp, ↓x_bn, ↓x_bc, ↓x_nnN, ↓x_nnI, ↓x_nnS, ↓x_nnB, ↓x_nnT, ↓x_nnL, ↓x_nnO, ↓x_nnl, ↓x_tyS, ↓x_tyL, ↓x_i2, ↓aSub, ↓aFdiv, ↓aMod, ↓aPow, ↓aShr, ↓aLt, ↓aLe, ↓aGt, ↓aGe, ↓x_addI, ↓x_addS, ↓x_mulI, ↓x_iaddS, ↓x_iaddI, ↓x_neg, ↓x_eqI, ↓x_neI, ↓x_eqS, ↓x_neS, ↓x_eqB, ↓x_neB, ↓x_eqNI, ↓x_neNI, ↓x_lenS, ↓x_lenL_l, ↓x_lenL_k, ↓x_lenL_t, ↓x_str, ↓x_intI, ↓x_intB, ↓x_divmod, ↓x_max2, ↓x_min2, ↓x_ixS, ↓x_slS, ↓x_slT, ↓x_slL_l, ↓x_slL_k, ↓x_inS, ↓x_newT, ↓x_newF, ↓x_si, ↓x_s1, ↓x_s0, ↓x_rpart, ↓x_part, ↓x_a1, ↓x_a2, ↓x_isiStr, ↓x_isiInt, ↓x_isiIntB, ↓x_isiIntS, ↓x_isiBB, ↓x_isiBI, ↓x_isiStrI, ↓x_isiNonI, ↓x_isiNonS, ↓x_isiT, ↓x_isiL, ↓x_var0, ↓x_varS, ↓x_ex, ↓x_aug0, gat, pick, Option.some.injEq, D.bl.injEq, D.int.injEq, D.str.injEq, D.tup.injEq, D.lst.injEq, List.cons.injEq, and_true, true_and, List.set_cons_zero, List.set_cons_succ, List.length_cons, List.length_nil, List.filterMap_cons, List.filterMap_nil, List.getElem?_cons_zero, List.getElem?_cons_succ, Option.bind_some, ↓reduceIte, if_true, if_false, Bool.false_eq_true, Bool.true_eq_false, decide_eq_true_eq, beq_self_eq_true, Bool.not_true, Bool.not_false, Bool.not_eq_true', decide_eq_false_iff_not, exists_eq_left', exists_eq_left, exists_eq, ↓x_dnT, ↓x_dnF, ↓gAsgL, ↓gMMDef, ↓gDSet, ↓gSItems, ↓x_nilL, ↓x_nilE, List.isEmpty_nil, List.isEmpty_cons, Bool.true_xor, Bool.false_xor, ↓gOrT, ↓gAndT, ↓gTryAs, ↓gTryO, ↓gRaise, ↓gCallX, ↓gMethX, ↓gMakeX, ↓gFldX, ↓x_inXs, Bool.false_xor, Bool.true_xor, ↓x_fmtRS, ↓x_afRS, ↓x_afRI, ↓x_stO, ↓x_zipS, ↓x_zipE, ↓x_zipSL, ↓x_zipST, ↓x_zipEL, ↓x_augix, ↓x_isB, ↓x_notB, ↓gLR1, ↓gLR2, ↓gDIxT, ↓gDGt1T, ↓gDSetT, ↓gDNewT, ↓gDIx, ↓gDGt1, ↓gDGt2, ↓gDIn, ↓gDSetd, ↓gDPop1, ↓gDPop2, ↓gTIdx, ↓gLKeys, ↓gDisp, ↓x_enumK, ↓x_enumKL]
      exact ⟨hl, hR⟩
    · rw [x_newT]
      refine x_all rfl (bs := x.cps.toList.map fun c => decide (48 ≤ c) && decide (c ≤ 57)) ?_ ?_
      · simp only [seqOf, signsD, Option.some.injEq, D.lst.injEq, List.filterMap_map, List.map_map]
        refine Mt.fm_map (fun c => ?_) _
        exact congrArg (fun b => some (D.bl b)) (Mt.dig_in c)
      · rw [Mt.figs_all he] at h
        exact h
theorem r_number_in : ∀ ds S q, sp_number_in a ds S q → g_number_in K a { nx := fun _ S' => q .non S', rt := q } (startD N_number_in ds) S := by
  rintro ds S q ⟨x, lo, hi, rfl, hx, h⟩
  rw [st_number_in]
  simp only [g_number_in, ↓x_eqSS, ↓x_neSS, ↓gKGet, ↓x_kget, ↓x_ixE, at_last, ↓x_appE, ↓x_tyE, ↓x_itE, ↓x_lenE, ↓x_nePr, ↓x_eqPr, ↓x_neE, ↓x_lenr, ↓x_lenrI, ↓gRev, ↓x_par3, ↓x_par33, ↓x_fld, ↓x_fset, ↓x_mkF, ↓x_mk, ↓x_meth, ↓x_fldO, ↓x_fsetE, ↓x_fldE, ↓x_methO, ↓x_isiCO, ↓x_isiCN, ↓x_isiCT, ↓x_isiCLi, ↓x_isiCS, ↓x_isiCI, ↓x_own, ↓x_eqT2, ↓x_neT2, ↓x_neL4, ↓x_eqLN, ↓x_neNil, ↓x_gset, ↓x_lc, ↓x_for, ↓x_it, ↓x_rn1, ↓x_rn2, ↓x_enu, ↓x_zip, ↓x_itS, ↓x_itL, ↓x_itK, ↓x_itT, ↓x_rn1I, ↓x_rn2I, ↓x_enuL, ↓x_enuK, ↓x_zipL, ↓x_ixS0, ↓x_ixL, ↓x_ixT, ↓x_ixK, x_at0, x_at1, x_at2, x_at3, x_at4, ↓x_set00, ↓x_set01, ↓x_set02, ↓x_aug1, ↓x_aug2, ↓x_aug3, ↓x_aug4, ↓x_aug5, ↓x_aug6, ↓x_aug7, ↓x_aug8, ↓x_aug9, ↓x_aug10, ↓x_aug11, ↓x_aug12, ↓x_aug13, ↓x_aug14, ↓x_aug15, ↓x_aug16, ↓x_aug17, ↓x_aug18, ↓x_aug19, ↓x_aug20, ↓x_aug21, ↓x_aug22, ↓x_aug23, Int.reduceToNat, Int.reducePow, ↓gSeq, ↓gIfS, ↓gSet, ↓gAsg, ↓x_par, ↓x_par2, ↓gRet, ↓gRetN, ↓gNext, ↓gDrop, ↓gBreak, ↓gCont, ↓gDead, ↓gCB, ↓gB2, ↓gU, ↓gC, ↓Dl.gCons, ↓Dl.gNil, ↓Dl.gTup, ↓Dl.gLst, ↓gTest, ↓gOrB, ↓gAndB, ↓gNotB, ↓gAndV, ↓gOrV, ↓gNotV, ↓gIf, ↓gIx, ↓gSl, ↓gPart, ↓gNoP, ↓gMt, ↓gCall, ↓gArgs, ↓gIsN, ↓gNotN, ↓gChain, ↓x_fmtS, ↓x_afS, ↓x_afI, ↓x_js0, ↓x_jsc, ↓gJoined, ↓gYes, ↓x_bnm, ↓x_btp, ↓x_bn, ↓x_bc, ↓x_nnN, ↓x_nnI, ↓x_nnS, ↓x_nnB, ↓x_nnT, ↓x_nnL, ↓x_nnO, ↓x_nnl, ↓x_tyS, ↓x_tyL, ↓x_i2, ↓aSub, ↓aFdiv, ↓aMod, ↓aPow, ↓aShr, ↓aLt, ↓aLe, ↓aGt, ↓aGe, ↓x_addI, ↓x_addS, ↓x_mulI, ↓x_iaddS, ↓x_iaddI, ↓x_neg, ↓x_eqI, ↓x_neI, ↓x_eqS, ↓x_neS, ↓x_eqB, ↓x_neB, ↓x_eqNI, ↓x_neNI, ↓x_lenS, ↓x_lenL_l, ↓x_lenL_k, ↓x_lenL_t, ↓x_str, ↓x_intI, ↓x_intB, ↓x_divmod, ↓x_max2, ↓x_min2, ↓x_ixS, ↓x_slS, ↓x_slT, ↓x_slL_l, ↓x_slL_k, ↓x_inS, ↓x_newT, ↓x_newF, ↓x_si, ↓x_s1, ↓x_s0, ↓x_rpart, ↓x_part, ↓x_a1, ↓x_a2, ↓x_isiStr, ↓x_isiInt, ↓x_isiIntB, ↓x_isiIntS, ↓x_isiBB, ↓x_isiBI, ↓x_isiStrI, ↓x_isiNonI, ↓x_isiNonS, ↓x_isiT, ↓x_isiL, ↓x_var0, ↓x_varS, ↓x_ex, ↓x_aug0, gat, pick, Option.some.injEq, D.bl.injEq, D.int.injEq, D.str.injEq, D.tup.injEq, D.lst.injEq, List.cons.injEq, and_true, true_and, List.set_cons_zero, List.set_cons_succ, List.length_cons, List.length_nil, List.filterMap_cons, List.filterMap_nil, List.getElem?_cons_zero, List.getElem?_cons_succ, Option.bind_some, ↓reduceIte, if_true, if_false, Bool.false_eq_true, Bool.true_eq_false, decide_eq_true_eq, beq_self_eq_true, Bool.not_true, Bool.not_false, Bool.not_eq_true', decide_eq_false_iff_not, exists_eq_left', exists_eq_left, exists_eq, ↓x_dnT, ↓x_dnF, ↓gAsgL, ↓gMMDef, ↓gDSet, ↓gSItems, ↓x_nilL, ↓x_nilE, List.isEmpty_nil, List.isEmpty_cons, Bool.true_xor, Bool.false_xor, ↓gOrT, ↓gAndT, ↓gTryAs, ↓gTryO, ↓gRaise, ↓gCallX, ↓gMethX, ↓gMakeX, ↓gFldX, ↓x_inXs, Bool.false_xor, Bool.true_xor, ↓x_fmtRS, ↓x_afRS, ↓x_afRI, ↓x_stO, ↓x_zipS, ↓x_zipE, ↓x_zipSL, ↓x_zipST, ↓x_zipEL, ↓x_augix, ↓x_isB, ↓x_notB, ↓gLR1, ↓gLR2, ↓gDIxT, ↓gDGt1T, ↓gDSetT, ↓gDNewT, ↓gDIx, ↓gDGt1, ↓gDGt2, ↓gDIn, ↓gDSetd, ↓gDPop1, ↓gDPop2, ↓gTIdx, ↓gLKeys, ↓gDisp, ↓x_enumK, ↓x_enumKL]
  refine ⟨hx.1, ?_⟩
  unfold Mt.numI at h
  by_cases h9 : 9 < x.length
  · rw [if_pos (by omega)]; rw [if_pos h9] at h; exact h
  · rw [if_neg (by omega)]; rw [if_neg h9] at h
    refine ⟨x, rfl, hx, Mt.figs x, rfl, ?_⟩
    by_cases hf : Mt.figs x = false
    · rw [if_pos hf]; rw [if_pos hf] at h; exact h
    · rw [if_neg hf]; rw [if_neg hf] at h
      have hf' := Mt.figs_iff.mp (Bool.not_eq_false _ ▸ hf)
      have hi' := Mt.int_val hf'.1 hf'.2 (by omega)
      have hl : 0 < x.length := by
        have := List.length_pos_iff.mpr hf'.1
        rwa [Array.length_toList] at this
      obtain ⟨c, hc, hs⟩ := Mt.at_of hl
      refine ⟨hx.1, c, atI_lit (k := 0) hc, Mt.ok_one hx.2 hc, by decide +kernel, ?_⟩
      have hz : ((⟨#[c]⟩ : Str) = Str.ofString "0") ↔ Mt.sgn x 0 = 48 := by
        rw [hs, show Str.ofString "0" = ⟨#[48]⟩ by decide +kernel]; exact Mt.one_eq
      by_cases h48 : Mt.sgn x 0 = 48
      · rw [if_pos (hz.mpr h48)]
        refine ⟨hx.2, by decide +kernel, ?_⟩
        by_cases h0 : x ≠ Str.ofString "0"
        · rw [if_pos h0]; rw [if_pos ⟨h48, h0⟩] at h; exact h
        · rw [if_neg h0]; rw [if_neg (fun z => h0 z.2)] at h
          refine (x_intS hi').mpr ⟨by omega, ?_⟩
          simp only [↓x_eqSS, ↓x_neSS, ↓gKGet, ↓x_kget, ↓x_ixE, at_last, ↓x_appE, ↓x_tyE, ↓x_itE, ↓x_lenE, ↓x_nePr, ↓x_eqPr, ↓x_neE, ↓x_lenr, ↓x_lenrI, ↓gRev, ↓x_par3, ↓x_par33, ↓x_fld, ↓x_fset, ↓x_mkF, ↓x_mk, ↓x_meth, ↓x_fldO, ↓x_fsetE, ↓x_fldE, ↓x_methO, ↓x_isiCO, ↓x_isiCN, ↓x_isiCT, ↓x_isiCLi, ↓x_isiCS, ↓x_isiCI, ↓x_own, ↓x_eqT2, ↓x_neT2, ↓x_neL4, ↓x_eqLN, ↓x_neNil, ↓x_gset, ↓x_lc, ↓x_for, ↓x_it, ↓x_rn1, ↓x_rn2, ↓x_enu, ↓x_zip, ↓x_itS, ↓x_itL, ↓x_itK, ↓x_itT, ↓x_rn1I, ↓x_rn2I, ↓x_enuL, ↓x_enuK, ↓x_zipL, ↓x_ixS0, ↓x_ixL, ↓x_ixT, ↓x_ixK, x_at0, x_at1, x_at2, x_at3, x_at4, ↓x_set00, ↓x_set01, ↓x_set02, ↓x_aug1, ↓x_aug2, ↓x_aug3, ↓x_aug4, ↓x_aug5, ↓x_aug6, ↓x_aug7, ↓x_aug8, ↓x_aug9, ↓x_aug10, ↓x_aug11, ↓x_aug12, ↓x_aug13, ↓x_aug14, ↓x_aug15, ↓x_aug16, ↓x_aug17, ↓x_aug18, ↓x_aug19, ↓x_aug20, ↓x_aug21, ↓x_aug22, ↓x_aug23, Int.reduceToNat, Int.reducePow, ↓gSeq, ↓gIfS, ↓gSet, ↓gAsg, ↓x_par, ↓x_par2, ↓gRet, ↓gRetN, ↓gNext, ↓gDrop, ↓gBreak, ↓gCont, ↓gDead, ↓gCB, ↓gB2, ↓gU, ↓gC, ↓Dl.gCons, ↓Dl.gNil, ↓Dl.gTup, ↓Dl.gLst, ↓gTest, ↓gOrB, ↓gAndB, ↓gNotB, ↓gAndV, ↓gOrV, ↓gNotV, ↓gIf, ↓gIx, ↓gSl, ↓gPart, ↓gNoP, ↓gMt, ↓gCall, ↓gArgs, ↓gIsN, ↓gNotN, ↓gChain, ↓x_fmtS, ↓x_afS, ↓x_afI, ↓x_js0, ↓x_jsc, ↓gJoined, ↓gYes, ↓x_bnm, ↓x_btp, ↓x_bn, ↓x_bc, ↓x_nnN, ↓x_nnI, ↓x_nnS, ↓x_nnB, ↓x_nnT, ↓x_nnL, ↓x_nnO, ↓x_nnl, ↓x_tyS, ↓x_tyL, ↓x_i2, ↓aSub, ↓aFdiv, ↓aMod, ↓aPow, ↓aShr, ↓aLt, ↓aLe, ↓aGt, ↓aGe, ↓x_addI, ↓x_addS, ↓x_mulI, ↓x_iaddS, ↓x_iaddI, ↓x_neg, ↓x_eqI, ↓x_neI, ↓x_eqS, ↓x_neS, ↓x_eqB, ↓x_neB, ↓x_eqNI, ↓x_neNI, ↓x_lenS, ↓x_lenL_l, ↓x_lenL_k, ↓x_lenL_t, ↓x_str, ↓x_intI, ↓x_intB, ↓x_divmod, ↓x_max2, ↓x_min2, ↓x_ixS, ↓x_slS, ↓x_slT, ↓x_slL_l, ↓x_slL_k, ↓x_inS, ↓x_newT, ↓x_newF, ↓x_si, ↓x_s1, ↓x_s0, ↓x_rpart, ↓x_part, ↓x_a1, ↓x_a2, ↓x_isiStr, ↓x_isiInt, ↓x_isiIntB, ↓x_isiIntS, ↓x_isiBB, ↓x_isiBI, ↓x_isiStrI, ↓x_isiNonI, ↓x_isiNonS, ↓x_isiT, ↓x_isiL, ↓x_var0, ↓x_varS, ↓x_ex, ↓x_aug0, gat, pick, Option.some.injEq, D.bl.injEq, D.int.injEq, D.str.injEq, D.tup.injEq, D.lst.injEq, List.cons.injEq, and_true, true_and, List.set_cons_zero, List.set_cons_succ, List.length_cons, List.length_nil, List.filterMap_cons, List.filterMap_nil, List.getElem?_cons_zero, List.getElem?_cons_succ, Option.bind_some, ↓reduceIte, if_true, if_false, Bool.false_eq_true, Bool.true_eq_false, decide_eq_true_eq, beq_self_eq_true, Bool.not_true, Bool.not_false, Bool.not_eq_true', decide_eq_false_iff_not, exists_eq_left', exists_eq_left, exists_eq, ↓x_dnT, ↓x_dnF, ↓gAsgL, ↓gMMDef, ↓gDSet, ↓gSItems, ↓x_nilL, ↓x_nilE, List.isEmpty_nil, List.isEmpty_cons, Bool.true_xor, Bool.false_xor, ↓gOrT, ↓gAndT, ↓gTryAs, ↓gTryO, ↓gRaise, ↓gCallX, ↓gMethX, ↓gMakeX, ↓gFldX, ↓x_inXs, Bool.false_xor, Bool.true_xor, ↓x_fmtRS, ↓x_afRS, ↓x_afRI, ↓x_stO, ↓x_zipS, ↓x_zipE, ↓x_zipSL, ↓x_zipST, ↓x_zipEL, ↓x_augix, ↓x_isB, ↓x_notB, ↓gLR1, ↓gLR2, ↓gDIxT, ↓gDGt1T, ↓gDSetT, ↓gDNewT, ↓gDIx, ↓gDGt1, ↓gDGt2, ↓gDIn, ↓gDSetd, ↓gDPop1, ↓gDPop2, ↓gTIdx, ↓gLKeys, ↓gDisp, ↓x_enumK, ↓x_enumKL]
          split at h <;> rename_i hc
          · rw [if_pos hc.1, if_pos hc.2]; exact h
          · by_cases h1 : lo ≤ Mt.val x
            · rw [if_pos h1, if_neg (fun h2 => hc ⟨h1, h2⟩)]; exact h
            · rw [if_neg h1]; exact h
      · rw [if_neg (fun z => h48 (hz.mp z))]; rw [if_neg (fun z => h48 z.1)] at h
        refine (x_intS hi').mpr ⟨by omega, ?_⟩
        simp only [↓x_eqSS, ↓x_neSS, ↓gKGet, ↓x_kget, ↓x_ixE, at_last, ↓x_appE, ↓x_tyE, ↓x_itE, ↓x_lenE, ↓x_nePr, ↓x_eqPr, ↓x_neE, ↓x_lenr, ↓x_lenrI, ↓gRev, ↓x_par3, ↓x_par33, ↓x_fld, ↓x_fset, ↓x_mkF, ↓x_mk, ↓x_meth, ↓x_fldO, ↓x_fsetE, ↓x_fldE, ↓x_methO, ↓x_isiCO, ↓x_isiCN, ↓x_isiCT, ↓x_isiCLi, ↓x_isiCS, ↓x_isiCI, ↓x_own, ↓x_eqT2, ↓x_neT2, ↓x_neL4, ↓x_eqLN, ↓x_neNil, ↓x_gset, ↓x_lc, ↓x_for, ↓x_it, ↓x_rn1, ↓x_rn2, ↓x_enu, ↓x_zip, ↓x_itS, ↓x_itL, ↓x_itK, ↓x_itT, ↓x_rn1I, ↓x_rn2I, ↓x_enuL, ↓x_enuK, ↓x_zipL, ↓x_ixS0, ↓x_ixL, ↓x_ixT, ↓x_ixK, x_at0, x_at1, x_at2, x_at3, x_at4, ↓x_set00, ↓x_set01, ↓x_set02, ↓x_aug1, ↓x_aug2, ↓x_aug3, ↓x_aug4, ↓x_aug5, ↓x_aug6, ↓x_aug7, ↓x_aug8, ↓x_aug9, ↓x_aug10, ↓x_aug11, ↓x_aug12, ↓x_aug13, ↓x_aug14, ↓x_aug15, ↓x_aug16, ↓x_aug17, ↓x_aug18, ↓x_aug19, ↓x_aug20, ↓x_aug21, ↓x_aug22, ↓x_aug23, Int.reduceToNat, Int.reducePow, ↓gSeq, ↓gIfS, ↓gSet, ↓gAsg, ↓x_par, ↓x_par2, ↓gRet, ↓gRetN, ↓gNext, ↓gDrop, ↓gBreak, ↓gCont, ↓gDead, ↓gCB, ↓gB2, ↓gU, ↓gC, ↓Dl.gCons, ↓Dl.gNil, ↓Dl.gTup, ↓Dl.gLst, ↓gTest, ↓gOrB, ↓gAndB, ↓gNotB, ↓gAndV, ↓gOrV, ↓gNotV, ↓gIf, ↓gIx, ↓gSl, ↓gPart, ↓gNoP, ↓gMt, ↓gCall, ↓gArgs, ↓gIsN, ↓gNotN, ↓gChain, ↓x_fmtS, ↓x_afS, ↓x_afI, ↓x_js0, ↓x_jsc, ↓gJoined, ↓gYes, ↓x_bnm, ↓x_btp, ↓x_bn, ↓x_bc, ↓x_nnN, ↓x_nnI, ↓x_nnS, ↓x_nnB, ↓x_nnT, ↓x_nnL, ↓x_nnO, ↓x_nnl, ↓x_tyS, ↓x_tyL, ↓x_i2, ↓aSub, ↓aFdiv, ↓aMod, ↓aPow, ↓aShr, ↓aLt, ↓aLe, ↓aGt, ↓aGe, ↓x_addI, ↓x_addS, ↓x_mulI, ↓x_iaddS, ↓x_iaddI, ↓x_neg, ↓x_eqI, ↓x_neI, ↓x_eqS, ↓x_neS, ↓x_eqB, ↓x_neB, ↓x_eqNI, ↓x_neNI, ↓x_lenS, ↓x_lenL_l, ↓x_lenL_k, ↓x_lenL_t, ↓x_str, ↓x_intI, ↓x_intB, ↓x_divmod, ↓x_max2, ↓x_min2, ↓x_ixS, ↓x_slS, ↓x_slT, ↓x_slL_l, ↓x_slL_k, ↓x_inS, ↓x_newT, ↓x_newF, ↓x_si, ↓x_s1, ↓x_s0, ↓x_rpart, ↓x_part, ↓x_a1, ↓x_a2, ↓x_isiStr, ↓x_isiInt, ↓x_isiIntB, ↓x_isiIntS, ↓x_isiBB, ↓x_isiBI, ↓x_isiStrI, ↓x_isiNonI, ↓x_isiNonS, ↓x_isiT, ↓x_isiL, ↓x_var0, ↓x_varS, ↓x_ex, ↓x_aug0, gat, pick, Option.some.injEq, D.bl.injEq, D.int.injEq, D.str.injEq, D.tup.injEq, D.lst.injEq, List.cons.injEq, and_true, true_and, List.set_cons_zero, List.set_cons_succ, List.length_cons, List.length_nil, List.filterMap_cons, List.filterMap_nil, List.getElem?_cons_zero, List.getElem?_cons_succ, Option.bind_some, ↓reduceIte, if_true, if_false, Bool.false_eq_true, Bool.true_eq_false, decide_eq_true_eq, beq_self_eq_true, Bool.not_true, Bool.not_false, Bool.not_eq_true', decide_eq_false_iff_not, exists_eq_left', exists_eq_left, exists_eq, ↓x_dnT, ↓x_dnF, ↓gAsgL, ↓gMMDef, ↓gDSet, ↓gSItems, ↓x_nilL, ↓x_nilE, List.isEmpty_nil, List.isEmpty_cons, Bool.true_xor, Bool.false_xor, ↓gOrT, ↓gAndT, ↓gTryAs, ↓gTryO, ↓gRaise, ↓gCallX, ↓gMethX, ↓gMakeX, ↓gFldX, ↓x_inXs, Bool.false_xor, Bool.true_xor, ↓x_fmtRS, ↓x_afRS, ↓x_afRI, ↓x_stO, ↓x_zipS, ↓x_zipE, ↓x_zipSL, ↓x_zipST, ↓x_zipEL, ↓x_augix, ↓x_isB, ↓x_notB, ↓gLR1, ↓gLR2, ↓gDIxT, ↓gDGt1T, ↓gDSetT, ↓gDNewT, ↓gDIx, ↓gDGt1, ↓gDGt2, ↓gDIn, ↓gDSetd, ↓gDPop1, ↓gDPop2, ↓gTIdx, ↓gLKeys, ↓gDisp, ↓x_enumK, ↓x_enumKL]
        split at h <;> rename_i hc
        · rw [if_pos hc.1, if_pos hc.2]; exact h
        · by_cases h1 : lo ≤ Mt.val x
          · rw [if_pos h1, if_neg (fun h2 => hc ⟨h1, h2⟩)]; exact h
          · rw [if_neg h1]; exact h
theorem r_show_clock : ∀ ds S q, sp_show_clock a ds S q → g_show_clock K a { nx := fun _ S' => q .non S', rt := q } (startD N_show_clock ds) S := by
  rintro ds S q ⟨m, rfl, hm, h⟩
  rw [st_show_clock]
  simp only [g_show_clock, ↓x_eqSS, ↓x_neSS, ↓gKGet, ↓x_kget, ↓x_ixE, at_last, ↓x_appE, ↓x_tyE, ↓x_itE, ↓x_lenE, ↓x_nePr, ↓x_eqPr, ↓x_neE, ↓x_lenr, ↓x_lenrI, ↓gRev, ↓x_par3, ↓x_par33, ↓x_fld, ↓x_fset, ↓x_mkF, ↓x_mk, ↓x_meth, ↓x_fldO, ↓x_fsetE, ↓x_fldE, ↓x_methO, ↓x_isiCO, ↓x_isiCN, ↓x_isiCT, ↓x_isiCLi, ↓x_isiCS, ↓x_isiCI, ↓x_own, ↓x_eqT2, ↓x_neT2, ↓x_neL4, ↓x_eqLN, ↓x_neNil, ↓x_gset, ↓x_lc, ↓x_for, ↓x_it, ↓x_rn1, ↓x_rn2, ↓x_enu, ↓x_zip, ↓x_itS, ↓x_itL, ↓x_itK, ↓x_itT, ↓x_rn1I, ↓x_rn2I, ↓x_enuL, ↓x_enuK, ↓x_zipL, ↓x_ixS0, ↓x_ixL, ↓x_ixT, ↓x_ixK, x_at0, x_at1, x_at2, x_at3, x_at4, ↓x_set00, ↓x_set01, ↓x_set02, ↓x_aug1, ↓x_aug2, ↓x_aug3, ↓x_aug4, ↓x_aug5, ↓x_aug6, ↓x_aug7, ↓x_aug8, ↓x_aug9, ↓x_aug10, ↓x_aug11, ↓x_aug12, ↓x_aug13, ↓x_aug14, ↓x_aug15, ↓x_aug16, ↓x_aug17, ↓x_aug18, ↓x_aug19, ↓x_aug20, ↓x_aug21, ↓x_aug22, ↓x_aug23, Int.reduceToNat, Int.reducePow, ↓gSeq, ↓gIfS, ↓gSet, ↓gAsg, ↓x_par, ↓x_par2, ↓gRet, ↓gRetN, ↓gNext, ↓gDrop, ↓gBreak, ↓gCont, ↓gDead, ↓gCB, ↓gB2, ↓gU, ↓gC, ↓Dl.gCons, ↓Dl.gNil, ↓Dl.gTup, ↓Dl.gLst, ↓gTest, ↓gOrB, ↓gAndB, ↓gNotB, ↓gAndV, ↓gOrV, ↓gNotV, ↓gIf, ↓gIx, ↓gSl, ↓gPart, ↓gNoP, ↓gMt, ↓gCall, ↓gArgs, ↓gIsN, ↓gNotN, ↓gChain, ↓x_fmtS, ↓x_afS, ↓x_afI, ↓x_js0, ↓x_jsc, ↓gJoined, ↓gYes, ↓x_bnm, ↓x_btp, ↓x_bn, ↓x_bc, ↓x_nnN, ↓x_nnI, ↓x_nnS, ↓x_nnB, ↓x_nnT, ↓x_nnL, ↓x_nnO, ↓x_nnl, ↓x_tyS, ↓x_tyL, ↓x_i2, ↓aSub, ↓aFdiv, ↓aMod, ↓aPow, ↓aShr, ↓aLt, ↓aLe, ↓aGt, ↓aGe, ↓x_addI, ↓x_addS, ↓x_mulI, ↓x_iaddS, ↓x_iaddI, ↓x_neg, ↓x_eqI, ↓x_neI, ↓x_eqS, ↓x_neS, ↓x_eqB, ↓x_neB, ↓x_eqNI, ↓x_neNI, ↓x_lenS, ↓x_lenL_l, ↓x_lenL_k, ↓x_lenL_t, ↓x_str, ↓x_intI, ↓x_intB, ↓x_divmod, ↓x_max2, ↓x_min2, ↓x_ixS, ↓x_slS, ↓x_slT, ↓x_slL_l, ↓x_slL_k, ↓x_inS, ↓x_newT, ↓x_newF, ↓x_si, ↓x_s1, ↓x_s0, ↓x_rpart, ↓x_part, ↓x_a1, ↓x_a2, ↓x_isiStr, ↓x_isiInt, ↓x_isiIntB, ↓x_isiIntS, ↓x_isiBB, ↓x_isiBI, ↓x_isiStrI, ↓x_isiNonI, ↓x_isiNonS, ↓x_isiT, ↓x_isiL, ↓x_var0, ↓x_varS, ↓x_ex, ↓x_aug0, gat, pick, Option.some.injEq, D.bl.injEq, D.int.injEq, D.str.injEq, D.tup.injEq, D.lst.injEq, List.cons.injEq, and_true, true_and, List.set_cons_zero, List.set_cons_succ, List.length_cons, List.length_nil, List.filterMap_cons, List.filterMap_nil, List.getElem?_cons_zero, List.getElem?_cons_succ, Option.bind_some, ↓reduceIte, if_true, if_false, Bool.false_eq_true, Bool.true_eq_false, decide_eq_true_eq, beq_self_eq_true, Bool.not_true, Bool.not_false, Bool.not_eq_true', decide_eq_false_iff_not, exists_eq_left', exists_eq_left, exists_eq, ↓x_dnT, ↓x_dnF, ↓gAsgL, ↓gMMDef, ↓gDSet, ↓gSItems, ↓x_nilL, ↓x_nilE, List.isEmpty_nil, List.isEmpty_cons, Bool.true_xor, Bool.false_xor, ↓gOrT, ↓gAndT, ↓gTryAs, ↓gTryO, ↓gRaise, ↓gCallX, ↓gMethX, ↓gMakeX, ↓gFldX, ↓x_inXs, Bool.false_xor, Bool.true_xor, ↓x_fmtRS, ↓x_afRS, ↓x_afRI, ↓x_stO, ↓x_zipS, ↓x_zipE, ↓x_zipSL, ↓x_zipST, ↓x_zipEL, ↓x_augix, ↓x_isB, ↓x_notB, ↓gLR1, ↓gLR2, ↓gDIxT, ↓gDGt1T, ↓gDSetT, ↓gDNewT, ↓gDIx, ↓gDGt1, ↓gDGt2, ↓gDIn, ↓gDSetd, ↓gDPop1, ↓gDPop2, ↓gTIdx, ↓gLKeys, ↓gDisp, ↓x_enumK, ↓x_enumKL]
  have e1 : ((m : Int) / 60) = ((m / 60 : Nat) : Int) := by omega
  have e2 : ((m : Int) % 60) = ((m % 60 : Nat) : Int) := by omega
  rw [e1, e2, Mt.tw_zfill _ (by omega), Mt.tw_zfill _ (by omega)]
  refine ⟨⟨by decide, by decide⟩, Mt.log2_small (by omega) (by omega), by decide, Mt.l_tw1 _, Mt.log2_small (by omega) (by omega), by decide, Mt.l_tw2 _ _, ?_⟩
  exact h
theorem r_show_time : ∀ ds S q, sp_show_time a ds S q → g_show_time K a { nx := fun _ S' => q .non S', rt := q } (startD N_show_time ds) S := by
  rintro ds S q ⟨m, rfl, hm, h⟩
  rw [st_show_time]
  simp only [g_show_time, ↓x_eqSS, ↓x_neSS, ↓gKGet, ↓x_kget, ↓x_ixE, at_last, ↓x_appE, ↓x_tyE, ↓x_itE, ↓x_lenE, ↓x_nePr, ↓x_eqPr, ↓x_neE, ↓x_lenr, ↓x_lenrI, ↓gRev, ↓x_par3, ↓x_par33, ↓x_fld, ↓x_fset, ↓x_mkF, ↓x_mk, ↓x_meth, ↓x_fldO, ↓x_fsetE, ↓x_fldE, ↓x_methO, ↓x_isiCO, ↓x_isiCN, ↓x_isiCT, ↓x_isiCLi, ↓x_isiCS, ↓x_isiCI, ↓x_own, ↓x_eqT2, ↓x_neT2, ↓x_neL4, ↓x_eqLN, ↓x_neNil, ↓x_gset, ↓x_lc, ↓x_for, ↓x_it, ↓x_rn1, ↓x_rn2, ↓x_enu, ↓x_zip, ↓x_itS, ↓x_itL, ↓x_itK, ↓x_itT, ↓x_rn1I, ↓x_rn2I, ↓x_enuL, ↓x_enuK, ↓x_zipL, ↓x_ixS0, ↓x_ixL, ↓x_ixT, ↓x_ixK, x_at0, x_at1, x_at2, x_at3, x_at4, ↓x_set00, ↓x_set01, ↓x_set02, ↓x_aug1, ↓x_aug2, ↓x_aug3, ↓x_aug4, ↓x_aug5, ↓x_aug6, ↓x_aug7, ↓x_aug8, ↓x_aug9, ↓x_aug10, ↓x_aug11, ↓x_aug12, ↓x_aug13, ↓x_aug14, ↓x_aug15, ↓x_aug16, ↓x_aug17, ↓x_aug18, ↓x_aug19, ↓x_aug20, ↓x_aug21, ↓x_aug22, ↓x_aug23, Int.reduceToNat, Int.reducePow, ↓gSeq, ↓gIfS, ↓gSet, ↓gAsg, ↓x_par, ↓x_par2, ↓gRet, ↓gRetN, ↓gNext, ↓gDrop, ↓gBreak, ↓gCont, ↓gDead, ↓gCB, ↓gB2, ↓gU, ↓gC, ↓Dl.gCons, ↓Dl.gNil, ↓Dl.gTup, ↓Dl.gLst, ↓gTest, ↓gOrB, ↓gAndB, ↓gNotB, ↓gAndV, ↓gOrV, ↓gNotV, ↓gIf, ↓gIx, ↓gSl, ↓gPart, ↓gNoP, ↓gMt, ↓gCall, ↓gArgs, ↓gIsN, ↓gNotN, ↓gChain, ↓x_fmtS, ↓x_afS, ↓x_afI, ↓x_js0, ↓x_jsc, ↓gJoined, ↓gYes, ↓x_bnm, ↓x_btp, ↓x_bn, ↓x_bc, ↓x_nnN, ↓x_nnI, ↓x_nnS, ↓x_nnB, ↓x_nnT, ↓x_nnL, ↓x_nnO, ↓x_nnl, ↓x_tyS, ↓x_tyL, ↓x_i2, ↓aSub, ↓aFdiv, ↓aMod, ↓aPow, ↓aShr, ↓aLt, ↓aLe, ↓aGt, ↓aGe, ↓x_addI, ↓x_addS, ↓x_mulI, ↓x_iaddS, ↓x_iaddI, ↓x_neg, ↓x_eqI, ↓x_neI, ↓x_eqS, ↓x_neS, ↓x_eqB, ↓x_neB, ↓x_eqNI, ↓x_neNI, ↓x_lenS, ↓x_lenL_l, ↓x_lenL_k, ↓x_lenL_t, ↓x_str, ↓x_intI, ↓x_intB, ↓x_divmod, ↓x_max2, ↓x_min2, ↓x_ixS, ↓x_slS, ↓x_slT, ↓x_slL_l, ↓x_slL_k, ↓x_inS, ↓x_newT, ↓x_newF, ↓x_si, ↓x_s1, ↓x_s0, ↓x_rpart, ↓x_part, ↓x_a1, ↓x_a2, ↓x_isiStr, ↓x_isiInt, ↓x_isiIntB, ↓x_isiIntS, ↓x_isiBB, ↓x_isiBI, ↓x_isiStrI, ↓x_isiNonI, ↓x_isiNonS, ↓x_isiT, ↓x_isiL, ↓x_var0, ↓x_varS, ↓x_ex, ↓x_aug0, gat, pick, Option.some.injEq, D.bl.injEq, D.int.injEq, D.str.injEq, D.tup.injEq, D.lst.injEq, List.cons.injEq, and_true, true_and, List.set_cons_zero, List.set_cons_succ, List.length_cons, List.length_nil, List.filterMap_cons, List.filterMap_nil, List.getElem?_cons_zero, List.getElem?_cons_succ, Option.bind_some, ↓reduceIte, if_true, if_false, Bool.false_eq_true, Bool.true_eq_false, decide_eq_true_eq, beq_self_eq_true, Bool.not_true, Bool.not_false, Bool.not_eq_true', decide_eq_false_iff_not, exists_eq_left', exists_eq_left, exists_eq, ↓x_dnT, ↓x_dnF, ↓gAsgL, ↓gMMDef, ↓gDSet, ↓gSItems, ↓x_nilL, ↓x_nilE, List.isEmpty_nil, List.isEmpty_cons, Bool.true_xor, Bool.false_xor, ↓gOrT, ↓gAndT, ↓gTryAs, ↓gTryO, ↓gRaise, ↓gCallX, ↓gMethX, ↓gMakeX, ↓gFldX, ↓x_inXs, Bool.false_xor, Bool.true_xor, ↓x_fmtRS, ↓x_afRS, ↓x_afRI, ↓x_stO, ↓x_zipS, ↓x_zipE, ↓x_zipSL, ↓x_zipST, ↓x_zipEL, ↓x_augix, ↓x_isB, ↓x_notB, ↓gLR1, ↓gLR2, ↓gDIxT, ↓gDGt1T, ↓gDSetT, ↓gDNewT, ↓gDIx, ↓gDGt1, ↓gDGt2, ↓gDIn, ↓gDSetd, ↓gDPop1, ↓gDPop2, ↓gTIdx, ↓gLKeys, ↓gDisp, ↓x_enumK, ↓x_enumKL]
  have e1 : ((m : Int) / 1440) = ((m / 1440 : Nat) : Int) := by omega
  have e2 : ((m : Int) % 1440) = ((m % 1440 : Nat) : Int) := by omega
  rw [e1, e2]
  refine ⟨⟨by decide, by decide⟩, m % 1440, rfl, by omega, ?_⟩
  have eT : Mt.T m = if m < 1440 then Mt.hm (m / 60) (m % 60) else Mt.hm (m % 1440 / 60) (m % 60) ++ (Mt.plus ++ showI (m / 1440 : Nat)) := rfl
  have e3 : m % 1440 % 60 = m % 60 := by omega
  rw [e3]
  simp only [↓x_eqSS, ↓x_neSS, ↓gKGet, ↓x_kget, ↓x_ixE, at_last, ↓x_appE, ↓x_tyE, ↓x_itE, ↓x_lenE, ↓x_nePr, ↓x_eqPr, ↓x_neE, ↓x_lenr, ↓x_lenrI, ↓gRev, ↓x_par3, ↓x_par33, ↓x_fld, ↓x_fset, ↓x_mkF, ↓x_mk, ↓x_meth, ↓x_fldO, ↓x_fsetE, ↓x_fldE, ↓x_methO, ↓x_isiCO, ↓x_isiCN, ↓x_isiCT, ↓x_isiCLi, ↓x_isiCS, ↓x_isiCI, ↓x_own, ↓x_eqT2, ↓x_neT2, ↓x_neL4, ↓x_eqLN, ↓x_neNil, ↓x_gset, ↓x_lc, ↓x_for, ↓x_it, ↓x_rn1, ↓x_rn2, ↓x_enu, ↓x_zip, ↓x_itS, ↓x_itL, ↓x_itK, ↓x_itT, ↓x_rn1I, ↓x_rn2I, ↓x_enuL, ↓x_enuK, ↓x_zipL, ↓x_ixS0, ↓x_ixL, ↓x_ixT, ↓x_ixK, x_at0, x_at1, x_at2, x_at3, x_at4, ↓x_set00, ↓x_set01, ↓x_set02, ↓x_aug1, ↓x_aug2, ↓x_aug3, ↓x_aug4, ↓x_aug5, ↓x_aug6, ↓x_aug7, ↓x_aug8, ↓x_aug9, ↓x_aug10, ↓x_aug11, ↓x_aug12, ↓x_aug13, ↓x_aug14, ↓x_aug15, ↓x_aug16, ↓x_aug17, ↓x_aug18, ↓x_aug19, ↓x_aug20, ↓x_aug21, ↓x_aug22, ↓x_aug23, Int.reduceToNat, Int.reducePow, ↓gSeq, ↓gIfS, ↓gSet, ↓gAsg, ↓x_par, ↓x_par2, ↓gRet, ↓gRetN, ↓gNext, ↓gDrop, ↓gBreak, ↓gCont, ↓gDead, ↓gCB, ↓gB2, ↓gU, ↓gC, ↓Dl.gCons, ↓Dl.gNil, ↓Dl.gTup, ↓Dl.gLst, ↓gTest, ↓gOrB, ↓gAndB, ↓gNotB, ↓gAndV, ↓gOrV, ↓gNotV, ↓gIf, ↓gIx, ↓gSl, ↓gPart, ↓gNoP, ↓gMt, ↓gCall, ↓gArgs, ↓gIsN, ↓gNotN, ↓gChain, ↓x_fmtS, ↓x_afS, ↓x_afI, ↓x_js0, ↓x_jsc, ↓gJoined, ↓gYes, ↓x_bnm, ↓x_btp, ↓x_bn, ↓x_bc, ↓x_nnN, ↓x_nnI, ↓x_nnS, ↓x_nnB, ↓x_nnT, ↓x_nnL, ↓x_nnO, ↓x_nnl, ↓x_tyS, ↓x_tyL, ↓x_i2, ↓aSub, ↓aFdiv, ↓aMod, ↓aPow, ↓aShr, ↓aLt, ↓aLe, ↓aGt, ↓aGe, ↓x_addI, ↓x_addS, ↓x_mulI, ↓x_iaddS, ↓x_iaddI, ↓x_neg, ↓x_eqI, ↓x_neI, ↓x_eqS, ↓x_neS, ↓x_eqB, ↓x_neB, ↓x_eqNI, ↓x_neNI, ↓x_lenS, ↓x_lenL_l, ↓x_lenL_k, ↓x_lenL_t, ↓x_str, ↓x_intI, ↓x_intB, ↓x_divmod, ↓x_max2, ↓x_min2, ↓x_ixS, ↓x_slS, ↓x_slT, ↓x_slL_l, ↓x_slL_k, ↓x_inS, ↓x_newT, ↓x_newF, ↓x_si, ↓x_s1, ↓x_s0, ↓x_rpart, ↓x_part, ↓x_a1, ↓x_a2, ↓x_isiStr, ↓x_isiInt, ↓x_isiIntB, ↓x_isiIntS, ↓x_isiBB, ↓x_isiBI, ↓x_isiStrI, ↓x_isiNonI, ↓x_isiNonS, ↓x_isiT, ↓x_isiL, ↓x_var0, ↓x_varS, ↓x_ex, ↓x_aug0, gat, pick, Option.some.injEq, D.bl.injEq, D.int.injEq, D.str.injEq, D.tup.injEq, D.lst.injEq, List.cons.injEq, and_true, true_and, List.set_cons_zero, List.set_cons_succ, List.length_cons, List.length_nil, List.filterMap_cons, List.filterMap_nil, List.getElem?_cons_zero, List.getElem?_cons_succ, Option.bind_some, ↓reduceIte, if_true, if_false, Bool.false_eq_true, Bool.true_eq_false, decide_eq_true_eq, beq_self_eq_true, Bool.not_true, Bool.not_false, Bool.not_eq_true', decide_eq_false_iff_not, exists_eq_left', exists_eq_left, exists_eq, ↓x_dnT, ↓x_dnF, ↓gAsgL, ↓gMMDef, ↓gDSet, ↓gSItems, ↓x_nilL, ↓x_nilE, List.isEmpty_nil, List.isEmpty_cons, Bool.true_xor, Bool.false_xor, ↓gOrT, ↓gAndT, ↓gTryAs, ↓gTryO, ↓gRaise, ↓gCallX, ↓gMethX, ↓gMakeX, ↓gFldX, ↓x_inXs, Bool.false_xor, Bool.true_xor, ↓x_fmtRS, ↓x_afRS, ↓x_afRI, ↓x_stO, ↓x_zipS, ↓x_zipE, ↓x_zipSL, ↓x_zipST, ↓x_zipEL, ↓x_augix, ↓x_isB, ↓x_notB, ↓gLR1, ↓gLR2, ↓gDIxT, ↓gDGt1T, ↓gDSetT, ↓gDNewT, ↓gDIx, ↓gDGt1, ↓gDGt2, ↓gDIn, ↓gDSetd, ↓gDPop1, ↓gDPop2, ↓gTIdx, ↓gLKeys, ↓gDisp, ↓x_enumK, ↓x_enumKL]
  by_cases hd : m < 1440
  · rw [if_neg (show ¬ (0 : Int) < ((m / 1440 : Nat) : Int) by omega)]
    rw [eT, if_pos hd] at h
    rwa [show m % 1440 = m by omega]
  · rw [if_pos (show (0 : Int) < ((m / 1440 : Nat) : Int) by omega)]
    rw [eT, if_neg hd] at h
    have hs := Mt.show_len10 (i := ((m / 1440 : Nat) : Int)) (by omega) (by omega)
    refine ⟨by decide, Mt.log2_small (by omega) (by omega), ?_, ?_, ?_⟩
    · exact Nat.le_trans (by rw [Mt.len_app]; exact Nat.add_le_add_left hs _) (by decide : (Str.empty ++ Str.ofString "+").length + 10 ≤ sizeLine)
    · rw [Mt.len_app]
      exact Nat.le_trans (Nat.add_le_add_left (Nat.add_le_add_left hs _) _) (show 5 + ((Str.empty ++ Str.ofString "+").length + 10) ≤ sizeLine by decide)
    · exact h
theorem r_clock_in : ∀ ds S q, sp_clock_in a ds S q → g_clock_in K a { nx := fun _ S' => q .non S', rt := q } (startD N_clock_in ds) S := by
  rintro ds S q ⟨x, rfl, hx, h⟩
  rw [st_clock_in]
  simp only [g_clock_in, ↓x_eqSS, ↓x_neSS, ↓gKGet, ↓x_kget, ↓x_ixE, at_last, ↓x_appE, ↓x_tyE, ↓x_itE, ↓x_lenE, ↓x_nePr, ↓x_eqPr, ↓x_neE, ↓x_lenr, ↓x_lenrI, ↓gRev, ↓x_par3, ↓x_par33, ↓x_fld, ↓x_fset, ↓x_mkF, ↓x_mk, ↓x_meth, ↓x_fldO, ↓x_fsetE, ↓x_fldE, ↓x_methO, ↓x_isiCO, ↓x_isiCN, ↓x_isiCT, ↓x_isiCLi, ↓x_isiCS, ↓x_isiCI, ↓x_own, ↓x_eqT2, ↓x_neT2, ↓x_neL4, ↓x_eqLN, ↓x_neNil, ↓x_gset, ↓x_lc, ↓x_for, ↓x_it, ↓x_rn1, ↓x_rn2, ↓x_enu, ↓x_zip, ↓x_itS, ↓x_itL, ↓x_itK, ↓x_itT, ↓x_rn1I, ↓x_rn2I, ↓x_enuL, ↓x_enuK, ↓x_zipL, ↓x_ixS0, ↓x_ixL, ↓x_ixT, ↓x_ixK, x_at0, x_at1, x_at2, x_at3, x_at4, ↓x_set00, ↓x_set01, ↓x_set02, ↓x_aug1, ↓x_aug2, ↓x_aug3, ↓x_aug4, ↓x_aug5, ↓x_aug6, ↓x_aug7, ↓x_aug8, ↓x_aug9, ↓x_aug10, ↓x_aug11, ↓x_aug12, ↓x_aug13, ↓x_aug14, ↓x_aug15, ↓x_aug16, ↓x_aug17, ↓x_aug18, ↓x_aug19, ↓x_aug20, ↓x_aug21, ↓x_aug22, ↓x_aug23, Int.reduceToNat, Int.reducePow, ↓gSeq, ↓gIfS, ↓gSet, ↓gAsg, ↓x_par, ↓x_par2, ↓gRet, ↓gRetN, ↓gNext, ↓gDrop, ↓gBreak, ↓gCont, ↓gDead, ↓gCB, ↓gB2, ↓gU, ↓gC, ↓Dl.gCons, ↓Dl.gNil, ↓Dl.gTup, ↓Dl.gLst, ↓gTest, ↓gOrB, ↓gAndB, ↓gNotB, ↓gAndV, ↓gOrV, ↓gNotV, ↓gIf, ↓gIx, ↓gSl, ↓gPart, ↓gNoP, ↓gMt, ↓gCall, ↓gArgs, ↓gIsN, ↓gNotN, ↓gChain, ↓x_fmtS, ↓x_afS, ↓x_afI, ↓x_js0, ↓x_jsc, ↓gJoined, ↓gYes, ↓x_bnm, ↓x_btp, ↓x_bn, ↓x_bc, ↓x_nnN, ↓x_nnI, ↓x_nnS, ↓x_nnB, ↓x_nnT, ↓x_nnL, ↓x_nnO, ↓x_nnl, ↓x_tyS, ↓x_tyL, ↓x_i2, ↓aSub, ↓aFdiv, ↓aMod, ↓aPow, ↓aShr, ↓aLt, ↓aLe, ↓aGt, ↓aGe, ↓x_addI, ↓x_addS, ↓x_mulI, ↓x_iaddS, ↓x_iaddI, ↓x_neg, ↓x_eqI, ↓x_neI, ↓x_eqS, ↓x_neS, ↓x_eqB, ↓x_neB, ↓x_eqNI, ↓x_neNI, ↓x_lenS, ↓x_lenL_l, ↓x_lenL_k, ↓x_lenL_t, ↓x_str, ↓x_intI, ↓x_intB, ↓x_divmod, ↓x_max2, ↓x_min2, ↓x_ixS, ↓x_slS, ↓x_slT, ↓x_slL_l, ↓x_slL_k, ↓x_inS, ↓x_newT, ↓x_newF, ↓x_si, ↓x_s1, ↓x_s0, ↓x_rpart, ↓x_part, ↓x_a1, ↓x_a2, ↓x_isiStr, ↓x_isiInt, ↓x_isiIntB, ↓x_isiIntS, ↓x_isiBB, ↓x_isiBI, ↓x_isiStrI, ↓x_isiNonI, ↓x_isiNonS, ↓x_isiT, ↓x_isiL, ↓x_var0, ↓x_varS, ↓x_ex, ↓x_aug0, gat, pick, Option.some.injEq, D.bl.injEq, D.int.injEq, D.str.injEq, D.tup.injEq, D.lst.injEq, List.cons.injEq, and_true, true_and, List.set_cons_zero, List.set_cons_succ, List.length_cons, List.length_nil, List.filterMap_cons, List.filterMap_nil, List.getElem?_cons_zero, List.getElem?_cons_succ, Option.bind_some, ↓reduceIte, if_true, if_false, Bool.false_eq_true, Bool.true_eq_false, decide_eq_true_eq, beq_self_eq_true, Bool.not_true, Bool.not_false, Bool.not_eq_true', decide_eq_false_iff_not, exists_eq_left', exists_eq_left, exists_eq, ↓x_dnT, ↓x_dnF, ↓gAsgL, ↓gMMDef, ↓gDSet, ↓gSItems, ↓x_nilL, ↓x_nilE, List.isEmpty_nil, List.isEmpty_cons, Bool.true_xor, Bool.false_xor, ↓gOrT, ↓gAndT, ↓gTryAs, ↓gTryO, ↓gRaise, ↓gCallX, ↓gMethX, ↓gMakeX, ↓gFldX, ↓x_inXs, Bool.false_xor, Bool.true_xor, ↓x_fmtRS, ↓x_afRS, ↓x_afRI, ↓x_stO, ↓x_zipS, ↓x_zipE, ↓x_zipSL, ↓x_zipST, ↓x_zipEL, ↓x_augix, ↓x_isB, ↓x_notB, ↓gLR1, ↓gLR2, ↓gDIxT, ↓gDGt1T, ↓gDSetT, ↓gDNewT, ↓gDIx, ↓gDGt1, ↓gDGt2, ↓gDIn, ↓gDSetd, ↓gDPop1, ↓gDPop2, ↓gTIdx, ↓gLKeys, ↓gDisp, ↓x_enumK, ↓x_enumKL]
  refine ⟨hx.1, ?_⟩
  unfold Mt.clockI at h
  by_cases h5 : x.length ≠ 5
  · rw [if_pos (by omega)]; rw [if_pos h5] at h; exact h
  · rw [if_neg (by omega)]; rw [if_neg h5] at h
    obtain ⟨c, hc, hs⟩ := Mt.at_of (x := x) (i := 2) (by omega)
    refine ⟨hx.1, c, atI_lit (k := 2) hc, Mt.ok_one hx.2 hc, by decide +kernel, ?_⟩
    have hz : ((⟨#[c]⟩ : Str) = Str.ofString ":") ↔ Mt.sgn x 2 = 58 := by
      rw [hs, show Str.ofString ":" = ⟨#[58]⟩ by decide +kernel]; exact Mt.one_eq
    by_cases h58 : Mt.sgn x 2 ≠ 58
    · rw [if_pos (fun z => h58 (hz.mp z))]; rw [if_pos h58] at h; exact h
    · rw [if_neg (fun z => z (hz.mpr (Classical.not_not.mp h58)))]; rw [if_neg h58] at h
      have l1 : (cutS x none (some 2)).length ≤ x.length := Mt.cut_len
      have l2 : (cutS x (some 3) none).length ≤ x.length := Mt.cut_len
      have ls : 10 ≤ sizeLine := by decide
      refine ⟨hx.1, hx.1, by omega, _, rfl, ⟨by rw [Mt.len_app]; omega, Mt.ok_app (Mt.strOk_cut hx.2) (Mt.strOk_cut hx.2)⟩, _, rfl, ?_⟩
      by_cases hf : Mt.figs (cutS x none (some 2) ++ cutS x (some 3) none) = false
      · rw [if_pos hf]; rw [if_pos hf] at h; exact h
      · rw [if_neg hf]; rw [if_neg hf] at h
        have hf' := (Mt.figs_iff.mp (Bool.not_eq_false _ ▸ hf)).2
        have n1 : (cutS x none (some 2)).cps.toList ≠ [] := Mt.cut_two (by omega)
        have n2 : (cutS x (some 3) none).cps.toList ≠ [] := Mt.cut_three (by omega)
        have a1 : ∀ c ∈ (cutS x none (some 2)).cps.toList, 48 ≤ c ∧ c ≤ 57 := fun c hc => hf' c (Mt.mem_app.mpr (.inl hc))
        have a2 : ∀ c ∈ (cutS x (some 3) none).cps.toList, 48 ≤ c ∧ c ≤ 57 := fun c hc => hf' c (Mt.mem_app.mpr (.inr hc))
        refine ⟨hx.1, (x_intS (Mt.int_val n1 a1 (by omega))).mpr ⟨by omega, hx.1, (x_intS (Mt.int_val n2 a2 (by omega))).mpr ⟨by omega, ?_⟩⟩⟩
        simp only [↓x_eqSS, ↓x_neSS, ↓gKGet, ↓x_kget, ↓x_ixE, at_last, ↓x_appE, ↓x_tyE, ↓x_itE, ↓x_lenE, ↓x_nePr, ↓x_eqPr, ↓x_neE, ↓x_lenr, ↓x_lenrI, ↓gRev, ↓x_par3, ↓x_par33, ↓x_fld, ↓x_fset, ↓x_mkF, ↓x_mk, ↓x_meth, ↓x_fldO, ↓x_fsetE, ↓x_fldE, ↓x_methO, ↓x_isiCO, ↓x_isiCN, ↓x_isiCT, ↓x_isiCLi, ↓x_isiCS, ↓x_isiCI, ↓x_own, ↓x_eqT2, ↓x_neT2, ↓x_neL4, ↓x_eqLN, ↓x_neNil, ↓x_gset, ↓x_lc, ↓x_for, ↓x_it, ↓x_rn1, ↓x_rn2, ↓x_enu, ↓x_zip, ↓x_itS, ↓x_itL, ↓x_itK, ↓x_itT, ↓x_rn1I, ↓x_rn2I, ↓x_enuL, ↓x_enuK, ↓x_zipL, ↓x_ixS0, ↓x_ixL, ↓x_ixT, ↓x_ixK, x_at0, x_at1, x_at2, x_at3, x_at4, ↓x_set00, ↓x_set01, ↓x_set02, ↓x_aug1, ↓x_aug2, ↓x_aug3, ↓x_aug4, ↓x_aug5, ↓x_aug6, ↓x_aug7, ↓x_aug8, ↓x_aug9, ↓x_aug10, ↓x_aug11, ↓x_aug12, ↓x_aug13, ↓x_aug14, ↓x_aug15, ↓x_aug16, ↓x_aug17, ↓x_aug18, ↓x_aug19, ↓x_aug20, ↓x_aug21, ↓x_aug22, ↓x_aug23, Int.reduceToNat, Int.reducePow, ↓gSeq, ↓gIfS, ↓gSet, ↓gAsg, ↓x_par, ↓x_par2, ↓gRet, ↓gRetN, ↓gNext, ↓gDrop, ↓gBreak, ↓gCont, ↓gDead, ↓gCB, ↓gB2, ↓gU, ↓gC, ↓Dl.gCons, ↓Dl.gNil, ↓Dl.gTup, ↓Dl.gLst, ↓gTest, ↓gOrB, ↓gAndB, ↓gNotB, ↓gAndV, ↓gOrV, ↓gNotV, ↓gIf, ↓gIx, ↓gSl, ↓gPart, ↓gNoP, ↓gMt, ↓gCall, ↓gArgs, ↓gIsN, ↓gNotN, ↓gChain, ↓x_fmtS, ↓x_afS, ↓x_afI, ↓x_js0, ↓x_jsc, ↓gJoined, ↓gYes, ↓x_bnm, ↓x_btp, ↓x_bn, ↓x_bc, ↓x_nnN, ↓x_nnI, ↓x_nnS, ↓x_nnB, ↓x_nnT, ↓x_nnL, ↓x_nnO, ↓x_nnl, ↓x_tyS, ↓x_tyL, ↓x_i2, ↓aSub, ↓aFdiv, ↓aMod, ↓aPow, ↓aShr, ↓aLt, ↓aLe, ↓aGt, ↓aGe, ↓x_addI, ↓x_addS, ↓x_mulI, ↓x_iaddS, ↓x_iaddI, ↓x_neg, ↓x_eqI, ↓x_neI, ↓x_eqS, ↓x_neS, ↓x_eqB, ↓x_neB, ↓x_eqNI, ↓x_neNI, ↓x_lenS, ↓x_lenL_l, ↓x_lenL_k, ↓x_lenL_t, ↓x_str, ↓x_intI, ↓x_intB, ↓x_divmod, ↓x_max2, ↓x_min2, ↓x_ixS, ↓x_slS, ↓x_slT, ↓x_slL_l, ↓x_slL_k, ↓x_inS, ↓x_newT, ↓x_newF, ↓x_si, ↓x_s1, ↓x_s0, ↓x_rpart, ↓x_part, ↓x_a1, ↓x_a2, ↓x_isiStr, ↓x_isiInt, ↓x_isiIntB, ↓x_isiIntS, ↓x_isiBB, ↓x_isiBI, ↓x_isiStrI, ↓x_isiNonI, ↓x_isiNonS, ↓x_isiT, ↓x_isiL, ↓x_var0, ↓x_varS, ↓x_ex, ↓x_aug0, gat, pick, Option.some.injEq, D.bl.injEq, D.int.injEq, D.str.injEq, D.tup.injEq, D.lst.injEq, List.cons.injEq, and_true, true_and, List.set_cons_zero, List.set_cons_succ, List.length_cons, List.length_nil, List.filterMap_cons, List.filterMap_nil, List.getElem?_cons_zero, List.getElem?_cons_succ, Option.bind_some, ↓reduceIte, if_true, if_false, Bool.false_eq_true, Bool.true_eq_false, decide_eq_true_eq, beq_self_eq_true, Bool.not_true, Bool.not_false, Bool.not_eq_true', decide_eq_false_iff_not, exists_eq_left', exists_eq_left, exists_eq, ↓x_dnT, ↓x_dnF, ↓gAsgL, ↓gMMDef, ↓gDSet, ↓gSItems, ↓x_nilL, ↓x_nilE, List.isEmpty_nil, List.isEmpty_cons, Bool.true_xor, Bool.false_xor, ↓gOrT, ↓gAndT, ↓gTryAs, ↓gTryO, ↓gRaise, ↓gCallX, ↓gMethX, ↓gMakeX, ↓gFldX, ↓x_inXs, Bool.false_xor, Bool.true_xor, ↓x_fmtRS, ↓x_afRS, ↓x_afRI, ↓x_stO, ↓x_zipS, ↓x_zipE, ↓x_zipSL, ↓x_zipST, ↓x_zipEL, ↓x_augix, ↓x_isB, ↓x_notB, ↓gLR1, ↓gLR2, ↓gDIxT, ↓gDGt1T, ↓gDSetT, ↓gDNewT, ↓gDIx, ↓gDGt1, ↓gDGt2, ↓gDIn, ↓gDSetd, ↓gDPop1, ↓gDPop2, ↓gTIdx, ↓gLKeys, ↓gDisp, ↓x_enumK, ↓x_enumKL]
        split at h <;> rename_i hc
        · rw [if_pos hc.1, if_pos hc.2]; exact ⟨.inl (.inr (by decide)), h⟩
        · by_cases h1 : Mt.val (cutS x none (some 2)) < 24
          · rw [if_pos h1, if_neg (fun h2 => hc ⟨h1, h2⟩)]; exact h
          · rw [if_neg h1]; exact h
theorem r_time_in : ∀ ds S q, sp_time_in a ds S q → g_time_in K a { nx := fun _ S' => q .non S', rt := q } (startD N_time_in ds) S := by
  rintro ds S q ⟨x, rfl, hx, h⟩
  rw [st_time_in]
  simp only [g_time_in, ↓x_eqSS, ↓x_neSS, ↓gKGet, ↓x_kget, ↓x_ixE, at_last, ↓x_appE, ↓x_tyE, ↓x_itE, ↓x_lenE, ↓x_nePr, ↓x_eqPr, ↓x_neE, ↓x_lenr, ↓x_lenrI, ↓gRev, ↓x_par3, ↓x_par33, ↓x_fld, ↓x_fset, ↓x_mkF, ↓x_mk, ↓x_meth, ↓x_fldO, ↓x_fsetE, ↓x_fldE, ↓x_methO, ↓x_isiCO, ↓x_isiCN, ↓x_isiCT, ↓x_isiCLi, ↓x_isiCS, ↓x_isiCI, ↓x_own, ↓x_eqT2, ↓x_neT2, ↓x_neL4, ↓x_eqLN, ↓x_neNil, ↓x_gset, ↓x_lc, ↓x_for, ↓x_it, ↓x_rn1, ↓x_rn2, ↓x_enu, ↓x_zip, ↓x_itS, ↓x_itL, ↓x_itK, ↓x_itT, ↓x_rn1I, ↓x_rn2I, ↓x_enuL, ↓x_enuK, ↓x_zipL, ↓x_ixS0, ↓x_ixL, ↓x_ixT, ↓x_ixK, x_at0, x_at1, x_at2, x_at3, x_at4, ↓x_set00, ↓x_set01, ↓x_set02, ↓x_aug1, ↓x_aug2, ↓x_aug3, ↓x_aug4, ↓x_aug5, ↓x_aug6, ↓x_aug7, ↓x_aug8, ↓x_aug9, ↓x_aug10, ↓x_aug11, ↓x_aug12, ↓x_aug13, ↓x_aug14, ↓x_aug15, ↓x_aug16, ↓x_aug17, ↓x_aug18, ↓x_aug19, ↓x_aug20, ↓x_aug21, ↓x_aug22, ↓x_aug23, Int.reduceToNat, Int.reducePow, ↓gSeq, ↓gIfS, ↓gSet, ↓gAsg, ↓x_par, ↓x_par2, ↓gRet, ↓gRetN, ↓gNext, ↓gDrop, ↓gBreak, ↓gCont, ↓gDead, ↓gCB, ↓gB2, ↓gU, ↓gC, ↓Dl.gCons, ↓Dl.gNil, ↓Dl.gTup, ↓Dl.gLst, ↓gTest, ↓gOrB, ↓gAndB, ↓gNotB, ↓gAndV, ↓gOrV, ↓gNotV, ↓gIf, ↓gIx, ↓gSl, ↓gPart, ↓gNoP, ↓gMt, ↓gCall, ↓gArgs, ↓gIsN, ↓gNotN, ↓gChain, ↓x_fmtS, ↓x_afS, ↓x_afI, ↓x_js0, ↓x_jsc, ↓gJoined, ↓gYes, ↓x_bnm, ↓x_btp, ↓x_bn, ↓x_bc, ↓x_nnN, ↓x_nnI, ↓x_nnS, ↓x_nnB, ↓x_nnT, ↓x_nnL, ↓x_nnO, ↓x_nnl, ↓x_tyS, ↓x_tyL, ↓x_i2, ↓aSub, ↓aFdiv, ↓aMod, ↓aPow, ↓aShr, ↓aLt, ↓aLe, ↓aGt, ↓aGe, ↓x_addI, ↓x_addS, ↓x_mulI, ↓x_iaddS, ↓x_iaddI, ↓x_neg, ↓x_eqI, ↓x_neI, ↓x_eqS, ↓x_neS, ↓x_eqB, ↓x_neB, ↓x_eqNI, ↓x_neNI, ↓x_lenS, ↓x_lenL_l, ↓x_lenL_k, ↓x_lenL_t, ↓x_str, ↓x_intI, ↓x_intB, ↓x_divmod, ↓x_max2, ↓x_min2, ↓x_ixS, ↓x_slS, ↓x_slT, ↓x_slL_l, ↓x_slL_k, ↓x_inS, ↓x_newT, ↓x_newF, ↓x_si, ↓x_s1, ↓x_s0, ↓x_rpart, ↓x_part, ↓x_a1, ↓x_a2, ↓x_isiStr, ↓x_isiInt, ↓x_isiIntB, ↓x_isiIntS, ↓x_isiBB, ↓x_isiBI, ↓x_isiStrI, ↓x_isiNonI, ↓x_isiNonS, ↓x_isiT, ↓x_isiL, ↓x_var0, ↓x_varS, ↓x_ex, ↓x_aug0, gat, pick, Option.some.injEq, D.bl.injEq, D.int.injEq, D.str.injEq, D.tup.injEq, D.lst.injEq, List.cons.injEq, and_true, true_and, List.set_cons_zero, List.set_cons_succ, List.length_cons, List.length_nil, List.filterMap_cons, List.filterMap_nil, List.getElem?_cons_zero, List.getElem?_cons_succ, Option.bind_some, ↓reduceIte, if_true, if_false, Bool.false_eq_true, Bool.true_eq_false, decide_eq_true_eq, beq_self_eq_true, Bool.not_true, Bool.not_false, Bool.not_eq_true', decide_eq_false_iff_not, exists_eq_left', exists_eq_left, exists_eq, ↓x_dnT, ↓x_dnF, ↓gAsgL, ↓gMMDef, ↓gDSet, ↓gSItems, ↓x_nilL, ↓x_nilE, List.isEmpty_nil, List.isEmpty_cons, Bool.true_xor, Bool.false_xor, ↓gOrT, ↓gAndT, ↓gTryAs, ↓gTryO, ↓gRaise, ↓gCallX, ↓gMethX, ↓gMakeX, ↓gFldX, ↓x_inXs, Bool.false_xor, Bool.true_xor, ↓x_fmtRS, ↓x_afRS, ↓x_afRI, ↓x_stO, ↓x_zipS, ↓x_zipE, ↓x_zipSL, ↓x_zipST, ↓x_zipEL, ↓x_augix, ↓x_isB, ↓x_notB, ↓gLR1, ↓gLR2, ↓gDIxT, ↓gDGt1T, ↓gDSetT, ↓gDNewT, ↓gDIx, ↓gDGt1, ↓gDGt2, ↓gDIn, ↓gDSetd, ↓gDPop1, ↓gDPop2, ↓gTIdx, ↓gLKeys, ↓gDisp, ↓x_enumK, ↓x_enumKL]
  rw [show (Str.ofString "") = Str.empty from rfl]
  obtain ⟨s1, s2, s3, s4, s5⟩ := Mt.rp_sub (x := x) (y := Str.ofString "+")
  unfold Mt.timeI Mt.plus at h
  refine ⟨by decide +kernel, hx.1, ?_, by decide +kernel, ?_⟩
  · rcases s3 with s3 | s3 <;> rw [s3] <;> decide +kernel
  by_cases he : (rpartS x (Str.ofString "+")).2.1 = Str.empty
  · rw [if_pos he] at h
    rw [if_pos he]
    exact ⟨x, rfl, hx, h⟩
  · rw [if_neg he] at h
    rw [if_neg he]
    refine ⟨_, rfl, ⟨Nat.le_trans s4 hx.1, Mt.ok_sub hx.2 s1⟩, _, _, _, rfl, ⟨Nat.le_trans s5 hx.1, Mt.ok_sub hx.2 s2⟩, ?_⟩
    cases h1 : Mt.clockI (rpartS x (Str.ofString "+")).1 with
    | none =>
      rw [h1] at h
      simp only [Mt.optD, ↓x_eqSS, ↓x_neSS, ↓gKGet, ↓x_kget, ↓x_ixE, at_last, ↓x_appE, ↓x_tyE, ↓x_itE, ↓x_lenE, ↓x_nePr, ↓x_eqPr, ↓x_neE, ↓x_lenr, ↓x_lenrI, ↓gRev, ↓x_par3, ↓x_par33, ↓x_fld, ↓x_fset, ↓x_mkF, ↓x_mk, ↓x_meth, ↓x_fldO, ↓x_fsetE, ↓x_fldE, ↓x_methO, ↓x_isiCO, ↓x_isiCN, ↓x_isiCT, ↓x_isiCLi, ↓x_isiCS, ↓x_isiCI, ↓x_own, ↓x_eqT2, ↓x_neT2, ↓x_neL4, ↓x_eqLN, ↓x_neNil, ↓x_gset, ↓x_lc, ↓x_for, ↓x_it, ↓x_rn1, ↓x_rn2, ↓x_enu, ↓x_zip, ↓x_itS, ↓x_itL, ↓x_itK, ↓x_itT, ↓x_rn1I, ↓x_rn2I, ↓x_enuL, ↓x_enuK, ↓x_zipL, ↓x_ixS0, ↓x_ixL, ↓x_ixT, ↓x_ixK, x_at0, x_at1, x_at2, x_at3, x_at4, ↓x_set00, ↓x_set01, ↓x_set02, ↓x_aug1, ↓x_aug2, ↓x_aug3, ↓x_aug4, ↓x_aug5, ↓x_aug6, ↓x_aug7, ↓x_aug8, ↓x_aug9, ↓x_aug10, ↓x_aug11, ↓x_aug12, ↓x_aug13, ↓x_aug14, ↓x_aug15, ↓x_aug16, ↓x_aug17, ↓x_aug18, ↓x_aug19, ↓x_aug20, ↓x_aug21, ↓x_aug22, ↓x_aug23, Int.reduceToNat, Int.reducePow, ↓gSeq, ↓gIfS, ↓gSet, ↓gAsg, ↓x_par, ↓x_par2, ↓gRet, ↓gRetN, ↓gNext, ↓gDrop, ↓gBreak, ↓gCont, ↓gDead, ↓gCB, ↓gB2, ↓gU, ↓gC, ↓Dl.gCons, ↓Dl.gNil, ↓Dl.gTup, ↓Dl.gLst, ↓gTest, ↓gOrB, ↓gAndB, ↓gNotB, ↓gAndV, ↓gOrV, ↓gNotV, ↓gIf, ↓gIx, ↓gSl, ↓gPart, ↓gNoP, ↓gMt, ↓gCall, ↓gArgs, ↓gIsN, ↓gNotN, ↓gChain, ↓x_fmtS, ↓x_afS, ↓x_afI, ↓x_js0, ↓x_jsc, ↓gJoined, ↓gYes, ↓x_bnm, ↓x_btp, ↓x_bn, ↓x_bc, ↓x_nnN, ↓x_nnI, ↓x_nnS, ↓x_nnB, ↓x_nnT, ↓x_nnL, ↓x_nnO, ↓x_nnl, ↓x_tyS, ↓x_tyL, ↓x_i2, ↓aSub, ↓aFdiv, ↓aMod, ↓aPow, ↓aShr, ↓aLt, ↓aLe, ↓aGt, ↓aGe, ↓x_addI, ↓x_addS, ↓x_mulI, ↓x_iaddS, ↓x_iaddI, ↓x_neg, ↓x_eqI, ↓x_neI, ↓x_eqS, ↓x_neS, ↓x_eqB, ↓x_neB, ↓x_eqNI, ↓x_neNI, ↓x_lenS, ↓x_lenL_l, ↓x_lenL_k, ↓x_lenL_t, ↓x_str, ↓x_intI, ↓x_intB, ↓x_divmod, ↓x_max2, ↓x_min2, ↓x_ixS, ↓x_slS, ↓x_slT, ↓x_slL_l, ↓x_slL_k, ↓x_inS, ↓x_newT, ↓x_newF, ↓x_si, ↓x_s1, ↓x_s0, ↓x_rpart, ↓x_part, ↓x_a1, ↓x_a2, ↓x_isiStr, ↓x_isiInt, ↓x_isiIntB, ↓x_isiIntS, ↓x_isiBB, ↓x_isiBI, ↓x_isiStrI, ↓x_isiNonI, ↓x_isiNonS, ↓x_isiT, ↓x_isiL, ↓x_var0, ↓x_varS, ↓x_ex, ↓x_aug0, gat, pick, Option.some.injEq, D.bl.injEq, D.int.injEq, D.str.injEq, D.tup.injEq, D.lst.injEq, List.cons.injEq, and_true, true_and, List.set_cons_zero, List.set_cons_succ, List.length_cons, List.length_nil, List.filterMap_cons, List.filterMap_nil, List.getElem?_cons_zero, List.getElem?_cons_succ, Option.bind_some, ↓reduceIte, if_true, if_false, Bool.false_eq_true, Bool.true_eq_false, decide_eq_true_eq, beq_self_eq_true, Bool.not_true, Bool.not_false, Bool.not_eq_true', decide_eq_false_iff_not, exists_eq_left', exists_eq_left, exists_eq, ↓x_dnT, ↓x_dnF, ↓gAsgL, ↓gMMDef, ↓gDSet, ↓gSItems, ↓x_nilL, ↓x_nilE, List.isEmpty_nil, List.isEmpty_cons, Bool.true_xor, Bool.false_xor, ↓gOrT, ↓gAndT, ↓gTryAs, ↓gTryO, ↓gRaise, ↓gCallX, ↓gMethX, ↓gMakeX, ↓gFldX, ↓x_inXs, Bool.false_xor, Bool.true_xor, ↓x_fmtRS, ↓x_afRS, ↓x_afRI, ↓x_stO, ↓x_zipS, ↓x_zipE, ↓x_zipSL, ↓x_zipST, ↓x_zipEL, ↓x_augix, ↓x_isB, ↓x_notB, ↓gLR1, ↓gLR2, ↓gDIxT, ↓gDGt1T, ↓gDSetT, ↓gDNewT, ↓gDIx, ↓gDGt1, ↓gDGt2, ↓gDIn, ↓gDSetd, ↓gDPop1, ↓gDPop2, ↓gTIdx, ↓gLKeys, ↓gDisp, ↓x_enumK, ↓x_enumKL]
      exact h
    | some c =>
      cases h2 : Mt.numI (rpartS x (Str.ofString "+")).2.2 1 999999999 with
      | none =>
        rw [h1, h2] at h
        simp only [Mt.optD, ↓x_eqSS, ↓x_neSS, ↓gKGet, ↓x_kget, ↓x_ixE, at_last, ↓x_appE, ↓x_tyE, ↓x_itE, ↓x_lenE, ↓x_nePr, ↓x_eqPr, ↓x_neE, ↓x_lenr, ↓x_lenrI, ↓gRev, ↓x_par3, ↓x_par33, ↓x_fld, ↓x_fset, ↓x_mkF, ↓x_mk, ↓x_meth, ↓x_fldO, ↓x_fsetE, ↓x_fldE, ↓x_methO, ↓x_isiCO, ↓x_isiCN, ↓x_isiCT, ↓x_isiCLi, ↓x_isiCS, ↓x_isiCI, ↓x_own, ↓x_eqT2, ↓x_neT2, ↓x_neL4, ↓x_eqLN, ↓x_neNil, ↓x_gset, ↓x_lc, ↓x_for, ↓x_it, ↓x_rn1, ↓x_rn2, ↓x_enu, ↓x_zip, ↓x_itS, ↓x_itL, ↓x_itK, ↓x_itT, ↓x_rn1I, ↓x_rn2I, ↓x_enuL, ↓x_enuK, ↓x_zipL, ↓x_ixS0, ↓x_ixL, ↓x_ixT, ↓x_ixK, x_at0, x_at1, x_at2, x_at3, x_at4, ↓x_set00, ↓x_set01, ↓x_set02, ↓x_aug1, ↓x_aug2, ↓x_aug3, ↓x_aug4, ↓x_aug5, ↓x_aug6, ↓x_aug7, ↓x_aug8, ↓x_aug9, ↓x_aug10, ↓x_aug11, ↓x_aug12, ↓x_aug13, ↓x_aug14, ↓x_aug15, ↓x_aug16, ↓x_aug17, ↓x_aug18, ↓x_aug19, ↓x_aug20, ↓x_aug21, ↓x_aug22, ↓x_aug23, Int.reduceToNat, Int.reducePow, ↓gSeq, ↓gIfS, ↓gSet, ↓gAsg, ↓x_par, ↓x_par2, ↓gRet, ↓gRetN, ↓gNext, ↓gDrop, ↓gBreak, ↓gCont, ↓gDead, ↓gCB, ↓gB2, ↓gU, ↓gC, ↓Dl.gCons, ↓Dl.gNil, ↓Dl.gTup, ↓Dl.gLst, ↓gTest, ↓gOrB, ↓gAndB, ↓gNotB, ↓gAndV, ↓gOrV, ↓gNotV, ↓gIf, ↓gIx, ↓gSl, ↓gPart, ↓gNoP, ↓gMt, ↓gCall, ↓gArgs, ↓gIsN, ↓gNotN, ↓gChain, ↓x_fmtS, ↓x_afS, ↓x_afI, ↓x_js0, ↓x_jsc, ↓gJoined, ↓gYes, ↓x_bnm, ↓x_btp, ↓x_bn, ↓x_bc, ↓x_nnN, ↓x_nnI, ↓x_nnS, ↓x_nnB, ↓x_nnT, ↓x_nnL, ↓x_nnO, ↓x_nnl, ↓x_tyS, ↓x_tyL, ↓x_i2, ↓aSub, ↓aFdiv, ↓aMod, ↓aPow, ↓aShr, ↓aLt, ↓aLe, ↓aGt, ↓aGe, ↓x_addI, ↓x_addS, ↓x_mulI, ↓x_iaddS, ↓x_iaddI, ↓x_neg, ↓x_eqI, ↓x_neI, ↓x_eqS, ↓x_neS, ↓x_eqB, ↓x_neB, ↓x_eqNI, ↓x_neNI, ↓x_lenS, ↓x_lenL_l, ↓x_lenL_k, ↓x_lenL_t, ↓x_str, ↓x_intI, ↓x_intB, ↓x_divmod, ↓x_max2, ↓x_min2, ↓x_ixS, ↓x_slS, ↓x_slT, ↓x_slL_l, ↓x_slL_k, ↓x_inS, ↓x_newT, ↓x_newF, ↓x_si, ↓x_s1, ↓x_s0, ↓x_rpart, ↓x_part, ↓x_a1, ↓x_a2, ↓x_isiStr, ↓x_isiInt, ↓x_isiIntB, ↓x_isiIntS, ↓x_isiBB, ↓x_isiBI, ↓x_isiStrI, ↓x_isiNonI, ↓x_isiNonS, ↓x_isiT, ↓x_isiL, ↓x_var0, ↓x_varS, ↓x_ex, ↓x_aug0, gat, pick, Option.some.injEq, D.bl.injEq, D.int.injEq, D.str.injEq, D.tup.injEq, D.lst.injEq, List.cons.injEq, and_true, true_and, List.set_cons_zero, List.set_cons_succ, List.length_cons, List.length_nil, List.filterMap_cons, List.filterMap_nil, List.getElem?_cons_zero, List.getElem?_cons_succ, Option.bind_some, ↓reduceIte, if_true, if_false, Bool.false_eq_true, Bool.true_eq_false, decide_eq_true_eq, beq_self_eq_true, Bool.not_true, Bool.not_false, Bool.not_eq_true', decide_eq_false_iff_not, exists_eq_left', exists_eq_left, exists_eq, ↓x_dnT, ↓x_dnF, ↓gAsgL, ↓gMMDef, ↓gDSet, ↓gSItems, ↓x_nilL, ↓x_nilE, List.isEmpty_nil, List.isEmpty_cons, Bool.true_xor, Bool.false_xor, ↓gOrT, ↓gAndT, ↓gTryAs, ↓gTryO, ↓gRaise, ↓gCallX, ↓gMethX, ↓gMakeX, ↓gFldX, ↓x_inXs, Bool.false_xor, Bool.true_xor, ↓x_fmtRS, ↓x_afRS, ↓x_afRI, ↓x_stO, ↓x_zipS, ↓x_zipE, ↓x_zipSL, ↓x_zipST, ↓x_zipEL, ↓x_augix, ↓x_isB, ↓x_notB, ↓gLR1, ↓gLR2, ↓gDIxT, ↓gDGt1T, ↓gDSetT, ↓gDNewT, ↓gDIx, ↓gDGt1, ↓gDGt2, ↓gDIn, ↓gDSetd, ↓gDPop1, ↓gDPop2, ↓gTIdx, ↓gLKeys, ↓gDisp, ↓x_enumK, ↓x_enumKL]
        exact h
      | some d =>
        rw [h1, h2] at h
        simp only [Mt.optD, ↓x_eqSS, ↓x_neSS, ↓gKGet, ↓x_kget, ↓x_ixE, at_last, ↓x_appE, ↓x_tyE, ↓x_itE, ↓x_lenE, ↓x_nePr, ↓x_eqPr, ↓x_neE, ↓x_lenr, ↓x_lenrI, ↓gRev, ↓x_par3, ↓x_par33, ↓x_fld, ↓x_fset, ↓x_mkF, ↓x_mk, ↓x_meth, ↓x_fldO, ↓x_fsetE, ↓x_fldE, ↓x_methO, ↓x_isiCO, ↓x_isiCN, ↓x_isiCT, ↓x_isiCLi, ↓x_isiCS, ↓x_isiCI, ↓x_own, ↓x_eqT2, ↓x_neT2, ↓x_neL4, ↓x_eqLN, ↓x_neNil, ↓x_gset, ↓x_lc, ↓x_for, ↓x_it, ↓x_rn1, ↓x_rn2, ↓x_enu, ↓x_zip, ↓x_itS, ↓x_itL, ↓x_itK, ↓x_itT, ↓x_rn1I, ↓x_rn2I, ↓x_enuL, ↓x_enuK, ↓x_zipL, ↓x_ixS0, ↓x_ixL, ↓x_ixT, ↓x_ixK, x_at0, x_at1, x_at2, x_at3, x_at4, ↓x_set00, ↓x_set01, ↓x_set02, ↓x_aug1, ↓x_aug2, ↓x_aug3, ↓x_aug4, ↓x_aug5, ↓x_aug6, ↓x_aug7, ↓x_aug8, ↓x_aug9, ↓x_aug10, ↓x_aug11, ↓x_aug12, ↓x_aug13, ↓x_aug14, ↓x_aug15, ↓x_aug16, ↓x_aug17, ↓x_aug18, ↓x_aug19, ↓x_aug20, ↓x_aug21, ↓x_aug22, ↓x_aug23, Int.reduceToNat, Int.reducePow, ↓gSeq, ↓gIfS, ↓gSet, ↓gAsg, ↓x_par, ↓x_par2, ↓gRet, ↓gRetN, ↓gNext, ↓gDrop, ↓gBreak, ↓gCont, ↓gDead, ↓gCB, ↓gB2, ↓gU, ↓gC, ↓Dl.gCons, ↓Dl.gNil, ↓Dl.gTup, ↓Dl.gLst, ↓gTest, ↓gOrB, ↓gAndB, ↓gNotB, ↓gAndV, ↓gOrV, ↓gNotV, ↓gIf, ↓gIx, ↓gSl, ↓gPart, ↓gNoP, ↓gMt, ↓gCall, ↓gArgs, ↓gIsN, ↓gNotN, ↓gChain, ↓x_fmtS, ↓x_afS, ↓x_afI, ↓x_js0, ↓x_jsc, ↓gJoined, ↓gYes, ↓x_bnm, ↓x_btp, ↓x_bn, ↓x_bc, ↓x_nnN, ↓x_nnI, ↓x_nnS, ↓x_nnB, ↓x_nnT, ↓x_nnL, ↓x_nnO, ↓x_nnl, ↓x_tyS, ↓x_tyL, ↓x_i2, ↓aSub, ↓aFdiv, ↓aMod, ↓aPow, ↓aShr, ↓aLt, ↓aLe, ↓aGt, ↓aGe, ↓x_addI, ↓x_addS, ↓x_mulI, ↓x_iaddS, ↓x_iaddI, ↓x_neg, ↓x_eqI, ↓x_neI, ↓x_eqS, ↓x_neS, ↓x_eqB, ↓x_neB, ↓x_eqNI, ↓x_neNI, ↓x_lenS, ↓x_lenL_l, ↓x_lenL_k, ↓x_lenL_t, ↓x_str, ↓x_intI, ↓x_intB, ↓x_divmod, ↓x_max2, ↓x_min2, ↓x_ixS, ↓x_slS, ↓x_slT, ↓x_slL_l, ↓x_slL_k, ↓x_inS, ↓x_newT, ↓x_newF, ↓x_si, ↓x_s1, ↓x_s0, ↓x_rpart, ↓x_part, ↓x_a1, ↓x_a2, ↓x_isiStr, ↓x_isiInt, ↓x_isiIntB, ↓x_isiIntS, ↓x_isiBB, ↓x_isiBI, ↓x_isiStrI, ↓x_isiNonI, ↓x_isiNonS, ↓x_isiT, ↓x_isiL, ↓x_var0, ↓x_varS, ↓x_ex, ↓x_aug0, gat, pick, Option.some.injEq, D.bl.injEq, D.int.injEq, D.str.injEq, D.tup.injEq, D.lst.injEq, List.cons.injEq, and_true, true_and, List.set_cons_zero, List.set_cons_succ, List.length_cons, List.length_nil, List.filterMap_cons, List.filterMap_nil, List.getElem?_cons_zero, List.getElem?_cons_succ, Option.bind_some, ↓reduceIte, if_true, if_false, Bool.false_eq_true, Bool.true_eq_false, decide_eq_true_eq, beq_self_eq_true, Bool.not_true, Bool.not_false, Bool.not_eq_true', decide_eq_false_iff_not, exists_eq_left', exists_eq_left, exists_eq, ↓x_dnT, ↓x_dnF, ↓gAsgL, ↓gMMDef, ↓gDSet, ↓gSItems, ↓x_nilL, ↓x_nilE, List.isEmpty_nil, List.isEmpty_cons, Bool.true_xor, Bool.false_xor, ↓gOrT, ↓gAndT, ↓gTryAs, ↓gTryO, ↓gRaise, ↓gCallX, ↓gMethX, ↓gMakeX, ↓gFldX, ↓x_inXs, Bool.false_xor, Bool.true_xor, ↓x_fmtRS, ↓x_afRS, ↓x_afRI, ↓x_stO, ↓x_zipS, ↓x_zipE, ↓x_zipSL, ↓x_zipST, ↓x_zipEL, ↓x_augix, ↓x_isB, ↓x_notB, ↓gLR1, ↓gLR2, ↓gDIxT, ↓gDGt1T, ↓gDSetT, ↓gDNewT, ↓gDIx, ↓gDGt1, ↓gDGt2, ↓gDIn, ↓gDSetd, ↓gDPop1, ↓gDPop2, ↓gTIdx, ↓gLKeys, ↓gDisp, ↓x_enumK, ↓x_enumKL]
        refine ⟨.inl (.inr (by decide)), ?_⟩
        dsimp only at h
        split at h <;> rename_i hc
        · rw [if_pos hc]; exact h
        · rw [if_neg hc]; exact h
theorem dig1 : ∀ d, d < 10 → showI ((d : Nat) : Int) = (⟨#[48 + d]⟩ : Str) := by decide +kernel
theorem r__law_time : ∀ ds S q, sp__law_time a ds S q → g__law_time K a { nx := fun _ S' => q .non S', rt := q } (startD N__law_time ds) S := by
  rintro ds S q ⟨m, rfl, hm, h⟩
  rw [st__law_time]
  simp only [g__law_time, ↓x_eqSS, ↓x_neSS, ↓gKGet, ↓x_kget, ↓x_ixE, at_last, ↓x_appE, ↓x_tyE, ↓x_itE, ↓x_lenE, ↓x_nePr, ↓x_eqPr, ↓x_neE, ↓x_lenr, ↓x_lenrI, ↓gRev, ↓x_par3, ↓x_par33, ↓x_fld, ↓x_fset, ↓x_mkF, ↓x_mk, ↓x_meth, ↓x_fldO, ↓x_fsetE, ↓x_fldE, ↓x_methO, ↓x_isiCO, ↓x_isiCN, ↓x_isiCT, ↓x_isiCLi, ↓x_isiCS, ↓x_isiCI, ↓x_own, ↓x_eqT2, ↓x_neT2, ↓x_neL4, ↓x_eqLN, ↓x_neNil, ↓x_gset, ↓x_lc, ↓x_for, ↓x_it, ↓x_rn1, ↓x_rn2, ↓x_enu, ↓x_zip, ↓x_itS, ↓x_itL, ↓x_itK, ↓x_itT, ↓x_rn1I, ↓x_rn2I, ↓x_enuL, ↓x_enuK, ↓x_zipL, ↓x_ixS0, ↓x_ixL, ↓x_ixT, ↓x_ixK, x_at0, x_at1, x_at2, x_at3, x_at4, ↓x_set00, ↓x_set01, ↓x_set02, ↓x_aug1, ↓x_aug2, ↓x_aug3, ↓x_aug4, ↓x_aug5, ↓x_aug6, ↓x_aug7, ↓x_aug8, ↓x_aug9, ↓x_aug10, ↓x_aug11, ↓x_aug12, ↓x_aug13, ↓x_aug14, ↓x_aug15, ↓x_aug16, ↓x_aug17, ↓x_aug18, ↓x_aug19, ↓x_aug20, ↓x_aug21, ↓x_aug22, ↓x_aug23, Int.reduceToNat, Int.reducePow, ↓gSeq, ↓gIfS, ↓gSet, ↓gAsg, ↓x_par, ↓x_par2, ↓gRet, ↓gRetN, ↓gNext, ↓gDrop, ↓gBreak, ↓gCont, ↓gDead, ↓gCB, ↓gB2, ↓gU, ↓gC, ↓Dl.gCons, ↓Dl.gNil, ↓Dl.gTup, ↓Dl.gLst, ↓gTest, ↓gOrB, ↓gAndB, ↓gNotB, ↓gAndV, ↓gOrV, ↓gNotV, ↓gIf, ↓gIx, ↓gSl, ↓gPart, ↓gNoP, ↓gMt, ↓gCall, ↓gArgs, ↓gIsN, ↓gNotN, ↓gChain, ↓x_fmtS, ↓x_afS, ↓x_afI, ↓x_js0, ↓x_jsc, ↓gJoined, ↓gYes, ↓x_bnm, ↓x_btp, ↓x_bn, ↓x_bc, ↓x_nnN, ↓x_nnI, ↓x_nnS, ↓x_nnB, ↓x_nnT, ↓x_nnL, ↓x_nnO, ↓x_nnl, ↓x_tyS, ↓x_tyL, ↓x_i2, ↓aSub, ↓aFdiv, ↓aMod, ↓aPow, ↓aShr, ↓aLt, ↓aLe, ↓aGt, ↓aGe, ↓x_addI, ↓x_addS, ↓x_mulI, ↓x_iaddS, ↓x_iaddI, ↓x_neg, ↓x_eqI, ↓x_neI, ↓x_eqS, ↓x_neS, ↓x_eqB, ↓x_neB, ↓x_eqNI, ↓x_neNI, ↓x_lenS, ↓x_lenL_l, ↓x_lenL_k, ↓x_lenL_t, ↓x_str, ↓x_intI, ↓x_intB, ↓x_divmod, ↓x_max2, ↓x_min2, ↓x_ixS, ↓x_slS, ↓x_slT, ↓x_slL_l, ↓x_slL_k, ↓x_inS, ↓x_newT, ↓x_newF, ↓x_si, ↓x_s1, ↓x_s0, ↓x_rpart, ↓x_part, ↓x_a1, ↓x_a2, ↓x_isiStr, ↓x_isiInt, ↓x_isiIntB, ↓x_isiIntS, ↓x_isiBB, ↓x_isiBI, ↓x_isiStrI, ↓x_isiNonI, ↓x_isiNonS, ↓x_isiT, ↓x_isiL, ↓x_var0, ↓x_varS, ↓x_ex, ↓x_aug0, gat, pick, Option.some.injEq, D.bl.injEq, D.int.injEq, D.str.injEq, D.tup.injEq, D.lst.injEq, List.cons.injEq, and_true, true_and, List.set_cons_zero, List.set_cons_succ, List.length_cons, List.length_nil, List.filterMap_cons, List.filterMap_nil, List.getElem?_cons_zero, List.getElem?_cons_succ, Option.bind_some, ↓reduceIte, if_true, if_false, Bool.false_eq_true, Bool.true_eq_false, decide_eq_true_eq, beq_self_eq_true, Bool.not_true, Bool.not_false, Bool.not_eq_true', decide_eq_false_iff_not, exists_eq_left', exists_eq_left, exists_eq, ↓x_dnT, ↓x_dnF, ↓gAsgL, ↓gMMDef, ↓gDSet, ↓gSItems, ↓x_nilL, ↓x_nilE, List.isEmpty_nil, List.isEmpty_cons, Bool.true_xor, Bool.false_xor, ↓gOrT, ↓gAndT, ↓gTryAs, ↓gTryO, ↓gRaise, ↓gCallX, ↓gMethX, ↓gMakeX, ↓gFldX, ↓x_inXs, Bool.false_xor, Bool.true_xor, ↓x_fmtRS, ↓x_afRS, ↓x_afRI, ↓x_stO, ↓x_zipS, ↓x_zipE, ↓x_zipSL, ↓x_zipST, ↓x_zipEL, ↓x_augix, ↓x_isB, ↓x_notB, ↓gLR1, ↓gLR2, ↓gDIxT, ↓gDGt1T, ↓gDSetT, ↓gDNewT, ↓gDIx, ↓gDGt1, ↓gDGt2, ↓gDIn, ↓gDSetd, ↓gDPop1, ↓gDPop2, ↓gTIdx, ↓gLKeys, ↓gDisp, ↓x_enumK, ↓x_enumKL]
  have z1 : ((m : Int) % 1440 / 600) = ((m % 1440 / 600 : Nat) : Int) := by omega
  have z2 : ((m : Int) % 1440 / 60 % 10) = ((m % 1440 / 60 % 10 : Nat) : Int) := by omega
  have z3 : ((m : Int) % 1440 % 60 / 10) = ((m % 60 / 10 : Nat) : Int) := by omega
  have z4 : ((m : Int) % 1440 % 10) = ((m % 60 % 10 : Nat) : Int) := by omega
  have z5 : ((m : Int) / 1440) = ((m / 1440 : Nat) : Int) := by omega
  have sm : ∀ d : Nat, d < 10 → ((d : Nat) : Int).natAbs.log2 < 1920 := fun d hd => Mt.log2_small (by omega) (by omega)
  rw [z1, z2, z3, z4, z5, dig1 _ (by omega), dig1 _ (by omega), dig1 _ (by omega), dig1 _ (by omega)]
  have e5 : (⟨#[48 + m % 1440 / 600]⟩ : Str) ++ ⟨#[48 + m % 1440 / 60 % 10]⟩ ++ Str.ofString ":" ++ ⟨#[48 + m % 60 / 10]⟩ ++ ⟨#[48 + m % 60 % 10]⟩ = Mt.hm (m % 1440 / 60) (m % 60) := by
    unfold Mt.hm
    rw [show m % 1440 / 600 = m % 1440 / 60 / 10 by omega]
    rfl
  have eT : Mt.T m = if m < 1440 then Mt.hm (m / 60) (m % 60) else Mt.hm (m % 1440 / 60) (m % 60) ++ (Mt.plus ++ showI (m / 1440 : Nat)) := rfl
  refine ⟨by decide, .inl ⟨by decide, by decide⟩, sm _ (by omega), .inl ⟨by decide, by decide⟩, by decide, sm _ (by omega), (by decide : 2 ≤ sizeLine), (by decide : 3 ≤ sizeLine), by decide, .inl ⟨by decide, by decide⟩, sm _ (by omega), (by decide : 4 ≤ sizeLine), by decide, sm _ (by omega), (by decide : 5 ≤ sizeLine), ?_⟩
  rw [e5]
  by_cases hd : m < 1440
  · rw [if_pos (show (m : Int) < 1440 by omega)]
    rw [eT, if_pos hd] at h
    rwa [show m % 1440 = m by omega]
  · rw [if_neg (show ¬ (m : Int) < 1440 by omega)]
    rw [eT, if_neg hd] at h
    have hs := Mt.show_len10 (i := ((m / 1440 : Nat) : Int)) (by omega) (by omega)
    refine ⟨Mt.l_hm1 _ _, .inl ⟨by decide, by decide⟩, Mt.log2_small (by omega) (by omega), ?_, ?_⟩
    · have e2 : (Mt.hm (m % 1440 / 60) (m % 60) ++ Str.ofString "+").length = 6 := rfl
      rw [e2]; exact Nat.le_trans (Nat.add_le_add_left hs 6) (by decide)
    · rw [Mt.app3]
      exact h
end
end Lw
namespace Lw
open PySem L2 Dl
section
variable {P : Program} {w : World} {K : PySem.W.Frag} {mg : Str → Option Value} {base : Heap} {a : Ad}
theorem rd_iff {C : Addr} {ks : List Str} {ds : List D} {f : Str} {d : D} {n : Nat} {S : Sto} {q : D → Sto → Prop} (hS : S[n]? = some (some (.obj C ks ds))) (hf : FldOk K C f) (hg : fget f ks ds = some d) : aFld K f (.loc n) S q ↔ q d S := by
  refine ⟨?_, fun h => ⟨C, ks, ds, d, by simp only [objOf, hS], hf, hg, h⟩⟩
  rintro ⟨C', ks', ds', d', h1, _, h3, h4⟩
  simp only [objOf, hS] at h1
  cases h1
  rw [hg] at h3
  cases h3
  exact h4
theorem nil_iff {n : Nat} {S : Sto} {ds : List D} {neg : Bool} {q : D → Sto → Prop} (h : S[n]? = some (some (.lst ds))) : aNil neg (.loc n) (.lst []) S q ↔ q (.bl (xor neg ds.isEmpty)) S := by
  have e0 : lstOf S (.loc n) = some ds := by simp only [lstOf, h]
  exact ⟨fun ⟨_, e, _, h⟩ => by rw [e0] at e; cases e; exact h, fun h => ⟨ds, e0, rfl, h⟩⟩
theorem map_emp {A B : Type} {f : A → B} {l : List A} : (l.map f).isEmpty = l.isEmpty := by cases l <;> rfl
section
variable {S : Sto} {n j : Nat} {b : Str} {R : List Rw} {q : D → Sto → Prop}
theorem bk_bank (T : Txt K mg a) (h : BkAt a S n j b R) : aFld K (Str.ofString "bank") (.loc n) S q ↔ q (.str b) S := rd_iff h.1 T.f_Book_bank fg_Book_bank
theorem bk_kept (T : Txt K mg a) (h : BkAt a S n j b R) : aFld K (Str.ofString "kept") (.loc n) S q ↔ q (.loc j) S := rd_iff h.1 T.f_Book_kept fg_Book_kept
theorem bk_nil (h : BkAt a S n j b R) {neg : Bool} : aNil neg (.loc j) (.lst []) S q ↔ q (.bl (xor neg R.isEmpty)) S := by rw [nil_iff h.2, map_emp]
theorem bk_seq (h : BkAt a S n j b R) : seqOf S (.loc j) = some (R.map rwD) := by simp only [seqOf, h.2]
theorem bk_len (h : BkAt a S n j b R) : aLen (.loc j) S q ↔ q (.int (R.length : Nat)) S := by rw [x_lenL (bk_seq h), List.length_map]
theorem bk_obj (h : BkAt a S n j b R) : objOf S (.loc n) = some (a.C_Book, (["bank", "kept"] : List Str), [D.str b, D.loc j]) := by simp only [objOf, h.1]
theorem bk_meth {m : Str} {c : Prop} (h : BkAt a S n j b R) (hm : (["bank", "kept"] : List Str).contains m = false) : aMeth a.C_Book m (.loc n) S c ↔ c := x_methL h.1 hm
end
theorem r_Book_init (T : Txt K mg a) : ∀ ds S q, sp_Book_init a ds S q → g_Book_init K a { nx := fun _ S' => q .non S', rt := q } (startD N_Book_init ds) S := by
  rintro ds S q ⟨S0, b, rfl, rfl, h⟩
  rw [st_Book_init]
  simp only [g_Book_init, pk_Book_bank, px_Book_bank, fg_Book_bank, T.f_Book_bank, pk_Book_kept, px_Book_kept, fg_Book_kept, T.f_Book_kept, ↓x_eqSS, ↓x_neSS, ↓gKGet, ↓x_kget, ↓x_ixE, at_last, ↓x_appE, ↓x_tyE, ↓x_itE, ↓x_lenE, ↓x_nePr, ↓x_eqPr, ↓x_neE, ↓x_lenr, ↓x_lenrI, ↓gRev, ↓x_par3, ↓x_par33, ↓x_fld, ↓x_fset, ↓x_mkF, ↓x_mk, ↓x_meth, ↓x_fldO, ↓x_fsetE, ↓x_fldE, ↓x_methO, ↓x_isiCO, ↓x_isiCN, ↓x_isiCT, ↓x_isiCLi, ↓x_isiCS, ↓x_isiCI, ↓x_own, ↓x_eqT2, ↓x_neT2, ↓x_neL4, ↓x_eqLN, ↓x_neNil, ↓x_gset, ↓x_lc, ↓x_for, ↓x_it, ↓x_rn1, ↓x_rn2, ↓x_enu, ↓x_zip, ↓x_itS, ↓x_itL, ↓x_itK, ↓x_itT, ↓x_rn1I, ↓x_rn2I, ↓x_enuL, ↓x_enuK, ↓x_zipL, ↓x_ixS0, ↓x_ixL, ↓x_ixT, ↓x_ixK, x_at0, x_at1, x_at2, x_at3, x_at4, ↓x_set00, ↓x_set01, ↓x_set02, ↓x_aug1, ↓x_aug2, ↓x_aug3, ↓x_aug4, ↓x_aug5, ↓x_aug6, ↓x_aug7, ↓x_aug8, ↓x_aug9, ↓x_aug10, ↓x_aug11, ↓x_aug12, ↓x_aug13, ↓x_aug14, ↓x_aug15, ↓x_aug16, ↓x_aug17, ↓x_aug18, ↓x_aug19, ↓x_aug20, ↓x_aug21, ↓x_aug22, ↓x_aug23, Int.reduceToNat, Int.reducePow, ↓gSeq, ↓gIfS, ↓gSet, ↓gAsg, ↓x_par, ↓x_par2, ↓gRet, ↓gRetN, ↓gNext, ↓gDrop, ↓gBreak, ↓gCont, ↓gDead, ↓gCB, ↓gB2, ↓gU, ↓gC, ↓Dl.gCons, ↓Dl.gNil, ↓Dl.gTup, ↓Dl.gLst, ↓gTest, ↓gOrB, ↓gAndB, ↓gNotB, ↓gAndV, ↓gOrV, ↓gNotV, ↓gIf, ↓gIx, ↓gSl, ↓gPart, ↓gNoP, ↓gMt, ↓gCall, ↓gArgs, ↓gIsN, ↓gNotN, ↓gChain, ↓x_fmtS, ↓x_afS, ↓x_afI, ↓x_js0, ↓x_jsc, ↓gJoined, ↓gYes, ↓x_bnm, ↓x_btp, ↓x_bn, ↓x_bc, ↓x_nnN, ↓x_nnI, ↓x_nnS, ↓x_nnB, ↓x_nnT, ↓x_nnL, ↓x_nnO, ↓x_nnl, ↓x_tyS, ↓x_tyL, ↓x_i2, ↓aSub, ↓aFdiv, ↓aMod, ↓aPow, ↓aShr, ↓aLt, ↓aLe, ↓aGt, ↓aGe, ↓x_addI, ↓x_addS, ↓x_mulI, ↓x_iaddS, ↓x_iaddI, ↓x_neg, ↓x_eqI, ↓x_neI, ↓x_eqS, ↓x_neS, ↓x_eqB, ↓x_neB, ↓x_eqNI, ↓x_neNI, ↓x_lenS, ↓x_lenL_l, ↓x_lenL_k, ↓x_lenL_t, ↓x_str, ↓x_intI, ↓x_intB, ↓x_divmod, ↓x_max2, ↓x_min2, ↓x_ixS, ↓x_slS, ↓x_slT, ↓x_slL_l, ↓x_slL_k, ↓x_inS, ↓x_newT, ↓x_newF, ↓x_si, ↓x_s1, ↓x_s0, ↓x_rpart, ↓x_part, ↓x_a1, ↓x_a2, ↓x_isiStr, ↓x_isiInt, ↓x_isiIntB, ↓x_isiIntS, ↓x_isiBB, ↓x_isiBI, ↓x_isiStrI, ↓x_isiNonI, ↓x_isiNonS, ↓x_isiT, ↓x_isiL, ↓x_var0, ↓x_varS, ↓x_ex, ↓x_aug0, gat, pick, Option.some.injEq, D.bl.injEq, D.int.injEq, D.str.injEq, D.tup.injEq, D.lst.injEq, List.cons.injEq, and_true, true_and, List.set_cons_zero, List.set_cons_succ, List.length_cons, List.length_nil, List.filterMap_cons, List.filterMap_nil, List.getElem?_cons_zero, List.getElem?_cons_succ, Option.bind_some, ↓reduceIte, if_true, if_false, Bool.false_eq_true, Bool.true_eq_false, decide_eq_true_eq, beq_self_eq_true, Bool.not_true, Bool.not_false, Bool.not_eq_true', decide_eq_false_iff_not, exists_eq_left', exists_eq_left, exists_eq, ↓x_dnT, ↓x_dnF, ↓gAsgL, ↓gMMDef, ↓gDSet, ↓gSItems, ↓x_nilL, ↓x_nilE, List.isEmpty_nil, List.isEmpty_cons, Bool.true_xor, Bool.false_xor, ↓gOrT, ↓gAndT, ↓gTryAs, ↓gTryO, ↓gRaise, ↓gCallX, ↓gMethX, ↓gMakeX, ↓gFldX, ↓x_inXs, Bool.false_xor, Bool.true_xor, ↓x_fmtRS, ↓x_afRS, ↓x_afRI, ↓x_stO, ↓x_zipS, ↓x_zipE, ↓x_zipSL, ↓x_zipST, ↓x_zipEL, ↓x_augix, ↓x_isB, ↓x_notB, ↓gLR1, ↓gLR2, ↓gDIxT, ↓gDGt1T, ↓gDSetT, ↓gDNewT, ↓gDIx, ↓gDGt1, ↓gDGt2, ↓gDIn, ↓gDSetd, ↓gDPop1, ↓gDPop2, ↓gTIdx, ↓gLKeys, ↓gDisp, ↓x_enumK, ↓x_enumKL]
  refine ⟨by decide, by decide, ?_⟩
  refine ⟨S0.length, a.C_Book, [Str.ofString "bank"], [D.str b], rfl, by rw [List.append_assoc]; simp [objOf], T.f_Book_kept, by decide, ?_⟩
  simp only [pk_Book_bank, px_Book_bank, fg_Book_bank, T.f_Book_bank, pk_Book_kept, px_Book_kept, fg_Book_kept, T.f_Book_kept, ↓x_eqSS, ↓x_neSS, ↓gKGet, ↓x_kget, ↓x_ixE, at_last, ↓x_appE, ↓x_tyE, ↓x_itE, ↓x_lenE, ↓x_nePr, ↓x_eqPr, ↓x_neE, ↓x_lenr, ↓x_lenrI, ↓gRev, ↓x_par3, ↓x_par33, ↓x_fld, ↓x_fset, ↓x_mkF, ↓x_mk, ↓x_meth, ↓x_fldO, ↓x_fsetE, ↓x_fldE, ↓x_methO, ↓x_isiCO, ↓x_isiCN, ↓x_isiCT, ↓x_isiCLi, ↓x_isiCS, ↓x_isiCI, ↓x_own, ↓x_eqT2, ↓x_neT2, ↓x_neL4, ↓x_eqLN, ↓x_neNil, ↓x_gset, ↓x_lc, ↓x_for, ↓x_it, ↓x_rn1, ↓x_rn2, ↓x_enu, ↓x_zip, ↓x_itS, ↓x_itL, ↓x_itK, ↓x_itT, ↓x_rn1I, ↓x_rn2I, ↓x_enuL, ↓x_enuK, ↓x_zipL, ↓x_ixS0, ↓x_ixL, ↓x_ixT, ↓x_ixK, x_at0, x_at1, x_at2, x_at3, x_at4, ↓x_set00, ↓x_set01, ↓x_set02, ↓x_aug1, ↓x_aug2, ↓x_aug3, ↓x_aug4, ↓x_aug5, ↓x_aug6, ↓x_aug7, ↓x_aug8, ↓x_aug9, ↓x_aug10, ↓x_aug11, ↓x_aug12, ↓x_aug13, ↓x_aug14, ↓x_aug15, ↓x_aug16, ↓x_aug17, ↓x_aug18, ↓x_aug19, ↓x_aug20, ↓x_aug21, ↓x_aug22, ↓x_aug23, Int.reduceToNat, Int.reducePow, ↓gSeq, ↓gIfS, ↓gSet, ↓gAsg, ↓x_par, ↓x_par2, ↓gRet, ↓gRetN, ↓gNext, ↓gDrop, ↓gBreak, ↓gCont, ↓gDead, ↓gCB, ↓gB2, ↓gU, ↓gC, ↓Dl.gCons, ↓Dl.gNil, ↓Dl.gTup, ↓Dl.gLst, ↓gTest, ↓gOrB, ↓gAndB, ↓gNotB, ↓gAndV, ↓gOrV, ↓gNotV, ↓gIf, ↓gIx, ↓gSl, ↓gPart, ↓gNoP, ↓gMt, ↓gCall, ↓gArgs, ↓gIsN, ↓gNotN, ↓gChain, ↓x_fmtS, ↓x_afS, ↓x_afI, ↓x_js0, ↓x_jsc, ↓gJoined, ↓gYes, ↓x_bnm, ↓x_btp, ↓x_bn, ↓x_bc, ↓x_nnN, ↓x_nnI, ↓x_nnS, ↓x_nnB, ↓x_nnT, ↓x_nnL, ↓x_nnO, ↓x_nnl, ↓x_tyS, ↓x_tyL, ↓x_i2, ↓aSub, ↓aFdiv, ↓aMod, ↓aPow, ↓aShr, ↓aLt, ↓aLe, ↓aGt, ↓aGe, ↓x_addI, ↓x_addS, ↓x_mulI, ↓x_iaddS, ↓x_iaddI, ↓x_neg, ↓x_eqI, ↓x_neI, ↓x_eqS, ↓x_neS, ↓x_eqB, ↓x_neB, ↓x_eqNI, ↓x_neNI, ↓x_lenS, ↓x_lenL_l, ↓x_lenL_k, ↓x_lenL_t, ↓x_str, ↓x_intI, ↓x_intB, ↓x_divmod, ↓x_max2, ↓x_min2, ↓x_ixS, ↓x_slS, ↓x_slT, ↓x_slL_l, ↓x_slL_k, ↓x_inS, ↓x_newT, ↓x_newF, ↓x_si, ↓x_s1, ↓x_s0, ↓x_rpart, ↓x_part, ↓x_a1, ↓x_a2, ↓x_isiStr, ↓x_isiInt, ↓x_isiIntB, ↓x_isiIntS, ↓x_isiBB, ↓x_isiBI, ↓x_isiStrI, ↓x_isiNonI, ↓x_isiNonS, ↓x_isiT, ↓x_isiL, ↓x_var0, ↓x_varS, ↓x_ex, ↓x_aug0, gat, pick, Option.some.injEq, D.bl.injEq, D.int.injEq, D.str.injEq, D.tup.injEq, D.lst.injEq, List.cons.injEq, and_true, true_and, List.set_cons_zero, List.set_cons_succ, List.length_cons, List.length_nil, List.filterMap_cons, List.filterMap_nil, List.getElem?_cons_zero, List.getElem?_cons_succ, Option.bind_some, ↓reduceIte, if_true, if_false, Bool.false_eq_true, Bool.true_eq_false, decide_eq_true_eq, beq_self_eq_true, Bool.not_true, Bool.not_false, Bool.not_eq_true', decide_eq_false_iff_not, exists_eq_left', exists_eq_left, exists_eq, ↓x_dnT, ↓x_dnF, ↓gAsgL, ↓gMMDef, ↓gDSet, ↓gSItems, ↓x_nilL, ↓x_nilE, List.isEmpty_nil, List.isEmpty_cons, Bool.true_xor, Bool.false_xor, ↓gOrT, ↓gAndT, ↓gTryAs, ↓gTryO, ↓gRaise, ↓gCallX, ↓gMethX, ↓gMakeX, ↓gFldX, ↓x_inXs, Bool.false_xor, Bool.true_xor, ↓x_fmtRS, ↓x_afRS, ↓x_afRI, ↓x_stO, ↓x_zipS, ↓x_zipE, ↓x_zipSL, ↓x_zipST, ↓x_zipEL, ↓x_augix, ↓x_isB, ↓x_notB, ↓gLR1, ↓gLR2, ↓gDIxT, ↓gDGt1T, ↓gDSetT, ↓gDNewT, ↓gDIx, ↓gDGt1, ↓gDGt2, ↓gDIn, ↓gDSetd, ↓gDPop1, ↓gDPop2, ↓gTIdx, ↓gLKeys, ↓gDisp, ↓x_enumK, ↓x_enumKL]
  have e : (S0 ++ [some (MO.obj a.C_Book [Str.ofString "bank"] [D.str b])] ++ [some (MO.lst [])]).set S0.length (some (MO.obj a.C_Book [Str.ofString "bank", Str.ofString "kept"] [D.str b, D.loc (S0 ++ [some (MO.obj a.C_Book [Str.ofString "bank"] [D.str b])]).length])) = S0 ++ bk2 a S0.length b [] := by
    rw [List.append_assoc, List.set_append_right _ _ (Nat.le_refl _)]
    simp [bk2]
  exact e ▸ h
theorem at_neg1 {R : List Rw} {r : Rw} (h : R.getLast? = some r) : atI (R.map rwD) (-1) = some (rwD r) := by
  rw [at_last, List.getLast?_map, h]
  rfl
theorem r_Book_write (T : Txt K mg a) : ∀ ds S q, sp_Book_write a ds S q → g_Book_write K a { nx := fun _ S' => q .non S', rt := q } (startD N_Book_write ds) S := by
  rintro ds S q ⟨n, j, b, R, m, w, x, rfl, hB, hl, hR, h⟩
  rw [st_Book_write]
  simp only [g_Book_write, ↓bk_kept T hB, ↓bk_nil hB, ↓x_eqSS, ↓x_neSS, ↓gKGet, ↓x_kget, ↓x_ixE, at_last, ↓x_appE, ↓x_tyE, ↓x_itE, ↓x_lenE, ↓x_nePr, ↓x_eqPr, ↓x_neE, ↓x_lenr, ↓x_lenrI, ↓gRev, ↓x_par3, ↓x_par33, ↓x_fld, ↓x_fset, ↓x_mkF, ↓x_mk, ↓x_meth, ↓x_fldO, ↓x_fsetE, ↓x_fldE, ↓x_methO, ↓x_isiCO, ↓x_isiCN, ↓x_isiCT, ↓x_isiCLi, ↓x_isiCS, ↓x_isiCI, ↓x_own, ↓x_eqT2, ↓x_neT2, ↓x_neL4, ↓x_eqLN, ↓x_neNil, ↓x_gset, ↓x_lc, ↓x_for, ↓x_it, ↓x_rn1, ↓x_rn2, ↓x_enu, ↓x_zip, ↓x_itS, ↓x_itL, ↓x_itK, ↓x_itT, ↓x_rn1I, ↓x_rn2I, ↓x_enuL, ↓x_enuK, ↓x_zipL, ↓x_ixS0, ↓x_ixL, ↓x_ixT, ↓x_ixK, x_at0, x_at1, x_at2, x_at3, x_at4, ↓x_set00, ↓x_set01, ↓x_set02, ↓x_aug1, ↓x_aug2, ↓x_aug3, ↓x_aug4, ↓x_aug5, ↓x_aug6, ↓x_aug7, ↓x_aug8, ↓x_aug9, ↓x_aug10, ↓x_aug11, ↓x_aug12, ↓x_aug13, ↓x_aug14, ↓x_aug15, ↓x_aug16, ↓x_aug17, ↓x_aug18, ↓x_aug19, ↓x_aug20, ↓x_aug21, ↓x_aug22, ↓x_aug23, Int.reduceToNat, Int.reducePow, ↓gSeq, ↓gIfS, ↓gSet, ↓gAsg, ↓x_par, ↓x_par2, ↓gRet, ↓gRetN, ↓gNext, ↓gDrop, ↓gBreak, ↓gCont, ↓gDead, ↓gCB, ↓gB2, ↓gU, ↓gC, ↓Dl.gCons, ↓Dl.gNil, ↓Dl.gTup, ↓Dl.gLst, ↓gTest, ↓gOrB, ↓gAndB, ↓gNotB, ↓gAndV, ↓gOrV, ↓gNotV, ↓gIf, ↓gIx, ↓gSl, ↓gPart, ↓gNoP, ↓gMt, ↓gCall, ↓gArgs, ↓gIsN, ↓gNotN, ↓gChain, ↓x_fmtS, ↓x_afS, ↓x_afI, ↓x_js0, ↓x_jsc, ↓gJoined, ↓gYes, ↓x_bnm, ↓x_btp, ↓x_bn, ↓x_bc, ↓x_nnN, ↓x_nnI, ↓x_nnS, ↓x_nnB, ↓x_nnT, ↓x_nnL, ↓x_nnO, ↓x_nnl, ↓x_tyS, ↓x_tyL, ↓x_i2, ↓aSub, ↓aFdiv, ↓aMod, ↓aPow, ↓aShr, ↓aLt, ↓aLe, ↓aGt, ↓aGe, ↓x_addI, ↓x_addS, ↓x_mulI, ↓x_iaddS, ↓x_iaddI, ↓x_neg, ↓x_eqI, ↓x_neI, ↓x_eqS, ↓x_neS, ↓x_eqB, ↓x_neB, ↓x_eqNI, ↓x_neNI, ↓x_lenS, ↓x_lenL_l, ↓x_lenL_k, ↓x_lenL_t, ↓x_str, ↓x_intI, ↓x_intB, ↓x_divmod, ↓x_max2, ↓x_min2, ↓x_ixS, ↓x_slS, ↓x_slT, ↓x_slL_l, ↓x_slL_k, ↓x_inS, ↓x_newT, ↓x_newF, ↓x_si, ↓x_s1, ↓x_s0, ↓x_rpart, ↓x_part, ↓x_a1, ↓x_a2, ↓x_isiStr, ↓x_isiInt, ↓x_isiIntB, ↓x_isiIntS, ↓x_isiBB, ↓x_isiBI, ↓x_isiStrI, ↓x_isiNonI, ↓x_isiNonS, ↓x_isiT, ↓x_isiL, ↓x_var0, ↓x_varS, ↓x_ex, ↓x_aug0, gat, pick, Option.some.injEq, D.bl.injEq, D.int.injEq, D.str.injEq, D.tup.injEq, D.lst.injEq, List.cons.injEq, and_true, true_and, List.set_cons_zero, List.set_cons_succ, List.length_cons, List.length_nil, List.filterMap_cons, List.filterMap_nil, List.getElem?_cons_zero, List.getElem?_cons_succ, Option.bind_some, ↓reduceIte, if_true, if_false, Bool.false_eq_true, Bool.true_eq_false, decide_eq_true_eq, beq_self_eq_true, Bool.not_true, Bool.not_false, Bool.not_eq_true', decide_eq_false_iff_not, exists_eq_left', exists_eq_left, exists_eq, ↓x_dnT, ↓x_dnF, ↓gAsgL, ↓gMMDef, ↓gDSet, ↓gSItems, ↓x_nilL, ↓x_nilE, List.isEmpty_nil, List.isEmpty_cons, Bool.true_xor, Bool.false_xor, ↓gOrT, ↓gAndT, ↓gTryAs, ↓gTryO, ↓gRaise, ↓gCallX, ↓gMethX, ↓gMakeX, ↓gFldX, ↓x_inXs, Bool.false_xor, Bool.true_xor, ↓x_fmtRS, ↓x_afRS, ↓x_afRI, ↓x_stO, ↓x_zipS, ↓x_zipE, ↓x_zipSL, ↓x_zipST, ↓x_zipEL, ↓x_augix, ↓x_isB, ↓x_notB, ↓gLR1, ↓gLR2, ↓gDIxT, ↓gDGt1T, ↓gDSetT, ↓gDNewT, ↓gDIx, ↓gDGt1, ↓gDGt2, ↓gDIn, ↓gDSetd, ↓gDPop1, ↓gDPop2, ↓gTIdx, ↓gLKeys, ↓gDisp, ↓x_enumK, ↓x_enumKL]
  have put : isTy "list" S (D.loc j) = true ∧ 0 + 1 + 1 + 1 ≤ sizeLine ∧ aAppend (D.loc j) [D.tup [D.int ↑m, D.str w, D.str x]] S fun x S1 => q D.non S1 := by
    refine ⟨x_tyO hB.2, by decide, (x_app hB.2).mpr ⟨by rw [List.length_map]; exact Nat.lt_of_le_of_lt hR (by decide), ?_⟩⟩
    have e : R.map rwD ++ [D.tup [D.int ↑m, D.str w, D.str x]] = (R ++ [Rw.mk m w x]).map rwD := by simp
    rw [e]
    exact h
  refine ⟨by decide, ?_⟩
  split
  · rename_i hne
    obtain ⟨r, hr⟩ : ∃ r, R.getLast? = some r := by
      cases R with
      | nil => cases hne
      | cons y l => exact ⟨(y :: l).getLast (by simp), List.getLast?_eq_some_getLast (by simp)⟩
    refine (x_ix (bk_seq hB) (e := rwD r) (at_neg1 hr)).mpr ?_
    simp only [↓x_eqSS, ↓x_neSS, ↓gKGet, ↓x_kget, ↓x_ixE, at_last, ↓x_appE, ↓x_tyE, ↓x_itE, ↓x_lenE, ↓x_nePr, ↓x_eqPr, ↓x_neE, ↓x_lenr, ↓x_lenrI, ↓gRev, ↓x_par3, ↓x_par33, ↓x_fld, ↓x_fset, ↓x_mkF, ↓x_mk, ↓x_meth, ↓x_fldO, ↓x_fsetE, ↓x_fldE, ↓x_methO, ↓x_isiCO, ↓x_isiCN, ↓x_isiCT, ↓x_isiCLi, ↓x_isiCS, ↓x_isiCI, ↓x_own, ↓x_eqT2, ↓x_neT2, ↓x_neL4, ↓x_eqLN, ↓x_neNil, ↓x_gset, ↓x_lc, ↓x_for, ↓x_it, ↓x_rn1, ↓x_rn2, ↓x_enu, ↓x_zip, ↓x_itS, ↓x_itL, ↓x_itK, ↓x_itT, ↓x_rn1I, ↓x_rn2I, ↓x_enuL, ↓x_enuK, ↓x_zipL, ↓x_ixS0, ↓x_ixL, ↓x_ixT, ↓x_ixK, x_at0, x_at1, x_at2, x_at3, x_at4, ↓x_set00, ↓x_set01, ↓x_set02, ↓x_aug1, ↓x_aug2, ↓x_aug3, ↓x_aug4, ↓x_aug5, ↓x_aug6, ↓x_aug7, ↓x_aug8, ↓x_aug9, ↓x_aug10, ↓x_aug11, ↓x_aug12, ↓x_aug13, ↓x_aug14, ↓x_aug15, ↓x_aug16, ↓x_aug17, ↓x_aug18, ↓x_aug19, ↓x_aug20, ↓x_aug21, ↓x_aug22, ↓x_aug23, Int.reduceToNat, Int.reducePow, ↓gSeq, ↓gIfS, ↓gSet, ↓gAsg, ↓x_par, ↓x_par2, ↓gRet, ↓gRetN, ↓gNext, ↓gDrop, ↓gBreak, ↓gCont, ↓gDead, ↓gCB, ↓gB2, ↓gU, ↓gC, ↓Dl.gCons, ↓Dl.gNil, ↓Dl.gTup, ↓Dl.gLst, ↓gTest, ↓gOrB, ↓gAndB, ↓gNotB, ↓gAndV, ↓gOrV, ↓gNotV, ↓gIf, ↓gIx, ↓gSl, ↓gPart, ↓gNoP, ↓gMt, ↓gCall, ↓gArgs, ↓gIsN, ↓gNotN, ↓gChain, ↓x_fmtS, ↓x_afS, ↓x_afI, ↓x_js0, ↓x_jsc, ↓gJoined, ↓gYes, ↓x_bnm, ↓x_btp, ↓x_bn, ↓x_bc, ↓x_nnN, ↓x_nnI, ↓x_nnS, ↓x_nnB, ↓x_nnT, ↓x_nnL, ↓x_nnO, ↓x_nnl, ↓x_tyS, ↓x_tyL, ↓x_i2, ↓aSub, ↓aFdiv, ↓aMod, ↓aPow, ↓aShr, ↓aLt, ↓aLe, ↓aGt, ↓aGe, ↓x_addI, ↓x_addS, ↓x_mulI, ↓x_iaddS, ↓x_iaddI, ↓x_neg, ↓x_eqI, ↓x_neI, ↓x_eqS, ↓x_neS, ↓x_eqB, ↓x_neB, ↓x_eqNI, ↓x_neNI, ↓x_lenS, ↓x_lenL_l, ↓x_lenL_k, ↓x_lenL_t, ↓x_str, ↓x_intI, ↓x_intB, ↓x_divmod, ↓x_max2, ↓x_min2, ↓x_ixS, ↓x_slS, ↓x_slT, ↓x_slL_l, ↓x_slL_k, ↓x_inS, ↓x_newT, ↓x_newF, ↓x_si, ↓x_s1, ↓x_s0, ↓x_rpart, ↓x_part, ↓x_a1, ↓x_a2, ↓x_isiStr, ↓x_isiInt, ↓x_isiIntB, ↓x_isiIntS, ↓x_isiBB, ↓x_isiBI, ↓x_isiStrI, ↓x_isiNonI, ↓x_isiNonS, ↓x_isiT, ↓x_isiL, ↓x_var0, ↓x_varS, ↓x_ex, ↓x_aug0, gat, pick, Option.some.injEq, D.bl.injEq, D.int.injEq, D.str.injEq, D.tup.injEq, D.lst.injEq, List.cons.injEq, and_true, true_and, List.set_cons_zero, List.set_cons_succ, List.length_cons, List.length_nil, List.filterMap_cons, List.filterMap_nil, List.getElem?_cons_zero, List.getElem?_cons_succ, Option.bind_some, ↓reduceIte, if_true, if_false, Bool.false_eq_true, Bool.true_eq_false, decide_eq_true_eq, beq_self_eq_true, Bool.not_true, Bool.not_false, Bool.not_eq_true', decide_eq_false_iff_not, exists_eq_left', exists_eq_left, exists_eq, ↓x_dnT, ↓x_dnF, ↓gAsgL, ↓gMMDef, ↓gDSet, ↓gSItems, ↓x_nilL, ↓x_nilE, List.isEmpty_nil, List.isEmpty_cons, Bool.true_xor, Bool.false_xor, ↓gOrT, ↓gAndT, ↓gTryAs, ↓gTryO, ↓gRaise, ↓gCallX, ↓gMethX, ↓gMakeX, ↓gFldX, ↓x_inXs, Bool.false_xor, Bool.true_xor, ↓x_fmtRS, ↓x_afRS, ↓x_afRI, ↓x_stO, ↓x_zipS, ↓x_zipE, ↓x_zipSL, ↓x_zipST, ↓x_zipEL, ↓x_augix, ↓x_isB, ↓x_notB, ↓gLR1, ↓gLR2, ↓gDIxT, ↓gDGt1T, ↓gDSetT, ↓gDNewT, ↓gDIx, ↓gDGt1, ↓gDGt2, ↓gDIn, ↓gDSetd, ↓gDPop1, ↓gDPop2, ↓gTIdx, ↓gLKeys, ↓gDisp, ↓x_enumK, ↓x_enumKL]
    rw [if_neg (by have := hl r hr; omega)]
    simp only [↓bk_kept T hB]
    exact put
  · exact put
theorem r_Book_rows (T : Txt K mg a) : ∀ ds S q, sp_Book_rows a ds S q → g_Book_rows K a { nx := fun _ S' => q .non S', rt := q } (startD N_Book_rows ds) S := by
  rintro ds S q ⟨n, j, b, R, rfl, hB, hR, h⟩
  rw [st_Book_rows]
  simp only [g_Book_rows, ↓bk_kept T hB, ↓x_eqSS, ↓x_neSS, ↓gKGet, ↓x_kget, ↓x_ixE, at_last, ↓x_appE, ↓x_tyE, ↓x_itE, ↓x_lenE, ↓x_nePr, ↓x_eqPr, ↓x_neE, ↓x_lenr, ↓x_lenrI, ↓gRev, ↓x_par3, ↓x_par33, ↓x_fld, ↓x_fset, ↓x_mkF, ↓x_mk, ↓x_meth, ↓x_fldO, ↓x_fsetE, ↓x_fldE, ↓x_methO, ↓x_isiCO, ↓x_isiCN, ↓x_isiCT, ↓x_isiCLi, ↓x_isiCS, ↓x_isiCI, ↓x_own, ↓x_eqT2, ↓x_neT2, ↓x_neL4, ↓x_eqLN, ↓x_neNil, ↓x_gset, ↓x_lc, ↓x_for, ↓x_it, ↓x_rn1, ↓x_rn2, ↓x_enu, ↓x_zip, ↓x_itS, ↓x_itL, ↓x_itK, ↓x_itT, ↓x_rn1I, ↓x_rn2I, ↓x_enuL, ↓x_enuK, ↓x_zipL, ↓x_ixS0, ↓x_ixL, ↓x_ixT, ↓x_ixK, x_at0, x_at1, x_at2, x_at3, x_at4, ↓x_set00, ↓x_set01, ↓x_set02, ↓x_aug1, ↓x_aug2, ↓x_aug3, ↓x_aug4, ↓x_aug5, ↓x_aug6, ↓x_aug7, ↓x_aug8, ↓x_aug9, ↓x_aug10, ↓x_aug11, ↓x_aug12, ↓x_aug13, ↓x_aug14, ↓x_aug15, ↓x_aug16, ↓x_aug17, ↓x_aug18, ↓x_aug19, ↓x_aug20, ↓x_aug21, ↓x_aug22, ↓x_aug23, Int.reduceToNat, Int.reducePow, ↓gSeq, ↓gIfS, ↓gSet, ↓gAsg, ↓x_par, ↓x_par2, ↓gRet, ↓gRetN, ↓gNext, ↓gDrop, ↓gBreak, ↓gCont, ↓gDead, ↓gCB, ↓gB2, ↓gU, ↓gC, ↓Dl.gCons, ↓Dl.gNil, ↓Dl.gTup, ↓Dl.gLst, ↓gTest, ↓gOrB, ↓gAndB, ↓gNotB, ↓gAndV, ↓gOrV, ↓gNotV, ↓gIf, ↓gIx, ↓gSl, ↓gPart, ↓gNoP, ↓gMt, ↓gCall, ↓gArgs, ↓gIsN, ↓gNotN, ↓gChain, ↓x_fmtS, ↓x_afS, ↓x_afI, ↓x_js0, ↓x_jsc, ↓gJoined, ↓gYes, ↓x_bnm, ↓x_btp, ↓x_bn, ↓x_bc, ↓x_nnN, ↓x_nnI, ↓x_nnS, ↓x_nnB, ↓x_nnT, ↓x_nnL, ↓x_nnO, ↓x_nnl, ↓x_tyS, ↓x_tyL, ↓x_i2, ↓aSub, ↓aFdiv, ↓aMod, ↓aPow, ↓aShr, ↓aLt, ↓aLe, ↓aGt, ↓aGe, ↓x_addI, ↓x_addS, ↓x_mulI, ↓x_iaddS, ↓x_iaddI, ↓x_neg, ↓x_eqI, ↓x_neI, ↓x_eqS, ↓x_neS, ↓x_eqB, ↓x_neB, ↓x_eqNI, ↓x_neNI, ↓x_lenS, ↓x_lenL_l, ↓x_lenL_k, ↓x_lenL_t, ↓x_str, ↓x_intI, ↓x_intB, ↓x_divmod, ↓x_max2, ↓x_min2, ↓x_ixS, ↓x_slS, ↓x_slT, ↓x_slL_l, ↓x_slL_k, ↓x_inS, ↓x_newT, ↓x_newF, ↓x_si, ↓x_s1, ↓x_s0, ↓x_rpart, ↓x_part, ↓x_a1, ↓x_a2, ↓x_isiStr, ↓x_isiInt, ↓x_isiIntB, ↓x_isiIntS, ↓x_isiBB, ↓x_isiBI, ↓x_isiStrI, ↓x_isiNonI, ↓x_isiNonS, ↓x_isiT, ↓x_isiL, ↓x_var0, ↓x_varS, ↓x_ex, ↓x_aug0, gat, pick, Option.some.injEq, D.bl.injEq, D.int.injEq, D.str.injEq, D.tup.injEq, D.lst.injEq, List.cons.injEq, and_true, true_and, List.set_cons_zero, List.set_cons_succ, List.length_cons, List.length_nil, List.filterMap_cons, List.filterMap_nil, List.getElem?_cons_zero, List.getElem?_cons_succ, Option.bind_some, ↓reduceIte, if_true, if_false, Bool.false_eq_true, Bool.true_eq_false, decide_eq_true_eq, beq_self_eq_true, Bool.not_true, Bool.not_false, Bool.not_eq_true', decide_eq_false_iff_not, exists_eq_left', exists_eq_left, exists_eq, ↓x_dnT, ↓x_dnF, ↓gAsgL, ↓gMMDef, ↓gDSet, ↓gSItems, ↓x_nilL, ↓x_nilE, List.isEmpty_nil, List.isEmpty_cons, Bool.true_xor, Bool.false_xor, ↓gOrT, ↓gAndT, ↓gTryAs, ↓gTryO, ↓gRaise, ↓gCallX, ↓gMethX, ↓gMakeX, ↓gFldX, ↓x_inXs, Bool.false_xor, Bool.true_xor, ↓x_fmtRS, ↓x_afRS, ↓x_afRI, ↓x_stO, ↓x_zipS, ↓x_zipE, ↓x_zipSL, ↓x_zipST, ↓x_zipEL, ↓x_augix, ↓x_isB, ↓x_notB, ↓gLR1, ↓gLR2, ↓gDIxT, ↓gDGt1T, ↓gDSetT, ↓gDNewT, ↓gDIx, ↓gDGt1, ↓gDGt2, ↓gDIn, ↓gDSetd, ↓gDPop1, ↓gDPop2, ↓gTIdx, ↓gLKeys, ↓gDisp, ↓x_enumK, ↓x_enumKL]
  exact ⟨_, bk_seq hB, h⟩
abbrev rwY (r : Rw) : PyData := .tuple [.int (r.m : Nat), .str r.w, .str r.n]
theorem wd_ok {x : Str} (h : WdOk x) : PyData.strOk x = true ∧ x.length ≤ 3 := by rcases h with rfl | rfl <;> decide +kernel
theorem ba_ok {x : Str} (h : BaOk x) : PyData.strOk x = true ∧ x.length ≤ 4 := by rcases h with rfl | rfl <;> decide +kernel
theorem rows_py : ∀ R : List Rw, toPys (R.map rwD) = some (R.map rwY)
  | [] => by simp [toPys]
  | r :: R => by simp [toPys, toPy, rows_py R]
theorem can_rows : ∀ {R : List Rw}, (∀ r ∈ R, RwOk r) → PyData.canLayAll0 (R.map rwY) = true
  | [], _ => by simp [PyData.canLayAll0]
  | r :: R, h => by
    have h1 := h r (List.mem_cons_self ..)
    simp [PyData.canLayAll0, PyData.canLay0, nm_ok h1.2.2, (wd_ok h1.2.1).1, can_rows fun r hr => h r (List.mem_cons_of_mem _ hr)]
theorem dep_rows : ∀ R : List Rw, PyData.depthAll (R.map rwY) ≤ 1
  | [] => by simp [PyData.depthAll]
  | p :: P => by
    have := dep_rows P
    simp [PyData.depthAll, PyData.depth]
    omega
theorem rows_sh {R : List Rw} (h : ∀ r ∈ R, RwOk r) : SeqAt.shaped (.list (R.map rwY)) = true := by
  have := dep_rows R
  simp [SeqAt.shaped, PyData.canLay0, PyData.depth, can_rows h]
  omega
theorem eqv_rows : ∀ R R' : List Rw, PyData.eqvAll (R.map rwY) (R'.map rwY) = decide (R = R')
  | [], [] => by simp [PyData.eqvAll]
  | [], _ :: _ => by simp [PyData.eqvAll]
  | _ :: _, [] => by simp [PyData.eqvAll]
  | ⟨m, w, n⟩ :: R, ⟨m', w', n'⟩ :: R' => by
    rw [List.map_cons, List.map_cons, PyData.eqvAll, eqv_rows R R']
    simp only [PyData.eqv, PyData.eqvAll, Bool.and_true]
    rw [Bool.eq_iff_iff]
    simp only [Bool.and_eq_true, decide_eq_true_eq, beq_iff_eq, List.cons.injEq, Rw.mk.injEq]
    have e : ((m : Int) = m') ↔ m = m' := by omega
    rw [e]
theorem r_Book_len (T : Txt K mg a) : ∀ ds S q, sp_Book_len a ds S q → g_Book_len K a { nx := fun _ S' => q .non S', rt := q } (startD N_Book_len ds) S := by
  rintro ds S q ⟨n, j, b, R, rfl, hB, h⟩
  rw [st_Book_len]
  simp only [g_Book_len, ↓bk_kept T hB, ↓bk_len hB, ↓x_eqSS, ↓x_neSS, ↓gKGet, ↓x_kget, ↓x_ixE, at_last, ↓x_appE, ↓x_tyE, ↓x_itE, ↓x_lenE, ↓x_nePr, ↓x_eqPr, ↓x_neE, ↓x_lenr, ↓x_lenrI, ↓gRev, ↓x_par3, ↓x_par33, ↓x_fld, ↓x_fset, ↓x_mkF, ↓x_mk, ↓x_meth, ↓x_fldO, ↓x_fsetE, ↓x_fldE, ↓x_methO, ↓x_isiCO, ↓x_isiCN, ↓x_isiCT, ↓x_isiCLi, ↓x_isiCS, ↓x_isiCI, ↓x_own, ↓x_eqT2, ↓x_neT2, ↓x_neL4, ↓x_eqLN, ↓x_neNil, ↓x_gset, ↓x_lc, ↓x_for, ↓x_it, ↓x_rn1, ↓x_rn2, ↓x_enu, ↓x_zip, ↓x_itS, ↓x_itL, ↓x_itK, ↓x_itT, ↓x_rn1I, ↓x_rn2I, ↓x_enuL, ↓x_enuK, ↓x_zipL, ↓x_ixS0, ↓x_ixL, ↓x_ixT, ↓x_ixK, x_at0, x_at1, x_at2, x_at3, x_at4, ↓x_set00, ↓x_set01, ↓x_set02, ↓x_aug1, ↓x_aug2, ↓x_aug3, ↓x_aug4, ↓x_aug5, ↓x_aug6, ↓x_aug7, ↓x_aug8, ↓x_aug9, ↓x_aug10, ↓x_aug11, ↓x_aug12, ↓x_aug13, ↓x_aug14, ↓x_aug15, ↓x_aug16, ↓x_aug17, ↓x_aug18, ↓x_aug19, ↓x_aug20, ↓x_aug21, ↓x_aug22, ↓x_aug23, Int.reduceToNat, Int.reducePow, ↓gSeq, ↓gIfS, ↓gSet, ↓gAsg, ↓x_par, ↓x_par2, ↓gRet, ↓gRetN, ↓gNext, ↓gDrop, ↓gBreak, ↓gCont, ↓gDead, ↓gCB, ↓gB2, ↓gU, ↓gC, ↓Dl.gCons, ↓Dl.gNil, ↓Dl.gTup, ↓Dl.gLst, ↓gTest, ↓gOrB, ↓gAndB, ↓gNotB, ↓gAndV, ↓gOrV, ↓gNotV, ↓gIf, ↓gIx, ↓gSl, ↓gPart, ↓gNoP, ↓gMt, ↓gCall, ↓gArgs, ↓gIsN, ↓gNotN, ↓gChain, ↓x_fmtS, ↓x_afS, ↓x_afI, ↓x_js0, ↓x_jsc, ↓gJoined, ↓gYes, ↓x_bnm, ↓x_btp, ↓x_bn, ↓x_bc, ↓x_nnN, ↓x_nnI, ↓x_nnS, ↓x_nnB, ↓x_nnT, ↓x_nnL, ↓x_nnO, ↓x_nnl, ↓x_tyS, ↓x_tyL, ↓x_i2, ↓aSub, ↓aFdiv, ↓aMod, ↓aPow, ↓aShr, ↓aLt, ↓aLe, ↓aGt, ↓aGe, ↓x_addI, ↓x_addS, ↓x_mulI, ↓x_iaddS, ↓x_iaddI, ↓x_neg, ↓x_eqI, ↓x_neI, ↓x_eqS, ↓x_neS, ↓x_eqB, ↓x_neB, ↓x_eqNI, ↓x_neNI, ↓x_lenS, ↓x_lenL_l, ↓x_lenL_k, ↓x_lenL_t, ↓x_str, ↓x_intI, ↓x_intB, ↓x_divmod, ↓x_max2, ↓x_min2, ↓x_ixS, ↓x_slS, ↓x_slT, ↓x_slL_l, ↓x_slL_k, ↓x_inS, ↓x_newT, ↓x_newF, ↓x_si, ↓x_s1, ↓x_s0, ↓x_rpart, ↓x_part, ↓x_a1, ↓x_a2, ↓x_isiStr, ↓x_isiInt, ↓x_isiIntB, ↓x_isiIntS, ↓x_isiBB, ↓x_isiBI, ↓x_isiStrI, ↓x_isiNonI, ↓x_isiNonS, ↓x_isiT, ↓x_isiL, ↓x_var0, ↓x_varS, ↓x_ex, ↓x_aug0, gat, pick, Option.some.injEq, D.bl.injEq, D.int.injEq, D.str.injEq, D.tup.injEq, D.lst.injEq, List.cons.injEq, and_true, true_and, List.set_cons_zero, List.set_cons_succ, List.length_cons, List.length_nil, List.filterMap_cons, List.filterMap_nil, List.getElem?_cons_zero, List.getElem?_cons_succ, Option.bind_some, ↓reduceIte, if_true, if_false, Bool.false_eq_true, Bool.true_eq_false, decide_eq_true_eq, beq_self_eq_true, Bool.not_true, Bool.not_false, Bool.not_eq_true', decide_eq_false_iff_not, exists_eq_left', exists_eq_left, exists_eq, ↓x_dnT, ↓x_dnF, ↓gAsgL, ↓gMMDef, ↓gDSet, ↓gSItems, ↓x_nilL, ↓x_nilE, List.isEmpty_nil, List.isEmpty_cons, Bool.true_xor, Bool.false_xor, ↓gOrT, ↓gAndT, ↓gTryAs, ↓gTryO, ↓gRaise, ↓gCallX, ↓gMethX, ↓gMakeX, ↓gFldX, ↓x_inXs, Bool.false_xor, Bool.true_xor, ↓x_fmtRS, ↓x_afRS, ↓x_afRI, ↓x_stO, ↓x_zipS, ↓x_zipE, ↓x_zipSL, ↓x_zipST, ↓x_zipEL, ↓x_augix, ↓x_isB, ↓x_notB, ↓gLR1, ↓gLR2, ↓gDIxT, ↓gDGt1T, ↓gDSetT, ↓gDNewT, ↓gDIx, ↓gDGt1, ↓gDGt2, ↓gDIn, ↓gDSetd, ↓gDPop1, ↓gDPop2, ↓gTIdx, ↓gLKeys, ↓gDisp, ↓x_enumK, ↓x_enumKL]
  exact h
theorem r_Book_eq (T : Txt K mg a) : ∀ ds S q, sp_Book_eq a ds S q → g_Book_eq K a { nx := fun _ S' => q .non S', rt := q } (startD N_Book_eq ds) S := by
  rintro ds S q ⟨n, j, b, R, n', j', b', R', rfl, hB, hB', hb, hb', hR, hR', h⟩
  rw [st_Book_eq]
  simp only [g_Book_eq, ↓bk_kept T hB, ↓bk_bank T hB, ↓bk_kept T hB', ↓bk_bank T hB', ↓x_eqSS, ↓x_neSS, ↓gKGet, ↓x_kget, ↓x_ixE, at_last, ↓x_appE, ↓x_tyE, ↓x_itE, ↓x_lenE, ↓x_nePr, ↓x_eqPr, ↓x_neE, ↓x_lenr, ↓x_lenrI, ↓gRev, ↓x_par3, ↓x_par33, ↓x_fld, ↓x_fset, ↓x_mkF, ↓x_mk, ↓x_meth, ↓x_fldO, ↓x_fsetE, ↓x_fldE, ↓x_methO, ↓x_isiCO, ↓x_isiCN, ↓x_isiCT, ↓x_isiCLi, ↓x_isiCS, ↓x_isiCI, ↓x_own, ↓x_eqT2, ↓x_neT2, ↓x_neL4, ↓x_eqLN, ↓x_neNil, ↓x_gset, ↓x_lc, ↓x_for, ↓x_it, ↓x_rn1, ↓x_rn2, ↓x_enu, ↓x_zip, ↓x_itS, ↓x_itL, ↓x_itK, ↓x_itT, ↓x_rn1I, ↓x_rn2I, ↓x_enuL, ↓x_enuK, ↓x_zipL, ↓x_ixS0, ↓x_ixL, ↓x_ixT, ↓x_ixK, x_at0, x_at1, x_at2, x_at3, x_at4, ↓x_set00, ↓x_set01, ↓x_set02, ↓x_aug1, ↓x_aug2, ↓x_aug3, ↓x_aug4, ↓x_aug5, ↓x_aug6, ↓x_aug7, ↓x_aug8, ↓x_aug9, ↓x_aug10, ↓x_aug11, ↓x_aug12, ↓x_aug13, ↓x_aug14, ↓x_aug15, ↓x_aug16, ↓x_aug17, ↓x_aug18, ↓x_aug19, ↓x_aug20, ↓x_aug21, ↓x_aug22, ↓x_aug23, Int.reduceToNat, Int.reducePow, ↓gSeq, ↓gIfS, ↓gSet, ↓gAsg, ↓x_par, ↓x_par2, ↓gRet, ↓gRetN, ↓gNext, ↓gDrop, ↓gBreak, ↓gCont, ↓gDead, ↓gCB, ↓gB2, ↓gU, ↓gC, ↓Dl.gCons, ↓Dl.gNil, ↓Dl.gTup, ↓Dl.gLst, ↓gTest, ↓gOrB, ↓gAndB, ↓gNotB, ↓gAndV, ↓gOrV, ↓gNotV, ↓gIf, ↓gIx, ↓gSl, ↓gPart, ↓gNoP, ↓gMt, ↓gCall, ↓gArgs, ↓gIsN, ↓gNotN, ↓gChain, ↓x_fmtS, ↓x_afS, ↓x_afI, ↓x_js0, ↓x_jsc, ↓gJoined, ↓gYes, ↓x_bnm, ↓x_btp, ↓x_bn, ↓x_bc, ↓x_nnN, ↓x_nnI, ↓x_nnS, ↓x_nnB, ↓x_nnT, ↓x_nnL, ↓x_nnO, ↓x_nnl, ↓x_tyS, ↓x_tyL, ↓x_i2, ↓aSub, ↓aFdiv, ↓aMod, ↓aPow, ↓aShr, ↓aLt, ↓aLe, ↓aGt, ↓aGe, ↓x_addI, ↓x_addS, ↓x_mulI, ↓x_iaddS, ↓x_iaddI, ↓x_neg, ↓x_eqI, ↓x_neI, ↓x_eqS, ↓x_neS, ↓x_eqB, ↓x_neB, ↓x_eqNI, ↓x_neNI, ↓x_lenS, ↓x_lenL_l, ↓x_lenL_k, ↓x_lenL_t, ↓x_str, ↓x_intI, ↓x_intB, ↓x_divmod, ↓x_max2, ↓x_min2, ↓x_ixS, ↓x_slS, ↓x_slT, ↓x_slL_l, ↓x_slL_k, ↓x_inS, ↓x_newT, ↓x_newF, ↓x_si, ↓x_s1, ↓x_s0, ↓x_rpart, ↓x_part, ↓x_a1, ↓x_a2, ↓x_isiStr, ↓x_isiInt, ↓x_isiIntB, ↓x_isiIntS, ↓x_isiBB, ↓x_isiBI, ↓x_isiStrI, ↓x_isiNonI, ↓x_isiNonS, ↓x_isiT, ↓x_isiL, ↓x_var0, ↓x_varS, ↓x_ex, ↓x_aug0, gat, pick, Option.some.injEq, D.bl.injEq, D.int.injEq, D.str.injEq, D.tup.injEq, D.lst.injEq, List.cons.injEq, and_true, true_and, List.set_cons_zero, List.set_cons_succ, List.length_cons, List.length_nil, List.filterMap_cons, List.filterMap_nil, List.getElem?_cons_zero, List.getElem?_cons_succ, Option.bind_some, ↓reduceIte, if_true, if_false, Bool.false_eq_true, Bool.true_eq_false, decide_eq_true_eq, beq_self_eq_true, Bool.not_true, Bool.not_false, Bool.not_eq_true', decide_eq_false_iff_not, exists_eq_left', exists_eq_left, exists_eq, ↓x_dnT, ↓x_dnF, ↓gAsgL, ↓gMMDef, ↓gDSet, ↓gSItems, ↓x_nilL, ↓x_nilE, List.isEmpty_nil, List.isEmpty_cons, Bool.true_xor, Bool.false_xor, ↓gOrT, ↓gAndT, ↓gTryAs, ↓gTryO, ↓gRaise, ↓gCallX, ↓gMethX, ↓gMakeX, ↓gFldX, ↓x_inXs, Bool.false_xor, Bool.true_xor, ↓x_fmtRS, ↓x_afRS, ↓x_afRI, ↓x_stO, ↓x_zipS, ↓x_zipE, ↓x_zipSL, ↓x_zipST, ↓x_zipEL, ↓x_augix, ↓x_isB, ↓x_notB, ↓gLR1, ↓gLR2, ↓gDIxT, ↓gDGt1T, ↓gDSetT, ↓gDNewT, ↓gDIx, ↓gDGt1, ↓gDGt2, ↓gDIn, ↓gDSetd, ↓gDPop1, ↓gDPop2, ↓gTIdx, ↓gLKeys, ↓gDisp, ↓x_enumK, ↓x_enumKL]
  refine ⟨_, rfl, .inl ⟨_, _, _, _, bk_obj hB', T.is_Book, T.kc_Book_Book, ?_⟩⟩
  refine ⟨true, rfl, ?_⟩
  rw [if_pos rfl]
  simp only [↓bk_kept T hB, ↓bk_bank T hB, ↓bk_kept T hB', ↓bk_bank T hB', ↓x_eqSS, ↓x_neSS, ↓gKGet, ↓x_kget, ↓x_ixE, at_last, ↓x_appE, ↓x_tyE, ↓x_itE, ↓x_lenE, ↓x_nePr, ↓x_eqPr, ↓x_neE, ↓x_lenr, ↓x_lenrI, ↓gRev, ↓x_par3, ↓x_par33, ↓x_fld, ↓x_fset, ↓x_mkF, ↓x_mk, ↓x_meth, ↓x_fldO, ↓x_fsetE, ↓x_fldE, ↓x_methO, ↓x_isiCO, ↓x_isiCN, ↓x_isiCT, ↓x_isiCLi, ↓x_isiCS, ↓x_isiCI, ↓x_own, ↓x_eqT2, ↓x_neT2, ↓x_neL4, ↓x_eqLN, ↓x_neNil, ↓x_gset, ↓x_lc, ↓x_for, ↓x_it, ↓x_rn1, ↓x_rn2, ↓x_enu, ↓x_zip, ↓x_itS, ↓x_itL, ↓x_itK, ↓x_itT, ↓x_rn1I, ↓x_rn2I, ↓x_enuL, ↓x_enuK, ↓x_zipL, ↓x_ixS0, ↓x_ixL, ↓x_ixT, ↓x_ixK, x_at0, x_at1, x_at2, x_at3, x_at4, ↓x_set00, ↓x_set01, ↓x_set02, ↓x_aug1, ↓x_aug2, ↓x_aug3, ↓x_aug4, ↓x_aug5, ↓x_aug6, ↓x_aug7, ↓x_aug8, ↓x_aug9, ↓x_aug10, ↓x_aug11, ↓x_aug12, ↓x_aug13, ↓x_aug14, ↓x_aug15, ↓x_aug16, ↓x_aug17, ↓x_aug18, ↓x_aug19, ↓x_aug20, ↓x_aug21, ↓x_aug22, ↓x_aug23, Int.reduceToNat, Int.reducePow, ↓gSeq, ↓gIfS, ↓gSet, ↓gAsg, ↓x_par, ↓x_par2, ↓gRet, ↓gRetN, ↓gNext, ↓gDrop, ↓gBreak, ↓gCont, ↓gDead, ↓gCB, ↓gB2, ↓gU, ↓gC, ↓Dl.gCons, ↓Dl.gNil, ↓Dl.gTup, ↓Dl.gLst, ↓gTest, ↓gOrB, ↓gAndB, ↓gNotB, ↓gAndV, ↓gOrV, ↓gNotV, ↓gIf, ↓gIx, ↓gSl, ↓gPart, ↓gNoP, ↓gMt, ↓gCall, ↓gArgs, ↓gIsN, ↓gNotN, ↓gChain, ↓x_fmtS, ↓x_afS, ↓x_afI, ↓x_js0, ↓x_jsc, ↓gJoined, ↓gYes, ↓x_bnm, ↓x_btp, ↓x_bn, ↓x_bc, ↓x_nnN, ↓x_nnI, ↓x_nnS, ↓x_nnB, ↓x_nnT, ↓x_nnL, ↓x_nnO, ↓x_nnl, ↓x_tyS, ↓x_tyL, ↓x_i2, ↓aSub, ↓aFdiv, ↓aMod, ↓aPow, ↓aShr, ↓aLt, ↓aLe, ↓aGt, ↓aGe, ↓x_addI, ↓x_addS, ↓x_mulI, ↓x_iaddS, ↓x_iaddI, ↓x_neg, ↓x_eqI, ↓x_neI, ↓x_eqS, ↓x_neS, ↓x_eqB, ↓x_neB, ↓x_eqNI, ↓x_neNI, ↓x_lenS, ↓x_lenL_l, ↓x_lenL_k, ↓x_lenL_t, ↓x_str, ↓x_intI, ↓x_intB, ↓x_divmod, ↓x_max2, ↓x_min2, ↓x_ixS, ↓x_slS, ↓x_slT, ↓x_slL_l, ↓x_slL_k, ↓x_inS, ↓x_newT, ↓x_newF, ↓x_si, ↓x_s1, ↓x_s0, ↓x_rpart, ↓x_part, ↓x_a1, ↓x_a2, ↓x_isiStr, ↓x_isiInt, ↓x_isiIntB, ↓x_isiIntS, ↓x_isiBB, ↓x_isiBI, ↓x_isiStrI, ↓x_isiNonI, ↓x_isiNonS, ↓x_isiT, ↓x_isiL, ↓x_var0, ↓x_varS, ↓x_ex, ↓x_aug0, gat, pick, Option.some.injEq, D.bl.injEq, D.int.injEq, D.str.injEq, D.tup.injEq, D.lst.injEq, List.cons.injEq, and_true, true_and, List.set_cons_zero, List.set_cons_succ, List.length_cons, List.length_nil, List.filterMap_cons, List.filterMap_nil, List.getElem?_cons_zero, List.getElem?_cons_succ, Option.bind_some, ↓reduceIte, if_true, if_false, Bool.false_eq_true, Bool.true_eq_false, decide_eq_true_eq, beq_self_eq_true, Bool.not_true, Bool.not_false, Bool.not_eq_true', decide_eq_false_iff_not, exists_eq_left', exists_eq_left, exists_eq, ↓x_dnT, ↓x_dnF, ↓gAsgL, ↓gMMDef, ↓gDSet, ↓gSItems, ↓x_nilL, ↓x_nilE, List.isEmpty_nil, List.isEmpty_cons, Bool.true_xor, Bool.false_xor, ↓gOrT, ↓gAndT, ↓gTryAs, ↓gTryO, ↓gRaise, ↓gCallX, ↓gMethX, ↓gMakeX, ↓gFldX, ↓x_inXs, Bool.false_xor, Bool.true_xor, ↓x_fmtRS, ↓x_afRS, ↓x_afRI, ↓x_stO, ↓x_zipS, ↓x_zipE, ↓x_zipSL, ↓x_zipST, ↓x_zipEL, ↓x_augix, ↓x_isB, ↓x_notB, ↓gLR1, ↓gLR2, ↓gDIxT, ↓gDGt1T, ↓gDSetT, ↓gDNewT, ↓gDIx, ↓gDGt1, ↓gDGt2, ↓gDIn, ↓gDSetd, ↓gDPop1, ↓gDPop2, ↓gTIdx, ↓gLKeys, ↓gDisp, ↓x_enumK, ↓x_enumKL]
  refine ⟨(ba_ok hb).1, (ba_ok hb').1, ?_⟩
  by_cases c : b = b'
  · rw [if_pos c]
    refine (x_eq (p := .list (R.map rwY)) (p' := .list (R'.map rwY)) (by simp only [toPyS, hB.2, rows_py]; rfl) (by simp only [toPyS, hB'.2, rows_py]; rfl)).mpr ⟨rows_sh hR, rows_sh hR', ?_⟩
    simp only [PyData.eqv, eqv_rows]
    have e : decide (b = b' ∧ R = R') = decide (R = R') := by simp [c]
    rwa [e] at h
  · rw [if_neg c]
    have e : decide (b = b' ∧ R = R') = false := by simp [c]
    rwa [e] at h
end
end Lw
namespace Lw
open PySem L2 Dl
section
variable {P : Program} {w : World} {K : PySem.W.Frag} {mg : Str → Option Value} {base : Heap} {a : Ad}
theorem sub_tl {x : Str} {P : Nat → Prop} (h : ∀ c ∈ x.cps.toList, P c) {y : Str} (h' : ∀ c ∈ y.cps.toList, P c) : ∀ c ∈ (x ++ y).cps.toList, P c := fun c hc => by
  have hc : c ∈ (x.cps ++ y.cps).toList := hc
  rw [Array.toList_append, List.mem_append] at hc
  exact hc.elim (h c) (h' c)
theorem T_signs {m : Nat} (hm : m ≤ 1000000) : ∀ c ∈ (Mt.T m).cps.toList, 43 ≤ c ∧ c ≤ 58 := by
  have hh : ∀ h k : Nat, h < 60 → k < 60 → ∀ c ∈ (Mt.hm h k).cps.toList, 43 ≤ c ∧ c ≤ 58 := fun h k h1 h2 c hc => by
    have hc : c ∈ [48 + h / 10, 48 + h % 10, 58, 48 + k / 10, 48 + k % 10] := hc
    simp only [List.mem_cons, List.not_mem_nil, or_false] at hc
    omega
  unfold Mt.T
  split
  · exact hh _ _ (by omega) (by omega)
  · refine sub_tl (hh _ _ (by omega) (by omega)) (sub_tl (fun c hc => ?_) fun c hc => ?_)
    · rw [Mt.plus_eq] at hc
      have : c = 43 := by simpa using hc
      omega
    · have := (Mt.figs_iff.mp (Mt.day_figs (m / 1440) (by omega))).2 c hc
      omega
theorem T_sOk {m : Nat} (hm : m ≤ 1000000) : Mt.sOk (Mt.T m) := ⟨Nat.le_trans (Mt.T_len hm) (by decide), Mt.ok_all.mpr fun c hc => by have := T_signs hm c hc; omega⟩
theorem wd_signs {x : Str} (h : WdOk x) : ∀ c ∈ x.cps.toList, 97 ≤ c ∧ c ≤ 122 := by rcases h with rfl | rfl <;> decide +kernel
theorem ba_signs {x : Str} (h : BaOk x) : ∀ c ∈ x.cps.toList, 97 ≤ c ∧ c ≤ 122 := by rcases h with rfl | rfl <;> decide +kernel
theorem spS_tl : spS.cps.toList = [32] := by decide +kernel
theorem rowT_join (r : Rw) : rowT r = Txt.join " " [Mt.T r.m, r.w, r.n] := by
  refine TL.ext_tl ?_
  rw [TL.join_eq, TL.tl_join]
  unfold rowT
  rw [TL.tl_append, TL.tl_append, TL.tl_append, TL.tl_append]
  have e : TL.tl spS = TL.tl " " := rfl
  rw [e]
  simp [TL.joinL]
theorem row_split {r : Rw} (h : RwOk r) : Txt.split (rowT r) (Str.ofString " ") = [Mt.T r.m, r.w, r.n] := by
  rw [rowT_join]
  refine TL.split_join (y := Str.ofString " ") (s := 32) (S := []) (by decide +kernel) (by decide +kernel) (by simp) fun p hp z => ?_
  simp only [List.mem_cons, List.not_mem_nil, or_false] at hp
  rcases hp with rfl | rfl | rfl
  · have := T_signs h.1 _ z; omega
  · have := wd_signs h.2.1 _ z; omega
  · have := h.2.2.2.2 _ z; omega
theorem row_len {r : Rw} (h : RwOk r) : (rowT r).length ≤ 23 := by
  unfold rowT
  rw [Mt.len_app, Mt.len_app, Mt.len_app, Mt.len_app]
  have h1 := Mt.T_len h.1
  have h2 := (wd_ok h.2.1).2
  have h3 := h.2.2.2.1
  have h4 : spS.length = 1 := by decide +kernel
  omega
theorem row_signs {r : Rw} (h : RwOk r) : ∀ c ∈ (rowT r).cps.toList, 32 ≤ c ∧ c ≤ 122 := by
  have hs : ∀ c ∈ spS.cps.toList, 32 ≤ c ∧ c ≤ 122 := fun c hc => by
    rw [spS_tl] at hc
    have : c = 32 := by simpa using hc
    omega
  unfold rowT
  refine sub_tl (sub_tl (sub_tl (sub_tl (fun c hc => ?_) hs) fun c hc => ?_) hs) fun c hc => ?_
  · have := T_signs h.1 c hc; omega
  · have := wd_signs h.2.1 c hc; omega
  · have := h.2.2.2.2 c hc; omega
theorem row_ok {r : Rw} (h : RwOk r) : Mt.sOk (rowT r) := ⟨Nat.le_trans (row_len h) (by decide), Mt.ok_all.mpr fun c hc => by have := row_signs h c hc; omega⟩
theorem bk_split {b : Str} {R : List Rw} (hb : BaOk b) (h : ∀ r ∈ R, RwOk r) : Txt.split (bkT b R) (Str.ofString "\n") = b :: R.map rowT := by
  refine TL.split_join (y := Str.ofString "\n") (s := 10) (S := []) (by decide +kernel) (by decide +kernel) (by simp) fun p hp z => ?_
  rcases List.mem_cons.mp hp with rfl | hp
  · have := ba_signs hb _ z; omega
  · obtain ⟨r, hr, rfl⟩ := List.mem_map.mp hp
    have := row_signs (h r hr) _ z; omega
theorem joinL_len (y : List Nat) : ∀ ps : List (List Nat), (TL.joinL y ps).length ≤ (ps.map (·.length)).sum + ps.length * y.length
  | [] => Nat.zero_le _
  | [p] => by show p.length ≤ _; simp
  | p :: q :: r => by
    have ih := joinL_len y (q :: r)
    show (p ++ (y ++ TL.joinL y (q :: r))).length ≤ _
    rw [List.length_append, List.length_append, List.map_cons, List.sum_cons, List.length_cons, Nat.add_mul]
    omega
theorem join_len (y : Str) (ps : List Str) : (Txt.join y ps).length ≤ (ps.map (·.length)).sum + ps.length * y.length := by
  have h := joinL_len (TL.tl y) (ps.map TL.tl)
  rw [← TL.tl_join, ← TL.join_eq, List.map_map, List.length_map] at h
  have e : ∀ x : Str, (TL.tl x).length = x.length := fun x => (TL.len_tl x).symm
  rw [e, e] at h
  have e2 : (ps.map ((·.length) ∘ TL.tl)) = ps.map (·.length) := List.map_congr_left fun x _ => e x
  rw [show (ps.map ((fun l : List Nat => l.length) ∘ TL.tl)) = ps.map (fun x => x.length) from e2] at h
  exact h
theorem sum_le {M : Nat} : ∀ {l : List Str}, (∀ x ∈ l, x.length ≤ M) → (l.map (·.length)).sum ≤ M * l.length
  | [], _ => Nat.zero_le _
  | x :: l, h => by
    have := sum_le fun y hy => h y (List.mem_cons_of_mem _ hy)
    have h1 := h x (List.mem_cons_self ..)
    rw [List.map_cons, List.sum_cons, List.length_cons, Nat.mul_add]
    omega
theorem lines_23 {b : Str} {R : List Rw} (hb : BaOk b) (h : ∀ r ∈ R, RwOk r) : ∀ x ∈ b :: R.map rowT, x.length ≤ 23 := fun x hx => by
  rcases List.mem_cons.mp hx with rfl | hx
  · have := (ba_ok hb).2; omega
  · obtain ⟨r, hr, rfl⟩ := List.mem_map.mp hx
    exact row_len (h r hr)
theorem bk_fit {b : Str} {R : List Rw} (hb : BaOk b) (h : ∀ r ∈ R, RwOk r) (hR : R.length ≤ 1000) : ((b :: R.map rowT).map (·.length)).sum + (b :: R.map rowT).length * (Str.ofString "\n").length ≤ 30000 := by
  have h1 := sum_le (lines_23 hb h)
  have h2 : (b :: R.map rowT).length = R.length + 1 := by simp
  have h3 : (Str.ofString "\n").length = 1 := by decide +kernel
  rw [h2] at h1 ⊢
  rw [h3]
  omega
theorem bkT_len {b : Str} {R : List Rw} (hb : BaOk b) (h : ∀ r ∈ R, RwOk r) (hR : R.length ≤ 1000) : (bkT b R).length ≤ 30000 := Nat.le_trans (join_len _ _) (bk_fit hb h hR)
theorem x_b3 {ρ : Env_} {i j l : Nat} {x y z : D} : Tgt.bind (.tp [.nm i, .nm j, .nm l]) (.tup [x, y, z]) ρ = some (((ρ.set i (some x)).set j (some y)).set l (some z)) := by simp [Tgt.bind, Tgt.binds]
theorem BkAt.app {S X : Sto} {n j : Nat} {b : Str} {R : List Rw} (h : BkAt a S n j b R) : BkAt a (S ++ X) n j b R := by
  have h1 := (List.getElem?_eq_some_iff.mp h.1).1
  have h2 := (List.getElem?_eq_some_iff.mp h.2).1
  exact ⟨by rw [List.getElem?_append_left h1]; exact h.1, by rw [List.getElem?_append_left h2]; exact h.2⟩
theorem bk2_at {S X : Sto} {n : Nat} {b : Str} {R : List Rw} (e : n = S.length) : BkAt a (S ++ bk2 a n b R ++ X) n (n + 1) b R := by
  subst e
  refine BkAt.app ⟨by simp, ?_⟩
  rw [List.getElem?_append_right (by omega)]
  simp
theorem bk2_set {S X : Sto} {n : Nat} {b : Str} {R R' : List Rw} (e : n = S.length) : (S ++ bk2 a n b R ++ X).set (n + 1) (some (.lst (R'.map rwD))) = S ++ bk2 a n b R' ++ X := by
  subst e
  rw [List.append_assoc, List.set_append_right _ _ (by omega)]
  simp
theorem take_snoc {A : Type} {L : List A} {i : Nat} {x : A} (h : L[i]? = some x) : L.take (i + 1) = L.take i ++ [x] := by rw [List.take_add_one, h]; rfl
theorem x_b2 {ρ : Env_} {i j : Nat} {x y : D} : Tgt.bind (.tp [.nm i, .nm j]) (.tup [x, y]) ρ = some ((ρ.set i (some x)).set j (some y)) := by simp [Tgt.bind, Tgt.binds]
theorem rise_take {R : List Rw} {i : Nat} {r : Rw} (h : Rise R) (hr : R[i]? = some r) : ∀ r' ∈ R.take i, r'.m ≤ r.m := fun r' h' => by
  obtain ⟨k, hk, e⟩ := List.mem_iff_getElem.mp h'
  rw [List.length_take] at hk
  rw [List.getElem_take] at e
  obtain ⟨hi, e2⟩ := List.getElem?_eq_some_iff.mp hr
  have := List.pairwise_iff_getElem.mp h k i (by omega) hi (by omega)
  rwa [e, e2] at this
theorem r_row_in (T : Txt K mg a) : ∀ ds S q, sp_row_in a ds S q → g_row_in K a { nx := fun _ S' => q .non S', rt := q } (startD N_row_in ds) S := by
  rintro ds S q ⟨r, rfl, hr, h⟩
  rw [st_row_in]
  have hs' : 1000 ≤ sizeLine := by decide
  have hl := row_len hr
  simp only [g_row_in, ↓x_eqSS, ↓x_neSS, ↓gKGet, ↓x_kget, ↓x_ixE, at_last, ↓x_appE, ↓x_tyE, ↓x_itE, ↓x_lenE, ↓x_nePr, ↓x_eqPr, ↓x_neE, ↓x_lenr, ↓x_lenrI, ↓gRev, ↓x_par3, ↓x_par33, ↓x_fld, ↓x_fset, ↓x_mkF, ↓x_mk, ↓x_meth, ↓x_fldO, ↓x_fsetE, ↓x_fldE, ↓x_methO, ↓x_isiCO, ↓x_isiCN, ↓x_isiCT, ↓x_isiCLi, ↓x_isiCS, ↓x_isiCI, ↓x_own, ↓x_eqT2, ↓x_neT2, ↓x_neL4, ↓x_eqLN, ↓x_neNil, ↓x_gset, ↓x_lc, ↓x_for, ↓x_it, ↓x_rn1, ↓x_rn2, ↓x_enu, ↓x_zip, ↓x_itS, ↓x_itL, ↓x_itK, ↓x_itT, ↓x_rn1I, ↓x_rn2I, ↓x_enuL, ↓x_enuK, ↓x_zipL, ↓x_ixS0, ↓x_ixL, ↓x_ixT, ↓x_ixK, x_at0, x_at1, x_at2, x_at3, x_at4, ↓x_set00, ↓x_set01, ↓x_set02, ↓x_aug1, ↓x_aug2, ↓x_aug3, ↓x_aug4, ↓x_aug5, ↓x_aug6, ↓x_aug7, ↓x_aug8, ↓x_aug9, ↓x_aug10, ↓x_aug11, ↓x_aug12, ↓x_aug13, ↓x_aug14, ↓x_aug15, ↓x_aug16, ↓x_aug17, ↓x_aug18, ↓x_aug19, ↓x_aug20, ↓x_aug21, ↓x_aug22, ↓x_aug23, Int.reduceToNat, Int.reducePow, ↓gSeq, ↓gIfS, ↓gSet, ↓gAsg, ↓x_par, ↓x_par2, ↓gRet, ↓gRetN, ↓gNext, ↓gDrop, ↓gBreak, ↓gCont, ↓gDead, ↓gCB, ↓gB2, ↓gU, ↓gC, ↓Dl.gCons, ↓Dl.gNil, ↓Dl.gTup, ↓Dl.gLst, ↓gTest, ↓gOrB, ↓gAndB, ↓gNotB, ↓gAndV, ↓gOrV, ↓gNotV, ↓gIf, ↓gIx, ↓gSl, ↓gPart, ↓gNoP, ↓gMt, ↓gCall, ↓gArgs, ↓gIsN, ↓gNotN, ↓gChain, ↓x_fmtS, ↓x_afS, ↓x_afI, ↓x_js0, ↓x_jsc, ↓gJoined, ↓gYes, ↓x_bnm, ↓x_btp, ↓x_bn, ↓x_bc, ↓x_nnN, ↓x_nnI, ↓x_nnS, ↓x_nnB, ↓x_nnT, ↓x_nnL, ↓x_nnO, ↓x_nnl, ↓x_tyS, ↓x_tyL, ↓x_i2, ↓aSub, ↓aFdiv, ↓aMod, ↓aPow, ↓aShr, ↓aLt, ↓aLe, ↓aGt, ↓aGe, ↓x_addI, ↓x_addS, ↓x_mulI, ↓x_iaddS, ↓x_iaddI, ↓x_neg, ↓x_eqI, ↓x_neI, ↓x_eqS, ↓x_neS, ↓x_eqB, ↓x_neB, ↓x_eqNI, ↓x_neNI, ↓x_lenS, ↓x_lenL_l, ↓x_lenL_k, ↓x_lenL_t, ↓x_str, ↓x_intI, ↓x_intB, ↓x_divmod, ↓x_max2, ↓x_min2, ↓x_ixS, ↓x_slS, ↓x_slT, ↓x_slL_l, ↓x_slL_k, ↓x_inS, ↓x_newT, ↓x_newF, ↓x_si, ↓x_s1, ↓x_s0, ↓x_rpart, ↓x_part, ↓x_a1, ↓x_a2, ↓x_isiStr, ↓x_isiInt, ↓x_isiIntB, ↓x_isiIntS, ↓x_isiBB, ↓x_isiBI, ↓x_isiStrI, ↓x_isiNonI, ↓x_isiNonS, ↓x_isiT, ↓x_isiL, ↓x_var0, ↓x_varS, ↓x_ex, ↓x_aug0, gat, pick, Option.some.injEq, D.bl.injEq, D.int.injEq, D.str.injEq, D.tup.injEq, D.lst.injEq, List.cons.injEq, and_true, true_and, List.set_cons_zero, List.set_cons_succ, List.length_cons, List.length_nil, List.filterMap_cons, List.filterMap_nil, List.getElem?_cons_zero, List.getElem?_cons_succ, Option.bind_some, ↓reduceIte, if_true, if_false, Bool.false_eq_true, Bool.true_eq_false, decide_eq_true_eq, beq_self_eq_true, Bool.not_true, Bool.not_false, Bool.not_eq_true', decide_eq_false_iff_not, exists_eq_left', exists_eq_left, exists_eq, ↓x_dnT, ↓x_dnF, ↓gAsgL, ↓gMMDef, ↓gDSet, ↓gSItems, ↓x_nilL, ↓x_nilE, List.isEmpty_nil, List.isEmpty_cons, Bool.true_xor, Bool.false_xor, ↓gOrT, ↓gAndT, ↓gTryAs, ↓gTryO, ↓gRaise, ↓gCallX, ↓gMethX, ↓gMakeX, ↓gFldX, ↓x_inXs, Bool.false_xor, Bool.true_xor, ↓x_fmtRS, ↓x_afRS, ↓x_afRI, ↓x_stO, ↓x_zipS, ↓x_zipE, ↓x_zipSL, ↓x_zipST, ↓x_zipEL, ↓x_augix, ↓x_isB, ↓x_notB, ↓gLR1, ↓gLR2, ↓gDIxT, ↓gDGt1T, ↓gDSetT, ↓gDNewT, ↓gDIx, ↓gDGt1, ↓gDGt2, ↓gDIn, ↓gDSetd, ↓gDPop1, ↓gDPop2, ↓gTIdx, ↓gLKeys, ↓gDisp, ↓x_enumK, ↓x_enumKL]
  refine ⟨_, _, rfl, rfl, by decide +kernel, by omega, ?_⟩
  rw [row_split hr, x_newT]
  simp only [List.map_cons, List.map_nil, ↓x_eqSS, ↓x_neSS, ↓gKGet, ↓x_kget, ↓x_ixE, at_last, ↓x_appE, ↓x_tyE, ↓x_itE, ↓x_lenE, ↓x_nePr, ↓x_eqPr, ↓x_neE, ↓x_lenr, ↓x_lenrI, ↓gRev, ↓x_par3, ↓x_par33, ↓x_fld, ↓x_fset, ↓x_mkF, ↓x_mk, ↓x_meth, ↓x_fldO, ↓x_fsetE, ↓x_fldE, ↓x_methO, ↓x_isiCO, ↓x_isiCN, ↓x_isiCT, ↓x_isiCLi, ↓x_isiCS, ↓x_isiCI, ↓x_own, ↓x_eqT2, ↓x_neT2, ↓x_neL4, ↓x_eqLN, ↓x_neNil, ↓x_gset, ↓x_lc, ↓x_for, ↓x_it, ↓x_rn1, ↓x_rn2, ↓x_enu, ↓x_zip, ↓x_itS, ↓x_itL, ↓x_itK, ↓x_itT, ↓x_rn1I, ↓x_rn2I, ↓x_enuL, ↓x_enuK, ↓x_zipL, ↓x_ixS0, ↓x_ixL, ↓x_ixT, ↓x_ixK, x_at0, x_at1, x_at2, x_at3, x_at4, ↓x_set00, ↓x_set01, ↓x_set02, ↓x_aug1, ↓x_aug2, ↓x_aug3, ↓x_aug4, ↓x_aug5, ↓x_aug6, ↓x_aug7, ↓x_aug8, ↓x_aug9, ↓x_aug10, ↓x_aug11, ↓x_aug12, ↓x_aug13, ↓x_aug14, ↓x_aug15, ↓x_aug16, ↓x_aug17, ↓x_aug18, ↓x_aug19, ↓x_aug20, ↓x_aug21, ↓x_aug22, ↓x_aug23, Int.reduceToNat, Int.reducePow, ↓gSeq, ↓gIfS, ↓gSet, ↓gAsg, ↓x_par, ↓x_par2, ↓gRet, ↓gRetN, ↓gNext, ↓gDrop, ↓gBreak, ↓gCont, ↓gDead, ↓gCB, ↓gB2, ↓gU, ↓gC, ↓Dl.gCons, ↓Dl.gNil, ↓Dl.gTup, ↓Dl.gLst, ↓gTest, ↓gOrB, ↓gAndB, ↓gNotB, ↓gAndV, ↓gOrV, ↓gNotV, ↓gIf, ↓gIx, ↓gSl, ↓gPart, ↓gNoP, ↓gMt, ↓gCall, ↓gArgs, ↓gIsN, ↓gNotN, ↓gChain, ↓x_fmtS, ↓x_afS, ↓x_afI, ↓x_js0, ↓x_jsc, ↓gJoined, ↓gYes, ↓x_bnm, ↓x_btp, ↓x_bn, ↓x_bc, ↓x_nnN, ↓x_nnI, ↓x_nnS, ↓x_nnB, ↓x_nnT, ↓x_nnL, ↓x_nnO, ↓x_nnl, ↓x_tyS, ↓x_tyL, ↓x_i2, ↓aSub, ↓aFdiv, ↓aMod, ↓aPow, ↓aShr, ↓aLt, ↓aLe, ↓aGt, ↓aGe, ↓x_addI, ↓x_addS, ↓x_mulI, ↓x_iaddS, ↓x_iaddI, ↓x_neg, ↓x_eqI, ↓x_neI, ↓x_eqS, ↓x_neS, ↓x_eqB, ↓x_neB, ↓x_eqNI, ↓x_neNI, ↓x_lenS, ↓x_lenL_l, ↓x_lenL_k, ↓x_lenL_t, ↓x_str, ↓x_intI, ↓x_intB, ↓x_divmod, ↓x_max2, ↓x_min2, ↓x_ixS, ↓x_slS, ↓x_slT, ↓x_slL_l, ↓x_slL_k, ↓x_inS, ↓x_newT, ↓x_newF, ↓x_si, ↓x_s1, ↓x_s0, ↓x_rpart, ↓x_part, ↓x_a1, ↓x_a2, ↓x_isiStr, ↓x_isiInt, ↓x_isiIntB, ↓x_isiIntS, ↓x_isiBB, ↓x_isiBI, ↓x_isiStrI, ↓x_isiNonI, ↓x_isiNonS, ↓x_isiT, ↓x_isiL, ↓x_var0, ↓x_varS, ↓x_ex, ↓x_aug0, gat, pick, Option.some.injEq, D.bl.injEq, D.int.injEq, D.str.injEq, D.tup.injEq, D.lst.injEq, List.cons.injEq, and_true, true_and, List.set_cons_zero, List.set_cons_succ, List.length_cons, List.length_nil, List.filterMap_cons, List.filterMap_nil, List.getElem?_cons_zero, List.getElem?_cons_succ, Option.bind_some, ↓reduceIte, if_true, if_false, Bool.false_eq_true, Bool.true_eq_false, decide_eq_true_eq, beq_self_eq_true, Bool.not_true, Bool.not_false, Bool.not_eq_true', decide_eq_false_iff_not, exists_eq_left', exists_eq_left, exists_eq, ↓x_dnT, ↓x_dnF, ↓gAsgL, ↓gMMDef, ↓gDSet, ↓gSItems, ↓x_nilL, ↓x_nilE, List.isEmpty_nil, List.isEmpty_cons, Bool.true_xor, Bool.false_xor, ↓gOrT, ↓gAndT, ↓gTryAs, ↓gTryO, ↓gRaise, ↓gCallX, ↓gMethX, ↓gMakeX, ↓gFldX, ↓x_inXs, Bool.false_xor, Bool.true_xor, ↓x_fmtRS, ↓x_afRS, ↓x_afRI, ↓x_stO, ↓x_zipS, ↓x_zipE, ↓x_zipSL, ↓x_zipST, ↓x_zipEL, ↓x_augix, ↓x_isB, ↓x_notB, ↓gLR1, ↓gLR2, ↓gDIxT, ↓gDGt1T, ↓gDSetT, ↓gDNewT, ↓gDIx, ↓gDGt1, ↓gDGt2, ↓gDIn, ↓gDSetd, ↓gDPop1, ↓gDPop2, ↓gTIdx, ↓gLKeys, ↓gDisp, ↓x_enumK, ↓x_enumKL]
  rw [if_neg (by decide)]
  refine x_inTs (xs := ["on", "off"]) (wd_ok hr.2.1).1 (by decide +kernel) ⟨_, rfl, ?_⟩
  rw [if_neg (by have := hr.2.1; unfold WdOk at this; simp [this])]
  refine ⟨r.n, rfl, hr.2.2, true, rfl, ?_⟩
  rw [if_neg (by decide)]
  refine ⟨Mt.T r.m, rfl, T_sOk hr.1, ?_⟩
  rw [Mt.timeI_iff.mpr ⟨r.m, hr.1, rfl, rfl⟩]
  simp only [Mt.optD, ↓x_eqSS, ↓x_neSS, ↓gKGet, ↓x_kget, ↓x_ixE, at_last, ↓x_appE, ↓x_tyE, ↓x_itE, ↓x_lenE, ↓x_nePr, ↓x_eqPr, ↓x_neE, ↓x_lenr, ↓x_lenrI, ↓gRev, ↓x_par3, ↓x_par33, ↓x_fld, ↓x_fset, ↓x_mkF, ↓x_mk, ↓x_meth, ↓x_fldO, ↓x_fsetE, ↓x_fldE, ↓x_methO, ↓x_isiCO, ↓x_isiCN, ↓x_isiCT, ↓x_isiCLi, ↓x_isiCS, ↓x_isiCI, ↓x_own, ↓x_eqT2, ↓x_neT2, ↓x_neL4, ↓x_eqLN, ↓x_neNil, ↓x_gset, ↓x_lc, ↓x_for, ↓x_it, ↓x_rn1, ↓x_rn2, ↓x_enu, ↓x_zip, ↓x_itS, ↓x_itL, ↓x_itK, ↓x_itT, ↓x_rn1I, ↓x_rn2I, ↓x_enuL, ↓x_enuK, ↓x_zipL, ↓x_ixS0, ↓x_ixL, ↓x_ixT, ↓x_ixK, x_at0, x_at1, x_at2, x_at3, x_at4, ↓x_set00, ↓x_set01, ↓x_set02, ↓x_aug1, ↓x_aug2, ↓x_aug3, ↓x_aug4, ↓x_aug5, ↓x_aug6, ↓x_aug7, ↓x_aug8, ↓x_aug9, ↓x_aug10, ↓x_aug11, ↓x_aug12, ↓x_aug13, ↓x_aug14, ↓x_aug15, ↓x_aug16, ↓x_aug17, ↓x_aug18, ↓x_aug19, ↓x_aug20, ↓x_aug21, ↓x_aug22, ↓x_aug23, Int.reduceToNat, Int.reducePow, ↓gSeq, ↓gIfS, ↓gSet, ↓gAsg, ↓x_par, ↓x_par2, ↓gRet, ↓gRetN, ↓gNext, ↓gDrop, ↓gBreak, ↓gCont, ↓gDead, ↓gCB, ↓gB2, ↓gU, ↓gC, ↓Dl.gCons, ↓Dl.gNil, ↓Dl.gTup, ↓Dl.gLst, ↓gTest, ↓gOrB, ↓gAndB, ↓gNotB, ↓gAndV, ↓gOrV, ↓gNotV, ↓gIf, ↓gIx, ↓gSl, ↓gPart, ↓gNoP, ↓gMt, ↓gCall, ↓gArgs, ↓gIsN, ↓gNotN, ↓gChain, ↓x_fmtS, ↓x_afS, ↓x_afI, ↓x_js0, ↓x_jsc, ↓gJoined, ↓gYes, ↓x_bnm, ↓x_btp, ↓x_bn, ↓x_bc, ↓x_nnN, ↓x_nnI, ↓x_nnS, ↓x_nnB, ↓x_nnT, ↓x_nnL, ↓x_nnO, ↓x_nnl, ↓x_tyS, ↓x_tyL, ↓x_i2, ↓aSub, ↓aFdiv, ↓aMod, ↓aPow, ↓aShr, ↓aLt, ↓aLe, ↓aGt, ↓aGe, ↓x_addI, ↓x_addS, ↓x_mulI, ↓x_iaddS, ↓x_iaddI, ↓x_neg, ↓x_eqI, ↓x_neI, ↓x_eqS, ↓x_neS, ↓x_eqB, ↓x_neB, ↓x_eqNI, ↓x_neNI, ↓x_lenS, ↓x_lenL_l, ↓x_lenL_k, ↓x_lenL_t, ↓x_str, ↓x_intI, ↓x_intB, ↓x_divmod, ↓x_max2, ↓x_min2, ↓x_ixS, ↓x_slS, ↓x_slT, ↓x_slL_l, ↓x_slL_k, ↓x_inS, ↓x_newT, ↓x_newF, ↓x_si, ↓x_s1, ↓x_s0, ↓x_rpart, ↓x_part, ↓x_a1, ↓x_a2, ↓x_isiStr, ↓x_isiInt, ↓x_isiIntB, ↓x_isiIntS, ↓x_isiBB, ↓x_isiBI, ↓x_isiStrI, ↓x_isiNonI, ↓x_isiNonS, ↓x_isiT, ↓x_isiL, ↓x_var0, ↓x_varS, ↓x_ex, ↓x_aug0, gat, pick, Option.some.injEq, D.bl.injEq, D.int.injEq, D.str.injEq, D.tup.injEq, D.lst.injEq, List.cons.injEq, and_true, true_and, List.set_cons_zero, List.set_cons_succ, List.length_cons, List.length_nil, List.filterMap_cons, List.filterMap_nil, List.getElem?_cons_zero, List.getElem?_cons_succ, Option.bind_some, ↓reduceIte, if_true, if_false, Bool.false_eq_true, Bool.true_eq_false, decide_eq_true_eq, beq_self_eq_true, Bool.not_true, Bool.not_false, Bool.not_eq_true', decide_eq_false_iff_not, exists_eq_left', exists_eq_left, exists_eq, ↓x_dnT, ↓x_dnF, ↓gAsgL, ↓gMMDef, ↓gDSet, ↓gSItems, ↓x_nilL, ↓x_nilE, List.isEmpty_nil, List.isEmpty_cons, Bool.true_xor, Bool.false_xor, ↓gOrT, ↓gAndT, ↓gTryAs, ↓gTryO, ↓gRaise, ↓gCallX, ↓gMethX, ↓gMakeX, ↓gFldX, ↓x_inXs, Bool.false_xor, Bool.true_xor, ↓x_fmtRS, ↓x_afRS, ↓x_afRI, ↓x_stO, ↓x_zipS, ↓x_zipE, ↓x_zipSL, ↓x_zipST, ↓x_zipEL, ↓x_augix, ↓x_isB, ↓x_notB, ↓gLR1, ↓gLR2, ↓gDIxT, ↓gDGt1T, ↓gDSetT, ↓gDNewT, ↓gDIx, ↓gDGt1, ↓gDGt2, ↓gDIn, ↓gDSetd, ↓gDPop1, ↓gDPop2, ↓gTIdx, ↓gLKeys, ↓gDisp, ↓x_enumK, ↓x_enumKL]
  exact ⟨by decide, h⟩
theorem rf_Book_str (T : Txt K mg a) : ∀ ds S q, D.unders S.length ds = true → Sto.under S.length S = true → sp_Book_str a ds S q → g_Book_str K a { nx := fun _ S' => fin S.length q .non S', rt := fin S.length q } (startD N_Book_str ds) S := by
  rintro ds S q hu hs ⟨n, j, b, R, rfl, hB, hb, hR, hl, h⟩
  rw [st_Book_str]
  have hs' : 100000 ≤ sizeLine := by decide
  simp only [g_Book_str, ↓bk_kept T hB, ↓bk_bank T hB, ↓x_eqSS, ↓x_neSS, ↓gKGet, ↓x_kget, ↓x_ixE, at_last, ↓x_appE, ↓x_tyE, ↓x_itE, ↓x_lenE, ↓x_nePr, ↓x_eqPr, ↓x_neE, ↓x_lenr, ↓x_lenrI, ↓gRev, ↓x_par3, ↓x_par33, ↓x_fld, ↓x_fset, ↓x_mkF, ↓x_mk, ↓x_meth, ↓x_fldO, ↓x_fsetE, ↓x_fldE, ↓x_methO, ↓x_isiCO, ↓x_isiCN, ↓x_isiCT, ↓x_isiCLi, ↓x_isiCS, ↓x_isiCI, ↓x_own, ↓x_eqT2, ↓x_neT2, ↓x_neL4, ↓x_eqLN, ↓x_neNil, ↓x_gset, ↓x_lc, ↓x_for, ↓x_it, ↓x_rn1, ↓x_rn2, ↓x_enu, ↓x_zip, ↓x_itS, ↓x_itL, ↓x_itK, ↓x_itT, ↓x_rn1I, ↓x_rn2I, ↓x_enuL, ↓x_enuK, ↓x_zipL, ↓x_ixS0, ↓x_ixL, ↓x_ixT, ↓x_ixK, x_at0, x_at1, x_at2, x_at3, x_at4, ↓x_set00, ↓x_set01, ↓x_set02, ↓x_aug1, ↓x_aug2, ↓x_aug3, ↓x_aug4, ↓x_aug5, ↓x_aug6, ↓x_aug7, ↓x_aug8, ↓x_aug9, ↓x_aug10, ↓x_aug11, ↓x_aug12, ↓x_aug13, ↓x_aug14, ↓x_aug15, ↓x_aug16, ↓x_aug17, ↓x_aug18, ↓x_aug19, ↓x_aug20, ↓x_aug21, ↓x_aug22, ↓x_aug23, Int.reduceToNat, Int.reducePow, ↓gSeq, ↓gIfS, ↓gSet, ↓gAsg, ↓x_par, ↓x_par2, ↓gRet, ↓gRetN, ↓gNext, ↓gDrop, ↓gBreak, ↓gCont, ↓gDead, ↓gCB, ↓gB2, ↓gU, ↓gC, ↓Dl.gCons, ↓Dl.gNil, ↓Dl.gTup, ↓Dl.gLst, ↓gTest, ↓gOrB, ↓gAndB, ↓gNotB, ↓gAndV, ↓gOrV, ↓gNotV, ↓gIf, ↓gIx, ↓gSl, ↓gPart, ↓gNoP, ↓gMt, ↓gCall, ↓gArgs, ↓gIsN, ↓gNotN, ↓gChain, ↓x_fmtS, ↓x_afS, ↓x_afI, ↓x_js0, ↓x_jsc, ↓gJoined, ↓gYes, ↓x_bnm, ↓x_btp, ↓x_bn, ↓x_bc, ↓x_nnN, ↓x_nnI, ↓x_nnS, ↓x_nnB, ↓x_nnT, ↓x_nnL, ↓x_nnO, ↓x_nnl, ↓x_tyS, ↓x_tyL, ↓x_i2, ↓aSub, ↓aFdiv, ↓aMod, ↓aPow, ↓aShr, ↓aLt, ↓aLe, ↓aGt, ↓aGe, ↓x_addI, ↓x_addS, ↓x_mulI, ↓x_iaddS, ↓x_iaddI, ↓x_neg, ↓x_eqI, ↓x_neI, ↓x_eqS, ↓x_neS, ↓x_eqB, ↓x_neB, ↓x_eqNI, ↓x_neNI, ↓x_lenS, ↓x_lenL_l, ↓x_lenL_k, ↓x_lenL_t, ↓x_str, ↓x_intI, ↓x_intB, ↓x_divmod, ↓x_max2, ↓x_min2, ↓x_ixS, ↓x_slS, ↓x_slT, ↓x_slL_l, ↓x_slL_k, ↓x_inS, ↓x_newT, ↓x_newF, ↓x_si, ↓x_s1, ↓x_s0, ↓x_rpart, ↓x_part, ↓x_a1, ↓x_a2, ↓x_isiStr, ↓x_isiInt, ↓x_isiIntB, ↓x_isiIntS, ↓x_isiBB, ↓x_isiBI, ↓x_isiStrI, ↓x_isiNonI, ↓x_isiNonS, ↓x_isiT, ↓x_isiL, ↓x_var0, ↓x_varS, ↓x_ex, ↓x_aug0, gat, pick, Option.some.injEq, D.bl.injEq, D.int.injEq, D.str.injEq, D.tup.injEq, D.lst.injEq, List.cons.injEq, and_true, true_and, List.set_cons_zero, List.set_cons_succ, List.length_cons, List.length_nil, List.filterMap_cons, List.filterMap_nil, List.getElem?_cons_zero, List.getElem?_cons_succ, Option.bind_some, ↓reduceIte, if_true, if_false, Bool.false_eq_true, Bool.true_eq_false, decide_eq_true_eq, beq_self_eq_true, Bool.not_true, Bool.not_false, Bool.not_eq_true', decide_eq_false_iff_not, exists_eq_left', exists_eq_left, exists_eq, ↓x_dnT, ↓x_dnF, ↓gAsgL, ↓gMMDef, ↓gDSet, ↓gSItems, ↓x_nilL, ↓x_nilE, List.isEmpty_nil, List.isEmpty_cons, Bool.true_xor, Bool.false_xor, ↓gOrT, ↓gAndT, ↓gTryAs, ↓gTryO, ↓gRaise, ↓gCallX, ↓gMethX, ↓gMakeX, ↓gFldX, ↓x_inXs, Bool.false_xor, Bool.true_xor, ↓x_fmtRS, ↓x_afRS, ↓x_afRI, ↓x_stO, ↓x_zipS, ↓x_zipE, ↓x_zipSL, ↓x_zipST, ↓x_zipEL, ↓x_augix, ↓x_isB, ↓x_notB, ↓gLR1, ↓gLR2, ↓gDIxT, ↓gDGt1T, ↓gDSetT, ↓gDNewT, ↓gDIx, ↓gDGt1, ↓gDGt2, ↓gDIn, ↓gDSetd, ↓gDPop1, ↓gDPop2, ↓gTIdx, ↓gLKeys, ↓gDisp, ↓x_enumK, ↓x_enumKL]
  refine ⟨by decide, ?_⟩
  rw [bk_kept T hB.app, x_itO (bk_seq hB.app)]
  refine ⟨fun i ρ S' => S' = S ++ [some (.lst ((b :: (R.take i).map rowT).map .str))] ∧ ∃ x2 x3 x4, ρ = [some (.loc n), some (.loc S.length), x2, x3, x4], ⟨rfl, _, _, _, rfl⟩, ?_, ?_⟩
  · rintro i d ρ S' hd ⟨rfl, x2, x3, x4, rfl⟩
    rw [List.getElem?_map] at hd
    obtain ⟨r, hr, rfl⟩ := Option.map_eq_some_iff.mp hd
    have hok := hR r (List.mem_of_getElem? hr)
    refine ⟨bk_seq hB.app, _, x_b3, ?_⟩
    simp only [↓x_eqSS, ↓x_neSS, ↓gKGet, ↓x_kget, ↓x_ixE, at_last, ↓x_appE, ↓x_tyE, ↓x_itE, ↓x_lenE, ↓x_nePr, ↓x_eqPr, ↓x_neE, ↓x_lenr, ↓x_lenrI, ↓gRev, ↓x_par3, ↓x_par33, ↓x_fld, ↓x_fset, ↓x_mkF, ↓x_mk, ↓x_meth, ↓x_fldO, ↓x_fsetE, ↓x_fldE, ↓x_methO, ↓x_isiCO, ↓x_isiCN, ↓x_isiCT, ↓x_isiCLi, ↓x_isiCS, ↓x_isiCI, ↓x_own, ↓x_eqT2, ↓x_neT2, ↓x_neL4, ↓x_eqLN, ↓x_neNil, ↓x_gset, ↓x_lc, ↓x_for, ↓x_it, ↓x_rn1, ↓x_rn2, ↓x_enu, ↓x_zip, ↓x_itS, ↓x_itL, ↓x_itK, ↓x_itT, ↓x_rn1I, ↓x_rn2I, ↓x_enuL, ↓x_enuK, ↓x_zipL, ↓x_ixS0, ↓x_ixL, ↓x_ixT, ↓x_ixK, x_at0, x_at1, x_at2, x_at3, x_at4, ↓x_set00, ↓x_set01, ↓x_set02, ↓x_aug1, ↓x_aug2, ↓x_aug3, ↓x_aug4, ↓x_aug5, ↓x_aug6, ↓x_aug7, ↓x_aug8, ↓x_aug9, ↓x_aug10, ↓x_aug11, ↓x_aug12, ↓x_aug13, ↓x_aug14, ↓x_aug15, ↓x_aug16, ↓x_aug17, ↓x_aug18, ↓x_aug19, ↓x_aug20, ↓x_aug21, ↓x_aug22, ↓x_aug23, Int.reduceToNat, Int.reducePow, ↓gSeq, ↓gIfS, ↓gSet, ↓gAsg, ↓x_par, ↓x_par2, ↓gRet, ↓gRetN, ↓gNext, ↓gDrop, ↓gBreak, ↓gCont, ↓gDead, ↓gCB, ↓gB2, ↓gU, ↓gC, ↓Dl.gCons, ↓Dl.gNil, ↓Dl.gTup, ↓Dl.gLst, ↓gTest, ↓gOrB, ↓gAndB, ↓gNotB, ↓gAndV, ↓gOrV, ↓gNotV, ↓gIf, ↓gIx, ↓gSl, ↓gPart, ↓gNoP, ↓gMt, ↓gCall, ↓gArgs, ↓gIsN, ↓gNotN, ↓gChain, ↓x_fmtS, ↓x_afS, ↓x_afI, ↓x_js0, ↓x_jsc, ↓gJoined, ↓gYes, ↓x_bnm, ↓x_btp, ↓x_bn, ↓x_bc, ↓x_nnN, ↓x_nnI, ↓x_nnS, ↓x_nnB, ↓x_nnT, ↓x_nnL, ↓x_nnO, ↓x_nnl, ↓x_tyS, ↓x_tyL, ↓x_i2, ↓aSub, ↓aFdiv, ↓aMod, ↓aPow, ↓aShr, ↓aLt, ↓aLe, ↓aGt, ↓aGe, ↓x_addI, ↓x_addS, ↓x_mulI, ↓x_iaddS, ↓x_iaddI, ↓x_neg, ↓x_eqI, ↓x_neI, ↓x_eqS, ↓x_neS, ↓x_eqB, ↓x_neB, ↓x_eqNI, ↓x_neNI, ↓x_lenS, ↓x_lenL_l, ↓x_lenL_k, ↓x_lenL_t, ↓x_str, ↓x_intI, ↓x_intB, ↓x_divmod, ↓x_max2, ↓x_min2, ↓x_ixS, ↓x_slS, ↓x_slT, ↓x_slL_l, ↓x_slL_k, ↓x_inS, ↓x_newT, ↓x_newF, ↓x_si, ↓x_s1, ↓x_s0, ↓x_rpart, ↓x_part, ↓x_a1, ↓x_a2, ↓x_isiStr, ↓x_isiInt, ↓x_isiIntB, ↓x_isiIntS, ↓x_isiBB, ↓x_isiBI, ↓x_isiStrI, ↓x_isiNonI, ↓x_isiNonS, ↓x_isiT, ↓x_isiL, ↓x_var0, ↓x_varS, ↓x_ex, ↓x_aug0, gat, pick, Option.some.injEq, D.bl.injEq, D.int.injEq, D.str.injEq, D.tup.injEq, D.lst.injEq, List.cons.injEq, and_true, true_and, List.set_cons_zero, List.set_cons_succ, List.length_cons, List.length_nil, List.filterMap_cons, List.filterMap_nil, List.getElem?_cons_zero, List.getElem?_cons_succ, Option.bind_some, ↓reduceIte, if_true, if_false, Bool.false_eq_true, Bool.true_eq_false, decide_eq_true_eq, beq_self_eq_true, Bool.not_true, Bool.not_false, Bool.not_eq_true', decide_eq_false_iff_not, exists_eq_left', exists_eq_left, exists_eq, ↓x_dnT, ↓x_dnF, ↓gAsgL, ↓gMMDef, ↓gDSet, ↓gSItems, ↓x_nilL, ↓x_nilE, List.isEmpty_nil, List.isEmpty_cons, Bool.true_xor, Bool.false_xor, ↓gOrT, ↓gAndT, ↓gTryAs, ↓gTryO, ↓gRaise, ↓gCallX, ↓gMethX, ↓gMakeX, ↓gFldX, ↓x_inXs, Bool.false_xor, Bool.true_xor, ↓x_fmtRS, ↓x_afRS, ↓x_afRI, ↓x_stO, ↓x_zipS, ↓x_zipE, ↓x_zipSL, ↓x_zipST, ↓x_zipEL, ↓x_augix, ↓x_isB, ↓x_notB, ↓gLR1, ↓gLR2, ↓gDIxT, ↓gDGt1T, ↓gDSetT, ↓gDNewT, ↓gDIx, ↓gDGt1, ↓gDGt2, ↓gDIn, ↓gDSetd, ↓gDPop1, ↓gDPop2, ↓gTIdx, ↓gLKeys, ↓gDisp, ↓x_enumK, ↓x_enumKL]
    have h1 := Mt.T_len hok.1
    have h2 := (wd_ok hok.2.1).2
    have h3 := hok.2.2.2.1
    have h4 : spS.length = 1 := by decide +kernel
    have h5 : (Str.ofString " ") = spS := rfl
    have h6 : Str.empty.length = 0 := rfl
    have hrow : Str.empty ++ Mt.T r.m ++ Str.ofString " " ++ r.w ++ Str.ofString " " ++ r.n = rowT r := by
      refine TL.ext_tl ?_
      unfold rowT
      simp only [TL.tl_append, h5]
      rfl
    refine ⟨r.m, rfl, by have := hok.1; omega, ?_⟩
    simp only [↓x_eqSS, ↓x_neSS, ↓gKGet, ↓x_kget, ↓x_ixE, at_last, ↓x_appE, ↓x_tyE, ↓x_itE, ↓x_lenE, ↓x_nePr, ↓x_eqPr, ↓x_neE, ↓x_lenr, ↓x_lenrI, ↓gRev, ↓x_par3, ↓x_par33, ↓x_fld, ↓x_fset, ↓x_mkF, ↓x_mk, ↓x_meth, ↓x_fldO, ↓x_fsetE, ↓x_fldE, ↓x_methO, ↓x_isiCO, ↓x_isiCN, ↓x_isiCT, ↓x_isiCLi, ↓x_isiCS, ↓x_isiCI, ↓x_own, ↓x_eqT2, ↓x_neT2, ↓x_neL4, ↓x_eqLN, ↓x_neNil, ↓x_gset, ↓x_lc, ↓x_for, ↓x_it, ↓x_rn1, ↓x_rn2, ↓x_enu, ↓x_zip, ↓x_itS, ↓x_itL, ↓x_itK, ↓x_itT, ↓x_rn1I, ↓x_rn2I, ↓x_enuL, ↓x_enuK, ↓x_zipL, ↓x_ixS0, ↓x_ixL, ↓x_ixT, ↓x_ixK, x_at0, x_at1, x_at2, x_at3, x_at4, ↓x_set00, ↓x_set01, ↓x_set02, ↓x_aug1, ↓x_aug2, ↓x_aug3, ↓x_aug4, ↓x_aug5, ↓x_aug6, ↓x_aug7, ↓x_aug8, ↓x_aug9, ↓x_aug10, ↓x_aug11, ↓x_aug12, ↓x_aug13, ↓x_aug14, ↓x_aug15, ↓x_aug16, ↓x_aug17, ↓x_aug18, ↓x_aug19, ↓x_aug20, ↓x_aug21, ↓x_aug22, ↓x_aug23, Int.reduceToNat, Int.reducePow, ↓gSeq, ↓gIfS, ↓gSet, ↓gAsg, ↓x_par, ↓x_par2, ↓gRet, ↓gRetN, ↓gNext, ↓gDrop, ↓gBreak, ↓gCont, ↓gDead, ↓gCB, ↓gB2, ↓gU, ↓gC, ↓Dl.gCons, ↓Dl.gNil, ↓Dl.gTup, ↓Dl.gLst, ↓gTest, ↓gOrB, ↓gAndB, ↓gNotB, ↓gAndV, ↓gOrV, ↓gNotV, ↓gIf, ↓gIx, ↓gSl, ↓gPart, ↓gNoP, ↓gMt, ↓gCall, ↓gArgs, ↓gIsN, ↓gNotN, ↓gChain, ↓x_fmtS, ↓x_afS, ↓x_afI, ↓x_js0, ↓x_jsc, ↓gJoined, ↓gYes, ↓x_bnm, ↓x_btp, ↓x_bn, ↓x_bc, ↓x_nnN, ↓x_nnI, ↓x_nnS, ↓x_nnB, ↓x_nnT, ↓x_nnL, ↓x_nnO, ↓x_nnl, ↓x_tyS, ↓x_tyL, ↓x_i2, ↓aSub, ↓aFdiv, ↓aMod, ↓aPow, ↓aShr, ↓aLt, ↓aLe, ↓aGt, ↓aGe, ↓x_addI, ↓x_addS, ↓x_mulI, ↓x_iaddS, ↓x_iaddI, ↓x_neg, ↓x_eqI, ↓x_neI, ↓x_eqS, ↓x_neS, ↓x_eqB, ↓x_neB, ↓x_eqNI, ↓x_neNI, ↓x_lenS, ↓x_lenL_l, ↓x_lenL_k, ↓x_lenL_t, ↓x_str, ↓x_intI, ↓x_intB, ↓x_divmod, ↓x_max2, ↓x_min2, ↓x_ixS, ↓x_slS, ↓x_slT, ↓x_slL_l, ↓x_slL_k, ↓x_inS, ↓x_newT, ↓x_newF, ↓x_si, ↓x_s1, ↓x_s0, ↓x_rpart, ↓x_part, ↓x_a1, ↓x_a2, ↓x_isiStr, ↓x_isiInt, ↓x_isiIntB, ↓x_isiIntS, ↓x_isiBB, ↓x_isiBI, ↓x_isiStrI, ↓x_isiNonI, ↓x_isiNonS, ↓x_isiT, ↓x_isiL, ↓x_var0, ↓x_varS, ↓x_ex, ↓x_aug0, gat, pick, Option.some.injEq, D.bl.injEq, D.int.injEq, D.str.injEq, D.tup.injEq, D.lst.injEq, List.cons.injEq, and_true, true_and, List.set_cons_zero, List.set_cons_succ, List.length_cons, List.length_nil, List.filterMap_cons, List.filterMap_nil, List.getElem?_cons_zero, List.getElem?_cons_succ, Option.bind_some, ↓reduceIte, if_true, if_false, Bool.false_eq_true, Bool.true_eq_false, decide_eq_true_eq, beq_self_eq_true, Bool.not_true, Bool.not_false, Bool.not_eq_true', decide_eq_false_iff_not, exists_eq_left', exists_eq_left, exists_eq, ↓x_dnT, ↓x_dnF, ↓gAsgL, ↓gMMDef, ↓gDSet, ↓gSItems, ↓x_nilL, ↓x_nilE, List.isEmpty_nil, List.isEmpty_cons, Bool.true_xor, Bool.false_xor, ↓gOrT, ↓gAndT, ↓gTryAs, ↓gTryO, ↓gRaise, ↓gCallX, ↓gMethX, ↓gMakeX, ↓gFldX, ↓x_inXs, Bool.false_xor, Bool.true_xor, ↓x_fmtRS, ↓x_afRS, ↓x_afRI, ↓x_stO, ↓x_zipS, ↓x_zipE, ↓x_zipSL, ↓x_zipST, ↓x_zipEL, ↓x_augix, ↓x_isB, ↓x_notB, ↓gLR1, ↓gLR2, ↓gDIxT, ↓gDGt1T, ↓gDSetT, ↓gDNewT, ↓gDIx, ↓gDGt1, ↓gDGt2, ↓gDIn, ↓gDSetd, ↓gDPop1, ↓gDPop2, ↓gTIdx, ↓gLKeys, ↓gDisp, ↓x_enumK, ↓x_enumKL]
    rw [hrow]
    simp only [h5, Mt.len_app]
    have h7 := row_len hok
    have h8 : i < R.length := (List.getElem?_eq_some_iff.mp hr).1
    refine ⟨by omega, by omega, by omega, by omega, by omega, by omega, by omega, by omega, by simp; omega, ?_, _, _, _, rfl, rfl, rfl⟩
    rw [take_snoc hr]
    simp
  · rintro ρ S' ⟨rfl, x2, x3, x4, rfl⟩
    refine ⟨bk_seq hB.app, ?_⟩
    simp only [↓x_eqSS, ↓x_neSS, ↓gKGet, ↓x_kget, ↓x_ixE, at_last, ↓x_appE, ↓x_tyE, ↓x_itE, ↓x_lenE, ↓x_nePr, ↓x_eqPr, ↓x_neE, ↓x_lenr, ↓x_lenrI, ↓gRev, ↓x_par3, ↓x_par33, ↓x_fld, ↓x_fset, ↓x_mkF, ↓x_mk, ↓x_meth, ↓x_fldO, ↓x_fsetE, ↓x_fldE, ↓x_methO, ↓x_isiCO, ↓x_isiCN, ↓x_isiCT, ↓x_isiCLi, ↓x_isiCS, ↓x_isiCI, ↓x_own, ↓x_eqT2, ↓x_neT2, ↓x_neL4, ↓x_eqLN, ↓x_neNil, ↓x_gset, ↓x_lc, ↓x_for, ↓x_it, ↓x_rn1, ↓x_rn2, ↓x_enu, ↓x_zip, ↓x_itS, ↓x_itL, ↓x_itK, ↓x_itT, ↓x_rn1I, ↓x_rn2I, ↓x_enuL, ↓x_enuK, ↓x_zipL, ↓x_ixS0, ↓x_ixL, ↓x_ixT, ↓x_ixK, x_at0, x_at1, x_at2, x_at3, x_at4, ↓x_set00, ↓x_set01, ↓x_set02, ↓x_aug1, ↓x_aug2, ↓x_aug3, ↓x_aug4, ↓x_aug5, ↓x_aug6, ↓x_aug7, ↓x_aug8, ↓x_aug9, ↓x_aug10, ↓x_aug11, ↓x_aug12, ↓x_aug13, ↓x_aug14, ↓x_aug15, ↓x_aug16, ↓x_aug17, ↓x_aug18, ↓x_aug19, ↓x_aug20, ↓x_aug21, ↓x_aug22, ↓x_aug23, Int.reduceToNat, Int.reducePow, ↓gSeq, ↓gIfS, ↓gSet, ↓gAsg, ↓x_par, ↓x_par2, ↓gRet, ↓gRetN, ↓gNext, ↓gDrop, ↓gBreak, ↓gCont, ↓gDead, ↓gCB, ↓gB2, ↓gU, ↓gC, ↓Dl.gCons, ↓Dl.gNil, ↓Dl.gTup, ↓Dl.gLst, ↓gTest, ↓gOrB, ↓gAndB, ↓gNotB, ↓gAndV, ↓gOrV, ↓gNotV, ↓gIf, ↓gIx, ↓gSl, ↓gPart, ↓gNoP, ↓gMt, ↓gCall, ↓gArgs, ↓gIsN, ↓gNotN, ↓gChain, ↓x_fmtS, ↓x_afS, ↓x_afI, ↓x_js0, ↓x_jsc, ↓gJoined, ↓gYes, ↓x_bnm, ↓x_btp, ↓x_bn, ↓x_bc, ↓x_nnN, ↓x_nnI, ↓x_nnS, ↓x_nnB, ↓x_nnT, ↓x_nnL, ↓x_nnO, ↓x_nnl, ↓x_tyS, ↓x_tyL, ↓x_i2, ↓aSub, ↓aFdiv, ↓aMod, ↓aPow, ↓aShr, ↓aLt, ↓aLe, ↓aGt, ↓aGe, ↓x_addI, ↓x_addS, ↓x_mulI, ↓x_iaddS, ↓x_iaddI, ↓x_neg, ↓x_eqI, ↓x_neI, ↓x_eqS, ↓x_neS, ↓x_eqB, ↓x_neB, ↓x_eqNI, ↓x_neNI, ↓x_lenS, ↓x_lenL_l, ↓x_lenL_k, ↓x_lenL_t, ↓x_str, ↓x_intI, ↓x_intB, ↓x_divmod, ↓x_max2, ↓x_min2, ↓x_ixS, ↓x_slS, ↓x_slT, ↓x_slL_l, ↓x_slL_k, ↓x_inS, ↓x_newT, ↓x_newF, ↓x_si, ↓x_s1, ↓x_s0, ↓x_rpart, ↓x_part, ↓x_a1, ↓x_a2, ↓x_isiStr, ↓x_isiInt, ↓x_isiIntB, ↓x_isiIntS, ↓x_isiBB, ↓x_isiBI, ↓x_isiStrI, ↓x_isiNonI, ↓x_isiNonS, ↓x_isiT, ↓x_isiL, ↓x_var0, ↓x_varS, ↓x_ex, ↓x_aug0, gat, pick, Option.some.injEq, D.bl.injEq, D.int.injEq, D.str.injEq, D.tup.injEq, D.lst.injEq, List.cons.injEq, and_true, true_and, List.set_cons_zero, List.set_cons_succ, List.length_cons, List.length_nil, List.filterMap_cons, List.filterMap_nil, List.getElem?_cons_zero, List.getElem?_cons_succ, Option.bind_some, ↓reduceIte, if_true, if_false, Bool.false_eq_true, Bool.true_eq_false, decide_eq_true_eq, beq_self_eq_true, Bool.not_true, Bool.not_false, Bool.not_eq_true', decide_eq_false_iff_not, exists_eq_left', exists_eq_left, exists_eq, ↓x_dnT, ↓x_dnF, ↓gAsgL, ↓gMMDef, ↓gDSet, ↓gSItems, ↓x_nilL, ↓x_nilE, List.isEmpty_nil, List.isEmpty_cons, Bool.true_xor, Bool.false_xor, ↓gOrT, ↓gAndT, ↓gTryAs, ↓gTryO, ↓gRaise, ↓gCallX, ↓gMethX, ↓gMakeX, ↓gFldX, ↓x_inXs, Bool.false_xor, Bool.true_xor, ↓x_fmtRS, ↓x_afRS, ↓x_afRI, ↓x_stO, ↓x_zipS, ↓x_zipE, ↓x_zipSL, ↓x_zipST, ↓x_zipEL, ↓x_augix, ↓x_isB, ↓x_notB, ↓gLR1, ↓gLR2, ↓gDIxT, ↓gDGt1T, ↓gDSetT, ↓gDNewT, ↓gDIx, ↓gDGt1, ↓gDGt2, ↓gDIn, ↓gDSetd, ↓gDPop1, ↓gDPop2, ↓gTIdx, ↓gLKeys, ↓gDisp, ↓x_enumK, ↓x_enumKL]
    rw [List.length_map, List.take_length]
    have := bk_fit hb hR hl
    exact ⟨_, _, b :: R.map rowT, rfl, rfl, by simp [seqOf], by omega, (x_finS hs).mpr h⟩
theorem r__law_text : ∀ ds S q, sp__law_text a ds S q → g__law_text K a { nx := fun _ S' => q .non S', rt := q } (startD N__law_text ds) S := by
  rintro ds S q ⟨b, R, rfl, hb, hR, hl, h⟩
  rw [st__law_text]
  have hs' : 100000 ≤ sizeLine := by decide
  simp only [g__law_text, ↓x_eqSS, ↓x_neSS, ↓gKGet, ↓x_kget, ↓x_ixE, at_last, ↓x_appE, ↓x_tyE, ↓x_itE, ↓x_lenE, ↓x_nePr, ↓x_eqPr, ↓x_neE, ↓x_lenr, ↓x_lenrI, ↓gRev, ↓x_par3, ↓x_par33, ↓x_fld, ↓x_fset, ↓x_mkF, ↓x_mk, ↓x_meth, ↓x_fldO, ↓x_fsetE, ↓x_fldE, ↓x_methO, ↓x_isiCO, ↓x_isiCN, ↓x_isiCT, ↓x_isiCLi, ↓x_isiCS, ↓x_isiCI, ↓x_own, ↓x_eqT2, ↓x_neT2, ↓x_neL4, ↓x_eqLN, ↓x_neNil, ↓x_gset, ↓x_lc, ↓x_for, ↓x_it, ↓x_rn1, ↓x_rn2, ↓x_enu, ↓x_zip, ↓x_itS, ↓x_itL, ↓x_itK, ↓x_itT, ↓x_rn1I, ↓x_rn2I, ↓x_enuL, ↓x_enuK, ↓x_zipL, ↓x_ixS0, ↓x_ixL, ↓x_ixT, ↓x_ixK, x_at0, x_at1, x_at2, x_at3, x_at4, ↓x_set00, ↓x_set01, ↓x_set02, ↓x_aug1, ↓x_aug2, ↓x_aug3, ↓x_aug4, ↓x_aug5, ↓x_aug6, ↓x_aug7, ↓x_aug8, ↓x_aug9, ↓x_aug10, ↓x_aug11, ↓x_aug12, ↓x_aug13, ↓x_aug14, ↓x_aug15, ↓x_aug16, ↓x_aug17, ↓x_aug18, ↓x_aug19, ↓x_aug20, ↓x_aug21, ↓x_aug22, ↓x_aug23, Int.reduceToNat, Int.reducePow, ↓gSeq, ↓gIfS, ↓gSet, ↓gAsg, ↓x_par, ↓x_par2, ↓gRet, ↓gRetN, ↓gNext, ↓gDrop, ↓gBreak, ↓gCont, ↓gDead, ↓gCB, ↓gB2, ↓gU, ↓gC, ↓Dl.gCons, ↓Dl.gNil, ↓Dl.gTup, ↓Dl.gLst, ↓gTest, ↓gOrB, ↓gAndB, ↓gNotB, ↓gAndV, ↓gOrV, ↓gNotV, ↓gIf, ↓gIx, ↓gSl, ↓gPart, ↓gNoP, ↓gMt, ↓gCall, ↓gArgs, ↓gIsN, ↓gNotN, ↓gChain, ↓x_fmtS, ↓x_afS, ↓x_afI, ↓x_js0, ↓x_jsc, ↓gJoined, ↓gYes, ↓x_bnm, ↓x_btp, ↓x_bn, ↓x_bc, ↓x_nnN, ↓x_nnI, ↓x_nnS, ↓x_nnB, ↓x_nnT, ↓x_nnL, ↓x_nnO, ↓x_nnl, ↓x_tyS, ↓x_tyL, ↓x_i2, ↓aSub, ↓aFdiv, ↓aMod, ↓aPow, ↓aShr, ↓aLt, ↓aLe, ↓aGt, ↓aGe, ↓x_addI, ↓x_addS, ↓x_mulI, ↓x_iaddS, ↓x_iaddI, ↓x_neg, ↓x_eqI, ↓x_neI, ↓x_eqS, ↓x_neS, ↓x_eqB, ↓x_neB, ↓x_eqNI, ↓x_neNI, ↓x_lenS, ↓x_lenL_l, ↓x_lenL_k, ↓x_lenL_t, ↓x_str, ↓x_intI, ↓x_intB, ↓x_divmod, ↓x_max2, ↓x_min2, ↓x_ixS, ↓x_slS, ↓x_slT, ↓x_slL_l, ↓x_slL_k, ↓x_inS, ↓x_newT, ↓x_newF, ↓x_si, ↓x_s1, ↓x_s0, ↓x_rpart, ↓x_part, ↓x_a1, ↓x_a2, ↓x_isiStr, ↓x_isiInt, ↓x_isiIntB, ↓x_isiIntS, ↓x_isiBB, ↓x_isiBI, ↓x_isiStrI, ↓x_isiNonI, ↓x_isiNonS, ↓x_isiT, ↓x_isiL, ↓x_var0, ↓x_varS, ↓x_ex, ↓x_aug0, gat, pick, Option.some.injEq, D.bl.injEq, D.int.injEq, D.str.injEq, D.tup.injEq, D.lst.injEq, List.cons.injEq, and_true, true_and, List.set_cons_zero, List.set_cons_succ, List.length_cons, List.length_nil, List.filterMap_cons, List.filterMap_nil, List.getElem?_cons_zero, List.getElem?_cons_succ, Option.bind_some, ↓reduceIte, if_true, if_false, Bool.false_eq_true, Bool.true_eq_false, decide_eq_true_eq, beq_self_eq_true, Bool.not_true, Bool.not_false, Bool.not_eq_true', decide_eq_false_iff_not, exists_eq_left', exists_eq_left, exists_eq, ↓x_dnT, ↓x_dnF, ↓gAsgL, ↓gMMDef, ↓gDSet, ↓gSItems, ↓x_nilL, ↓x_nilE, List.isEmpty_nil, List.isEmpty_cons, Bool.true_xor, Bool.false_xor, ↓gOrT, ↓gAndT, ↓gTryAs, ↓gTryO, ↓gRaise, ↓gCallX, ↓gMethX, ↓gMakeX, ↓gFldX, ↓x_inXs, Bool.false_xor, Bool.true_xor, ↓x_fmtRS, ↓x_afRS, ↓x_afRI, ↓x_stO, ↓x_zipS, ↓x_zipE, ↓x_zipSL, ↓x_zipST, ↓x_zipEL, ↓x_augix, ↓x_isB, ↓x_notB, ↓gLR1, ↓gLR2, ↓gDIxT, ↓gDGt1T, ↓gDSetT, ↓gDNewT, ↓gDIx, ↓gDGt1, ↓gDGt2, ↓gDIn, ↓gDSetd, ↓gDPop1, ↓gDPop2, ↓gTIdx, ↓gLKeys, ↓gDisp, ↓x_enumK, ↓x_enumKL]
  refine ⟨by decide, ?_⟩
  refine lc_on (F := rwD) (L := R) (fun r => some (.str (rowT r))) trivial (by omega) (fun r hr acc R1 hac hR1 => ⟨_, x_b3, ?_⟩) ?_
  · have hok := hR r hr
    have h1 := Mt.T_len hok.1
    have h2 := (wd_ok hok.2.1).2
    have h3 := hok.2.2.2.1
    have h4 : spS.length = 1 := by decide +kernel
    have h5 : (Str.ofString " ") = spS := rfl
    simp only [wipeD, ↓x_eqSS, ↓x_neSS, ↓gKGet, ↓x_kget, ↓x_ixE, at_last, ↓x_appE, ↓x_tyE, ↓x_itE, ↓x_lenE, ↓x_nePr, ↓x_eqPr, ↓x_neE, ↓x_lenr, ↓x_lenrI, ↓gRev, ↓x_par3, ↓x_par33, ↓x_fld, ↓x_fset, ↓x_mkF, ↓x_mk, ↓x_meth, ↓x_fldO, ↓x_fsetE, ↓x_fldE, ↓x_methO, ↓x_isiCO, ↓x_isiCN, ↓x_isiCT, ↓x_isiCLi, ↓x_isiCS, ↓x_isiCI, ↓x_own, ↓x_eqT2, ↓x_neT2, ↓x_neL4, ↓x_eqLN, ↓x_neNil, ↓x_gset, ↓x_lc, ↓x_for, ↓x_it, ↓x_rn1, ↓x_rn2, ↓x_enu, ↓x_zip, ↓x_itS, ↓x_itL, ↓x_itK, ↓x_itT, ↓x_rn1I, ↓x_rn2I, ↓x_enuL, ↓x_enuK, ↓x_zipL, ↓x_ixS0, ↓x_ixL, ↓x_ixT, ↓x_ixK, x_at0, x_at1, x_at2, x_at3, x_at4, ↓x_set00, ↓x_set01, ↓x_set02, ↓x_aug1, ↓x_aug2, ↓x_aug3, ↓x_aug4, ↓x_aug5, ↓x_aug6, ↓x_aug7, ↓x_aug8, ↓x_aug9, ↓x_aug10, ↓x_aug11, ↓x_aug12, ↓x_aug13, ↓x_aug14, ↓x_aug15, ↓x_aug16, ↓x_aug17, ↓x_aug18, ↓x_aug19, ↓x_aug20, ↓x_aug21, ↓x_aug22, ↓x_aug23, Int.reduceToNat, Int.reducePow, ↓gSeq, ↓gIfS, ↓gSet, ↓gAsg, ↓x_par, ↓x_par2, ↓gRet, ↓gRetN, ↓gNext, ↓gDrop, ↓gBreak, ↓gCont, ↓gDead, ↓gCB, ↓gB2, ↓gU, ↓gC, ↓Dl.gCons, ↓Dl.gNil, ↓Dl.gTup, ↓Dl.gLst, ↓gTest, ↓gOrB, ↓gAndB, ↓gNotB, ↓gAndV, ↓gOrV, ↓gNotV, ↓gIf, ↓gIx, ↓gSl, ↓gPart, ↓gNoP, ↓gMt, ↓gCall, ↓gArgs, ↓gIsN, ↓gNotN, ↓gChain, ↓x_fmtS, ↓x_afS, ↓x_afI, ↓x_js0, ↓x_jsc, ↓gJoined, ↓gYes, ↓x_bnm, ↓x_btp, ↓x_bn, ↓x_bc, ↓x_nnN, ↓x_nnI, ↓x_nnS, ↓x_nnB, ↓x_nnT, ↓x_nnL, ↓x_nnO, ↓x_nnl, ↓x_tyS, ↓x_tyL, ↓x_i2, ↓aSub, ↓aFdiv, ↓aMod, ↓aPow, ↓aShr, ↓aLt, ↓aLe, ↓aGt, ↓aGe, ↓x_addI, ↓x_addS, ↓x_mulI, ↓x_iaddS, ↓x_iaddI, ↓x_neg, ↓x_eqI, ↓x_neI, ↓x_eqS, ↓x_neS, ↓x_eqB, ↓x_neB, ↓x_eqNI, ↓x_neNI, ↓x_lenS, ↓x_lenL_l, ↓x_lenL_k, ↓x_lenL_t, ↓x_str, ↓x_intI, ↓x_intB, ↓x_divmod, ↓x_max2, ↓x_min2, ↓x_ixS, ↓x_slS, ↓x_slT, ↓x_slL_l, ↓x_slL_k, ↓x_inS, ↓x_newT, ↓x_newF, ↓x_si, ↓x_s1, ↓x_s0, ↓x_rpart, ↓x_part, ↓x_a1, ↓x_a2, ↓x_isiStr, ↓x_isiInt, ↓x_isiIntB, ↓x_isiIntS, ↓x_isiBB, ↓x_isiBI, ↓x_isiStrI, ↓x_isiNonI, ↓x_isiNonS, ↓x_isiT, ↓x_isiL, ↓x_var0, ↓x_varS, ↓x_ex, ↓x_aug0, gat, pick, Option.some.injEq, D.bl.injEq, D.int.injEq, D.str.injEq, D.tup.injEq, D.lst.injEq, List.cons.injEq, and_true, true_and, List.set_cons_zero, List.set_cons_succ, List.length_cons, List.length_nil, List.filterMap_cons, List.filterMap_nil, List.getElem?_cons_zero, List.getElem?_cons_succ, Option.bind_some, ↓reduceIte, if_true, if_false, Bool.false_eq_true, Bool.true_eq_false, decide_eq_true_eq, beq_self_eq_true, Bool.not_true, Bool.not_false, Bool.not_eq_true', decide_eq_false_iff_not, exists_eq_left', exists_eq_left, exists_eq, ↓x_dnT, ↓x_dnF, ↓gAsgL, ↓gMMDef, ↓gDSet, ↓gSItems, ↓x_nilL, ↓x_nilE, List.isEmpty_nil, List.isEmpty_cons, Bool.true_xor, Bool.false_xor, ↓gOrT, ↓gAndT, ↓gTryAs, ↓gTryO, ↓gRaise, ↓gCallX, ↓gMethX, ↓gMakeX, ↓gFldX, ↓x_inXs, Bool.false_xor, Bool.true_xor, ↓x_fmtRS, ↓x_afRS, ↓x_afRI, ↓x_stO, ↓x_zipS, ↓x_zipE, ↓x_zipSL, ↓x_zipST, ↓x_zipEL, ↓x_augix, ↓x_isB, ↓x_notB, ↓gLR1, ↓gLR2, ↓gDIxT, ↓gDGt1T, ↓gDSetT, ↓gDNewT, ↓gDIx, ↓gDGt1, ↓gDGt2, ↓gDIn, ↓gDSetd, ↓gDPop1, ↓gDPop2, ↓gTIdx, ↓gLKeys, ↓gDisp, ↓x_enumK, ↓x_enumKL]
    refine ⟨r.m, rfl, by have := hok.1; omega, ?_⟩
    rw [h5]
    simp only [↓x_eqSS, ↓x_neSS, ↓gKGet, ↓x_kget, ↓x_ixE, at_last, ↓x_appE, ↓x_tyE, ↓x_itE, ↓x_lenE, ↓x_nePr, ↓x_eqPr, ↓x_neE, ↓x_lenr, ↓x_lenrI, ↓gRev, ↓x_par3, ↓x_par33, ↓x_fld, ↓x_fset, ↓x_mkF, ↓x_mk, ↓x_meth, ↓x_fldO, ↓x_fsetE, ↓x_fldE, ↓x_methO, ↓x_isiCO, ↓x_isiCN, ↓x_isiCT, ↓x_isiCLi, ↓x_isiCS, ↓x_isiCI, ↓x_own, ↓x_eqT2, ↓x_neT2, ↓x_neL4, ↓x_eqLN, ↓x_neNil, ↓x_gset, ↓x_lc, ↓x_for, ↓x_it, ↓x_rn1, ↓x_rn2, ↓x_enu, ↓x_zip, ↓x_itS, ↓x_itL, ↓x_itK, ↓x_itT, ↓x_rn1I, ↓x_rn2I, ↓x_enuL, ↓x_enuK, ↓x_zipL, ↓x_ixS0, ↓x_ixL, ↓x_ixT, ↓x_ixK, x_at0, x_at1, x_at2, x_at3, x_at4, ↓x_set00, ↓x_set01, ↓x_set02, ↓x_aug1, ↓x_aug2, ↓x_aug3, ↓x_aug4, ↓x_aug5, ↓x_aug6, ↓x_aug7, ↓x_aug8, ↓x_aug9, ↓x_aug10, ↓x_aug11, ↓x_aug12, ↓x_aug13, ↓x_aug14, ↓x_aug15, ↓x_aug16, ↓x_aug17, ↓x_aug18, ↓x_aug19, ↓x_aug20, ↓x_aug21, ↓x_aug22, ↓x_aug23, Int.reduceToNat, Int.reducePow, ↓gSeq, ↓gIfS, ↓gSet, ↓gAsg, ↓x_par, ↓x_par2, ↓gRet, ↓gRetN, ↓gNext, ↓gDrop, ↓gBreak, ↓gCont, ↓gDead, ↓gCB, ↓gB2, ↓gU, ↓gC, ↓Dl.gCons, ↓Dl.gNil, ↓Dl.gTup, ↓Dl.gLst, ↓gTest, ↓gOrB, ↓gAndB, ↓gNotB, ↓gAndV, ↓gOrV, ↓gNotV, ↓gIf, ↓gIx, ↓gSl, ↓gPart, ↓gNoP, ↓gMt, ↓gCall, ↓gArgs, ↓gIsN, ↓gNotN, ↓gChain, ↓x_fmtS, ↓x_afS, ↓x_afI, ↓x_js0, ↓x_jsc, ↓gJoined, ↓gYes, ↓x_bnm, ↓x_btp, ↓x_bn, ↓x_bc, ↓x_nnN, ↓x_nnI, ↓x_nnS, ↓x_nnB, ↓x_nnT, ↓x_nnL, ↓x_nnO, ↓x_nnl, ↓x_tyS, ↓x_tyL, ↓x_i2, ↓aSub, ↓aFdiv, ↓aMod, ↓aPow, ↓aShr, ↓aLt, ↓aLe, ↓aGt, ↓aGe, ↓x_addI, ↓x_addS, ↓x_mulI, ↓x_iaddS, ↓x_iaddI, ↓x_neg, ↓x_eqI, ↓x_neI, ↓x_eqS, ↓x_neS, ↓x_eqB, ↓x_neB, ↓x_eqNI, ↓x_neNI, ↓x_lenS, ↓x_lenL_l, ↓x_lenL_k, ↓x_lenL_t, ↓x_str, ↓x_intI, ↓x_intB, ↓x_divmod, ↓x_max2, ↓x_min2, ↓x_ixS, ↓x_slS, ↓x_slT, ↓x_slL_l, ↓x_slL_k, ↓x_inS, ↓x_newT, ↓x_newF, ↓x_si, ↓x_s1, ↓x_s0, ↓x_rpart, ↓x_part, ↓x_a1, ↓x_a2, ↓x_isiStr, ↓x_isiInt, ↓x_isiIntB, ↓x_isiIntS, ↓x_isiBB, ↓x_isiBI, ↓x_isiStrI, ↓x_isiNonI, ↓x_isiNonS, ↓x_isiT, ↓x_isiL, ↓x_var0, ↓x_varS, ↓x_ex, ↓x_aug0, gat, pick, Option.some.injEq, D.bl.injEq, D.int.injEq, D.str.injEq, D.tup.injEq, D.lst.injEq, List.cons.injEq, and_true, true_and, List.set_cons_zero, List.set_cons_succ, List.length_cons, List.length_nil, List.filterMap_cons, List.filterMap_nil, List.getElem?_cons_zero, List.getElem?_cons_succ, Option.bind_some, ↓reduceIte, if_true, if_false, Bool.false_eq_true, Bool.true_eq_false, decide_eq_true_eq, beq_self_eq_true, Bool.not_true, Bool.not_false, Bool.not_eq_true', decide_eq_false_iff_not, exists_eq_left', exists_eq_left, exists_eq, ↓x_dnT, ↓x_dnF, ↓gAsgL, ↓gMMDef, ↓gDSet, ↓gSItems, ↓x_nilL, ↓x_nilE, List.isEmpty_nil, List.isEmpty_cons, Bool.true_xor, Bool.false_xor, ↓gOrT, ↓gAndT, ↓gTryAs, ↓gTryO, ↓gRaise, ↓gCallX, ↓gMethX, ↓gMakeX, ↓gFldX, ↓x_inXs, Bool.false_xor, Bool.true_xor, ↓x_fmtRS, ↓x_afRS, ↓x_afRI, ↓x_stO, ↓x_zipS, ↓x_zipE, ↓x_zipSL, ↓x_zipST, ↓x_zipEL, ↓x_augix, ↓x_isB, ↓x_notB, ↓gLR1, ↓gLR2, ↓gDIxT, ↓gDGt1T, ↓gDSetT, ↓gDNewT, ↓gDIx, ↓gDGt1, ↓gDGt2, ↓gDIn, ↓gDSetd, ↓gDPop1, ↓gDPop2, ↓gTIdx, ↓gLKeys, ↓gDisp, ↓x_enumK, ↓x_enumKL, Mt.len_app]
    refine ⟨by omega, by omega, by omega, by omega, hac, hR1⟩
  · rw [x_newT, fm_some]
    have e : R.map (fun r => D.str (rowT r)) = (R.map rowT).map D.str := by rw [List.map_map]; rfl
    rw [e]
    have := bk_fit hb hR hl
    refine ⟨[.str b], (R.map rowT).map .str, rfl, rfl, by simp; omega, ?_⟩
    exact ⟨_, _, b :: R.map rowT, rfl, rfl, rfl, by omega, h⟩
theorem r_read_book (T : Txt K mg a) : ∀ ds S q, sp_read_book a ds S q → g_read_book K a { nx := fun _ S' => q .non S', rt := q } (startD N_read_book ds) S := by
  rintro ds S q ⟨b, R, rfl, hb, hR, hi, hl, h⟩
  rw [st_read_book]
  have hs' : 100000 ≤ sizeLine := by decide
  have hbl := bkT_len hb hR hl
  simp only [g_read_book, ↓x_eqSS, ↓x_neSS, ↓gKGet, ↓x_kget, ↓x_ixE, at_last, ↓x_appE, ↓x_tyE, ↓x_itE, ↓x_lenE, ↓x_nePr, ↓x_eqPr, ↓x_neE, ↓x_lenr, ↓x_lenrI, ↓gRev, ↓x_par3, ↓x_par33, ↓x_fld, ↓x_fset, ↓x_mkF, ↓x_mk, ↓x_meth, ↓x_fldO, ↓x_fsetE, ↓x_fldE, ↓x_methO, ↓x_isiCO, ↓x_isiCN, ↓x_isiCT, ↓x_isiCLi, ↓x_isiCS, ↓x_isiCI, ↓x_own, ↓x_eqT2, ↓x_neT2, ↓x_neL4, ↓x_eqLN, ↓x_neNil, ↓x_gset, ↓x_lc, ↓x_for, ↓x_it, ↓x_rn1, ↓x_rn2, ↓x_enu, ↓x_zip, ↓x_itS, ↓x_itL, ↓x_itK, ↓x_itT, ↓x_rn1I, ↓x_rn2I, ↓x_enuL, ↓x_enuK, ↓x_zipL, ↓x_ixS0, ↓x_ixL, ↓x_ixT, ↓x_ixK, x_at0, x_at1, x_at2, x_at3, x_at4, ↓x_set00, ↓x_set01, ↓x_set02, ↓x_aug1, ↓x_aug2, ↓x_aug3, ↓x_aug4, ↓x_aug5, ↓x_aug6, ↓x_aug7, ↓x_aug8, ↓x_aug9, ↓x_aug10, ↓x_aug11, ↓x_aug12, ↓x_aug13, ↓x_aug14, ↓x_aug15, ↓x_aug16, ↓x_aug17, ↓x_aug18, ↓x_aug19, ↓x_aug20, ↓x_aug21, ↓x_aug22, ↓x_aug23, Int.reduceToNat, Int.reducePow, ↓gSeq, ↓gIfS, ↓gSet, ↓gAsg, ↓x_par, ↓x_par2, ↓gRet, ↓gRetN, ↓gNext, ↓gDrop, ↓gBreak, ↓gCont, ↓gDead, ↓gCB, ↓gB2, ↓gU, ↓gC, ↓Dl.gCons, ↓Dl.gNil, ↓Dl.gTup, ↓Dl.gLst, ↓gTest, ↓gOrB, ↓gAndB, ↓gNotB, ↓gAndV, ↓gOrV, ↓gNotV, ↓gIf, ↓gIx, ↓gSl, ↓gPart, ↓gNoP, ↓gMt, ↓gCall, ↓gArgs, ↓gIsN, ↓gNotN, ↓gChain, ↓x_fmtS, ↓x_afS, ↓x_afI, ↓x_js0, ↓x_jsc, ↓gJoined, ↓gYes, ↓x_bnm, ↓x_btp, ↓x_bn, ↓x_bc, ↓x_nnN, ↓x_nnI, ↓x_nnS, ↓x_nnB, ↓x_nnT, ↓x_nnL, ↓x_nnO, ↓x_nnl, ↓x_tyS, ↓x_tyL, ↓x_i2, ↓aSub, ↓aFdiv, ↓aMod, ↓aPow, ↓aShr, ↓aLt, ↓aLe, ↓aGt, ↓aGe, ↓x_addI, ↓x_addS, ↓x_mulI, ↓x_iaddS, ↓x_iaddI, ↓x_neg, ↓x_eqI, ↓x_neI, ↓x_eqS, ↓x_neS, ↓x_eqB, ↓x_neB, ↓x_eqNI, ↓x_neNI, ↓x_lenS, ↓x_lenL_l, ↓x_lenL_k, ↓x_lenL_t, ↓x_str, ↓x_intI, ↓x_intB, ↓x_divmod, ↓x_max2, ↓x_min2, ↓x_ixS, ↓x_slS, ↓x_slT, ↓x_slL_l, ↓x_slL_k, ↓x_inS, ↓x_newT, ↓x_newF, ↓x_si, ↓x_s1, ↓x_s0, ↓x_rpart, ↓x_part, ↓x_a1, ↓x_a2, ↓x_isiStr, ↓x_isiInt, ↓x_isiIntB, ↓x_isiIntS, ↓x_isiBB, ↓x_isiBI, ↓x_isiStrI, ↓x_isiNonI, ↓x_isiNonS, ↓x_isiT, ↓x_isiL, ↓x_var0, ↓x_varS, ↓x_ex, ↓x_aug0, gat, pick, Option.some.injEq, D.bl.injEq, D.int.injEq, D.str.injEq, D.tup.injEq, D.lst.injEq, List.cons.injEq, and_true, true_and, List.set_cons_zero, List.set_cons_succ, List.length_cons, List.length_nil, List.filterMap_cons, List.filterMap_nil, List.getElem?_cons_zero, List.getElem?_cons_succ, Option.bind_some, ↓reduceIte, if_true, if_false, Bool.false_eq_true, Bool.true_eq_false, decide_eq_true_eq, beq_self_eq_true, Bool.not_true, Bool.not_false, Bool.not_eq_true', decide_eq_false_iff_not, exists_eq_left', exists_eq_left, exists_eq, ↓x_dnT, ↓x_dnF, ↓gAsgL, ↓gMMDef, ↓gDSet, ↓gSItems, ↓x_nilL, ↓x_nilE, List.isEmpty_nil, List.isEmpty_cons, Bool.true_xor, Bool.false_xor, ↓gOrT, ↓gAndT, ↓gTryAs, ↓gTryO, ↓gRaise, ↓gCallX, ↓gMethX, ↓gMakeX, ↓gFldX, ↓x_inXs, Bool.false_xor, Bool.true_xor, ↓x_fmtRS, ↓x_afRS, ↓x_afRI, ↓x_stO, ↓x_zipS, ↓x_zipE, ↓x_zipSL, ↓x_zipST, ↓x_zipEL, ↓x_augix, ↓x_isB, ↓x_notB, ↓gLR1, ↓gLR2, ↓gDIxT, ↓gDGt1T, ↓gDSetT, ↓gDNewT, ↓gDIx, ↓gDGt1, ↓gDGt2, ↓gDIn, ↓gDSetd, ↓gDPop1, ↓gDPop2, ↓gTIdx, ↓gLKeys, ↓gDisp, ↓x_enumK, ↓x_enumKL]
  refine ⟨_, _, rfl, rfl, by decide +kernel, by omega, ?_⟩
  rw [bk_split hb hR, x_newT]
  simp only [List.map_cons, ↓x_eqSS, ↓x_neSS, ↓gKGet, ↓x_kget, ↓x_ixE, at_last, ↓x_appE, ↓x_tyE, ↓x_itE, ↓x_lenE, ↓x_nePr, ↓x_eqPr, ↓x_neE, ↓x_lenr, ↓x_lenrI, ↓gRev, ↓x_par3, ↓x_par33, ↓x_fld, ↓x_fset, ↓x_mkF, ↓x_mk, ↓x_meth, ↓x_fldO, ↓x_fsetE, ↓x_fldE, ↓x_methO, ↓x_isiCO, ↓x_isiCN, ↓x_isiCT, ↓x_isiCLi, ↓x_isiCS, ↓x_isiCI, ↓x_own, ↓x_eqT2, ↓x_neT2, ↓x_neL4, ↓x_eqLN, ↓x_neNil, ↓x_gset, ↓x_lc, ↓x_for, ↓x_it, ↓x_rn1, ↓x_rn2, ↓x_enu, ↓x_zip, ↓x_itS, ↓x_itL, ↓x_itK, ↓x_itT, ↓x_rn1I, ↓x_rn2I, ↓x_enuL, ↓x_enuK, ↓x_zipL, ↓x_ixS0, ↓x_ixL, ↓x_ixT, ↓x_ixK, x_at0, x_at1, x_at2, x_at3, x_at4, ↓x_set00, ↓x_set01, ↓x_set02, ↓x_aug1, ↓x_aug2, ↓x_aug3, ↓x_aug4, ↓x_aug5, ↓x_aug6, ↓x_aug7, ↓x_aug8, ↓x_aug9, ↓x_aug10, ↓x_aug11, ↓x_aug12, ↓x_aug13, ↓x_aug14, ↓x_aug15, ↓x_aug16, ↓x_aug17, ↓x_aug18, ↓x_aug19, ↓x_aug20, ↓x_aug21, ↓x_aug22, ↓x_aug23, Int.reduceToNat, Int.reducePow, ↓gSeq, ↓gIfS, ↓gSet, ↓gAsg, ↓x_par, ↓x_par2, ↓gRet, ↓gRetN, ↓gNext, ↓gDrop, ↓gBreak, ↓gCont, ↓gDead, ↓gCB, ↓gB2, ↓gU, ↓gC, ↓Dl.gCons, ↓Dl.gNil, ↓Dl.gTup, ↓Dl.gLst, ↓gTest, ↓gOrB, ↓gAndB, ↓gNotB, ↓gAndV, ↓gOrV, ↓gNotV, ↓gIf, ↓gIx, ↓gSl, ↓gPart, ↓gNoP, ↓gMt, ↓gCall, ↓gArgs, ↓gIsN, ↓gNotN, ↓gChain, ↓x_fmtS, ↓x_afS, ↓x_afI, ↓x_js0, ↓x_jsc, ↓gJoined, ↓gYes, ↓x_bnm, ↓x_btp, ↓x_bn, ↓x_bc, ↓x_nnN, ↓x_nnI, ↓x_nnS, ↓x_nnB, ↓x_nnT, ↓x_nnL, ↓x_nnO, ↓x_nnl, ↓x_tyS, ↓x_tyL, ↓x_i2, ↓aSub, ↓aFdiv, ↓aMod, ↓aPow, ↓aShr, ↓aLt, ↓aLe, ↓aGt, ↓aGe, ↓x_addI, ↓x_addS, ↓x_mulI, ↓x_iaddS, ↓x_iaddI, ↓x_neg, ↓x_eqI, ↓x_neI, ↓x_eqS, ↓x_neS, ↓x_eqB, ↓x_neB, ↓x_eqNI, ↓x_neNI, ↓x_lenS, ↓x_lenL_l, ↓x_lenL_k, ↓x_lenL_t, ↓x_str, ↓x_intI, ↓x_intB, ↓x_divmod, ↓x_max2, ↓x_min2, ↓x_ixS, ↓x_slS, ↓x_slT, ↓x_slL_l, ↓x_slL_k, ↓x_inS, ↓x_newT, ↓x_newF, ↓x_si, ↓x_s1, ↓x_s0, ↓x_rpart, ↓x_part, ↓x_a1, ↓x_a2, ↓x_isiStr, ↓x_isiInt, ↓x_isiIntB, ↓x_isiIntS, ↓x_isiBB, ↓x_isiBI, ↓x_isiStrI, ↓x_isiNonI, ↓x_isiNonS, ↓x_isiT, ↓x_isiL, ↓x_var0, ↓x_varS, ↓x_ex, ↓x_aug0, gat, pick, Option.some.injEq, D.bl.injEq, D.int.injEq, D.str.injEq, D.tup.injEq, D.lst.injEq, List.cons.injEq, and_true, true_and, List.set_cons_zero, List.set_cons_succ, List.length_cons, List.length_nil, List.filterMap_cons, List.filterMap_nil, List.getElem?_cons_zero, List.getElem?_cons_succ, Option.bind_some, ↓reduceIte, if_true, if_false, Bool.false_eq_true, Bool.true_eq_false, decide_eq_true_eq, beq_self_eq_true, Bool.not_true, Bool.not_false, Bool.not_eq_true', decide_eq_false_iff_not, exists_eq_left', exists_eq_left, exists_eq, ↓x_dnT, ↓x_dnF, ↓gAsgL, ↓gMMDef, ↓gDSet, ↓gSItems, ↓x_nilL, ↓x_nilE, List.isEmpty_nil, List.isEmpty_cons, Bool.true_xor, Bool.false_xor, ↓gOrT, ↓gAndT, ↓gTryAs, ↓gTryO, ↓gRaise, ↓gCallX, ↓gMethX, ↓gMakeX, ↓gFldX, ↓x_inXs, Bool.false_xor, Bool.true_xor, ↓x_fmtRS, ↓x_afRS, ↓x_afRI, ↓x_stO, ↓x_zipS, ↓x_zipE, ↓x_zipSL, ↓x_zipST, ↓x_zipEL, ↓x_augix, ↓x_isB, ↓x_notB, ↓gLR1, ↓gLR2, ↓gDIxT, ↓gDGt1T, ↓gDSetT, ↓gDNewT, ↓gDIx, ↓gDGt1, ↓gDGt2, ↓gDIn, ↓gDSetd, ↓gDPop1, ↓gDPop2, ↓gTIdx, ↓gLKeys, ↓gDisp, ↓x_enumK, ↓x_enumKL]
  refine x_inTs (xs := ["near", "far"]) (ba_ok hb).1 (by decide +kernel) ⟨_, rfl, ?_⟩
  rw [if_neg (by have := hb; unfold BaOk at this; simp [this])]
  refine ⟨rfl, rfl, S, b, rfl, rfl, rfl, ?_⟩
  rw [cutD_from (1 : Int) 1 rfl]
  simp only [List.drop_succ_cons, List.drop_zero, ↓x_eqSS, ↓x_neSS, ↓gKGet, ↓x_kget, ↓x_ixE, at_last, ↓x_appE, ↓x_tyE, ↓x_itE, ↓x_lenE, ↓x_nePr, ↓x_eqPr, ↓x_neE, ↓x_lenr, ↓x_lenrI, ↓gRev, ↓x_par3, ↓x_par33, ↓x_fld, ↓x_fset, ↓x_mkF, ↓x_mk, ↓x_meth, ↓x_fldO, ↓x_fsetE, ↓x_fldE, ↓x_methO, ↓x_isiCO, ↓x_isiCN, ↓x_isiCT, ↓x_isiCLi, ↓x_isiCS, ↓x_isiCI, ↓x_own, ↓x_eqT2, ↓x_neT2, ↓x_neL4, ↓x_eqLN, ↓x_neNil, ↓x_gset, ↓x_lc, ↓x_for, ↓x_it, ↓x_rn1, ↓x_rn2, ↓x_enu, ↓x_zip, ↓x_itS, ↓x_itL, ↓x_itK, ↓x_itT, ↓x_rn1I, ↓x_rn2I, ↓x_enuL, ↓x_enuK, ↓x_zipL, ↓x_ixS0, ↓x_ixL, ↓x_ixT, ↓x_ixK, x_at0, x_at1, x_at2, x_at3, x_at4, ↓x_set00, ↓x_set01, ↓x_set02, ↓x_aug1, ↓x_aug2, ↓x_aug3, ↓x_aug4, ↓x_aug5, ↓x_aug6, ↓x_aug7, ↓x_aug8, ↓x_aug9, ↓x_aug10, ↓x_aug11, ↓x_aug12, ↓x_aug13, ↓x_aug14, ↓x_aug15, ↓x_aug16, ↓x_aug17, ↓x_aug18, ↓x_aug19, ↓x_aug20, ↓x_aug21, ↓x_aug22, ↓x_aug23, Int.reduceToNat, Int.reducePow, ↓gSeq, ↓gIfS, ↓gSet, ↓gAsg, ↓x_par, ↓x_par2, ↓gRet, ↓gRetN, ↓gNext, ↓gDrop, ↓gBreak, ↓gCont, ↓gDead, ↓gCB, ↓gB2, ↓gU, ↓gC, ↓Dl.gCons, ↓Dl.gNil, ↓Dl.gTup, ↓Dl.gLst, ↓gTest, ↓gOrB, ↓gAndB, ↓gNotB, ↓gAndV, ↓gOrV, ↓gNotV, ↓gIf, ↓gIx, ↓gSl, ↓gPart, ↓gNoP, ↓gMt, ↓gCall, ↓gArgs, ↓gIsN, ↓gNotN, ↓gChain, ↓x_fmtS, ↓x_afS, ↓x_afI, ↓x_js0, ↓x_jsc, ↓gJoined, ↓gYes, ↓x_bnm, ↓x_btp, ↓x_bn, ↓x_bc, ↓x_nnN, ↓x_nnI, ↓x_nnS, ↓x_nnB, ↓x_nnT, ↓x_nnL, ↓x_nnO, ↓x_nnl, ↓x_tyS, ↓x_tyL, ↓x_i2, ↓aSub, ↓aFdiv, ↓aMod, ↓aPow, ↓aShr, ↓aLt, ↓aLe, ↓aGt, ↓aGe, ↓x_addI, ↓x_addS, ↓x_mulI, ↓x_iaddS, ↓x_iaddI, ↓x_neg, ↓x_eqI, ↓x_neI, ↓x_eqS, ↓x_neS, ↓x_eqB, ↓x_neB, ↓x_eqNI, ↓x_neNI, ↓x_lenS, ↓x_lenL_l, ↓x_lenL_k, ↓x_lenL_t, ↓x_str, ↓x_intI, ↓x_intB, ↓x_divmod, ↓x_max2, ↓x_min2, ↓x_ixS, ↓x_slS, ↓x_slT, ↓x_slL_l, ↓x_slL_k, ↓x_inS, ↓x_newT, ↓x_newF, ↓x_si, ↓x_s1, ↓x_s0, ↓x_rpart, ↓x_part, ↓x_a1, ↓x_a2, ↓x_isiStr, ↓x_isiInt, ↓x_isiIntB, ↓x_isiIntS, ↓x_isiBB, ↓x_isiBI, ↓x_isiStrI, ↓x_isiNonI, ↓x_isiNonS, ↓x_isiT, ↓x_isiL, ↓x_var0, ↓x_varS, ↓x_ex, ↓x_aug0, gat, pick, Option.some.injEq, D.bl.injEq, D.int.injEq, D.str.injEq, D.tup.injEq, D.lst.injEq, List.cons.injEq, and_true, true_and, List.set_cons_zero, List.set_cons_succ, List.length_cons, List.length_nil, List.filterMap_cons, List.filterMap_nil, List.getElem?_cons_zero, List.getElem?_cons_succ, Option.bind_some, ↓reduceIte, if_true, if_false, Bool.false_eq_true, Bool.true_eq_false, decide_eq_true_eq, beq_self_eq_true, Bool.not_true, Bool.not_false, Bool.not_eq_true', decide_eq_false_iff_not, exists_eq_left', exists_eq_left, exists_eq, ↓x_dnT, ↓x_dnF, ↓gAsgL, ↓gMMDef, ↓gDSet, ↓gSItems, ↓x_nilL, ↓x_nilE, List.isEmpty_nil, List.isEmpty_cons, Bool.true_xor, Bool.false_xor, ↓gOrT, ↓gAndT, ↓gTryAs, ↓gTryO, ↓gRaise, ↓gCallX, ↓gMethX, ↓gMakeX, ↓gFldX, ↓x_inXs, Bool.false_xor, Bool.true_xor, ↓x_fmtRS, ↓x_afRS, ↓x_afRI, ↓x_stO, ↓x_zipS, ↓x_zipE, ↓x_zipSL, ↓x_zipST, ↓x_zipEL, ↓x_augix, ↓x_isB, ↓x_notB, ↓gLR1, ↓gLR2, ↓gDIxT, ↓gDGt1T, ↓gDSetT, ↓gDNewT, ↓gDIx, ↓gDGt1, ↓gDGt2, ↓gDIn, ↓gDSetd, ↓gDPop1, ↓gDPop2, ↓gTIdx, ↓gLKeys, ↓gDisp, ↓x_enumK, ↓x_enumKL]
  refine ⟨fun i ρ S' => S' = S ++ bk2 a S.length b (R.take i) ∧ ∃ x3 x4 x5, ρ = [some (D.str (bkT b R)), some (.lst (.str b :: (R.map rowT).map .str)), some (.loc S.length), x3, x4, x5, none], ⟨rfl, _, _, _, rfl⟩, ?_, ?_⟩
  · rintro i d ρ S' hd ⟨rfl, x3, x4, x5, rfl⟩
    obtain ⟨x, hx, rfl⟩ := enumK_get hd
    rw [List.map_map, List.getElem?_map] at hx
    obtain ⟨r, hr, rfl⟩ := Option.map_eq_some_iff.mp hx
    have hok := hR r (List.mem_of_getElem? hr)
    refine ⟨trivial, _, x_b2, ?_⟩
    simp only [↓x_eqSS, ↓x_neSS, ↓gKGet, ↓x_kget, ↓x_ixE, at_last, ↓x_appE, ↓x_tyE, ↓x_itE, ↓x_lenE, ↓x_nePr, ↓x_eqPr, ↓x_neE, ↓x_lenr, ↓x_lenrI, ↓gRev, ↓x_par3, ↓x_par33, ↓x_fld, ↓x_fset, ↓x_mkF, ↓x_mk, ↓x_meth, ↓x_fldO, ↓x_fsetE, ↓x_fldE, ↓x_methO, ↓x_isiCO, ↓x_isiCN, ↓x_isiCT, ↓x_isiCLi, ↓x_isiCS, ↓x_isiCI, ↓x_own, ↓x_eqT2, ↓x_neT2, ↓x_neL4, ↓x_eqLN, ↓x_neNil, ↓x_gset, ↓x_lc, ↓x_for, ↓x_it, ↓x_rn1, ↓x_rn2, ↓x_enu, ↓x_zip, ↓x_itS, ↓x_itL, ↓x_itK, ↓x_itT, ↓x_rn1I, ↓x_rn2I, ↓x_enuL, ↓x_enuK, ↓x_zipL, ↓x_ixS0, ↓x_ixL, ↓x_ixT, ↓x_ixK, x_at0, x_at1, x_at2, x_at3, x_at4, ↓x_set00, ↓x_set01, ↓x_set02, ↓x_aug1, ↓x_aug2, ↓x_aug3, ↓x_aug4, ↓x_aug5, ↓x_aug6, ↓x_aug7, ↓x_aug8, ↓x_aug9, ↓x_aug10, ↓x_aug11, ↓x_aug12, ↓x_aug13, ↓x_aug14, ↓x_aug15, ↓x_aug16, ↓x_aug17, ↓x_aug18, ↓x_aug19, ↓x_aug20, ↓x_aug21, ↓x_aug22, ↓x_aug23, Int.reduceToNat, Int.reducePow, ↓gSeq, ↓gIfS, ↓gSet, ↓gAsg, ↓x_par, ↓x_par2, ↓gRet, ↓gRetN, ↓gNext, ↓gDrop, ↓gBreak, ↓gCont, ↓gDead, ↓gCB, ↓gB2, ↓gU, ↓gC, ↓Dl.gCons, ↓Dl.gNil, ↓Dl.gTup, ↓Dl.gLst, ↓gTest, ↓gOrB, ↓gAndB, ↓gNotB, ↓gAndV, ↓gOrV, ↓gNotV, ↓gIf, ↓gIx, ↓gSl, ↓gPart, ↓gNoP, ↓gMt, ↓gCall, ↓gArgs, ↓gIsN, ↓gNotN, ↓gChain, ↓x_fmtS, ↓x_afS, ↓x_afI, ↓x_js0, ↓x_jsc, ↓gJoined, ↓gYes, ↓x_bnm, ↓x_btp, ↓x_bn, ↓x_bc, ↓x_nnN, ↓x_nnI, ↓x_nnS, ↓x_nnB, ↓x_nnT, ↓x_nnL, ↓x_nnO, ↓x_nnl, ↓x_tyS, ↓x_tyL, ↓x_i2, ↓aSub, ↓aFdiv, ↓aMod, ↓aPow, ↓aShr, ↓aLt, ↓aLe, ↓aGt, ↓aGe, ↓x_addI, ↓x_addS, ↓x_mulI, ↓x_iaddS, ↓x_iaddI, ↓x_neg, ↓x_eqI, ↓x_neI, ↓x_eqS, ↓x_neS, ↓x_eqB, ↓x_neB, ↓x_eqNI, ↓x_neNI, ↓x_lenS, ↓x_lenL_l, ↓x_lenL_k, ↓x_lenL_t, ↓x_str, ↓x_intI, ↓x_intB, ↓x_divmod, ↓x_max2, ↓x_min2, ↓x_ixS, ↓x_slS, ↓x_slT, ↓x_slL_l, ↓x_slL_k, ↓x_inS, ↓x_newT, ↓x_newF, ↓x_si, ↓x_s1, ↓x_s0, ↓x_rpart, ↓x_part, ↓x_a1, ↓x_a2, ↓x_isiStr, ↓x_isiInt, ↓x_isiIntB, ↓x_isiIntS, ↓x_isiBB, ↓x_isiBI, ↓x_isiStrI, ↓x_isiNonI, ↓x_isiNonS, ↓x_isiT, ↓x_isiL, ↓x_var0, ↓x_varS, ↓x_ex, ↓x_aug0, gat, pick, Option.some.injEq, D.bl.injEq, D.int.injEq, D.str.injEq, D.tup.injEq, D.lst.injEq, List.cons.injEq, and_true, true_and, List.set_cons_zero, List.set_cons_succ, List.length_cons, List.length_nil, List.filterMap_cons, List.filterMap_nil, List.getElem?_cons_zero, List.getElem?_cons_succ, Option.bind_some, ↓reduceIte, if_true, if_false, Bool.false_eq_true, Bool.true_eq_false, decide_eq_true_eq, beq_self_eq_true, Bool.not_true, Bool.not_false, Bool.not_eq_true', decide_eq_false_iff_not, exists_eq_left', exists_eq_left, exists_eq, ↓x_dnT, ↓x_dnF, ↓gAsgL, ↓gMMDef, ↓gDSet, ↓gSItems, ↓x_nilL, ↓x_nilE, List.isEmpty_nil, List.isEmpty_cons, Bool.true_xor, Bool.false_xor, ↓gOrT, ↓gAndT, ↓gTryAs, ↓gTryO, ↓gRaise, ↓gCallX, ↓gMethX, ↓gMakeX, ↓gFldX, ↓x_inXs, Bool.false_xor, Bool.true_xor, ↓x_fmtRS, ↓x_afRS, ↓x_afRI, ↓x_stO, ↓x_zipS, ↓x_zipE, ↓x_zipSL, ↓x_zipST, ↓x_zipEL, ↓x_augix, ↓x_isB, ↓x_notB, ↓gLR1, ↓gLR2, ↓gDIxT, ↓gDGt1T, ↓gDSetT, ↓gDNewT, ↓gDIx, ↓gDGt1, ↓gDGt2, ↓gDIn, ↓gDSetd, ↓gDPop1, ↓gDPop2, ↓gTIdx, ↓gLKeys, ↓gDisp, ↓x_enumK, ↓x_enumKL]
    refine ⟨r, rfl, hok, ?_⟩
    simp only [↓x_eqSS, ↓x_neSS, ↓gKGet, ↓x_kget, ↓x_ixE, at_last, ↓x_appE, ↓x_tyE, ↓x_itE, ↓x_lenE, ↓x_nePr, ↓x_eqPr, ↓x_neE, ↓x_lenr, ↓x_lenrI, ↓gRev, ↓x_par3, ↓x_par33, ↓x_fld, ↓x_fset, ↓x_mkF, ↓x_mk, ↓x_meth, ↓x_fldO, ↓x_fsetE, ↓x_fldE, ↓x_methO, ↓x_isiCO, ↓x_isiCN, ↓x_isiCT, ↓x_isiCLi, ↓x_isiCS, ↓x_isiCI, ↓x_own, ↓x_eqT2, ↓x_neT2, ↓x_neL4, ↓x_eqLN, ↓x_neNil, ↓x_gset, ↓x_lc, ↓x_for, ↓x_it, ↓x_rn1, ↓x_rn2, ↓x_enu, ↓x_zip, ↓x_itS, ↓x_itL, ↓x_itK, ↓x_itT, ↓x_rn1I, ↓x_rn2I, ↓x_enuL, ↓x_enuK, ↓x_zipL, ↓x_ixS0, ↓x_ixL, ↓x_ixT, ↓x_ixK, x_at0, x_at1, x_at2, x_at3, x_at4, ↓x_set00, ↓x_set01, ↓x_set02, ↓x_aug1, ↓x_aug2, ↓x_aug3, ↓x_aug4, ↓x_aug5, ↓x_aug6, ↓x_aug7, ↓x_aug8, ↓x_aug9, ↓x_aug10, ↓x_aug11, ↓x_aug12, ↓x_aug13, ↓x_aug14, ↓x_aug15, ↓x_aug16, ↓x_aug17, ↓x_aug18, ↓x_aug19, ↓x_aug20, ↓x_aug21, ↓x_aug22, ↓x_aug23, Int.reduceToNat, Int.reducePow, ↓gSeq, ↓gIfS, ↓gSet, ↓gAsg, ↓x_par, ↓x_par2, ↓gRet, ↓gRetN, ↓gNext, ↓gDrop, ↓gBreak, ↓gCont, ↓gDead, ↓gCB, ↓gB2, ↓gU, ↓gC, ↓Dl.gCons, ↓Dl.gNil, ↓Dl.gTup, ↓Dl.gLst, ↓gTest, ↓gOrB, ↓gAndB, ↓gNotB, ↓gAndV, ↓gOrV, ↓gNotV, ↓gIf, ↓gIx, ↓gSl, ↓gPart, ↓gNoP, ↓gMt, ↓gCall, ↓gArgs, ↓gIsN, ↓gNotN, ↓gChain, ↓x_fmtS, ↓x_afS, ↓x_afI, ↓x_js0, ↓x_jsc, ↓gJoined, ↓gYes, ↓x_bnm, ↓x_btp, ↓x_bn, ↓x_bc, ↓x_nnN, ↓x_nnI, ↓x_nnS, ↓x_nnB, ↓x_nnT, ↓x_nnL, ↓x_nnO, ↓x_nnl, ↓x_tyS, ↓x_tyL, ↓x_i2, ↓aSub, ↓aFdiv, ↓aMod, ↓aPow, ↓aShr, ↓aLt, ↓aLe, ↓aGt, ↓aGe, ↓x_addI, ↓x_addS, ↓x_mulI, ↓x_iaddS, ↓x_iaddI, ↓x_neg, ↓x_eqI, ↓x_neI, ↓x_eqS, ↓x_neS, ↓x_eqB, ↓x_neB, ↓x_eqNI, ↓x_neNI, ↓x_lenS, ↓x_lenL_l, ↓x_lenL_k, ↓x_lenL_t, ↓x_str, ↓x_intI, ↓x_intB, ↓x_divmod, ↓x_max2, ↓x_min2, ↓x_ixS, ↓x_slS, ↓x_slT, ↓x_slL_l, ↓x_slL_k, ↓x_inS, ↓x_newT, ↓x_newF, ↓x_si, ↓x_s1, ↓x_s0, ↓x_rpart, ↓x_part, ↓x_a1, ↓x_a2, ↓x_isiStr, ↓x_isiInt, ↓x_isiIntB, ↓x_isiIntS, ↓x_isiBB, ↓x_isiBI, ↓x_isiStrI, ↓x_isiNonI, ↓x_isiNonS, ↓x_isiT, ↓x_isiL, ↓x_var0, ↓x_varS, ↓x_ex, ↓x_aug0, gat, pick, Option.some.injEq, D.bl.injEq, D.int.injEq, D.str.injEq, D.tup.injEq, D.lst.injEq, List.cons.injEq, and_true, true_and, List.set_cons_zero, List.set_cons_succ, List.length_cons, List.length_nil, List.filterMap_cons, List.filterMap_nil, List.getElem?_cons_zero, List.getElem?_cons_succ, Option.bind_some, ↓reduceIte, if_true, if_false, Bool.false_eq_true, Bool.true_eq_false, decide_eq_true_eq, beq_self_eq_true, Bool.not_true, Bool.not_false, Bool.not_eq_true', decide_eq_false_iff_not, exists_eq_left', exists_eq_left, exists_eq, ↓x_dnT, ↓x_dnF, ↓gAsgL, ↓gMMDef, ↓gDSet, ↓gSItems, ↓x_nilL, ↓x_nilE, List.isEmpty_nil, List.isEmpty_cons, Bool.true_xor, Bool.false_xor, ↓gOrT, ↓gAndT, ↓gTryAs, ↓gTryO, ↓gRaise, ↓gCallX, ↓gMethX, ↓gMakeX, ↓gFldX, ↓x_inXs, Bool.false_xor, Bool.true_xor, ↓x_fmtRS, ↓x_afRS, ↓x_afRI, ↓x_stO, ↓x_zipS, ↓x_zipE, ↓x_zipSL, ↓x_zipST, ↓x_zipEL, ↓x_augix, ↓x_isB, ↓x_notB, ↓gLR1, ↓gLR2, ↓gDIxT, ↓gDGt1T, ↓gDSetT, ↓gDNewT, ↓gDIx, ↓gDGt1, ↓gDGt2, ↓gDIn, ↓gDSetd, ↓gDPop1, ↓gDPop2, ↓gTIdx, ↓gLKeys, ↓gDisp, ↓x_enumK, ↓x_enumKL]
    have hB : BkAt a (S ++ bk2 a S.length b (R.take i)) S.length (S.length + 1) b (R.take i) := by simpa using bk2_at (a := a) (X := []) (b := b) (R := R.take i) (S := S) rfl
    refine (bk_meth hB (by decide +kernel)).mpr ⟨_, _, b, R.take i, r.m, r.w, r.n, rfl, hB, fun r' h' => rise_take hi hr r' (List.mem_of_getLast? h'), by rw [List.length_take]; omega, ?_, _, _, _, rfl, rfl, rfl⟩
    have e := bk2_set (a := a) (X := []) (b := b) (R := R.take i) (R' := R.take i ++ [Rw.mk r.m r.w r.n]) (S := S) rfl
    rw [List.append_nil, List.append_nil] at e
    rw [e, take_snoc hr]
  · rintro ρ S' ⟨rfl, x3, x4, x5, rfl⟩
    refine ⟨trivial, ?_⟩
    simp only [↓x_eqSS, ↓x_neSS, ↓gKGet, ↓x_kget, ↓x_ixE, at_last, ↓x_appE, ↓x_tyE, ↓x_itE, ↓x_lenE, ↓x_nePr, ↓x_eqPr, ↓x_neE, ↓x_lenr, ↓x_lenrI, ↓gRev, ↓x_par3, ↓x_par33, ↓x_fld, ↓x_fset, ↓x_mkF, ↓x_mk, ↓x_meth, ↓x_fldO, ↓x_fsetE, ↓x_fldE, ↓x_methO, ↓x_isiCO, ↓x_isiCN, ↓x_isiCT, ↓x_isiCLi, ↓x_isiCS, ↓x_isiCI, ↓x_own, ↓x_eqT2, ↓x_neT2, ↓x_neL4, ↓x_eqLN, ↓x_neNil, ↓x_gset, ↓x_lc, ↓x_for, ↓x_it, ↓x_rn1, ↓x_rn2, ↓x_enu, ↓x_zip, ↓x_itS, ↓x_itL, ↓x_itK, ↓x_itT, ↓x_rn1I, ↓x_rn2I, ↓x_enuL, ↓x_enuK, ↓x_zipL, ↓x_ixS0, ↓x_ixL, ↓x_ixT, ↓x_ixK, x_at0, x_at1, x_at2, x_at3, x_at4, ↓x_set00, ↓x_set01, ↓x_set02, ↓x_aug1, ↓x_aug2, ↓x_aug3, ↓x_aug4, ↓x_aug5, ↓x_aug6, ↓x_aug7, ↓x_aug8, ↓x_aug9, ↓x_aug10, ↓x_aug11, ↓x_aug12, ↓x_aug13, ↓x_aug14, ↓x_aug15, ↓x_aug16, ↓x_aug17, ↓x_aug18, ↓x_aug19, ↓x_aug20, ↓x_aug21, ↓x_aug22, ↓x_aug23, Int.reduceToNat, Int.reducePow, ↓gSeq, ↓gIfS, ↓gSet, ↓gAsg, ↓x_par, ↓x_par2, ↓gRet, ↓gRetN, ↓gNext, ↓gDrop, ↓gBreak, ↓gCont, ↓gDead, ↓gCB, ↓gB2, ↓gU, ↓gC, ↓Dl.gCons, ↓Dl.gNil, ↓Dl.gTup, ↓Dl.gLst, ↓gTest, ↓gOrB, ↓gAndB, ↓gNotB, ↓gAndV, ↓gOrV, ↓gNotV, ↓gIf, ↓gIx, ↓gSl, ↓gPart, ↓gNoP, ↓gMt, ↓gCall, ↓gArgs, ↓gIsN, ↓gNotN, ↓gChain, ↓x_fmtS, ↓x_afS, ↓x_afI, ↓x_js0, ↓x_jsc, ↓gJoined, ↓gYes, ↓x_bnm, ↓x_btp, ↓x_bn, ↓x_bc, ↓x_nnN, ↓x_nnI, ↓x_nnS, ↓x_nnB, ↓x_nnT, ↓x_nnL, ↓x_nnO, ↓x_nnl, ↓x_tyS, ↓x_tyL, ↓x_i2, ↓aSub, ↓aFdiv, ↓aMod, ↓aPow, ↓aShr, ↓aLt, ↓aLe, ↓aGt, ↓aGe, ↓x_addI, ↓x_addS, ↓x_mulI, ↓x_iaddS, ↓x_iaddI, ↓x_neg, ↓x_eqI, ↓x_neI, ↓x_eqS, ↓x_neS, ↓x_eqB, ↓x_neB, ↓x_eqNI, ↓x_neNI, ↓x_lenS, ↓x_lenL_l, ↓x_lenL_k, ↓x_lenL_t, ↓x_str, ↓x_intI, ↓x_intB, ↓x_divmod, ↓x_max2, ↓x_min2, ↓x_ixS, ↓x_slS, ↓x_slT, ↓x_slL_l, ↓x_slL_k, ↓x_inS, ↓x_newT, ↓x_newF, ↓x_si, ↓x_s1, ↓x_s0, ↓x_rpart, ↓x_part, ↓x_a1, ↓x_a2, ↓x_isiStr, ↓x_isiInt, ↓x_isiIntB, ↓x_isiIntS, ↓x_isiBB, ↓x_isiBI, ↓x_isiStrI, ↓x_isiNonI, ↓x_isiNonS, ↓x_isiT, ↓x_isiL, ↓x_var0, ↓x_varS, ↓x_ex, ↓x_aug0, gat, pick, Option.some.injEq, D.bl.injEq, D.int.injEq, D.str.injEq, D.tup.injEq, D.lst.injEq, List.cons.injEq, and_true, true_and, List.set_cons_zero, List.set_cons_succ, List.length_cons, List.length_nil, List.filterMap_cons, List.filterMap_nil, List.getElem?_cons_zero, List.getElem?_cons_succ, Option.bind_some, ↓reduceIte, if_true, if_false, Bool.false_eq_true, Bool.true_eq_false, decide_eq_true_eq, beq_self_eq_true, Bool.not_true, Bool.not_false, Bool.not_eq_true', decide_eq_false_iff_not, exists_eq_left', exists_eq_left, exists_eq, ↓x_dnT, ↓x_dnF, ↓gAsgL, ↓gMMDef, ↓gDSet, ↓gSItems, ↓x_nilL, ↓x_nilE, List.isEmpty_nil, List.isEmpty_cons, Bool.true_xor, Bool.false_xor, ↓gOrT, ↓gAndT, ↓gTryAs, ↓gTryO, ↓gRaise, ↓gCallX, ↓gMethX, ↓gMakeX, ↓gFldX, ↓x_inXs, Bool.false_xor, Bool.true_xor, ↓x_fmtRS, ↓x_afRS, ↓x_afRI, ↓x_stO, ↓x_zipS, ↓x_zipE, ↓x_zipSL, ↓x_zipST, ↓x_zipEL, ↓x_augix, ↓x_isB, ↓x_notB, ↓gLR1, ↓gLR2, ↓gDIxT, ↓gDGt1T, ↓gDSetT, ↓gDNewT, ↓gDIx, ↓gDGt1, ↓gDGt2, ↓gDIn, ↓gDSetd, ↓gDPop1, ↓gDPop2, ↓gTIdx, ↓gLKeys, ↓gDisp, ↓x_enumK, ↓x_enumKL]
    rw [enumK_len, List.length_map, List.length_map, List.take_length]
    exact h
end
end Lw
namespace Lw
open PySem L2 Dl
section
variable {P : Program} {w : World} {K : PySem.W.Frag} {mg : Str → Option Value} {base : Heap} {a : Ad}
theorem und_rw {n : Nat} : ∀ {R : List Rw}, D.unders n (R.map rwD) = true
  | [] => rfl
  | r :: R => by
    have ih := und_rw (n := n) (R := R)
    simp [D.unders, D.under, ih]
theorem rf__law_rows : ∀ ds S q, D.unders S.length ds = true → Sto.under S.length S = true → sp__law_rows a ds S q → g__law_rows K a { nx := fun _ S' => fin S.length q .non S', rt := fin S.length q } (startD N__law_rows ds) S := by
  rintro ds S q hu hs ⟨xs, many, ⟨hx0, hx1, hxo⟩, hm, o, R0, B, rfl, rfl, ht, hb, h⟩
  rw [st__law_rows]
  simp only [g__law_rows, ↓x_eqSS, ↓x_neSS, ↓gKGet, ↓x_kget, ↓x_ixE, at_last, ↓x_appE, ↓x_tyE, ↓x_itE, ↓x_lenE, ↓x_nePr, ↓x_eqPr, ↓x_neE, ↓x_lenr, ↓x_lenrI, ↓gRev, ↓x_par3, ↓x_par33, ↓x_fld, ↓x_fset, ↓x_mkF, ↓x_mk, ↓x_meth, ↓x_fldO, ↓x_fsetE, ↓x_fldE, ↓x_methO, ↓x_isiCO, ↓x_isiCN, ↓x_isiCT, ↓x_isiCLi, ↓x_isiCS, ↓x_isiCI, ↓x_own, ↓x_eqT2, ↓x_neT2, ↓x_neL4, ↓x_eqLN, ↓x_neNil, ↓x_gset, ↓x_lc, ↓x_for, ↓x_it, ↓x_rn1, ↓x_rn2, ↓x_enu, ↓x_zip, ↓x_itS, ↓x_itL, ↓x_itK, ↓x_itT, ↓x_rn1I, ↓x_rn2I, ↓x_enuL, ↓x_enuK, ↓x_zipL, ↓x_ixS0, ↓x_ixL, ↓x_ixT, ↓x_ixK, x_at0, x_at1, x_at2, x_at3, x_at4, ↓x_set00, ↓x_set01, ↓x_set02, ↓x_aug1, ↓x_aug2, ↓x_aug3, ↓x_aug4, ↓x_aug5, ↓x_aug6, ↓x_aug7, ↓x_aug8, ↓x_aug9, ↓x_aug10, ↓x_aug11, ↓x_aug12, ↓x_aug13, ↓x_aug14, ↓x_aug15, ↓x_aug16, ↓x_aug17, ↓x_aug18, ↓x_aug19, ↓x_aug20, ↓x_aug21, ↓x_aug22, ↓x_aug23, Int.reduceToNat, Int.reducePow, ↓gSeq, ↓gIfS, ↓gSet, ↓gAsg, ↓x_par, ↓x_par2, ↓gRet, ↓gRetN, ↓gNext, ↓gDrop, ↓gBreak, ↓gCont, ↓gDead, ↓gCB, ↓gB2, ↓gU, ↓gC, ↓Dl.gCons, ↓Dl.gNil, ↓Dl.gTup, ↓Dl.gLst, ↓gTest, ↓gOrB, ↓gAndB, ↓gNotB, ↓gAndV, ↓gOrV, ↓gNotV, ↓gIf, ↓gIx, ↓gSl, ↓gPart, ↓gNoP, ↓gMt, ↓gCall, ↓gArgs, ↓gIsN, ↓gNotN, ↓gChain, ↓x_fmtS, ↓x_afS, ↓x_afI, ↓x_js0, ↓x_jsc, ↓gJoined, ↓gYes, ↓x_bnm, ↓x_btp, ↓x_bn, ↓x_bc, ↓x_nnN, ↓x_nnI, ↓x_nnS, ↓x_nnB, ↓x_nnT, ↓x_nnL, ↓x_nnO, ↓x_nnl, ↓x_tyS, ↓x_tyL, ↓x_i2, ↓aSub, ↓aFdiv, ↓aMod, ↓aPow, ↓aShr, ↓aLt, ↓aLe, ↓aGt, ↓aGe, ↓x_addI, ↓x_addS, ↓x_mulI, ↓x_iaddS, ↓x_iaddI, ↓x_neg, ↓x_eqI, ↓x_neI, ↓x_eqS, ↓x_neS, ↓x_eqB, ↓x_neB, ↓x_eqNI, ↓x_neNI, ↓x_lenS, ↓x_lenL_l, ↓x_lenL_k, ↓x_lenL_t, ↓x_str, ↓x_intI, ↓x_intB, ↓x_divmod, ↓x_max2, ↓x_min2, ↓x_ixS, ↓x_slS, ↓x_slT, ↓x_slL_l, ↓x_slL_k, ↓x_inS, ↓x_newT, ↓x_newF, ↓x_si, ↓x_s1, ↓x_s0, ↓x_rpart, ↓x_part, ↓x_a1, ↓x_a2, ↓x_isiStr, ↓x_isiInt, ↓x_isiIntB, ↓x_isiIntS, ↓x_isiBB, ↓x_isiBI, ↓x_isiStrI, ↓x_isiNonI, ↓x_isiNonS, ↓x_isiT, ↓x_isiL, ↓x_var0, ↓x_varS, ↓x_ex, ↓x_aug0, gat, pick, Option.some.injEq, D.bl.injEq, D.int.injEq, D.str.injEq, D.tup.injEq, D.lst.injEq, List.cons.injEq, and_true, true_and, List.set_cons_zero, List.set_cons_succ, List.length_cons, List.length_nil, List.filterMap_cons, List.filterMap_nil, List.getElem?_cons_zero, List.getElem?_cons_succ, Option.bind_some, ↓reduceIte, if_true, if_false, Bool.false_eq_true, Bool.true_eq_false, decide_eq_true_eq, beq_self_eq_true, Bool.not_true, Bool.not_false, Bool.not_eq_true', decide_eq_false_iff_not, exists_eq_left', exists_eq_left, exists_eq, ↓x_dnT, ↓x_dnF, ↓gAsgL, ↓gMMDef, ↓gDSet, ↓gSItems, ↓x_nilL, ↓x_nilE, List.isEmpty_nil, List.isEmpty_cons, Bool.true_xor, Bool.false_xor, ↓gOrT, ↓gAndT, ↓gTryAs, ↓gTryO, ↓gRaise, ↓gCallX, ↓gMethX, ↓gMakeX, ↓gFldX, ↓x_inXs, Bool.false_xor, Bool.true_xor, ↓x_fmtRS, ↓x_afRS, ↓x_afRI, ↓x_stO, ↓x_zipS, ↓x_zipE, ↓x_zipSL, ↓x_zipST, ↓x_zipEL, ↓x_augix, ↓x_isB, ↓x_notB, ↓gLR1, ↓gLR2, ↓gDIxT, ↓gDGt1T, ↓gDSetT, ↓gDNewT, ↓gDIx, ↓gDGt1, ↓gDGt2, ↓gDIn, ↓gDSetd, ↓gDPop1, ↓gDPop2, ↓gTIdx, ↓gLKeys, ↓gDisp, ↓x_enumK, ↓x_enumKL]
  have hs' : 100000 ≤ sizeLine := by decide
  have t15 := Mt.ten15
  refine Mt.draw_in (by decide) (by decide) ht (by omega) fun m1 o1 hm1 hm2 ht1 => Mt.draw_in (by decide) (by decide) ht1 (by omega) fun m2 o2 hm3 hm4 ht2 => ⟨by decide, Mt.pickL_in (by simp) (by simp) ht2 (by omega) fun e o3 he ht3 => ?_⟩
  obtain ⟨st, rfl, st0, st1⟩ : ∃ z : Int, e = .int z ∧ 0 ≤ z ∧ z ≤ 900000 := by
    simp only [List.mem_cons, List.not_mem_nil, or_false] at he
    rcases he with rfl | rfl | rfl
    · exact ⟨_, rfl, by decide, by decide⟩
    · exact ⟨_, rfl, by omega, by omega⟩
    · exact ⟨_, rfl, by omega, by omega⟩
  (try simp only [↓x_eqSS, ↓x_neSS, ↓gKGet, ↓x_kget, ↓x_ixE, at_last, ↓x_appE, ↓x_tyE, ↓x_itE, ↓x_lenE, ↓x_nePr, ↓x_eqPr, ↓x_neE, ↓x_lenr, ↓x_lenrI, ↓gRev, ↓x_par3, ↓x_par33, ↓x_fld, ↓x_fset, ↓x_mkF, ↓x_mk, ↓x_meth, ↓x_fldO, ↓x_fsetE, ↓x_fldE, ↓x_methO, ↓x_isiCO, ↓x_isiCN, ↓x_isiCT, ↓x_isiCLi, ↓x_isiCS, ↓x_isiCI, ↓x_own, ↓x_eqT2, ↓x_neT2, ↓x_neL4, ↓x_eqLN, ↓x_neNil, ↓x_gset, ↓x_lc, ↓x_for, ↓x_it, ↓x_rn1, ↓x_rn2, ↓x_enu, ↓x_zip, ↓x_itS, ↓x_itL, ↓x_itK, ↓x_itT, ↓x_rn1I, ↓x_rn2I, ↓x_enuL, ↓x_enuK, ↓x_zipL, ↓x_ixS0, ↓x_ixL, ↓x_ixT, ↓x_ixK, x_at0, x_at1, x_at2, x_at3, x_at4, ↓x_set00, ↓x_set01, ↓x_set02, ↓x_aug1, ↓x_aug2, ↓x_aug3, ↓x_aug4, ↓x_aug5, ↓x_aug6, ↓x_aug7, ↓x_aug8, ↓x_aug9, ↓x_aug10, ↓x_aug11, ↓x_aug12, ↓x_aug13, ↓x_aug14, ↓x_aug15, ↓x_aug16, ↓x_aug17, ↓x_aug18, ↓x_aug19, ↓x_aug20, ↓x_aug21, ↓x_aug22, ↓x_aug23, Int.reduceToNat, Int.reducePow, ↓gSeq, ↓gIfS, ↓gSet, ↓gAsg, ↓x_par, ↓x_par2, ↓gRet, ↓gRetN, ↓gNext, ↓gDrop, ↓gBreak, ↓gCont, ↓gDead, ↓gCB, ↓gB2, ↓gU, ↓gC, ↓Dl.gCons, ↓Dl.gNil, ↓Dl.gTup, ↓Dl.gLst, ↓gTest, ↓gOrB, ↓gAndB, ↓gNotB, ↓gAndV, ↓gOrV, ↓gNotV, ↓gIf, ↓gIx, ↓gSl, ↓gPart, ↓gNoP, ↓gMt, ↓gCall, ↓gArgs, ↓gIsN, ↓gNotN, ↓gChain, ↓x_fmtS, ↓x_afS, ↓x_afI, ↓x_js0, ↓x_jsc, ↓gJoined, ↓gYes, ↓x_bnm, ↓x_btp, ↓x_bn, ↓x_bc, ↓x_nnN, ↓x_nnI, ↓x_nnS, ↓x_nnB, ↓x_nnT, ↓x_nnL, ↓x_nnO, ↓x_nnl, ↓x_tyS, ↓x_tyL, ↓x_i2, ↓aSub, ↓aFdiv, ↓aMod, ↓aPow, ↓aShr, ↓aLt, ↓aLe, ↓aGt, ↓aGe, ↓x_addI, ↓x_addS, ↓x_mulI, ↓x_iaddS, ↓x_iaddI, ↓x_neg, ↓x_eqI, ↓x_neI, ↓x_eqS, ↓x_neS, ↓x_eqB, ↓x_neB, ↓x_eqNI, ↓x_neNI, ↓x_lenS, ↓x_lenL_l, ↓x_lenL_k, ↓x_lenL_t, ↓x_str, ↓x_intI, ↓x_intB, ↓x_divmod, ↓x_max2, ↓x_min2, ↓x_ixS, ↓x_slS, ↓x_slT, ↓x_slL_l, ↓x_slL_k, ↓x_inS, ↓x_newT, ↓x_newF, ↓x_si, ↓x_s1, ↓x_s0, ↓x_rpart, ↓x_part, ↓x_a1, ↓x_a2, ↓x_isiStr, ↓x_isiInt, ↓x_isiIntB, ↓x_isiIntS, ↓x_isiBB, ↓x_isiBI, ↓x_isiStrI, ↓x_isiNonI, ↓x_isiNonS, ↓x_isiT, ↓x_isiL, ↓x_var0, ↓x_varS, ↓x_ex, ↓x_aug0, gat, pick, Option.some.injEq, D.bl.injEq, D.int.injEq, D.str.injEq, D.tup.injEq, D.lst.injEq, List.cons.injEq, and_true, true_and, List.set_cons_zero, List.set_cons_succ, List.length_cons, List.length_nil, List.filterMap_cons, List.filterMap_nil, List.getElem?_cons_zero, List.getElem?_cons_succ, Option.bind_some, ↓reduceIte, if_true, if_false, Bool.false_eq_true, Bool.true_eq_false, decide_eq_true_eq, beq_self_eq_true, Bool.not_true, Bool.not_false, Bool.not_eq_true', decide_eq_false_iff_not, exists_eq_left', exists_eq_left, exists_eq, ↓x_dnT, ↓x_dnF, ↓gAsgL, ↓gMMDef, ↓gDSet, ↓gSItems, ↓x_nilL, ↓x_nilE, List.isEmpty_nil, List.isEmpty_cons, Bool.true_xor, Bool.false_xor, ↓gOrT, ↓gAndT, ↓gTryAs, ↓gTryO, ↓gRaise, ↓gCallX, ↓gMethX, ↓gMakeX, ↓gFldX, ↓x_inXs, Bool.false_xor, Bool.true_xor, ↓x_fmtRS, ↓x_afRS, ↓x_afRI, ↓x_stO, ↓x_zipS, ↓x_zipE, ↓x_zipSL, ↓x_zipST, ↓x_zipEL, ↓x_augix, ↓x_isB, ↓x_notB, ↓gLR1, ↓gLR2, ↓gDIxT, ↓gDGt1T, ↓gDSetT, ↓gDNewT, ↓gDIx, ↓gDGt1, ↓gDGt2, ↓gDIn, ↓gDSetd, ↓gDPop1, ↓gDPop2, ↓gTIdx, ↓gLKeys, ↓gDisp, ↓x_enumK, ↓x_enumKL])
  obtain ⟨s0, hs0, hs1, hs2⟩ : ∃ s0 : Nat, (s0 : Int) = min st (10 ^ 6 - 3000 * (many : Int)) ∧ (s0 : Int) ≤ 1000000 - 3000 * many ∧ s0 ≤ 1000000 := ⟨(min st (10 ^ 6 - 3000 * (many : Int))).toNat, by omega, by omega, by omega⟩
  refine ⟨by decide, ⟨by decide, by decide, by decide⟩, mulOk_l (by decide) (by decide), by omega, by omega, ?_⟩
  have e6 : (10 : Int) ^ Int.toNat 6 = 10 ^ 6 := rfl
  refine ⟨fun i ρ S' => ∃ (o' : Option MO) (M : Nat) (R : List Rw) (y5 : Option D), Mt.Tp (B + 3 + 5 * i) o' ∧ M ≤ s0 + 2999 * i ∧ R.length = i ∧ (∀ r ∈ R, RwOk r ∧ r.m ≤ M) ∧ Rise R ∧ S' = o' :: (R0 ++ [some (MO.lst (R.map rwD))]) ∧
    ρ = [some (.loc 0), some (.lst (xs.map D.str)), some (.int many), some (.int M), some (.loc (R0.length + 1)), y5], ⟨o3, s0, [], none, ht3.mono (by omega), by omega, rfl, fun r hr => (by cases hr), List.Pairwise.nil, rfl, ?_⟩, ?_, ?_⟩
  · rw [hs0, show (10 : Int) ^ 6 = 1000000 from rfl]
  · rintro i d ρ S' hd ⟨o', M, R, y5, ht', hM, hRl, hR, hRi, rfl, rfl⟩
    have hi : i < many := by
      have := (List.getElem?_eq_some_iff.mp hd).1
      rw [x_rngL] at this
      omega
    refine ⟨trivial, _, x_bnm, ?_⟩
    have hgetS : ∀ (o2 : Option MO) (ds : List D), (o2 :: (R0 ++ [some (MO.lst ds)]))[R0.length + 1]? = some (some (MO.lst ds)) := fun o2 ds => by simp
    simp only [↓x_eqSS, ↓x_neSS, ↓gKGet, ↓x_kget, ↓x_ixE, at_last, ↓x_appE, ↓x_tyE, ↓x_itE, ↓x_lenE, ↓x_nePr, ↓x_eqPr, ↓x_neE, ↓x_lenr, ↓x_lenrI, ↓gRev, ↓x_par3, ↓x_par33, ↓x_fld, ↓x_fset, ↓x_mkF, ↓x_mk, ↓x_meth, ↓x_fldO, ↓x_fsetE, ↓x_fldE, ↓x_methO, ↓x_isiCO, ↓x_isiCN, ↓x_isiCT, ↓x_isiCLi, ↓x_isiCS, ↓x_isiCI, ↓x_own, ↓x_eqT2, ↓x_neT2, ↓x_neL4, ↓x_eqLN, ↓x_neNil, ↓x_gset, ↓x_lc, ↓x_for, ↓x_it, ↓x_rn1, ↓x_rn2, ↓x_enu, ↓x_zip, ↓x_itS, ↓x_itL, ↓x_itK, ↓x_itT, ↓x_rn1I, ↓x_rn2I, ↓x_enuL, ↓x_enuK, ↓x_zipL, ↓x_ixS0, ↓x_ixL, ↓x_ixT, ↓x_ixK, x_at0, x_at1, x_at2, x_at3, x_at4, ↓x_set00, ↓x_set01, ↓x_set02, ↓x_aug1, ↓x_aug2, ↓x_aug3, ↓x_aug4, ↓x_aug5, ↓x_aug6, ↓x_aug7, ↓x_aug8, ↓x_aug9, ↓x_aug10, ↓x_aug11, ↓x_aug12, ↓x_aug13, ↓x_aug14, ↓x_aug15, ↓x_aug16, ↓x_aug17, ↓x_aug18, ↓x_aug19, ↓x_aug20, ↓x_aug21, ↓x_aug22, ↓x_aug23, Int.reduceToNat, Int.reducePow, ↓gSeq, ↓gIfS, ↓gSet, ↓gAsg, ↓x_par, ↓x_par2, ↓gRet, ↓gRetN, ↓gNext, ↓gDrop, ↓gBreak, ↓gCont, ↓gDead, ↓gCB, ↓gB2, ↓gU, ↓gC, ↓Dl.gCons, ↓Dl.gNil, ↓Dl.gTup, ↓Dl.gLst, ↓gTest, ↓gOrB, ↓gAndB, ↓gNotB, ↓gAndV, ↓gOrV, ↓gNotV, ↓gIf, ↓gIx, ↓gSl, ↓gPart, ↓gNoP, ↓gMt, ↓gCall, ↓gArgs, ↓gIsN, ↓gNotN, ↓gChain, ↓x_fmtS, ↓x_afS, ↓x_afI, ↓x_js0, ↓x_jsc, ↓gJoined, ↓gYes, ↓x_bnm, ↓x_btp, ↓x_bn, ↓x_bc, ↓x_nnN, ↓x_nnI, ↓x_nnS, ↓x_nnB, ↓x_nnT, ↓x_nnL, ↓x_nnO, ↓x_nnl, ↓x_tyS, ↓x_tyL, ↓x_i2, ↓aSub, ↓aFdiv, ↓aMod, ↓aPow, ↓aShr, ↓aLt, ↓aLe, ↓aGt, ↓aGe, ↓x_addI, ↓x_addS, ↓x_mulI, ↓x_iaddS, ↓x_iaddI, ↓x_neg, ↓x_eqI, ↓x_neI, ↓x_eqS, ↓x_neS, ↓x_eqB, ↓x_neB, ↓x_eqNI, ↓x_neNI, ↓x_lenS, ↓x_lenL_l, ↓x_lenL_k, ↓x_lenL_t, ↓x_str, ↓x_intI, ↓x_intB, ↓x_divmod, ↓x_max2, ↓x_min2, ↓x_ixS, ↓x_slS, ↓x_slT, ↓x_slL_l, ↓x_slL_k, ↓x_inS, ↓x_newT, ↓x_newF, ↓x_si, ↓x_s1, ↓x_s0, ↓x_rpart, ↓x_part, ↓x_a1, ↓x_a2, ↓x_isiStr, ↓x_isiInt, ↓x_isiIntB, ↓x_isiIntS, ↓x_isiBB, ↓x_isiBI, ↓x_isiStrI, ↓x_isiNonI, ↓x_isiNonS, ↓x_isiT, ↓x_isiL, ↓x_var0, ↓x_varS, ↓x_ex, ↓x_aug0, gat, pick, Option.some.injEq, D.bl.injEq, D.int.injEq, D.str.injEq, D.tup.injEq, D.lst.injEq, List.cons.injEq, and_true, true_and, List.set_cons_zero, List.set_cons_succ, List.length_cons, List.length_nil, List.filterMap_cons, List.filterMap_nil, List.getElem?_cons_zero, List.getElem?_cons_succ, Option.bind_some, ↓reduceIte, if_true, if_false, Bool.false_eq_true, Bool.true_eq_false, decide_eq_true_eq, beq_self_eq_true, Bool.not_true, Bool.not_false, Bool.not_eq_true', decide_eq_false_iff_not, exists_eq_left', exists_eq_left, exists_eq, ↓x_dnT, ↓x_dnF, ↓gAsgL, ↓gMMDef, ↓gDSet, ↓gSItems, ↓x_nilL, ↓x_nilE, List.isEmpty_nil, List.isEmpty_cons, Bool.true_xor, Bool.false_xor, ↓gOrT, ↓gAndT, ↓gTryAs, ↓gTryO, ↓gRaise, ↓gCallX, ↓gMethX, ↓gMakeX, ↓gFldX, ↓x_inXs, Bool.false_xor, Bool.true_xor, ↓x_fmtRS, ↓x_afRS, ↓x_afRI, ↓x_stO, ↓x_zipS, ↓x_zipE, ↓x_zipSL, ↓x_zipST, ↓x_zipEL, ↓x_augix, ↓x_isB, ↓x_notB, ↓gLR1, ↓gLR2, ↓gDIxT, ↓gDGt1T, ↓gDSetT, ↓gDNewT, ↓gDIx, ↓gDGt1, ↓gDGt2, ↓gDIn, ↓gDSetd, ↓gDPop1, ↓gDPop2, ↓gTIdx, ↓gLKeys, ↓gDisp, ↓x_enumK, ↓x_enumKL]
    refine Mt.draw_in (by decide) (by decide) ht' (by omega) fun u o4 hu1 hu2 ht4 => Mt.draw_in (by decide) (by decide) ht4 (by omega) fun v o5 hv1 hv2 ht5 => ⟨by decide, Mt.pickL_in (by simp) (by simp) ht5 (by omega) fun e o6 he ht6 => ?_⟩
    obtain ⟨z, rfl, z1⟩ : ∃ z : Nat, e = .int z ∧ z ≤ 2999 := by
      simp only [List.mem_cons, List.not_mem_nil, or_false] at he
      rcases he with rfl | rfl | rfl | rfl | rfl
      · exact ⟨0, rfl, by decide⟩
      · exact ⟨0, rfl, by decide⟩
      · exact ⟨1, rfl, by decide⟩
      · exact ⟨u.toNat, by rw [Int.toNat_of_nonneg hu1], by omega⟩
      · exact ⟨v.toNat, by rw [Int.toNat_of_nonneg hv1], by omega⟩
    (try simp only [↓x_eqSS, ↓x_neSS, ↓gKGet, ↓x_kget, ↓x_ixE, at_last, ↓x_appE, ↓x_tyE, ↓x_itE, ↓x_lenE, ↓x_nePr, ↓x_eqPr, ↓x_neE, ↓x_lenr, ↓x_lenrI, ↓gRev, ↓x_par3, ↓x_par33, ↓x_fld, ↓x_fset, ↓x_mkF, ↓x_mk, ↓x_meth, ↓x_fldO, ↓x_fsetE, ↓x_fldE, ↓x_methO, ↓x_isiCO, ↓x_isiCN, ↓x_isiCT, ↓x_isiCLi, ↓x_isiCS, ↓x_isiCI, ↓x_own, ↓x_eqT2, ↓x_neT2, ↓x_neL4, ↓x_eqLN, ↓x_neNil, ↓x_gset, ↓x_lc, ↓x_for, ↓x_it, ↓x_rn1, ↓x_rn2, ↓x_enu, ↓x_zip, ↓x_itS, ↓x_itL, ↓x_itK, ↓x_itT, ↓x_rn1I, ↓x_rn2I, ↓x_enuL, ↓x_enuK, ↓x_zipL, ↓x_ixS0, ↓x_ixL, ↓x_ixT, ↓x_ixK, x_at0, x_at1, x_at2, x_at3, x_at4, ↓x_set00, ↓x_set01, ↓x_set02, ↓x_aug1, ↓x_aug2, ↓x_aug3, ↓x_aug4, ↓x_aug5, ↓x_aug6, ↓x_aug7, ↓x_aug8, ↓x_aug9, ↓x_aug10, ↓x_aug11, ↓x_aug12, ↓x_aug13, ↓x_aug14, ↓x_aug15, ↓x_aug16, ↓x_aug17, ↓x_aug18, ↓x_aug19, ↓x_aug20, ↓x_aug21, ↓x_aug22, ↓x_aug23, Int.reduceToNat, Int.reducePow, ↓gSeq, ↓gIfS, ↓gSet, ↓gAsg, ↓x_par, ↓x_par2, ↓gRet, ↓gRetN, ↓gNext, ↓gDrop, ↓gBreak, ↓gCont, ↓gDead, ↓gCB, ↓gB2, ↓gU, ↓gC, ↓Dl.gCons, ↓Dl.gNil, ↓Dl.gTup, ↓Dl.gLst, ↓gTest, ↓gOrB, ↓gAndB, ↓gNotB, ↓gAndV, ↓gOrV, ↓gNotV, ↓gIf, ↓gIx, ↓gSl, ↓gPart, ↓gNoP, ↓gMt, ↓gCall, ↓gArgs, ↓gIsN, ↓gNotN, ↓gChain, ↓x_fmtS, ↓x_afS, ↓x_afI, ↓x_js0, ↓x_jsc, ↓gJoined, ↓gYes, ↓x_bnm, ↓x_btp, ↓x_bn, ↓x_bc, ↓x_nnN, ↓x_nnI, ↓x_nnS, ↓x_nnB, ↓x_nnT, ↓x_nnL, ↓x_nnO, ↓x_nnl, ↓x_tyS, ↓x_tyL, ↓x_i2, ↓aSub, ↓aFdiv, ↓aMod, ↓aPow, ↓aShr, ↓aLt, ↓aLe, ↓aGt, ↓aGe, ↓x_addI, ↓x_addS, ↓x_mulI, ↓x_iaddS, ↓x_iaddI, ↓x_neg, ↓x_eqI, ↓x_neI, ↓x_eqS, ↓x_neS, ↓x_eqB, ↓x_neB, ↓x_eqNI, ↓x_neNI, ↓x_lenS, ↓x_lenL_l, ↓x_lenL_k, ↓x_lenL_t, ↓x_str, ↓x_intI, ↓x_intB, ↓x_divmod, ↓x_max2, ↓x_min2, ↓x_ixS, ↓x_slS, ↓x_slT, ↓x_slL_l, ↓x_slL_k, ↓x_inS, ↓x_newT, ↓x_newF, ↓x_si, ↓x_s1, ↓x_s0, ↓x_rpart, ↓x_part, ↓x_a1, ↓x_a2, ↓x_isiStr, ↓x_isiInt, ↓x_isiIntB, ↓x_isiIntS, ↓x_isiBB, ↓x_isiBI, ↓x_isiStrI, ↓x_isiNonI, ↓x_isiNonS, ↓x_isiT, ↓x_isiL, ↓x_var0, ↓x_varS, ↓x_ex, ↓x_aug0, gat, pick, Option.some.injEq, D.bl.injEq, D.int.injEq, D.str.injEq, D.tup.injEq, D.lst.injEq, List.cons.injEq, and_true, true_and, List.set_cons_zero, List.set_cons_succ, List.length_cons, List.length_nil, List.filterMap_cons, List.filterMap_nil, List.getElem?_cons_zero, List.getElem?_cons_succ, Option.bind_some, ↓reduceIte, if_true, if_false, Bool.false_eq_true, Bool.true_eq_false, decide_eq_true_eq, beq_self_eq_true, Bool.not_true, Bool.not_false, Bool.not_eq_true', decide_eq_false_iff_not, exists_eq_left', exists_eq_left, exists_eq, ↓x_dnT, ↓x_dnF, ↓gAsgL, ↓gMMDef, ↓gDSet, ↓gSItems, ↓x_nilL, ↓x_nilE, List.isEmpty_nil, List.isEmpty_cons, Bool.true_xor, Bool.false_xor, ↓gOrT, ↓gAndT, ↓gTryAs, ↓gTryO, ↓gRaise, ↓gCallX, ↓gMethX, ↓gMakeX, ↓gFldX, ↓x_inXs, Bool.false_xor, Bool.true_xor, ↓x_fmtRS, ↓x_afRS, ↓x_afRI, ↓x_stO, ↓x_zipS, ↓x_zipE, ↓x_zipSL, ↓x_zipST, ↓x_zipEL, ↓x_augix, ↓x_isB, ↓x_notB, ↓gLR1, ↓gLR2, ↓gDIxT, ↓gDGt1T, ↓gDSetT, ↓gDNewT, ↓gDIx, ↓gDGt1, ↓gDGt2, ↓gDIn, ↓gDSetd, ↓gDPop1, ↓gDPop2, ↓gTIdx, ↓gLKeys, ↓gDisp, ↓x_enumK, ↓x_enumKL])
    refine ⟨x_tyO (hgetS _ _), by decide, Mt.draw_in (by decide) (by decide) ht6 (by omega) fun b o7 hb1 hb2 ht7 => ?_⟩
    obtain ⟨wd, hwd, hat⟩ : ∃ wd : Str, WdOk wd ∧ atI [D.str (Str.ofString "on"), D.str (Str.ofString "off")] b = some (.str wd) := by
      by_cases c : b = 0
      · subst c; exact ⟨"on", .inl rfl, atI_lit (k := 0) rfl⟩
      · have : b = 1 := by omega
        subst this; exact ⟨"off", .inr rfl, atI_lit (k := 1) rfl⟩
    simp only [↓x_eqSS, ↓x_neSS, ↓gKGet, ↓x_kget, ↓x_ixE, at_last, ↓x_appE, ↓x_tyE, ↓x_itE, ↓x_lenE, ↓x_nePr, ↓x_eqPr, ↓x_neE, ↓x_lenr, ↓x_lenrI, ↓gRev, ↓x_par3, ↓x_par33, ↓x_fld, ↓x_fset, ↓x_mkF, ↓x_mk, ↓x_meth, ↓x_fldO, ↓x_fsetE, ↓x_fldE, ↓x_methO, ↓x_isiCO, ↓x_isiCN, ↓x_isiCT, ↓x_isiCLi, ↓x_isiCS, ↓x_isiCI, ↓x_own, ↓x_eqT2, ↓x_neT2, ↓x_neL4, ↓x_eqLN, ↓x_neNil, ↓x_gset, ↓x_lc, ↓x_for, ↓x_it, ↓x_rn1, ↓x_rn2, ↓x_enu, ↓x_zip, ↓x_itS, ↓x_itL, ↓x_itK, ↓x_itT, ↓x_rn1I, ↓x_rn2I, ↓x_enuL, ↓x_enuK, ↓x_zipL, ↓x_ixS0, ↓x_ixL, ↓x_ixT, ↓x_ixK, x_at0, x_at1, x_at2, x_at3, x_at4, ↓x_set00, ↓x_set01, ↓x_set02, ↓x_aug1, ↓x_aug2, ↓x_aug3, ↓x_aug4, ↓x_aug5, ↓x_aug6, ↓x_aug7, ↓x_aug8, ↓x_aug9, ↓x_aug10, ↓x_aug11, ↓x_aug12, ↓x_aug13, ↓x_aug14, ↓x_aug15, ↓x_aug16, ↓x_aug17, ↓x_aug18, ↓x_aug19, ↓x_aug20, ↓x_aug21, ↓x_aug22, ↓x_aug23, Int.reduceToNat, Int.reducePow, ↓gSeq, ↓gIfS, ↓gSet, ↓gAsg, ↓x_par, ↓x_par2, ↓gRet, ↓gRetN, ↓gNext, ↓gDrop, ↓gBreak, ↓gCont, ↓gDead, ↓gCB, ↓gB2, ↓gU, ↓gC, ↓Dl.gCons, ↓Dl.gNil, ↓Dl.gTup, ↓Dl.gLst, ↓gTest, ↓gOrB, ↓gAndB, ↓gNotB, ↓gAndV, ↓gOrV, ↓gNotV, ↓gIf, ↓gIx, ↓gSl, ↓gPart, ↓gNoP, ↓gMt, ↓gCall, ↓gArgs, ↓gIsN, ↓gNotN, ↓gChain, ↓x_fmtS, ↓x_afS, ↓x_afI, ↓x_js0, ↓x_jsc, ↓gJoined, ↓gYes, ↓x_bnm, ↓x_btp, ↓x_bn, ↓x_bc, ↓x_nnN, ↓x_nnI, ↓x_nnS, ↓x_nnB, ↓x_nnT, ↓x_nnL, ↓x_nnO, ↓x_nnl, ↓x_tyS, ↓x_tyL, ↓x_i2, ↓aSub, ↓aFdiv, ↓aMod, ↓aPow, ↓aShr, ↓aLt, ↓aLe, ↓aGt, ↓aGe, ↓x_addI, ↓x_addS, ↓x_mulI, ↓x_iaddS, ↓x_iaddI, ↓x_neg, ↓x_eqI, ↓x_neI, ↓x_eqS, ↓x_neS, ↓x_eqB, ↓x_neB, ↓x_eqNI, ↓x_neNI, ↓x_lenS, ↓x_lenL_l, ↓x_lenL_k, ↓x_lenL_t, ↓x_str, ↓x_intI, ↓x_intB, ↓x_divmod, ↓x_max2, ↓x_min2, ↓x_ixS, ↓x_slS, ↓x_slT, ↓x_slL_l, ↓x_slL_k, ↓x_inS, ↓x_newT, ↓x_newF, ↓x_si, ↓x_s1, ↓x_s0, ↓x_rpart, ↓x_part, ↓x_a1, ↓x_a2, ↓x_isiStr, ↓x_isiInt, ↓x_isiIntB, ↓x_isiIntS, ↓x_isiBB, ↓x_isiBI, ↓x_isiStrI, ↓x_isiNonI, ↓x_isiNonS, ↓x_isiT, ↓x_isiL, ↓x_var0, ↓x_varS, ↓x_ex, ↓x_aug0, gat, pick, Option.some.injEq, D.bl.injEq, D.int.injEq, D.str.injEq, D.tup.injEq, D.lst.injEq, List.cons.injEq, and_true, true_and, List.set_cons_zero, List.set_cons_succ, List.length_cons, List.length_nil, List.filterMap_cons, List.filterMap_nil, List.getElem?_cons_zero, List.getElem?_cons_succ, Option.bind_some, ↓reduceIte, if_true, if_false, Bool.false_eq_true, Bool.true_eq_false, decide_eq_true_eq, beq_self_eq_true, Bool.not_true, Bool.not_false, Bool.not_eq_true', decide_eq_false_iff_not, exists_eq_left', exists_eq_left, exists_eq, ↓x_dnT, ↓x_dnF, ↓gAsgL, ↓gMMDef, ↓gDSet, ↓gSItems, ↓x_nilL, ↓x_nilE, List.isEmpty_nil, List.isEmpty_cons, Bool.true_xor, Bool.false_xor, ↓gOrT, ↓gAndT, ↓gTryAs, ↓gTryO, ↓gRaise, ↓gCallX, ↓gMethX, ↓gMakeX, ↓gFldX, ↓x_inXs, Bool.false_xor, Bool.true_xor, ↓x_fmtRS, ↓x_afRS, ↓x_afRI, ↓x_stO, ↓x_zipS, ↓x_zipE, ↓x_zipSL, ↓x_zipST, ↓x_zipEL, ↓x_augix, ↓x_isB, ↓x_notB, ↓gLR1, ↓gLR2, ↓gDIxT, ↓gDGt1T, ↓gDSetT, ↓gDNewT, ↓gDIx, ↓gDGt1, ↓gDGt2, ↓gDIn, ↓gDSetd, ↓gDPop1, ↓gDPop2, ↓gTIdx, ↓gLKeys, ↓gDisp, ↓x_enumK, ↓x_enumKL]
    refine ⟨_, hat, Mt.pickL_in (by simp; omega) (by simp; omega) ht7 (by omega) fun e o8 he ht8 => ?_⟩
    obtain ⟨x, hx, rfl⟩ := List.mem_map.mp he
    refine ⟨by decide, (x_app (hgetS _ _)).mpr ⟨by rw [List.length_map]; omega, ?_⟩⟩
    refine ⟨o8, M + z, R ++ [Rw.mk (M + z) wd x], _, ht8.mono (by omega), by omega, by simp [hRl], fun r hr => ?_, ?_, by simp, by omega, rfl⟩
    · rcases List.mem_append.mp hr with hr | hr
      · exact ⟨(hR r hr).1, by have := (hR r hr).2; omega⟩
      · rw [List.mem_singleton.mp hr]
        exact ⟨⟨by show M + z ≤ 1000000; omega, hwd, hxo x hx⟩, Nat.le_refl _⟩
    · refine List.pairwise_append.mpr ⟨hRi, List.pairwise_singleton _ _, fun r hr s hs => ?_⟩
      rw [List.mem_singleton.mp hs]
      show r.m ≤ M + z
      have := (hR r hr).2
      omega
  · rintro ρ S' ⟨o', M, R, y5, ht', hM, hRl, hR, hRi, rfl, rfl⟩
    refine ⟨trivial, ?_⟩
    simp only [↓x_eqSS, ↓x_neSS, ↓gKGet, ↓x_kget, ↓x_ixE, at_last, ↓x_appE, ↓x_tyE, ↓x_itE, ↓x_lenE, ↓x_nePr, ↓x_eqPr, ↓x_neE, ↓x_lenr, ↓x_lenrI, ↓gRev, ↓x_par3, ↓x_par33, ↓x_fld, ↓x_fset, ↓x_mkF, ↓x_mk, ↓x_meth, ↓x_fldO, ↓x_fsetE, ↓x_fldE, ↓x_methO, ↓x_isiCO, ↓x_isiCN, ↓x_isiCT, ↓x_isiCLi, ↓x_isiCS, ↓x_isiCI, ↓x_own, ↓x_eqT2, ↓x_neT2, ↓x_neL4, ↓x_eqLN, ↓x_neNil, ↓x_gset, ↓x_lc, ↓x_for, ↓x_it, ↓x_rn1, ↓x_rn2, ↓x_enu, ↓x_zip, ↓x_itS, ↓x_itL, ↓x_itK, ↓x_itT, ↓x_rn1I, ↓x_rn2I, ↓x_enuL, ↓x_enuK, ↓x_zipL, ↓x_ixS0, ↓x_ixL, ↓x_ixT, ↓x_ixK, x_at0, x_at1, x_at2, x_at3, x_at4, ↓x_set00, ↓x_set01, ↓x_set02, ↓x_aug1, ↓x_aug2, ↓x_aug3, ↓x_aug4, ↓x_aug5, ↓x_aug6, ↓x_aug7, ↓x_aug8, ↓x_aug9, ↓x_aug10, ↓x_aug11, ↓x_aug12, ↓x_aug13, ↓x_aug14, ↓x_aug15, ↓x_aug16, ↓x_aug17, ↓x_aug18, ↓x_aug19, ↓x_aug20, ↓x_aug21, ↓x_aug22, ↓x_aug23, Int.reduceToNat, Int.reducePow, ↓gSeq, ↓gIfS, ↓gSet, ↓gAsg, ↓x_par, ↓x_par2, ↓gRet, ↓gRetN, ↓gNext, ↓gDrop, ↓gBreak, ↓gCont, ↓gDead, ↓gCB, ↓gB2, ↓gU, ↓gC, ↓Dl.gCons, ↓Dl.gNil, ↓Dl.gTup, ↓Dl.gLst, ↓gTest, ↓gOrB, ↓gAndB, ↓gNotB, ↓gAndV, ↓gOrV, ↓gNotV, ↓gIf, ↓gIx, ↓gSl, ↓gPart, ↓gNoP, ↓gMt, ↓gCall, ↓gArgs, ↓gIsN, ↓gNotN, ↓gChain, ↓x_fmtS, ↓x_afS, ↓x_afI, ↓x_js0, ↓x_jsc, ↓gJoined, ↓gYes, ↓x_bnm, ↓x_btp, ↓x_bn, ↓x_bc, ↓x_nnN, ↓x_nnI, ↓x_nnS, ↓x_nnB, ↓x_nnT, ↓x_nnL, ↓x_nnO, ↓x_nnl, ↓x_tyS, ↓x_tyL, ↓x_i2, ↓aSub, ↓aFdiv, ↓aMod, ↓aPow, ↓aShr, ↓aLt, ↓aLe, ↓aGt, ↓aGe, ↓x_addI, ↓x_addS, ↓x_mulI, ↓x_iaddS, ↓x_iaddI, ↓x_neg, ↓x_eqI, ↓x_neI, ↓x_eqS, ↓x_neS, ↓x_eqB, ↓x_neB, ↓x_eqNI, ↓x_neNI, ↓x_lenS, ↓x_lenL_l, ↓x_lenL_k, ↓x_lenL_t, ↓x_str, ↓x_intI, ↓x_intB, ↓x_divmod, ↓x_max2, ↓x_min2, ↓x_ixS, ↓x_slS, ↓x_slT, ↓x_slL_l, ↓x_slL_k, ↓x_inS, ↓x_newT, ↓x_newF, ↓x_si, ↓x_s1, ↓x_s0, ↓x_rpart, ↓x_part, ↓x_a1, ↓x_a2, ↓x_isiStr, ↓x_isiInt, ↓x_isiIntB, ↓x_isiIntS, ↓x_isiBB, ↓x_isiBI, ↓x_isiStrI, ↓x_isiNonI, ↓x_isiNonS, ↓x_isiT, ↓x_isiL, ↓x_var0, ↓x_varS, ↓x_ex, ↓x_aug0, gat, pick, Option.some.injEq, D.bl.injEq, D.int.injEq, D.str.injEq, D.tup.injEq, D.lst.injEq, List.cons.injEq, and_true, true_and, List.set_cons_zero, List.set_cons_succ, List.length_cons, List.length_nil, List.filterMap_cons, List.filterMap_nil, List.getElem?_cons_zero, List.getElem?_cons_succ, Option.bind_some, ↓reduceIte, if_true, if_false, Bool.false_eq_true, Bool.true_eq_false, decide_eq_true_eq, beq_self_eq_true, Bool.not_true, Bool.not_false, Bool.not_eq_true', decide_eq_false_iff_not, exists_eq_left', exists_eq_left, exists_eq, ↓x_dnT, ↓x_dnF, ↓gAsgL, ↓gMMDef, ↓gDSet, ↓gSItems, ↓x_nilL, ↓x_nilE, List.isEmpty_nil, List.isEmpty_cons, Bool.true_xor, Bool.false_xor, ↓gOrT, ↓gAndT, ↓gTryAs, ↓gTryO, ↓gRaise, ↓gCallX, ↓gMethX, ↓gMakeX, ↓gFldX, ↓x_inXs, Bool.false_xor, Bool.true_xor, ↓x_fmtRS, ↓x_afRS, ↓x_afRI, ↓x_stO, ↓x_zipS, ↓x_zipE, ↓x_zipSL, ↓x_zipST, ↓x_zipEL, ↓x_augix, ↓x_isB, ↓x_notB, ↓gLR1, ↓gLR2, ↓gDIxT, ↓gDGt1T, ↓gDSetT, ↓gDNewT, ↓gDIx, ↓gDGt1, ↓gDGt2, ↓gDIn, ↓gDSetd, ↓gDPop1, ↓gDPop2, ↓gTIdx, ↓gLKeys, ↓gDisp, ↓x_enumK, ↓x_enumKL]
    rw [x_rngL] at hRl ht'
    have hs2 : Sto.under (o' :: R0).length (o' :: R0) = true := tape_under ht' (by simpa using hs)
    have hq := h (.lst (R.map rwD)) o' ⟨R, rfl, by omega, fun r hr => (hR r hr).1, hRi⟩ (ht'.mono (by omega))
    exact (x_finE (S0 := o' :: R0) hs2).mpr ⟨und_rw, hq⟩
end
end Lw
namespace Lw
open PySem L2 Dl
section
variable {P : Program} {w : World} {K : PySem.W.Frag} {mg : Str → Option Value} {base : Heap} {a : Ad}
section
variable {S : Sto} {q : D → Sto → Prop} {b b' : Str} {R R' : List Rw} {n j n' j' : Nat}
theorem new_in (h : q (.loc S.length) (S ++ bk2 a S.length b [])) : aMake a.C_Book 1 0 [.p 0, .p 1] [] (sp_Book_init a) [.str b] [] S q := ⟨rfl, rfl, S, b, rfl, rfl, rfl, h⟩
theorem own_in (h1 : BkAt a S n j b R) (h2 : BkAt a S n' j' b' R') (hb : BaOk b) (hb' : BaOk b') (hR : ∀ r ∈ R, RwOk r) (hR' : ∀ r ∈ R', RwOk r) (h : q (.bl (decide (b = b' ∧ R = R'))) S) : aOwn a.C_Book (sp_Book_eq a) (.loc n) (.loc n') S q :=
  ⟨⟨_, _, bk_obj h1⟩, ⟨_, _, bk_obj h2⟩, n, j, b, R, n', j', b', R', rfl, h1, h2, hb, hb', hR, hR', ⟨_, rfl⟩, h⟩
theorem ownN_in (h1 : BkAt a S n j b R) (h2 : BkAt a S n' j' b' R') (hb : BaOk b) (hb' : BaOk b') (hR : ∀ r ∈ R, RwOk r) (hR' : ∀ r ∈ R', RwOk r) (h : q (.bl (!decide (b = b' ∧ R = R'))) S) : aOwnN a.C_Book (sp_Book_eq a) (.loc n) (.loc n') S q :=
  ⟨⟨_, _, bk_obj h1⟩, ⟨_, _, bk_obj h2⟩, n, j, b, R, n', j', b', R', rfl, h1, h2, hb, hb', hR, hR', _, rfl, h⟩
theorem notO_in (h1 : BkAt a S n j b R) (hl : R.length ≤ 100000) (h : q (.bl (!((R.length : Int) != 0))) S) : aNotO a.C_Book (sp_Book_len a) (.loc n) S q :=
  ⟨⟨_, _, bk_obj h1⟩, n, j, b, R, rfl, h1, _, rfl, by omega, by omega, h⟩
theorem bkT_nil : bkT b [] = b := TL.ext_tl (by
  unfold bkT
  rw [TL.join_eq, TL.tl_join]
  rfl)
theorem read0_in (hb : BaOk b) (h : q (.loc S.length) (S ++ bk2 a S.length b [])) : sp_read_book a [.str b] S q := ⟨b, [], by rw [bkT_nil], hb, fun r hr => (by cases hr), List.Pairwise.nil, by decide, h⟩
theorem bk_last (e : n = S.length) : BkAt a (S ++ bk2 a n b R) n (n + 1) b R := by simpa using bk2_at (a := a) (X := []) (b := b) (R := R) (S := S) e
end
theorem shb_r {R : List Rw} (h : ∀ r ∈ R, RwOk r) : PyData.showableAll (R.map rwY) = true := by
  induction R with
  | nil => rfl
  | cons r R ih =>
    rw [List.map_cons, PyData.showableAll, ih fun q hq => h q (List.mem_cons_of_mem _ hq), Bool.and_true]
    have h1 := (h r List.mem_cons_self).1
    have := Mt.log2_small (i := (r.m : Nat)) (by omega) (by omega)
    rw [Int.natAbs_natCast] at this
    simp [PyData.showable, PyData.showableAll, this]
theorem nod_r : ∀ R : List Rw, PyData.hasDictAll (R.map rwY) = false
  | [] => rfl
  | r :: R => by simp [PyData.hasDictAll, PyData.hasDict, nod_r R]
theorem big_r {R : List Rw} (h : ∀ r ∈ R, RwOk r) (hl : R.length ≤ 1000) : (PyData.list (R.map rwY)).shown.length ≤ sizeLine := by
  have one : ∀ p ∈ R.map rwY, p.shown.length ≤ 400 := fun p hp => by
    obtain ⟨r, hr, rfl⟩ := List.mem_map.mp hp
    have hok := h r hr
    have hw : (PyData.str r.w).shown.length ≤ 100 := Nat.le_trans (shown_str (wd_ok hok.2.1).1 (wd_ok hok.2.1).2) (by decide)
    have hn : (PyData.str r.n).shown.length ≤ 100 := Nat.le_trans (shown_str (nm_ok hok.2.2) hok.2.2.2.1) (by decide)
    have hm : (PyData.int (r.m : Nat)).shown.length ≤ 100 := by
      rw [PyData.shown]
      show (PySem.Str.ofString (toString ((r.m : Nat) : Int))).length ≤ 100
      rw [PySem.ofString_length]
      have := hok.1
      exact Nat.le_trans (PySem.int_text_length_le10 (k := 8) (by decide) (by omega)) (by decide)
    have three : ∀ p ∈ [PyData.int (r.m : Nat), .str r.w, .str r.n], p.shown.length ≤ 100 := fun p hp => by
      simp only [List.mem_cons, List.not_mem_nil, or_false] at hp
      rcases hp with rfl | rfl | rfl
      · exact hm
      · exact hw
      · exact hn
    exact Nat.le_trans (shown_tuple three) (show (100 + 2) * 3 + 3 ≤ 400 by decide)
  have h1 := shown_list one
  rw [List.length_map] at h1
  have h3 : 1000000 ≤ sizeLine := by decide
  have h4 := Nat.mul_le_mul_left (400 + 2) hl
  omega
theorem show_rows {R : List Rw} {S : Sto} {q : D → Sto → Prop} (h : ∀ r ∈ R, RwOk r) (hl : R.length ≤ 1000) (hq : q (.str (PyData.list (R.map rwY)).shown) S) : aRepr (.lst (R.map rwD)) S q :=
  (x_repr (p := .list (R.map rwY)) (by simp [toPyS, toPy, rows_py])).mpr ⟨by rw [PyData.showable]; exact shb_r h, by rw [PyData.hasDict]; exact nod_r R, by rw [PyData.depth]; have := dep_rows R; omega, big_r h hl, hq⟩
theorem bk2_len {S : Sto} {n : Nat} {b : Str} {R : List Rw} : (S ++ bk2 a n b R).length = S.length + 2 := by rw [List.length_append]; rfl
theorem ok_join {sep : Str} (hs : PyData.strOk sep = true) : ∀ ys : List Str, (∀ y ∈ ys, PyData.strOk y = true) → PyData.strOk (Txt.join sep ys) = true := by
  intro ys h
  show PyData.strOk (Builtin.Str.glued sep ys) = true
  rw [StrLaws.glued_eq_join]
  have go : ∀ ys : List Str, (∀ y ∈ ys, PyData.strOk y = true) → PyData.strOk (Str.join sep ys) = true := by
    intro ys
    induction ys with
    | nil => intro _; exact (by decide +kernel : PyData.strOk Str.empty = true)
    | cons x r ih =>
      intro h
      cases r with
      | nil => exact h x List.mem_cons_self
      | cons y r => exact Mt.ok_app (Mt.ok_app (h x List.mem_cons_self) hs) (ih fun z hz => h z (List.mem_cons_of_mem _ hz))
  exact go ys h
theorem bk_ok {b : Str} {R : List Rw} (hb : BaOk b) (h : ∀ r ∈ R, RwOk r) : PyData.strOk (bkT b R) = true := ok_join (by decide +kernel) _ fun y hy => by
  rcases List.mem_cons.mp hy with rfl | hy
  · exact (ba_ok hb).1
  · obtain ⟨r, hr, rfl⟩ := List.mem_map.mp hy
    exact (row_ok (h r hr)).2
section
variable {S : Sto} {q : D → Sto → Prop} {b : Str} {R : List Rw} {n j : Nat}
theorem isB_in (T : Txt K mg a) (h1 : BkAt a S n j b R) (h : q (.bl true) S) : aIsiC K (.loc n) (.ref a.C_Book) S q := ⟨_, rfl, .inl ⟨_, _, _, _, bk_obj h1, T.is_Book, T.kc_Book_Book, h⟩⟩
theorem str_in (h1 : BkAt a S n j b R) (hb : BaOk b) (hR : ∀ r ∈ R, RwOk r) (hl : R.length ≤ 1000) (h : q (.str (bkT b R)) S) : aStA [⟨a.C_Book, 3, sp_Book_str a⟩] 3 (.loc n) S q := ⟨_, _, _, List.mem_singleton.mpr rfl, Nat.le_refl _, bk_obj h1, n, j, b, R, rfl, h1, hb, hR, hl, _, rfl, h⟩
theorem len_in (h1 : BkAt a S n j b R) (hl : R.length ≤ 100000) (h : q (.int (R.length : Nat)) S) : aLenO a.C_Book (sp_Book_len a) (.loc n) S q := ⟨⟨_, _, bk_obj h1⟩, n, j, b, R, rfl, h1, _, rfl, by omega, by omega, h⟩
theorem rows_in (h1 : BkAt a S n j b R) (hl : R.length ≤ 100000) (h : q (.lst (R.map rwD)) S) : aMeth a.C_Book (Str.ofString "rows") (.loc n) S (sp_Book_rows a [.loc n] S q) := (bk_meth h1 (by decide +kernel)).mpr ⟨n, j, b, R, rfl, h1, hl, h⟩
theorem write_in {m : Nat} {w x : Str} (h1 : BkAt a S n j b R) (hl : R.length ≤ 100000) (hm : ∀ r, R.getLast? = some r → r.m ≤ m) (h : q .non (S.set j (some (.lst ((R ++ [Rw.mk m w x]).map rwD))))) : aMeth a.C_Book (Str.ofString "write") (.loc n) S (sp_Book_write a [.loc n, .int (m : Nat), .str w, .str x] S q) :=
  (bk_meth h1 (by decide +kernel)).mpr ⟨n, j, b, R, m, w, x, rfl, h1, hm, hl, h⟩
theorem read_in (hb : BaOk b) (hR : ∀ r ∈ R, RwOk r) (hi : Rise R) (hl : R.length ≤ 1000) (h : q (.loc S.length) (S ++ bk2 a S.length b R)) : sp_read_book a [.str (bkT b R)] S q := ⟨b, R, rfl, hb, hR, hi, hl, h⟩
end
theorem zz_ok : NmOk (Str.ofString "zz") := ⟨by decide +kernel, by decide +kernel, by decide +kernel⟩
theorem r_law (T : Txt K mg a) : ∀ ds S q, sp_law ds S q → g_law K a { nx := fun _ S' => q .non S', rt := q } (startD N_law ds) S := by
  rintro ds S q ⟨ns, rfl, rfl, h⟩
  rw [st_law]
  simp only [g_law, ↓x_eqSS, ↓x_neSS, ↓gKGet, ↓x_kget, ↓x_ixE, at_last, ↓x_appE, ↓x_tyE, ↓x_itE, ↓x_lenE, ↓x_nePr, ↓x_eqPr, ↓x_neE, ↓x_lenr, ↓x_lenrI, ↓gRev, ↓x_par3, ↓x_par33, ↓x_fld, ↓x_fset, ↓x_mkF, ↓x_mk, ↓x_meth, ↓x_fldO, ↓x_fsetE, ↓x_fldE, ↓x_methO, ↓x_isiCO, ↓x_isiCN, ↓x_isiCT, ↓x_isiCLi, ↓x_isiCS, ↓x_isiCI, ↓x_own, ↓x_eqT2, ↓x_neT2, ↓x_neL4, ↓x_eqLN, ↓x_neNil, ↓x_gset, ↓x_lc, ↓x_for, ↓x_it, ↓x_rn1, ↓x_rn2, ↓x_enu, ↓x_zip, ↓x_itS, ↓x_itL, ↓x_itK, ↓x_itT, ↓x_rn1I, ↓x_rn2I, ↓x_enuL, ↓x_enuK, ↓x_zipL, ↓x_ixS0, ↓x_ixL, ↓x_ixT, ↓x_ixK, x_at0, x_at1, x_at2, x_at3, x_at4, ↓x_set00, ↓x_set01, ↓x_set02, ↓x_aug1, ↓x_aug2, ↓x_aug3, ↓x_aug4, ↓x_aug5, ↓x_aug6, ↓x_aug7, ↓x_aug8, ↓x_aug9, ↓x_aug10, ↓x_aug11, ↓x_aug12, ↓x_aug13, ↓x_aug14, ↓x_aug15, ↓x_aug16, ↓x_aug17, ↓x_aug18, ↓x_aug19, ↓x_aug20, ↓x_aug21, ↓x_aug22, ↓x_aug23, Int.reduceToNat, Int.reducePow, ↓gSeq, ↓gIfS, ↓gSet, ↓gAsg, ↓x_par, ↓x_par2, ↓gRet, ↓gRetN, ↓gNext, ↓gDrop, ↓gBreak, ↓gCont, ↓gDead, ↓gCB, ↓gB2, ↓gU, ↓gC, ↓Dl.gCons, ↓Dl.gNil, ↓Dl.gTup, ↓Dl.gLst, ↓gTest, ↓gOrB, ↓gAndB, ↓gNotB, ↓gAndV, ↓gOrV, ↓gNotV, ↓gIf, ↓gIx, ↓gSl, ↓gPart, ↓gNoP, ↓gMt, ↓gCall, ↓gArgs, ↓gIsN, ↓gNotN, ↓gChain, ↓x_fmtS, ↓x_afS, ↓x_afI, ↓x_js0, ↓x_jsc, ↓gJoined, ↓gYes, ↓x_bnm, ↓x_btp, ↓x_bn, ↓x_bc, ↓x_nnN, ↓x_nnI, ↓x_nnS, ↓x_nnB, ↓x_nnT, ↓x_nnL, ↓x_nnO, ↓x_nnl, ↓x_tyS, ↓x_tyL, ↓x_i2, ↓aSub, ↓aFdiv, ↓aMod, ↓aPow, ↓aShr, ↓aLt, ↓aLe, ↓aGt, ↓aGe, ↓x_addI, ↓x_addS, ↓x_mulI, ↓x_iaddS, ↓x_iaddI, ↓x_neg, ↓x_eqI, ↓x_neI, ↓x_eqS, ↓x_neS, ↓x_eqB, ↓x_neB, ↓x_eqNI, ↓x_neNI, ↓x_lenS, ↓x_lenL_l, ↓x_lenL_k, ↓x_lenL_t, ↓x_str, ↓x_intI, ↓x_intB, ↓x_divmod, ↓x_max2, ↓x_min2, ↓x_ixS, ↓x_slS, ↓x_slT, ↓x_slL_l, ↓x_slL_k, ↓x_inS, ↓x_newT, ↓x_newF, ↓x_si, ↓x_s1, ↓x_s0, ↓x_rpart, ↓x_part, ↓x_a1, ↓x_a2, ↓x_isiStr, ↓x_isiInt, ↓x_isiIntB, ↓x_isiIntS, ↓x_isiBB, ↓x_isiBI, ↓x_isiStrI, ↓x_isiNonI, ↓x_isiNonS, ↓x_isiT, ↓x_isiL, ↓x_var0, ↓x_varS, ↓x_ex, ↓x_aug0, gat, pick, Option.some.injEq, D.bl.injEq, D.int.injEq, D.str.injEq, D.tup.injEq, D.lst.injEq, List.cons.injEq, and_true, true_and, List.set_cons_zero, List.set_cons_succ, List.length_cons, List.length_nil, List.filterMap_cons, List.filterMap_nil, List.getElem?_cons_zero, List.getElem?_cons_succ, Option.bind_some, ↓reduceIte, if_true, if_false, Bool.false_eq_true, Bool.true_eq_false, decide_eq_true_eq, beq_self_eq_true, Bool.not_true, Bool.not_false, Bool.not_eq_true', decide_eq_false_iff_not, exists_eq_left', exists_eq_left, exists_eq, ↓x_dnT, ↓x_dnF, ↓gAsgL, ↓gMMDef, ↓gDSet, ↓gSItems, ↓x_nilL, ↓x_nilE, List.isEmpty_nil, List.isEmpty_cons, Bool.true_xor, Bool.false_xor, ↓gOrT, ↓gAndT, ↓gTryAs, ↓gTryO, ↓gRaise, ↓gCallX, ↓gMethX, ↓gMakeX, ↓gFldX, ↓x_inXs, Bool.false_xor, Bool.true_xor, ↓x_fmtRS, ↓x_afRS, ↓x_afRI, ↓x_stO, ↓x_zipS, ↓x_zipE, ↓x_zipSL, ↓x_zipST, ↓x_zipEL, ↓x_augix, ↓x_isB, ↓x_notB, ↓gLR1, ↓gLR2, ↓gDIxT, ↓gDGt1T, ↓gDSetT, ↓gDNewT, ↓gDIx, ↓gDGt1, ↓gDGt2, ↓gDIn, ↓gDSetd, ↓gDPop1, ↓gDPop2, ↓gTIdx, ↓gLKeys, ↓gDisp, ↓x_enumK, ↓x_enumKL]
  have t15 := Mt.ten15
  have hs' : 100000 ≤ sizeLine := by decide
  refine ⟨ns, rfl, rfl, by decide, by decide, ?_⟩
  refine ⟨fun i ρ S' => ∃ (o : Option MO) (G : Sto) (y2 y3 y4 y5 y6 y7 y8 y9 y10 y11 y12 y13 y14 : Option D), Mt.Tp (5000 * i) o ∧ S' = o :: G ∧ ρ = [some (.ksq (ns.map .int)), some (.loc 0), y2, y3, y4, y5, y6, y7, y8, y9, y10, y11, y12, y13, y14], ⟨_, [], _, _, _, _, _, _, _, _, _, _, _, _, _, ⟨ns.take 63, 0, 0, rfl, by decide, by decide, by decide⟩, rfl, rfl⟩, ?_, ?_⟩
  · rintro i d0 ρ S' hd ⟨o, G, y2, y3, y4, y5, y6, y7, y8, y9, y10, y11, y12, y13, y14, ht, rfl, rfl⟩
    have hi : i < 3 := by
      have := (List.getElem?_eq_some_iff.mp hd).1
      rwa [x_rngL] at this
    refine ⟨trivial, _, x_bnm, ?_⟩
    simp only [↓x_eqSS, ↓x_neSS, ↓gKGet, ↓x_kget, ↓x_ixE, at_last, ↓x_appE, ↓x_tyE, ↓x_itE, ↓x_lenE, ↓x_nePr, ↓x_eqPr, ↓x_neE, ↓x_lenr, ↓x_lenrI, ↓gRev, ↓x_par3, ↓x_par33, ↓x_fld, ↓x_fset, ↓x_mkF, ↓x_mk, ↓x_meth, ↓x_fldO, ↓x_fsetE, ↓x_fldE, ↓x_methO, ↓x_isiCO, ↓x_isiCN, ↓x_isiCT, ↓x_isiCLi, ↓x_isiCS, ↓x_isiCI, ↓x_own, ↓x_eqT2, ↓x_neT2, ↓x_neL4, ↓x_eqLN, ↓x_neNil, ↓x_gset, ↓x_lc, ↓x_for, ↓x_it, ↓x_rn1, ↓x_rn2, ↓x_enu, ↓x_zip, ↓x_itS, ↓x_itL, ↓x_itK, ↓x_itT, ↓x_rn1I, ↓x_rn2I, ↓x_enuL, ↓x_enuK, ↓x_zipL, ↓x_ixS0, ↓x_ixL, ↓x_ixT, ↓x_ixK, x_at0, x_at1, x_at2, x_at3, x_at4, ↓x_set00, ↓x_set01, ↓x_set02, ↓x_aug1, ↓x_aug2, ↓x_aug3, ↓x_aug4, ↓x_aug5, ↓x_aug6, ↓x_aug7, ↓x_aug8, ↓x_aug9, ↓x_aug10, ↓x_aug11, ↓x_aug12, ↓x_aug13, ↓x_aug14, ↓x_aug15, ↓x_aug16, ↓x_aug17, ↓x_aug18, ↓x_aug19, ↓x_aug20, ↓x_aug21, ↓x_aug22, ↓x_aug23, Int.reduceToNat, Int.reducePow, ↓gSeq, ↓gIfS, ↓gSet, ↓gAsg, ↓x_par, ↓x_par2, ↓gRet, ↓gRetN, ↓gNext, ↓gDrop, ↓gBreak, ↓gCont, ↓gDead, ↓gCB, ↓gB2, ↓gU, ↓gC, ↓Dl.gCons, ↓Dl.gNil, ↓Dl.gTup, ↓Dl.gLst, ↓gTest, ↓gOrB, ↓gAndB, ↓gNotB, ↓gAndV, ↓gOrV, ↓gNotV, ↓gIf, ↓gIx, ↓gSl, ↓gPart, ↓gNoP, ↓gMt, ↓gCall, ↓gArgs, ↓gIsN, ↓gNotN, ↓gChain, ↓x_fmtS, ↓x_afS, ↓x_afI, ↓x_js0, ↓x_jsc, ↓gJoined, ↓gYes, ↓x_bnm, ↓x_btp, ↓x_bn, ↓x_bc, ↓x_nnN, ↓x_nnI, ↓x_nnS, ↓x_nnB, ↓x_nnT, ↓x_nnL, ↓x_nnO, ↓x_nnl, ↓x_tyS, ↓x_tyL, ↓x_i2, ↓aSub, ↓aFdiv, ↓aMod, ↓aPow, ↓aShr, ↓aLt, ↓aLe, ↓aGt, ↓aGe, ↓x_addI, ↓x_addS, ↓x_mulI, ↓x_iaddS, ↓x_iaddI, ↓x_neg, ↓x_eqI, ↓x_neI, ↓x_eqS, ↓x_neS, ↓x_eqB, ↓x_neB, ↓x_eqNI, ↓x_neNI, ↓x_lenS, ↓x_lenL_l, ↓x_lenL_k, ↓x_lenL_t, ↓x_str, ↓x_intI, ↓x_intB, ↓x_divmod, ↓x_max2, ↓x_min2, ↓x_ixS, ↓x_slS, ↓x_slT, ↓x_slL_l, ↓x_slL_k, ↓x_inS, ↓x_newT, ↓x_newF, ↓x_si, ↓x_s1, ↓x_s0, ↓x_rpart, ↓x_part, ↓x_a1, ↓x_a2, ↓x_isiStr, ↓x_isiInt, ↓x_isiIntB, ↓x_isiIntS, ↓x_isiBB, ↓x_isiBI, ↓x_isiStrI, ↓x_isiNonI, ↓x_isiNonS, ↓x_isiT, ↓x_isiL, ↓x_var0, ↓x_varS, ↓x_ex, ↓x_aug0, gat, pick, Option.some.injEq, D.bl.injEq, D.int.injEq, D.str.injEq, D.tup.injEq, D.lst.injEq, List.cons.injEq, and_true, true_and, List.set_cons_zero, List.set_cons_succ, List.length_cons, List.length_nil, List.filterMap_cons, List.filterMap_nil, List.getElem?_cons_zero, List.getElem?_cons_succ, Option.bind_some, ↓reduceIte, if_true, if_false, Bool.false_eq_true, Bool.true_eq_false, decide_eq_true_eq, beq_self_eq_true, Bool.not_true, Bool.not_false, Bool.not_eq_true', decide_eq_false_iff_not, exists_eq_left', exists_eq_left, exists_eq, ↓x_dnT, ↓x_dnF, ↓gAsgL, ↓gMMDef, ↓gDSet, ↓gSItems, ↓x_nilL, ↓x_nilE, List.isEmpty_nil, List.isEmpty_cons, Bool.true_xor, Bool.false_xor, ↓gOrT, ↓gAndT, ↓gTryAs, ↓gTryO, ↓gRaise, ↓gCallX, ↓gMethX, ↓gMakeX, ↓gFldX, ↓x_inXs, Bool.false_xor, Bool.true_xor, ↓x_fmtRS, ↓x_afRS, ↓x_afRI, ↓x_stO, ↓x_zipS, ↓x_zipE, ↓x_zipSL, ↓x_zipST, ↓x_zipEL, ↓x_augix, ↓x_isB, ↓x_notB, ↓gLR1, ↓gLR2, ↓gDIxT, ↓gDGt1T, ↓gDSetT, ↓gDNewT, ↓gDIx, ↓gDGt1, ↓gDGt2, ↓gDIn, ↓gDSetd, ↓gDPop1, ↓gDPop2, ↓gTIdx, ↓gLKeys, ↓gDisp, ↓x_enumK, ↓x_enumKL]
    refine ⟨by decide, Mt.draw_in (by decide) (by decide) ht (by omega) fun b o1 hb1 hb2 ht1 => ?_⟩
    obtain ⟨bb, hbb, hat⟩ : ∃ bb : Str, BaOk bb ∧ atI [D.str (Str.ofString "near"), D.str (Str.ofString "far")] b = some (.str bb) := by
      by_cases c : b = 0
      · subst c; exact ⟨"near", .inl rfl, atI_lit (k := 0) rfl⟩
      · have : b = 1 := by omega
        subst this; exact ⟨"far", .inr rfl, atI_lit (k := 1) rfl⟩
    simp only [↓x_eqSS, ↓x_neSS, ↓gKGet, ↓x_kget, ↓x_ixE, at_last, ↓x_appE, ↓x_tyE, ↓x_itE, ↓x_lenE, ↓x_nePr, ↓x_eqPr, ↓x_neE, ↓x_lenr, ↓x_lenrI, ↓gRev, ↓x_par3, ↓x_par33, ↓x_fld, ↓x_fset, ↓x_mkF, ↓x_mk, ↓x_meth, ↓x_fldO, ↓x_fsetE, ↓x_fldE, ↓x_methO, ↓x_isiCO, ↓x_isiCN, ↓x_isiCT, ↓x_isiCLi, ↓x_isiCS, ↓x_isiCI, ↓x_own, ↓x_eqT2, ↓x_neT2, ↓x_neL4, ↓x_eqLN, ↓x_neNil, ↓x_gset, ↓x_lc, ↓x_for, ↓x_it, ↓x_rn1, ↓x_rn2, ↓x_enu, ↓x_zip, ↓x_itS, ↓x_itL, ↓x_itK, ↓x_itT, ↓x_rn1I, ↓x_rn2I, ↓x_enuL, ↓x_enuK, ↓x_zipL, ↓x_ixS0, ↓x_ixL, ↓x_ixT, ↓x_ixK, x_at0, x_at1, x_at2, x_at3, x_at4, ↓x_set00, ↓x_set01, ↓x_set02, ↓x_aug1, ↓x_aug2, ↓x_aug3, ↓x_aug4, ↓x_aug5, ↓x_aug6, ↓x_aug7, ↓x_aug8, ↓x_aug9, ↓x_aug10, ↓x_aug11, ↓x_aug12, ↓x_aug13, ↓x_aug14, ↓x_aug15, ↓x_aug16, ↓x_aug17, ↓x_aug18, ↓x_aug19, ↓x_aug20, ↓x_aug21, ↓x_aug22, ↓x_aug23, Int.reduceToNat, Int.reducePow, ↓gSeq, ↓gIfS, ↓gSet, ↓gAsg, ↓x_par, ↓x_par2, ↓gRet, ↓gRetN, ↓gNext, ↓gDrop, ↓gBreak, ↓gCont, ↓gDead, ↓gCB, ↓gB2, ↓gU, ↓gC, ↓Dl.gCons, ↓Dl.gNil, ↓Dl.gTup, ↓Dl.gLst, ↓gTest, ↓gOrB, ↓gAndB, ↓gNotB, ↓gAndV, ↓gOrV, ↓gNotV, ↓gIf, ↓gIx, ↓gSl, ↓gPart, ↓gNoP, ↓gMt, ↓gCall, ↓gArgs, ↓gIsN, ↓gNotN, ↓gChain, ↓x_fmtS, ↓x_afS, ↓x_afI, ↓x_js0, ↓x_jsc, ↓gJoined, ↓gYes, ↓x_bnm, ↓x_btp, ↓x_bn, ↓x_bc, ↓x_nnN, ↓x_nnI, ↓x_nnS, ↓x_nnB, ↓x_nnT, ↓x_nnL, ↓x_nnO, ↓x_nnl, ↓x_tyS, ↓x_tyL, ↓x_i2, ↓aSub, ↓aFdiv, ↓aMod, ↓aPow, ↓aShr, ↓aLt, ↓aLe, ↓aGt, ↓aGe, ↓x_addI, ↓x_addS, ↓x_mulI, ↓x_iaddS, ↓x_iaddI, ↓x_neg, ↓x_eqI, ↓x_neI, ↓x_eqS, ↓x_neS, ↓x_eqB, ↓x_neB, ↓x_eqNI, ↓x_neNI, ↓x_lenS, ↓x_lenL_l, ↓x_lenL_k, ↓x_lenL_t, ↓x_str, ↓x_intI, ↓x_intB, ↓x_divmod, ↓x_max2, ↓x_min2, ↓x_ixS, ↓x_slS, ↓x_slT, ↓x_slL_l, ↓x_slL_k, ↓x_inS, ↓x_newT, ↓x_newF, ↓x_si, ↓x_s1, ↓x_s0, ↓x_rpart, ↓x_part, ↓x_a1, ↓x_a2, ↓x_isiStr, ↓x_isiInt, ↓x_isiIntB, ↓x_isiIntS, ↓x_isiBB, ↓x_isiBI, ↓x_isiStrI, ↓x_isiNonI, ↓x_isiNonS, ↓x_isiT, ↓x_isiL, ↓x_var0, ↓x_varS, ↓x_ex, ↓x_aug0, gat, pick, Option.some.injEq, D.bl.injEq, D.int.injEq, D.str.injEq, D.tup.injEq, D.lst.injEq, List.cons.injEq, and_true, true_and, List.set_cons_zero, List.set_cons_succ, List.length_cons, List.length_nil, List.filterMap_cons, List.filterMap_nil, List.getElem?_cons_zero, List.getElem?_cons_succ, Option.bind_some, ↓reduceIte, if_true, if_false, Bool.false_eq_true, Bool.true_eq_false, decide_eq_true_eq, beq_self_eq_true, Bool.not_true, Bool.not_false, Bool.not_eq_true', decide_eq_false_iff_not, exists_eq_left', exists_eq_left, exists_eq, ↓x_dnT, ↓x_dnF, ↓gAsgL, ↓gMMDef, ↓gDSet, ↓gSItems, ↓x_nilL, ↓x_nilE, List.isEmpty_nil, List.isEmpty_cons, Bool.true_xor, Bool.false_xor, ↓gOrT, ↓gAndT, ↓gTryAs, ↓gTryO, ↓gRaise, ↓gCallX, ↓gMethX, ↓gMakeX, ↓gFldX, ↓x_inXs, Bool.false_xor, Bool.true_xor, ↓x_fmtRS, ↓x_afRS, ↓x_afRI, ↓x_stO, ↓x_zipS, ↓x_zipE, ↓x_zipSL, ↓x_zipST, ↓x_zipEL, ↓x_augix, ↓x_isB, ↓x_notB, ↓gLR1, ↓gLR2, ↓gDIxT, ↓gDGt1T, ↓gDSetT, ↓gDNewT, ↓gDIx, ↓gDGt1, ↓gDGt2, ↓gDIn, ↓gDSetd, ↓gDPop1, ↓gDPop2, ↓gTIdx, ↓gLKeys, ↓gDisp, ↓x_enumK, ↓x_enumKL]
    refine ⟨_, hat, 5, by decide, by decide, Mt.tk_in ht1 (by omega) fun d o2 ⟨xs, hxs, hxl, hxn, hxo⟩ ht2 => ?_⟩
    subst hxs
    refine ⟨by decide, Mt.pickL_in (by simp) (by simp) ht2 (by omega) fun e o3 he ht3 => ?_⟩
    obtain ⟨mx, rfl, x1, x2⟩ : ∃ z : Int, e = .int z ∧ 0 < z ∧ z ≤ 151 := by
      simp only [List.mem_cons, List.not_mem_nil, or_false] at he
      rcases he with rfl | rfl | rfl <;> exact ⟨_, rfl, by decide, by decide⟩
    refine Mt.draw_in (by omega) (by omega) ht3 (by omega) fun c o4 hc1 hc2 ht4 => ?_
    obtain ⟨many, rfl⟩ := Int.eq_ofNat_of_zero_le hc1
    refine ⟨xs, many, ⟨by omega, by omega, hxo⟩, by omega, Mt.tk_in ht4 (by omega) fun d o5 ⟨R, hR1, hRl, hR, hRi⟩ ht5 => ?_⟩
    subst hR1
    have hl : R.length ≤ 1000 := by omega
    refine ⟨bb, R, rfl, hbb, hR, hl, new_in ⟨bb, R, rfl, hbb, hR, hRi, hl, bb, R, rfl, hbb, hR, hRi, hl, ?_⟩⟩
    simp only [bk2_len]
    generalize hS0 : o5 :: G = S0
    generalize hn0 : S0.length = n0
    simp only [↓x_eqSS, ↓x_neSS, ↓gKGet, ↓x_kget, ↓x_ixE, at_last, ↓x_appE, ↓x_tyE, ↓x_itE, ↓x_lenE, ↓x_nePr, ↓x_eqPr, ↓x_neE, ↓x_lenr, ↓x_lenrI, ↓gRev, ↓x_par3, ↓x_par33, ↓x_fld, ↓x_fset, ↓x_mkF, ↓x_mk, ↓x_meth, ↓x_fldO, ↓x_fsetE, ↓x_fldE, ↓x_methO, ↓x_isiCO, ↓x_isiCN, ↓x_isiCT, ↓x_isiCLi, ↓x_isiCS, ↓x_isiCI, ↓x_own, ↓x_eqT2, ↓x_neT2, ↓x_neL4, ↓x_eqLN, ↓x_neNil, ↓x_gset, ↓x_lc, ↓x_for, ↓x_it, ↓x_rn1, ↓x_rn2, ↓x_enu, ↓x_zip, ↓x_itS, ↓x_itL, ↓x_itK, ↓x_itT, ↓x_rn1I, ↓x_rn2I, ↓x_enuL, ↓x_enuK, ↓x_zipL, ↓x_ixS0, ↓x_ixL, ↓x_ixT, ↓x_ixK, x_at0, x_at1, x_at2, x_at3, x_at4, ↓x_set00, ↓x_set01, ↓x_set02, ↓x_aug1, ↓x_aug2, ↓x_aug3, ↓x_aug4, ↓x_aug5, ↓x_aug6, ↓x_aug7, ↓x_aug8, ↓x_aug9, ↓x_aug10, ↓x_aug11, ↓x_aug12, ↓x_aug13, ↓x_aug14, ↓x_aug15, ↓x_aug16, ↓x_aug17, ↓x_aug18, ↓x_aug19, ↓x_aug20, ↓x_aug21, ↓x_aug22, ↓x_aug23, Int.reduceToNat, Int.reducePow, ↓gSeq, ↓gIfS, ↓gSet, ↓gAsg, ↓x_par, ↓x_par2, ↓gRet, ↓gRetN, ↓gNext, ↓gDrop, ↓gBreak, ↓gCont, ↓gDead, ↓gCB, ↓gB2, ↓gU, ↓gC, ↓Dl.gCons, ↓Dl.gNil, ↓Dl.gTup, ↓Dl.gLst, ↓gTest, ↓gOrB, ↓gAndB, ↓gNotB, ↓gAndV, ↓gOrV, ↓gNotV, ↓gIf, ↓gIx, ↓gSl, ↓gPart, ↓gNoP, ↓gMt, ↓gCall, ↓gArgs, ↓gIsN, ↓gNotN, ↓gChain, ↓x_fmtS, ↓x_afS, ↓x_afI, ↓x_js0, ↓x_jsc, ↓gJoined, ↓gYes, ↓x_bnm, ↓x_btp, ↓x_bn, ↓x_bc, ↓x_nnN, ↓x_nnI, ↓x_nnS, ↓x_nnB, ↓x_nnT, ↓x_nnL, ↓x_nnO, ↓x_nnl, ↓x_tyS, ↓x_tyL, ↓x_i2, ↓aSub, ↓aFdiv, ↓aMod, ↓aPow, ↓aShr, ↓aLt, ↓aLe, ↓aGt, ↓aGe, ↓x_addI, ↓x_addS, ↓x_mulI, ↓x_iaddS, ↓x_iaddI, ↓x_neg, ↓x_eqI, ↓x_neI, ↓x_eqS, ↓x_neS, ↓x_eqB, ↓x_neB, ↓x_eqNI, ↓x_neNI, ↓x_lenS, ↓x_lenL_l, ↓x_lenL_k, ↓x_lenL_t, ↓x_str, ↓x_intI, ↓x_intB, ↓x_divmod, ↓x_max2, ↓x_min2, ↓x_ixS, ↓x_slS, ↓x_slT, ↓x_slL_l, ↓x_slL_k, ↓x_inS, ↓x_newT, ↓x_newF, ↓x_si, ↓x_s1, ↓x_s0, ↓x_rpart, ↓x_part, ↓x_a1, ↓x_a2, ↓x_isiStr, ↓x_isiInt, ↓x_isiIntB, ↓x_isiIntS, ↓x_isiBB, ↓x_isiBI, ↓x_isiStrI, ↓x_isiNonI, ↓x_isiNonS, ↓x_isiT, ↓x_isiL, ↓x_var0, ↓x_varS, ↓x_ex, ↓x_aug0, gat, pick, Option.some.injEq, D.bl.injEq, D.int.injEq, D.str.injEq, D.tup.injEq, D.lst.injEq, List.cons.injEq, and_true, true_and, List.set_cons_zero, List.set_cons_succ, List.length_cons, List.length_nil, List.filterMap_cons, List.filterMap_nil, List.getElem?_cons_zero, List.getElem?_cons_succ, Option.bind_some, ↓reduceIte, if_true, if_false, Bool.false_eq_true, Bool.true_eq_false, decide_eq_true_eq, beq_self_eq_true, Bool.not_true, Bool.not_false, Bool.not_eq_true', decide_eq_false_iff_not, exists_eq_left', exists_eq_left, exists_eq, ↓x_dnT, ↓x_dnF, ↓gAsgL, ↓gMMDef, ↓gDSet, ↓gSItems, ↓x_nilL, ↓x_nilE, List.isEmpty_nil, List.isEmpty_cons, Bool.true_xor, Bool.false_xor, ↓gOrT, ↓gAndT, ↓gTryAs, ↓gTryO, ↓gRaise, ↓gCallX, ↓gMethX, ↓gMakeX, ↓gFldX, ↓x_inXs, Bool.false_xor, Bool.true_xor, ↓x_fmtRS, ↓x_afRS, ↓x_afRI, ↓x_stO, ↓x_zipS, ↓x_zipE, ↓x_zipSL, ↓x_zipST, ↓x_zipEL, ↓x_augix, ↓x_isB, ↓x_notB, ↓gLR1, ↓gLR2, ↓gDIxT, ↓gDGt1T, ↓gDSetT, ↓gDNewT, ↓gDIx, ↓gDGt1, ↓gDGt2, ↓gDIn, ↓gDSetd, ↓gDPop1, ↓gDPop2, ↓gTIdx, ↓gLKeys, ↓gDisp, ↓x_enumK, ↓x_enumKL]
    refine ⟨fun j ρ S' => S' = S0 ++ bk2 a n0 bb (R.take j) ++ (bk2 a (n0 + 2) bb R ++ bk2 a (n0 + 2 + 2) bb R) ∧ ∃ z10 z11 z12, ρ = [some (.ksq (ns.map .int)), some (.loc 0), some d0, some (.str bb), some (.lst (xs.map D.str)), some (.lst (R.map rwD)), some (.str (bkT bb R)), some (.loc n0), some (.loc (n0 + 2)), some (.loc (n0 + 2 + 2)), z10, z11, z12, y13, y14], ⟨by simp [hn0], _, _, _, rfl⟩, ?_, ?_⟩
    · rintro j d ρ S' hd ⟨rfl, z10, z11, z12, rfl⟩
      rw [List.getElem?_map] at hd
      obtain ⟨r, hr, rfl⟩ := Option.map_eq_some_iff.mp hd
      refine ⟨trivial, _, x_b3, ?_⟩
      simp only [↓x_eqSS, ↓x_neSS, ↓gKGet, ↓x_kget, ↓x_ixE, at_last, ↓x_appE, ↓x_tyE, ↓x_itE, ↓x_lenE, ↓x_nePr, ↓x_eqPr, ↓x_neE, ↓x_lenr, ↓x_lenrI, ↓gRev, ↓x_par3, ↓x_par33, ↓x_fld, ↓x_fset, ↓x_mkF, ↓x_mk, ↓x_meth, ↓x_fldO, ↓x_fsetE, ↓x_fldE, ↓x_methO, ↓x_isiCO, ↓x_isiCN, ↓x_isiCT, ↓x_isiCLi, ↓x_isiCS, ↓x_isiCI, ↓x_own, ↓x_eqT2, ↓x_neT2, ↓x_neL4, ↓x_eqLN, ↓x_neNil, ↓x_gset, ↓x_lc, ↓x_for, ↓x_it, ↓x_rn1, ↓x_rn2, ↓x_enu, ↓x_zip, ↓x_itS, ↓x_itL, ↓x_itK, ↓x_itT, ↓x_rn1I, ↓x_rn2I, ↓x_enuL, ↓x_enuK, ↓x_zipL, ↓x_ixS0, ↓x_ixL, ↓x_ixT, ↓x_ixK, x_at0, x_at1, x_at2, x_at3, x_at4, ↓x_set00, ↓x_set01, ↓x_set02, ↓x_aug1, ↓x_aug2, ↓x_aug3, ↓x_aug4, ↓x_aug5, ↓x_aug6, ↓x_aug7, ↓x_aug8, ↓x_aug9, ↓x_aug10, ↓x_aug11, ↓x_aug12, ↓x_aug13, ↓x_aug14, ↓x_aug15, ↓x_aug16, ↓x_aug17, ↓x_aug18, ↓x_aug19, ↓x_aug20, ↓x_aug21, ↓x_aug22, ↓x_aug23, Int.reduceToNat, Int.reducePow, ↓gSeq, ↓gIfS, ↓gSet, ↓gAsg, ↓x_par, ↓x_par2, ↓gRet, ↓gRetN, ↓gNext, ↓gDrop, ↓gBreak, ↓gCont, ↓gDead, ↓gCB, ↓gB2, ↓gU, ↓gC, ↓Dl.gCons, ↓Dl.gNil, ↓Dl.gTup, ↓Dl.gLst, ↓gTest, ↓gOrB, ↓gAndB, ↓gNotB, ↓gAndV, ↓gOrV, ↓gNotV, ↓gIf, ↓gIx, ↓gSl, ↓gPart, ↓gNoP, ↓gMt, ↓gCall, ↓gArgs, ↓gIsN, ↓gNotN, ↓gChain, ↓x_fmtS, ↓x_afS, ↓x_afI, ↓x_js0, ↓x_jsc, ↓gJoined, ↓gYes, ↓x_bnm, ↓x_btp, ↓x_bn, ↓x_bc, ↓x_nnN, ↓x_nnI, ↓x_nnS, ↓x_nnB, ↓x_nnT, ↓x_nnL, ↓x_nnO, ↓x_nnl, ↓x_tyS, ↓x_tyL, ↓x_i2, ↓aSub, ↓aFdiv, ↓aMod, ↓aPow, ↓aShr, ↓aLt, ↓aLe, ↓aGt, ↓aGe, ↓x_addI, ↓x_addS, ↓x_mulI, ↓x_iaddS, ↓x_iaddI, ↓x_neg, ↓x_eqI, ↓x_neI, ↓x_eqS, ↓x_neS, ↓x_eqB, ↓x_neB, ↓x_eqNI, ↓x_neNI, ↓x_lenS, ↓x_lenL_l, ↓x_lenL_k, ↓x_lenL_t, ↓x_str, ↓x_intI, ↓x_intB, ↓x_divmod, ↓x_max2, ↓x_min2, ↓x_ixS, ↓x_slS, ↓x_slT, ↓x_slL_l, ↓x_slL_k, ↓x_inS, ↓x_newT, ↓x_newF, ↓x_si, ↓x_s1, ↓x_s0, ↓x_rpart, ↓x_part, ↓x_a1, ↓x_a2, ↓x_isiStr, ↓x_isiInt, ↓x_isiIntB, ↓x_isiIntS, ↓x_isiBB, ↓x_isiBI, ↓x_isiStrI, ↓x_isiNonI, ↓x_isiNonS, ↓x_isiT, ↓x_isiL, ↓x_var0, ↓x_varS, ↓x_ex, ↓x_aug0, gat, pick, Option.some.injEq, D.bl.injEq, D.int.injEq, D.str.injEq, D.tup.injEq, D.lst.injEq, List.cons.injEq, and_true, true_and, List.set_cons_zero, List.set_cons_succ, List.length_cons, List.length_nil, List.filterMap_cons, List.filterMap_nil, List.getElem?_cons_zero, List.getElem?_cons_succ, Option.bind_some, ↓reduceIte, if_true, if_false, Bool.false_eq_true, Bool.true_eq_false, decide_eq_true_eq, beq_self_eq_true, Bool.not_true, Bool.not_false, Bool.not_eq_true', decide_eq_false_iff_not, exists_eq_left', exists_eq_left, exists_eq, ↓x_dnT, ↓x_dnF, ↓gAsgL, ↓gMMDef, ↓gDSet, ↓gSItems, ↓x_nilL, ↓x_nilE, List.isEmpty_nil, List.isEmpty_cons, Bool.true_xor, Bool.false_xor, ↓gOrT, ↓gAndT, ↓gTryAs, ↓gTryO, ↓gRaise, ↓gCallX, ↓gMethX, ↓gMakeX, ↓gFldX, ↓x_inXs, Bool.false_xor, Bool.true_xor, ↓x_fmtRS, ↓x_afRS, ↓x_afRI, ↓x_stO, ↓x_zipS, ↓x_zipE, ↓x_zipSL, ↓x_zipST, ↓x_zipEL, ↓x_augix, ↓x_isB, ↓x_notB, ↓gLR1, ↓gLR2, ↓gDIxT, ↓gDGt1T, ↓gDSetT, ↓gDNewT, ↓gDIx, ↓gDGt1, ↓gDGt2, ↓gDIn, ↓gDSetd, ↓gDPop1, ↓gDPop2, ↓gTIdx, ↓gLKeys, ↓gDisp, ↓x_enumK, ↓x_enumKL]
      have hB : BkAt a (S0 ++ bk2 a n0 bb (R.take j) ++ (bk2 a (n0 + 2) bb R ++ bk2 a (n0 + 2 + 2) bb R)) n0 (n0 + 1) bb (R.take j) := bk2_at hn0.symm
      refine (bk_meth hB (by decide +kernel)).mpr ⟨_, _, bb, R.take j, r.m, r.w, r.n, rfl, hB, fun r' h' => rise_take hRi hr r' (List.mem_of_getLast? h'), by rw [List.length_take]; omega, ?_, _, _, _, rfl, rfl, rfl⟩
      rw [bk2_set hn0.symm, take_snoc hr]
    · rintro ρ S' ⟨rfl, z10, z11, z12, rfl⟩
      refine ⟨trivial, ?_⟩
      rw [List.length_map, List.take_length]
      simp only [↓x_eqSS, ↓x_neSS, ↓gKGet, ↓x_kget, ↓x_ixE, at_last, ↓x_appE, ↓x_tyE, ↓x_itE, ↓x_lenE, ↓x_nePr, ↓x_eqPr, ↓x_neE, ↓x_lenr, ↓x_lenrI, ↓gRev, ↓x_par3, ↓x_par33, ↓x_fld, ↓x_fset, ↓x_mkF, ↓x_mk, ↓x_meth, ↓x_fldO, ↓x_fsetE, ↓x_fldE, ↓x_methO, ↓x_isiCO, ↓x_isiCN, ↓x_isiCT, ↓x_isiCLi, ↓x_isiCS, ↓x_isiCI, ↓x_own, ↓x_eqT2, ↓x_neT2, ↓x_neL4, ↓x_eqLN, ↓x_neNil, ↓x_gset, ↓x_lc, ↓x_for, ↓x_it, ↓x_rn1, ↓x_rn2, ↓x_enu, ↓x_zip, ↓x_itS, ↓x_itL, ↓x_itK, ↓x_itT, ↓x_rn1I, ↓x_rn2I, ↓x_enuL, ↓x_enuK, ↓x_zipL, ↓x_ixS0, ↓x_ixL, ↓x_ixT, ↓x_ixK, x_at0, x_at1, x_at2, x_at3, x_at4, ↓x_set00, ↓x_set01, ↓x_set02, ↓x_aug1, ↓x_aug2, ↓x_aug3, ↓x_aug4, ↓x_aug5, ↓x_aug6, ↓x_aug7, ↓x_aug8, ↓x_aug9, ↓x_aug10, ↓x_aug11, ↓x_aug12, ↓x_aug13, ↓x_aug14, ↓x_aug15, ↓x_aug16, ↓x_aug17, ↓x_aug18, ↓x_aug19, ↓x_aug20, ↓x_aug21, ↓x_aug22, ↓x_aug23, Int.reduceToNat, Int.reducePow, ↓gSeq, ↓gIfS, ↓gSet, ↓gAsg, ↓x_par, ↓x_par2, ↓gRet, ↓gRetN, ↓gNext, ↓gDrop, ↓gBreak, ↓gCont, ↓gDead, ↓gCB, ↓gB2, ↓gU, ↓gC, ↓Dl.gCons, ↓Dl.gNil, ↓Dl.gTup, ↓Dl.gLst, ↓gTest, ↓gOrB, ↓gAndB, ↓gNotB, ↓gAndV, ↓gOrV, ↓gNotV, ↓gIf, ↓gIx, ↓gSl, ↓gPart, ↓gNoP, ↓gMt, ↓gCall, ↓gArgs, ↓gIsN, ↓gNotN, ↓gChain, ↓x_fmtS, ↓x_afS, ↓x_afI, ↓x_js0, ↓x_jsc, ↓gJoined, ↓gYes, ↓x_bnm, ↓x_btp, ↓x_bn, ↓x_bc, ↓x_nnN, ↓x_nnI, ↓x_nnS, ↓x_nnB, ↓x_nnT, ↓x_nnL, ↓x_nnO, ↓x_nnl, ↓x_tyS, ↓x_tyL, ↓x_i2, ↓aSub, ↓aFdiv, ↓aMod, ↓aPow, ↓aShr, ↓aLt, ↓aLe, ↓aGt, ↓aGe, ↓x_addI, ↓x_addS, ↓x_mulI, ↓x_iaddS, ↓x_iaddI, ↓x_neg, ↓x_eqI, ↓x_neI, ↓x_eqS, ↓x_neS, ↓x_eqB, ↓x_neB, ↓x_eqNI, ↓x_neNI, ↓x_lenS, ↓x_lenL_l, ↓x_lenL_k, ↓x_lenL_t, ↓x_str, ↓x_intI, ↓x_intB, ↓x_divmod, ↓x_max2, ↓x_min2, ↓x_ixS, ↓x_slS, ↓x_slT, ↓x_slL_l, ↓x_slL_k, ↓x_inS, ↓x_newT, ↓x_newF, ↓x_si, ↓x_s1, ↓x_s0, ↓x_rpart, ↓x_part, ↓x_a1, ↓x_a2, ↓x_isiStr, ↓x_isiInt, ↓x_isiIntB, ↓x_isiIntS, ↓x_isiBB, ↓x_isiBI, ↓x_isiStrI, ↓x_isiNonI, ↓x_isiNonS, ↓x_isiT, ↓x_isiL, ↓x_var0, ↓x_varS, ↓x_ex, ↓x_aug0, gat, pick, Option.some.injEq, D.bl.injEq, D.int.injEq, D.str.injEq, D.tup.injEq, D.lst.injEq, List.cons.injEq, and_true, true_and, List.set_cons_zero, List.set_cons_succ, List.length_cons, List.length_nil, List.filterMap_cons, List.filterMap_nil, List.getElem?_cons_zero, List.getElem?_cons_succ, Option.bind_some, ↓reduceIte, if_true, if_false, Bool.false_eq_true, Bool.true_eq_false, decide_eq_true_eq, beq_self_eq_true, Bool.not_true, Bool.not_false, Bool.not_eq_true', decide_eq_false_iff_not, exists_eq_left', exists_eq_left, exists_eq, ↓x_dnT, ↓x_dnF, ↓gAsgL, ↓gMMDef, ↓gDSet, ↓gSItems, ↓x_nilL, ↓x_nilE, List.isEmpty_nil, List.isEmpty_cons, Bool.true_xor, Bool.false_xor, ↓gOrT, ↓gAndT, ↓gTryAs, ↓gTryO, ↓gRaise, ↓gCallX, ↓gMethX, ↓gMakeX, ↓gFldX, ↓x_inXs, Bool.false_xor, Bool.true_xor, ↓x_fmtRS, ↓x_afRS, ↓x_afRI, ↓x_stO, ↓x_zipS, ↓x_zipE, ↓x_zipSL, ↓x_zipST, ↓x_zipEL, ↓x_augix, ↓x_isB, ↓x_notB, ↓gLR1, ↓gLR2, ↓gDIxT, ↓gDGt1T, ↓gDSetT, ↓gDNewT, ↓gDIx, ↓gDGt1, ↓gDGt2, ↓gDIn, ↓gDSetd, ↓gDPop1, ↓gDPop2, ↓gTIdx, ↓gLKeys, ↓gDisp, ↓x_enumK, ↓x_enumKL]
      have hS1 : (S0 ++ bk2 a n0 bb R).length = n0 + 2 := by rw [bk2_len, hn0]
      have hS2 : ∀ R', (S0 ++ bk2 a n0 bb R ++ bk2 a (n0 + 2) bb R').length = n0 + 2 + 2 := fun R' => by rw [bk2_len, hS1]
      have hK : ∀ R' X, BkAt a (S0 ++ bk2 a n0 bb R ++ (bk2 a (n0 + 2) bb R' ++ bk2 a (n0 + 2 + 2) bb R) ++ X) n0 (n0 + 1) bb R := fun R' X => (bk2_at hn0.symm).app
      have hM : ∀ R' X, BkAt a (S0 ++ bk2 a n0 bb R ++ (bk2 a (n0 + 2) bb R' ++ bk2 a (n0 + 2 + 2) bb R) ++ X) (n0 + 2) (n0 + 2 + 1) bb R' := fun R' X => by
        have := bk2_at (a := a) (S := S0 ++ bk2 a n0 bb R) (X := bk2 a (n0 + 2 + 2) bb R) (b := bb) (R := R') hS1.symm
        rw [List.append_assoc] at this
        exact this.app
      have hO : ∀ R' X, BkAt a (S0 ++ bk2 a n0 bb R ++ (bk2 a (n0 + 2) bb R' ++ bk2 a (n0 + 2 + 2) bb R) ++ X) (n0 + 2 + 2) (n0 + 2 + 2 + 1) bb R := fun R' X => by
        have := bk2_at (a := a) (S := S0 ++ bk2 a n0 bb R ++ bk2 a (n0 + 2) bb R') (X := X) (b := bb) (R := R) (hS2 R').symm
        rw [List.append_assoc (S0 ++ bk2 a n0 bb R)] at this
        exact this
      have hK0 : ∀ R', BkAt a (S0 ++ bk2 a n0 bb R ++ (bk2 a (n0 + 2) bb R' ++ bk2 a (n0 + 2 + 2) bb R)) n0 (n0 + 1) bb R := fun R' => by simpa using hK R' []
      have hM0 : ∀ R', BkAt a (S0 ++ bk2 a n0 bb R ++ (bk2 a (n0 + 2) bb R' ++ bk2 a (n0 + 2 + 2) bb R)) (n0 + 2) (n0 + 2 + 1) bb R' := fun R' => by simpa using hM R' []
      have hO0 : ∀ R', BkAt a (S0 ++ bk2 a n0 bb R ++ (bk2 a (n0 + 2) bb R' ++ bk2 a (n0 + 2 + 2) bb R)) (n0 + 2 + 2) (n0 + 2 + 2 + 1) bb R := fun R' => by simpa using hO R' []
      have same : decide (bb = bb ∧ R = R) = true := by simp
      refine isB_in T (hM0 R) ⟨true, rfl, ?_⟩
      rw [if_neg (by decide)]
      refine ownN_in (hM0 R) (hK0 R) hbb hbb hR hR ⟨_, rfl, ?_⟩
      rw [same, if_neg (by decide)]
      refine ownN_in (hO0 R) (hM0 R) hbb hbb hR hR ⟨_, rfl, ?_⟩
      rw [same, if_neg (by decide)]
      refine rows_in (hM0 R) (by omega) (show_rows hR hl (show_rows hR hl (x_neSS.mpr ⟨_, rfl, ?_⟩)))
      rw [if_neg (by simp)]
      refine (bk_bank T (hM0 R)).mpr (x_neS.mpr ⟨(ba_ok hbb).1, (ba_ok hbb).1, _, rfl, ?_⟩)
      rw [if_neg (by simp)]
      refine str_in (hM0 R) hbb hR hl (x_neS.mpr ⟨bk_ok hbb hR, bk_ok hbb hR, _, rfl, ?_⟩)
      rw [if_neg (by simp)]
      refine len_in (hM0 R) (by omega) ?_
      simp only [↓x_eqSS, ↓x_neSS, ↓gKGet, ↓x_kget, ↓x_ixE, at_last, ↓x_appE, ↓x_tyE, ↓x_itE, ↓x_lenE, ↓x_nePr, ↓x_eqPr, ↓x_neE, ↓x_lenr, ↓x_lenrI, ↓gRev, ↓x_par3, ↓x_par33, ↓x_fld, ↓x_fset, ↓x_mkF, ↓x_mk, ↓x_meth, ↓x_fldO, ↓x_fsetE, ↓x_fldE, ↓x_methO, ↓x_isiCO, ↓x_isiCN, ↓x_isiCT, ↓x_isiCLi, ↓x_isiCS, ↓x_isiCI, ↓x_own, ↓x_eqT2, ↓x_neT2, ↓x_neL4, ↓x_eqLN, ↓x_neNil, ↓x_gset, ↓x_lc, ↓x_for, ↓x_it, ↓x_rn1, ↓x_rn2, ↓x_enu, ↓x_zip, ↓x_itS, ↓x_itL, ↓x_itK, ↓x_itT, ↓x_rn1I, ↓x_rn2I, ↓x_enuL, ↓x_enuK, ↓x_zipL, ↓x_ixS0, ↓x_ixL, ↓x_ixT, ↓x_ixK, x_at0, x_at1, x_at2, x_at3, x_at4, ↓x_set00, ↓x_set01, ↓x_set02, ↓x_aug1, ↓x_aug2, ↓x_aug3, ↓x_aug4, ↓x_aug5, ↓x_aug6, ↓x_aug7, ↓x_aug8, ↓x_aug9, ↓x_aug10, ↓x_aug11, ↓x_aug12, ↓x_aug13, ↓x_aug14, ↓x_aug15, ↓x_aug16, ↓x_aug17, ↓x_aug18, ↓x_aug19, ↓x_aug20, ↓x_aug21, ↓x_aug22, ↓x_aug23, Int.reduceToNat, Int.reducePow, ↓gSeq, ↓gIfS, ↓gSet, ↓gAsg, ↓x_par, ↓x_par2, ↓gRet, ↓gRetN, ↓gNext, ↓gDrop, ↓gBreak, ↓gCont, ↓gDead, ↓gCB, ↓gB2, ↓gU, ↓gC, ↓Dl.gCons, ↓Dl.gNil, ↓Dl.gTup, ↓Dl.gLst, ↓gTest, ↓gOrB, ↓gAndB, ↓gNotB, ↓gAndV, ↓gOrV, ↓gNotV, ↓gIf, ↓gIx, ↓gSl, ↓gPart, ↓gNoP, ↓gMt, ↓gCall, ↓gArgs, ↓gIsN, ↓gNotN, ↓gChain, ↓x_fmtS, ↓x_afS, ↓x_afI, ↓x_js0, ↓x_jsc, ↓gJoined, ↓gYes, ↓x_bnm, ↓x_btp, ↓x_bn, ↓x_bc, ↓x_nnN, ↓x_nnI, ↓x_nnS, ↓x_nnB, ↓x_nnT, ↓x_nnL, ↓x_nnO, ↓x_nnl, ↓x_tyS, ↓x_tyL, ↓x_i2, ↓aSub, ↓aFdiv, ↓aMod, ↓aPow, ↓aShr, ↓aLt, ↓aLe, ↓aGt, ↓aGe, ↓x_addI, ↓x_addS, ↓x_mulI, ↓x_iaddS, ↓x_iaddI, ↓x_neg, ↓x_eqI, ↓x_neI, ↓x_eqS, ↓x_neS, ↓x_eqB, ↓x_neB, ↓x_eqNI, ↓x_neNI, ↓x_lenS, ↓x_lenL_l, ↓x_lenL_k, ↓x_lenL_t, ↓x_str, ↓x_intI, ↓x_intB, ↓x_divmod, ↓x_max2, ↓x_min2, ↓x_ixS, ↓x_slS, ↓x_slT, ↓x_slL_l, ↓x_slL_k, ↓x_inS, ↓x_newT, ↓x_newF, ↓x_si, ↓x_s1, ↓x_s0, ↓x_rpart, ↓x_part, ↓x_a1, ↓x_a2, ↓x_isiStr, ↓x_isiInt, ↓x_isiIntB, ↓x_isiIntS, ↓x_isiBB, ↓x_isiBI, ↓x_isiStrI, ↓x_isiNonI, ↓x_isiNonS, ↓x_isiT, ↓x_isiL, ↓x_var0, ↓x_varS, ↓x_ex, ↓x_aug0, gat, pick, Option.some.injEq, D.bl.injEq, D.int.injEq, D.str.injEq, D.tup.injEq, D.lst.injEq, List.cons.injEq, and_true, true_and, List.set_cons_zero, List.set_cons_succ, List.length_cons, List.length_nil, List.filterMap_cons, List.filterMap_nil, List.getElem?_cons_zero, List.getElem?_cons_succ, Option.bind_some, ↓reduceIte, if_true, if_false, Bool.false_eq_true, Bool.true_eq_false, decide_eq_true_eq, beq_self_eq_true, Bool.not_true, Bool.not_false, Bool.not_eq_true', decide_eq_false_iff_not, exists_eq_left', exists_eq_left, exists_eq, ↓x_dnT, ↓x_dnF, ↓gAsgL, ↓gMMDef, ↓gDSet, ↓gSItems, ↓x_nilL, ↓x_nilE, List.isEmpty_nil, List.isEmpty_cons, Bool.true_xor, Bool.false_xor, ↓gOrT, ↓gAndT, ↓gTryAs, ↓gTryO, ↓gRaise, ↓gCallX, ↓gMethX, ↓gMakeX, ↓gFldX, ↓x_inXs, Bool.false_xor, Bool.true_xor, ↓x_fmtRS, ↓x_afRS, ↓x_afRI, ↓x_stO, ↓x_zipS, ↓x_zipE, ↓x_zipSL, ↓x_zipST, ↓x_zipEL, ↓x_augix, ↓x_isB, ↓x_notB, ↓gLR1, ↓gLR2, ↓gDIxT, ↓gDGt1T, ↓gDSetT, ↓gDNewT, ↓gDIx, ↓gDGt1, ↓gDGt2, ↓gDIn, ↓gDSetd, ↓gDPop1, ↓gDPop2, ↓gTIdx, ↓gLKeys, ↓gDisp, ↓x_enumK, ↓x_enumKL]
      rw [List.length_map, if_neg (by simp)]
      refine lc_on (F := rwD) (L := R) (fun r => some (.int (r.m : Nat))) trivial (by omega) (fun r hr acc R1 hac hR1 => ⟨_, x_bnm, ?_⟩) ?_
      · simp only [wipeD, ↓x_eqSS, ↓x_neSS, ↓gKGet, ↓x_kget, ↓x_ixE, at_last, ↓x_appE, ↓x_tyE, ↓x_itE, ↓x_lenE, ↓x_nePr, ↓x_eqPr, ↓x_neE, ↓x_lenr, ↓x_lenrI, ↓gRev, ↓x_par3, ↓x_par33, ↓x_fld, ↓x_fset, ↓x_mkF, ↓x_mk, ↓x_meth, ↓x_fldO, ↓x_fsetE, ↓x_fldE, ↓x_methO, ↓x_isiCO, ↓x_isiCN, ↓x_isiCT, ↓x_isiCLi, ↓x_isiCS, ↓x_isiCI, ↓x_own, ↓x_eqT2, ↓x_neT2, ↓x_neL4, ↓x_eqLN, ↓x_neNil, ↓x_gset, ↓x_lc, ↓x_for, ↓x_it, ↓x_rn1, ↓x_rn2, ↓x_enu, ↓x_zip, ↓x_itS, ↓x_itL, ↓x_itK, ↓x_itT, ↓x_rn1I, ↓x_rn2I, ↓x_enuL, ↓x_enuK, ↓x_zipL, ↓x_ixS0, ↓x_ixL, ↓x_ixT, ↓x_ixK, x_at0, x_at1, x_at2, x_at3, x_at4, ↓x_set00, ↓x_set01, ↓x_set02, ↓x_aug1, ↓x_aug2, ↓x_aug3, ↓x_aug4, ↓x_aug5, ↓x_aug6, ↓x_aug7, ↓x_aug8, ↓x_aug9, ↓x_aug10, ↓x_aug11, ↓x_aug12, ↓x_aug13, ↓x_aug14, ↓x_aug15, ↓x_aug16, ↓x_aug17, ↓x_aug18, ↓x_aug19, ↓x_aug20, ↓x_aug21, ↓x_aug22, ↓x_aug23, Int.reduceToNat, Int.reducePow, ↓gSeq, ↓gIfS, ↓gSet, ↓gAsg, ↓x_par, ↓x_par2, ↓gRet, ↓gRetN, ↓gNext, ↓gDrop, ↓gBreak, ↓gCont, ↓gDead, ↓gCB, ↓gB2, ↓gU, ↓gC, ↓Dl.gCons, ↓Dl.gNil, ↓Dl.gTup, ↓Dl.gLst, ↓gTest, ↓gOrB, ↓gAndB, ↓gNotB, ↓gAndV, ↓gOrV, ↓gNotV, ↓gIf, ↓gIx, ↓gSl, ↓gPart, ↓gNoP, ↓gMt, ↓gCall, ↓gArgs, ↓gIsN, ↓gNotN, ↓gChain, ↓x_fmtS, ↓x_afS, ↓x_afI, ↓x_js0, ↓x_jsc, ↓gJoined, ↓gYes, ↓x_bnm, ↓x_btp, ↓x_bn, ↓x_bc, ↓x_nnN, ↓x_nnI, ↓x_nnS, ↓x_nnB, ↓x_nnT, ↓x_nnL, ↓x_nnO, ↓x_nnl, ↓x_tyS, ↓x_tyL, ↓x_i2, ↓aSub, ↓aFdiv, ↓aMod, ↓aPow, ↓aShr, ↓aLt, ↓aLe, ↓aGt, ↓aGe, ↓x_addI, ↓x_addS, ↓x_mulI, ↓x_iaddS, ↓x_iaddI, ↓x_neg, ↓x_eqI, ↓x_neI, ↓x_eqS, ↓x_neS, ↓x_eqB, ↓x_neB, ↓x_eqNI, ↓x_neNI, ↓x_lenS, ↓x_lenL_l, ↓x_lenL_k, ↓x_lenL_t, ↓x_str, ↓x_intI, ↓x_intB, ↓x_divmod, ↓x_max2, ↓x_min2, ↓x_ixS, ↓x_slS, ↓x_slT, ↓x_slL_l, ↓x_slL_k, ↓x_inS, ↓x_newT, ↓x_newF, ↓x_si, ↓x_s1, ↓x_s0, ↓x_rpart, ↓x_part, ↓x_a1, ↓x_a2, ↓x_isiStr, ↓x_isiInt, ↓x_isiIntB, ↓x_isiIntS, ↓x_isiBB, ↓x_isiBI, ↓x_isiStrI, ↓x_isiNonI, ↓x_isiNonS, ↓x_isiT, ↓x_isiL, ↓x_var0, ↓x_varS, ↓x_ex, ↓x_aug0, gat, pick, Option.some.injEq, D.bl.injEq, D.int.injEq, D.str.injEq, D.tup.injEq, D.lst.injEq, List.cons.injEq, and_true, true_and, List.set_cons_zero, List.set_cons_succ, List.length_cons, List.length_nil, List.filterMap_cons, List.filterMap_nil, List.getElem?_cons_zero, List.getElem?_cons_succ, Option.bind_some, ↓reduceIte, if_true, if_false, Bool.false_eq_true, Bool.true_eq_false, decide_eq_true_eq, beq_self_eq_true, Bool.not_true, Bool.not_false, Bool.not_eq_true', decide_eq_false_iff_not, exists_eq_left', exists_eq_left, exists_eq, ↓x_dnT, ↓x_dnF, ↓gAsgL, ↓gMMDef, ↓gDSet, ↓gSItems, ↓x_nilL, ↓x_nilE, List.isEmpty_nil, List.isEmpty_cons, Bool.true_xor, Bool.false_xor, ↓gOrT, ↓gAndT, ↓gTryAs, ↓gTryO, ↓gRaise, ↓gCallX, ↓gMethX, ↓gMakeX, ↓gFldX, ↓x_inXs, Bool.false_xor, Bool.true_xor, ↓x_fmtRS, ↓x_afRS, ↓x_afRI, ↓x_stO, ↓x_zipS, ↓x_zipE, ↓x_zipSL, ↓x_zipST, ↓x_zipEL, ↓x_augix, ↓x_isB, ↓x_notB, ↓gLR1, ↓gLR2, ↓gDIxT, ↓gDGt1T, ↓gDSetT, ↓gDNewT, ↓gDIx, ↓gDGt1, ↓gDGt2, ↓gDIn, ↓gDSetd, ↓gDPop1, ↓gDPop2, ↓gTIdx, ↓gLKeys, ↓gDisp, ↓x_enumK, ↓x_enumKL]
        exact ⟨hac, hR1⟩
      rw [x_newT, fm_some]
      refine ⟨by decide, _, [.int 0], rfl, rfl, by simp; omega, ?_⟩
      refine ⟨(R.map fun r => ((r.m : Nat) : Int)) ++ [0], rfl, by simp [seqOf], by simp, fun m hm1 hm2 => ?_⟩
      obtain ⟨M, rfl, hM1, hM3⟩ : ∃ M : Nat, m = (M : Nat) ∧ M ≤ 1000000 ∧ ∀ r ∈ R, r.m ≤ M := by
        have h0 : 0 ≤ m := hm2 0 (by simp)
        refine ⟨m.toNat, by omega, ?_, fun r hr => ?_⟩
        · rcases List.mem_append.mp hm1 with z | z
          · obtain ⟨r, hr, rfl⟩ := List.mem_map.mp z
            have := (hR r hr).1
            simpa using this
          · rw [List.mem_singleton.mp z]; decide
        · have := hm2 (r.m : Nat) (List.mem_append_left _ (List.mem_map.mpr ⟨r, hr, rfl⟩))
          omega
      have hR2 : ∀ r ∈ R ++ [Rw.mk M "off" "zz"], RwOk r := fun r hr => by
        rcases List.mem_append.mp hr with hr | hr
        · exact hR r hr
        · rw [List.mem_singleton.mp hr]
          exact ⟨hM1, .inr rfl, zz_ok⟩
      have hRi2 : Rise (R ++ [Rw.mk M "off" "zz"]) := List.pairwise_append.mpr ⟨hRi, List.pairwise_singleton _ _, fun r hr s hs => by
        rw [List.mem_singleton.mp hs]
        exact hM3 r hr⟩
      have hl2 : (R ++ [Rw.mk M "off" "zz"]).length ≤ 1000 := by rw [List.length_append]; show R.length + 1 ≤ 1000; omega
      have hne : R ≠ R ++ [Rw.mk M "off" "zz"] := fun z => by
        have := congrArg List.length z
        rw [List.length_append] at this
        simp at this
      refine write_in (hM0 R) (by omega) (fun r hr => hM3 r (List.mem_of_getLast? hr)) ?_
      have hset : (S0 ++ bk2 a n0 bb R ++ (bk2 a (n0 + 2) bb R ++ bk2 a (n0 + 2 + 2) bb R)).set (n0 + 2 + 1) (some (.lst ((R ++ [Rw.mk M "off" "zz"]).map rwD))) = S0 ++ bk2 a n0 bb R ++ (bk2 a (n0 + 2) bb (R ++ [Rw.mk M "off" "zz"]) ++ bk2 a (n0 + 2 + 2) bb R) := by
        have := bk2_set (a := a) (S := S0 ++ bk2 a n0 bb R) (X := bk2 a (n0 + 2 + 2) bb R) (b := bb) (R := R) (R' := R ++ [Rw.mk M "off" "zz"]) hS1.symm
        rw [List.append_assoc (S0 ++ bk2 a n0 bb R), List.append_assoc (S0 ++ bk2 a n0 bb R)] at this
        exact this
      rw [hset]
      have hlen : (R ++ [Rw.mk M "off" "zz"]).length = R.length + 1 := by rw [List.length_append]; rfl
      generalize R ++ [Rw.mk M "off" "zz"] = R2 at hR2 hRi2 hl2 hne hlen ⊢
      refine ownN_in (hO0 R2) (hK0 R2) hbb hbb hR hR ⟨_, rfl, ?_⟩
      rw [same, if_neg (by decide)]
      refine own_in (hM0 R2) (hO0 R2) hbb hbb hR2 hR ⟨_, rfl, ?_⟩
      rw [if_neg (by simp [Ne.symm hne])]
      refine read_in hbb hR hRi hl (ownN_in (bk_last rfl) (hK R2 _) hbb hbb hR hR ⟨_, rfl, ?_⟩)
      rw [same, if_neg (by decide)]
      refine len_in (hM R2 _) (by omega) ?_
      simp only [↓x_eqSS, ↓x_neSS, ↓gKGet, ↓x_kget, ↓x_ixE, at_last, ↓x_appE, ↓x_tyE, ↓x_itE, ↓x_lenE, ↓x_nePr, ↓x_eqPr, ↓x_neE, ↓x_lenr, ↓x_lenrI, ↓gRev, ↓x_par3, ↓x_par33, ↓x_fld, ↓x_fset, ↓x_mkF, ↓x_mk, ↓x_meth, ↓x_fldO, ↓x_fsetE, ↓x_fldE, ↓x_methO, ↓x_isiCO, ↓x_isiCN, ↓x_isiCT, ↓x_isiCLi, ↓x_isiCS, ↓x_isiCI, ↓x_own, ↓x_eqT2, ↓x_neT2, ↓x_neL4, ↓x_eqLN, ↓x_neNil, ↓x_gset, ↓x_lc, ↓x_for, ↓x_it, ↓x_rn1, ↓x_rn2, ↓x_enu, ↓x_zip, ↓x_itS, ↓x_itL, ↓x_itK, ↓x_itT, ↓x_rn1I, ↓x_rn2I, ↓x_enuL, ↓x_enuK, ↓x_zipL, ↓x_ixS0, ↓x_ixL, ↓x_ixT, ↓x_ixK, x_at0, x_at1, x_at2, x_at3, x_at4, ↓x_set00, ↓x_set01, ↓x_set02, ↓x_aug1, ↓x_aug2, ↓x_aug3, ↓x_aug4, ↓x_aug5, ↓x_aug6, ↓x_aug7, ↓x_aug8, ↓x_aug9, ↓x_aug10, ↓x_aug11, ↓x_aug12, ↓x_aug13, ↓x_aug14, ↓x_aug15, ↓x_aug16, ↓x_aug17, ↓x_aug18, ↓x_aug19, ↓x_aug20, ↓x_aug21, ↓x_aug22, ↓x_aug23, Int.reduceToNat, Int.reducePow, ↓gSeq, ↓gIfS, ↓gSet, ↓gAsg, ↓x_par, ↓x_par2, ↓gRet, ↓gRetN, ↓gNext, ↓gDrop, ↓gBreak, ↓gCont, ↓gDead, ↓gCB, ↓gB2, ↓gU, ↓gC, ↓Dl.gCons, ↓Dl.gNil, ↓Dl.gTup, ↓Dl.gLst, ↓gTest, ↓gOrB, ↓gAndB, ↓gNotB, ↓gAndV, ↓gOrV, ↓gNotV, ↓gIf, ↓gIx, ↓gSl, ↓gPart, ↓gNoP, ↓gMt, ↓gCall, ↓gArgs, ↓gIsN, ↓gNotN, ↓gChain, ↓x_fmtS, ↓x_afS, ↓x_afI, ↓x_js0, ↓x_jsc, ↓gJoined, ↓gYes, ↓x_bnm, ↓x_btp, ↓x_bn, ↓x_bc, ↓x_nnN, ↓x_nnI, ↓x_nnS, ↓x_nnB, ↓x_nnT, ↓x_nnL, ↓x_nnO, ↓x_nnl, ↓x_tyS, ↓x_tyL, ↓x_i2, ↓aSub, ↓aFdiv, ↓aMod, ↓aPow, ↓aShr, ↓aLt, ↓aLe, ↓aGt, ↓aGe, ↓x_addI, ↓x_addS, ↓x_mulI, ↓x_iaddS, ↓x_iaddI, ↓x_neg, ↓x_eqI, ↓x_neI, ↓x_eqS, ↓x_neS, ↓x_eqB, ↓x_neB, ↓x_eqNI, ↓x_neNI, ↓x_lenS, ↓x_lenL_l, ↓x_lenL_k, ↓x_lenL_t, ↓x_str, ↓x_intI, ↓x_intB, ↓x_divmod, ↓x_max2, ↓x_min2, ↓x_ixS, ↓x_slS, ↓x_slT, ↓x_slL_l, ↓x_slL_k, ↓x_inS, ↓x_newT, ↓x_newF, ↓x_si, ↓x_s1, ↓x_s0, ↓x_rpart, ↓x_part, ↓x_a1, ↓x_a2, ↓x_isiStr, ↓x_isiInt, ↓x_isiIntB, ↓x_isiIntS, ↓x_isiBB, ↓x_isiBI, ↓x_isiStrI, ↓x_isiNonI, ↓x_isiNonS, ↓x_isiT, ↓x_isiL, ↓x_var0, ↓x_varS, ↓x_ex, ↓x_aug0, gat, pick, Option.some.injEq, D.bl.injEq, D.int.injEq, D.str.injEq, D.tup.injEq, D.lst.injEq, List.cons.injEq, and_true, true_and, List.set_cons_zero, List.set_cons_succ, List.length_cons, List.length_nil, List.filterMap_cons, List.filterMap_nil, List.getElem?_cons_zero, List.getElem?_cons_succ, Option.bind_some, ↓reduceIte, if_true, if_false, Bool.false_eq_true, Bool.true_eq_false, decide_eq_true_eq, beq_self_eq_true, Bool.not_true, Bool.not_false, Bool.not_eq_true', decide_eq_false_iff_not, exists_eq_left', exists_eq_left, exists_eq, ↓x_dnT, ↓x_dnF, ↓gAsgL, ↓gMMDef, ↓gDSet, ↓gSItems, ↓x_nilL, ↓x_nilE, List.isEmpty_nil, List.isEmpty_cons, Bool.true_xor, Bool.false_xor, ↓gOrT, ↓gAndT, ↓gTryAs, ↓gTryO, ↓gRaise, ↓gCallX, ↓gMethX, ↓gMakeX, ↓gFldX, ↓x_inXs, Bool.false_xor, Bool.true_xor, ↓x_fmtRS, ↓x_afRS, ↓x_afRI, ↓x_stO, ↓x_zipS, ↓x_zipE, ↓x_zipSL, ↓x_zipST, ↓x_zipEL, ↓x_augix, ↓x_isB, ↓x_notB, ↓gLR1, ↓gLR2, ↓gDIxT, ↓gDGt1T, ↓gDSetT, ↓gDNewT, ↓gDIx, ↓gDGt1, ↓gDGt2, ↓gDIn, ↓gDSetd, ↓gDPop1, ↓gDPop2, ↓gTIdx, ↓gLKeys, ↓gDisp, ↓x_enumK, ↓x_enumKL]
      rw [if_neg (by omega)]
      refine str_in (hM R2 _) hbb hR2 hl2 (read_in hbb hR2 hRi2 hl2 (ownN_in (bk_last rfl) (hM R2 _).app hbb hbb hR2 hR2 ⟨_, rfl, ?_⟩))
      rw [show decide (bb = bb ∧ R2 = R2) = true by simp, if_neg (by decide)]
      subst hS0
      exact ⟨o5, _, _, _, _, _, _, _, _, _, _, _, _, _, _, ht5.mono (by omega), rfl, rfl, rfl, rfl, rfl, rfl, rfl, rfl, rfl, rfl, rfl, rfl, rfl, rfl⟩
  · rintro ρ S' ⟨o, G, y2, y3, y4, y5, y6, y7, y8, y9, y10, y11, y12, y13, y14, ht, rfl, rfl⟩
    refine ⟨trivial, ?_⟩
    simp only [↓x_eqSS, ↓x_neSS, ↓gKGet, ↓x_kget, ↓x_ixE, at_last, ↓x_appE, ↓x_tyE, ↓x_itE, ↓x_lenE, ↓x_nePr, ↓x_eqPr, ↓x_neE, ↓x_lenr, ↓x_lenrI, ↓gRev, ↓x_par3, ↓x_par33, ↓x_fld, ↓x_fset, ↓x_mkF, ↓x_mk, ↓x_meth, ↓x_fldO, ↓x_fsetE, ↓x_fldE, ↓x_methO, ↓x_isiCO, ↓x_isiCN, ↓x_isiCT, ↓x_isiCLi, ↓x_isiCS, ↓x_isiCI, ↓x_own, ↓x_eqT2, ↓x_neT2, ↓x_neL4, ↓x_eqLN, ↓x_neNil, ↓x_gset, ↓x_lc, ↓x_for, ↓x_it, ↓x_rn1, ↓x_rn2, ↓x_enu, ↓x_zip, ↓x_itS, ↓x_itL, ↓x_itK, ↓x_itT, ↓x_rn1I, ↓x_rn2I, ↓x_enuL, ↓x_enuK, ↓x_zipL, ↓x_ixS0, ↓x_ixL, ↓x_ixT, ↓x_ixK, x_at0, x_at1, x_at2, x_at3, x_at4, ↓x_set00, ↓x_set01, ↓x_set02, ↓x_aug1, ↓x_aug2, ↓x_aug3, ↓x_aug4, ↓x_aug5, ↓x_aug6, ↓x_aug7, ↓x_aug8, ↓x_aug9, ↓x_aug10, ↓x_aug11, ↓x_aug12, ↓x_aug13, ↓x_aug14, ↓x_aug15, ↓x_aug16, ↓x_aug17, ↓x_aug18, ↓x_aug19, ↓x_aug20, ↓x_aug21, ↓x_aug22, ↓x_aug23, Int.reduceToNat, Int.reducePow, ↓gSeq, ↓gIfS, ↓gSet, ↓gAsg, ↓x_par, ↓x_par2, ↓gRet, ↓gRetN, ↓gNext, ↓gDrop, ↓gBreak, ↓gCont, ↓gDead, ↓gCB, ↓gB2, ↓gU, ↓gC, ↓Dl.gCons, ↓Dl.gNil, ↓Dl.gTup, ↓Dl.gLst, ↓gTest, ↓gOrB, ↓gAndB, ↓gNotB, ↓gAndV, ↓gOrV, ↓gNotV, ↓gIf, ↓gIx, ↓gSl, ↓gPart, ↓gNoP, ↓gMt, ↓gCall, ↓gArgs, ↓gIsN, ↓gNotN, ↓gChain, ↓x_fmtS, ↓x_afS, ↓x_afI, ↓x_js0, ↓x_jsc, ↓gJoined, ↓gYes, ↓x_bnm, ↓x_btp, ↓x_bn, ↓x_bc, ↓x_nnN, ↓x_nnI, ↓x_nnS, ↓x_nnB, ↓x_nnT, ↓x_nnL, ↓x_nnO, ↓x_nnl, ↓x_tyS, ↓x_tyL, ↓x_i2, ↓aSub, ↓aFdiv, ↓aMod, ↓aPow, ↓aShr, ↓aLt, ↓aLe, ↓aGt, ↓aGe, ↓x_addI, ↓x_addS, ↓x_mulI, ↓x_iaddS, ↓x_iaddI, ↓x_neg, ↓x_eqI, ↓x_neI, ↓x_eqS, ↓x_neS, ↓x_eqB, ↓x_neB, ↓x_eqNI, ↓x_neNI, ↓x_lenS, ↓x_lenL_l, ↓x_lenL_k, ↓x_lenL_t, ↓x_str, ↓x_intI, ↓x_intB, ↓x_divmod, ↓x_max2, ↓x_min2, ↓x_ixS, ↓x_slS, ↓x_slT, ↓x_slL_l, ↓x_slL_k, ↓x_inS, ↓x_newT, ↓x_newF, ↓x_si, ↓x_s1, ↓x_s0, ↓x_rpart, ↓x_part, ↓x_a1, ↓x_a2, ↓x_isiStr, ↓x_isiInt, ↓x_isiIntB, ↓x_isiIntS, ↓x_isiBB, ↓x_isiBI, ↓x_isiStrI, ↓x_isiNonI, ↓x_isiNonS, ↓x_isiT, ↓x_isiL, ↓x_var0, ↓x_varS, ↓x_ex, ↓x_aug0, gat, pick, Option.some.injEq, D.bl.injEq, D.int.injEq, D.str.injEq, D.tup.injEq, D.lst.injEq, List.cons.injEq, and_true, true_and, List.set_cons_zero, List.set_cons_succ, List.length_cons, List.length_nil, List.filterMap_cons, List.filterMap_nil, List.getElem?_cons_zero, List.getElem?_cons_succ, Option.bind_some, ↓reduceIte, if_true, if_false, Bool.false_eq_true, Bool.true_eq_false, decide_eq_true_eq, beq_self_eq_true, Bool.not_true, Bool.not_false, Bool.not_eq_true', decide_eq_false_iff_not, exists_eq_left', exists_eq_left, exists_eq, ↓x_dnT, ↓x_dnF, ↓gAsgL, ↓gMMDef, ↓gDSet, ↓gSItems, ↓x_nilL, ↓x_nilE, List.isEmpty_nil, List.isEmpty_cons, Bool.true_xor, Bool.false_xor, ↓gOrT, ↓gAndT, ↓gTryAs, ↓gTryO, ↓gRaise, ↓gCallX, ↓gMethX, ↓gMakeX, ↓gFldX, ↓x_inXs, Bool.false_xor, Bool.true_xor, ↓x_fmtRS, ↓x_afRS, ↓x_afRI, ↓x_stO, ↓x_zipS, ↓x_zipE, ↓x_zipSL, ↓x_zipST, ↓x_zipEL, ↓x_augix, ↓x_isB, ↓x_notB, ↓gLR1, ↓gLR2, ↓gDIxT, ↓gDGt1T, ↓gDSetT, ↓gDNewT, ↓gDIx, ↓gDGt1, ↓gDGt2, ↓gDIn, ↓gDSetd, ↓gDPop1, ↓gDPop2, ↓gTIdx, ↓gLKeys, ↓gDisp, ↓x_enumK, ↓x_enumKL]
    have no : ∀ r ∈ ([] : List Rw), RwOk r := fun r hr => (by cases hr)
    refine read0_in (.inl rfl) (new_in (own_in (bk_last rfl).app (bk_last rfl) (.inl rfl) (.inl rfl) no no ⟨true, rfl, ?_⟩))
    rw [if_pos rfl]
    refine read0_in (.inr rfl) (new_in (ownN_in (bk_last rfl).app (bk_last rfl) (.inr rfl) (.inl rfl) no no ⟨true, congrArg D.bl (show (!decide ((Str.ofString "far") = (Str.ofString "near") ∧ ([] : List Rw) = [])) = true by decide +kernel), ?_⟩))
    rw [if_pos rfl]
    exact read0_in (.inr rfl) (notO_in (bk_last rfl) (by decide) (h _))
end
end Lw
namespace Lw
open PySem L2 Dl
section
variable {P : Program} {w : World} {K : PySem.W.Frag} {mg : Str → Option Value} {base : Heap} {a : Ad}
theorem ok_is_name (T : Txt K mg a) : Fnc P w K mg base "is_name" s_is_name dv_is_name 1 ps_is_name (sp_is_name a) :=
  fnc_of0 T.b_is_name sc_is_name (by intro ds S q h; obtain ⟨_, rfl, _⟩ := h; rfl) (g_is_name K a) (fun f cdv A outer s H E hr => t_is_name T  hr) (fun ds S q _ _ h => r_is_name ds S q h)
theorem ok_are_figures (T : Txt K mg a) : Fnc P w K mg base "are_figures" s_are_figures dv_are_figures 1 ps_are_figures (sp_are_figures a) :=
  fnc_of0 T.b_are_figures sc_are_figures (by intro ds S q h; first | (cases h with | inl h => (first | (obtain ⟨rfl, _⟩ := h; rfl) | (obtain ⟨_, _, _, _, ⟨_, _, rfl, _⟩, _⟩ := h; rfl) | (obtain ⟨_, rfl, _⟩ := h; rfl) | (obtain ⟨_, _, rfl, _⟩ := h; rfl) | (obtain ⟨_, _, _, rfl, _⟩ := h; rfl) | (obtain ⟨_, _, _, _, rfl, _⟩ := h; rfl) | (obtain ⟨_, _, _, _, _, rfl, _⟩ := h; rfl) | (obtain ⟨_, _, _, _, _, _, rfl, _⟩ := h; rfl) | (obtain ⟨_, _, _, _, _, _, _, rfl, _⟩ := h; rfl) | (obtain ⟨_, _, _, _, _, _, _, _, rfl, _⟩ := h; rfl) | (obtain ⟨_, _, _, _, _, _, _, _, _, rfl, _⟩ := h; rfl) | (obtain ⟨_, _, _, _, _, _, _, _, _, _, rfl, _⟩ := h; rfl) | (obtain ⟨_, _, _, _, _, _, _, _, _, _, _, rfl, _⟩ := h; rfl) | (obtain ⟨_, _, _, _, _, _, _, _, _, _, _, _, rfl, _⟩ := h; rfl) | (obtain ⟨_, _, _, _, _, _, _, _, _, _, _, _, _, rfl, _⟩ := h; rfl) | exact Mt.tk_len rfl h | (obtain ⟨_, h⟩ := h; exact Mt.tk_len rfl h) | (obtain ⟨_, _, h⟩ := h; exact Mt.tk_len rfl h) | (obtain ⟨_, _, _, h⟩ := h; exact Mt.tk_len rfl h) | (obtain ⟨_, _, _, _, h⟩ := h; exact Mt.tk_len rfl h) | (obtain ⟨_, _, _, _, _, h⟩ := h; exact Mt.tk_len rfl h) | (obtain ⟨_, _, _, _, _, _, h⟩ := h; exact Mt.tk_len rfl h) | (obtain ⟨_, _, _, _, _, _, _, h⟩ := h; exact Mt.tk_len rfl h) | (obtain ⟨_, _, _, _, _, _, _, _, h⟩ := h; exact Mt.tk_len rfl h) | (obtain ⟨_, _, _, _, _, _, _, _, _, h⟩ := h; exact Mt.tk_len rfl h) | (obtain ⟨_, _, _, _, _, _, _, _, _, _, h⟩ := h; exact Mt.tk_len rfl h) | (obtain ⟨_, _, _, _, _, _, _, _, _, _, _, h⟩ := h; exact Mt.tk_len rfl h) | (obtain ⟨_, _, _, _, _, _, _, _, _, _, _, _, h⟩ := h; exact Mt.tk_len rfl h) | (obtain ⟨_, _, _, _, _, _, _, _, _, _, _, _, _, h⟩ := h; exact Mt.tk_len rfl h) | (obtain ⟨_, _, _, _, _, _, _, _, _, _, _, _, _, _, h⟩ := h; exact Mt.tk_len rfl h) | (obtain ⟨_, _, _, _, _, _, _, _, _, _, _, _, _, _, _, h⟩ := h; exact Mt.tk_len rfl h)) | inr h => (first | (obtain ⟨rfl, _⟩ := h; rfl) | (obtain ⟨_, _, _, _, ⟨_, _, rfl, _⟩, _⟩ := h; rfl) | (obtain ⟨_, rfl, _⟩ := h; rfl) | (obtain ⟨_, _, rfl, _⟩ := h; rfl) | (obtain ⟨_, _, _, rfl, _⟩ := h; rfl) | (obtain ⟨_, _, _, _, rfl, _⟩ := h; rfl) | (obtain ⟨_, _, _, _, _, rfl, _⟩ := h; rfl) | (obtain ⟨_, _, _, _, _, _, rfl, _⟩ := h; rfl) | (obtain ⟨_, _, _, _, _, _, _, rfl, _⟩ := h; rfl) | (obtain ⟨_, _, _, _, _, _, _, _, rfl, _⟩ := h; rfl) | (obtain ⟨_, _, _, _, _, _, _, _, _, rfl, _⟩ := h; rfl) | (obtain ⟨_, _, _, _, _, _, _, _, _, _, rfl, _⟩ := h; rfl) | (obtain ⟨_, _, _, _, _, _, _, _, _, _, _, rfl, _⟩ := h; rfl) | (obtain ⟨_, _, _, _, _, _, _, _, _, _, _, _, rfl, _⟩ := h; rfl) | (obtain ⟨_, _, _, _, _, _, _, _, _, _, _, _, _, rfl, _⟩ := h; rfl) | exact Mt.tk_len rfl h | (obtain ⟨_, h⟩ := h; exact Mt.tk_len rfl h) | (obtain ⟨_, _, h⟩ := h; exact Mt.tk_len rfl h) | (obtain ⟨_, _, _, h⟩ := h; exact Mt.tk_len rfl h) | (obtain ⟨_, _, _, _, h⟩ := h; exact Mt.tk_len rfl h) | (obtain ⟨_, _, _, _, _, h⟩ := h; exact Mt.tk_len rfl h) | (obtain ⟨_, _, _, _, _, _, h⟩ := h; exact Mt.tk_len rfl h) | (obtain ⟨_, _, _, _, _, _, _, h⟩ := h; exact Mt.tk_len rfl h) | (obtain ⟨_, _, _, _, _, _, _, _, h⟩ := h; exact Mt.tk_len rfl h) | (obtain ⟨_, _, _, _, _, _, _, _, _, h⟩ := h; exact Mt.tk_len rfl h) | (obtain ⟨_, _, _, _, _, _, _, _, _, _, h⟩ := h; exact Mt.tk_len rfl h) | (obtain ⟨_, _, _, _, _, _, _, _, _, _, _, h⟩ := h; exact Mt.tk_len rfl h) | (obtain ⟨_, _, _, _, _, _, _, _, _, _, _, _, h⟩ := h; exact Mt.tk_len rfl h) | (obtain ⟨_, _, _, _, _, _, _, _, _, _, _, _, _, h⟩ := h; exact Mt.tk_len rfl h) | (obtain ⟨_, _, _, _, _, _, _, _, _, _, _, _, _, _, h⟩ := h; exact Mt.tk_len rfl h) | (obtain ⟨_, _, _, _, _, _, _, _, _, _, _, _, _, _, _, h⟩ := h; exact Mt.tk_len rfl h))) | (first | (obtain ⟨rfl, _⟩ := h; rfl) | (obtain ⟨_, _, _, _, ⟨_, _, rfl, _⟩, _⟩ := h; rfl) | (obtain ⟨_, rfl, _⟩ := h; rfl) | (obtain ⟨_, _, rfl, _⟩ := h; rfl) | (obtain ⟨_, _, _, rfl, _⟩ := h; rfl) | (obtain ⟨_, _, _, _, rfl, _⟩ := h; rfl) | (obtain ⟨_, _, _, _, _, rfl, _⟩ := h; rfl) | (obtain ⟨_, _, _, _, _, _, rfl, _⟩ := h; rfl) | (obtain ⟨_, _, _, _, _, _, _, rfl, _⟩ := h; rfl) | (obtain ⟨_, _, _, _, _, _, _, _, rfl, _⟩ := h; rfl) | (obtain ⟨_, _, _, _, _, _, _, _, _, rfl, _⟩ := h; rfl) | (obtain ⟨_, _, _, _, _, _, _, _, _, _, rfl, _⟩ := h; rfl) | (obtain ⟨_, _, _, _, _, _, _, _, _, _, _, rfl, _⟩ := h; rfl) | (obtain ⟨_, _, _, _, _, _, _, _, _, _, _, _, rfl, _⟩ := h; rfl) | (obtain ⟨_, _, _, _, _, _, _, _, _, _, _, _, _, rfl, _⟩ := h; rfl) | exact Mt.tk_len rfl h | (obtain ⟨_, h⟩ := h; exact Mt.tk_len rfl h) | (obtain ⟨_, _, h⟩ := h; exact Mt.tk_len rfl h) | (obtain ⟨_, _, _, h⟩ := h; exact Mt.tk_len rfl h) | (obtain ⟨_, _, _, _, h⟩ := h; exact Mt.tk_len rfl h) | (obtain ⟨_, _, _, _, _, h⟩ := h; exact Mt.tk_len rfl h) | (obtain ⟨_, _, _, _, _, _, h⟩ := h; exact Mt.tk_len rfl h) | (obtain ⟨_, _, _, _, _, _, _, h⟩ := h; exact Mt.tk_len rfl h) | (obtain ⟨_, _, _, _, _, _, _, _, h⟩ := h; exact Mt.tk_len rfl h) | (obtain ⟨_, _, _, _, _, _, _, _, _, h⟩ := h; exact Mt.tk_len rfl h) | (obtain ⟨_, _, _, _, _, _, _, _, _, _, h⟩ := h; exact Mt.tk_len rfl h) | (obtain ⟨_, _, _, _, _, _, _, _, _, _, _, h⟩ := h; exact Mt.tk_len rfl h) | (obtain ⟨_, _, _, _, _, _, _, _, _, _, _, _, h⟩ := h; exact Mt.tk_len rfl h) | (obtain ⟨_, _, _, _, _, _, _, _, _, _, _, _, _, h⟩ := h; exact Mt.tk_len rfl h) | (obtain ⟨_, _, _, _, _, _, _, _, _, _, _, _, _, _, h⟩ := h; exact Mt.tk_len rfl h) | (obtain ⟨_, _, _, _, _, _, _, _, _, _, _, _, _, _, _, h⟩ := h; exact Mt.tk_len rfl h))) (g_are_figures K a) (fun f cdv A outer s H E hr => t_are_figures T  hr) (fun ds S q _ _ h => r_are_figures ds S q h)
theorem ok_number_in (T : Txt K mg a) : Fnc P w K mg base "number_in" s_number_in dv_number_in 2 ps_number_in (sp_number_in a) :=
  fnc_of0 T.b_number_in sc_number_in (by intro ds S q h; first | (cases h with | inl h => (first | (obtain ⟨rfl, _⟩ := h; rfl) | (obtain ⟨_, _, _, _, ⟨_, _, rfl, _⟩, _⟩ := h; rfl) | (obtain ⟨_, rfl, _⟩ := h; rfl) | (obtain ⟨_, _, rfl, _⟩ := h; rfl) | (obtain ⟨_, _, _, rfl, _⟩ := h; rfl) | (obtain ⟨_, _, _, _, rfl, _⟩ := h; rfl) | (obtain ⟨_, _, _, _, _, rfl, _⟩ := h; rfl) | (obtain ⟨_, _, _, _, _, _, rfl, _⟩ := h; rfl) | (obtain ⟨_, _, _, _, _, _, _, rfl, _⟩ := h; rfl) | (obtain ⟨_, _, _, _, _, _, _, _, rfl, _⟩ := h; rfl) | (obtain ⟨_, _, _, _, _, _, _, _, _, rfl, _⟩ := h; rfl) | (obtain ⟨_, _, _, _, _, _, _, _, _, _, rfl, _⟩ := h; rfl) | (obtain ⟨_, _, _, _, _, _, _, _, _, _, _, rfl, _⟩ := h; rfl) | (obtain ⟨_, _, _, _, _, _, _, _, _, _, _, _, rfl, _⟩ := h; rfl) | (obtain ⟨_, _, _, _, _, _, _, _, _, _, _, _, _, rfl, _⟩ := h; rfl) | exact Mt.tk_len rfl h | (obtain ⟨_, h⟩ := h; exact Mt.tk_len rfl h) | (obtain ⟨_, _, h⟩ := h; exact Mt.tk_len rfl h) | (obtain ⟨_, _, _, h⟩ := h; exact Mt.tk_len rfl h) | (obtain ⟨_, _, _, _, h⟩ := h; exact Mt.tk_len rfl h) | (obtain ⟨_, _, _, _, _, h⟩ := h; exact Mt.tk_len rfl h) | (obtain ⟨_, _, _, _, _, _, h⟩ := h; exact Mt.tk_len rfl h) | (obtain ⟨_, _, _, _, _, _, _, h⟩ := h; exact Mt.tk_len rfl h) | (obtain ⟨_, _, _, _, _, _, _, _, h⟩ := h; exact Mt.tk_len rfl h) | (obtain ⟨_, _, _, _, _, _, _, _, _, h⟩ := h; exact Mt.tk_len rfl h) | (obtain ⟨_, _, _, _, _, _, _, _, _, _, h⟩ := h; exact Mt.tk_len rfl h) | (obtain ⟨_, _, _, _, _, _, _, _, _, _, _, h⟩ := h; exact Mt.tk_len rfl h) | (obtain ⟨_, _, _, _, _, _, _, _, _, _, _, _, h⟩ := h; exact Mt.tk_len rfl h) | (obtain ⟨_, _, _, _, _, _, _, _, _, _, _, _, _, h⟩ := h; exact Mt.tk_len rfl h) | (obtain ⟨_, _, _, _, _, _, _, _, _, _, _, _, _, _, h⟩ := h; exact Mt.tk_len rfl h) | (obtain ⟨_, _, _, _, _, _, _, _, _, _, _, _, _, _, _, h⟩ := h; exact Mt.tk_len rfl h)) | inr h => (first | (obtain ⟨rfl, _⟩ := h; rfl) | (obtain ⟨_, _, _, _, ⟨_, _, rfl, _⟩, _⟩ := h; rfl) | (obtain ⟨_, rfl, _⟩ := h; rfl) | (obtain ⟨_, _, rfl, _⟩ := h; rfl) | (obtain ⟨_, _, _, rfl, _⟩ := h; rfl) | (obtain ⟨_, _, _, _, rfl, _⟩ := h; rfl) | (obtain ⟨_, _, _, _, _, rfl, _⟩ := h; rfl) | (obtain ⟨_, _, _, _, _, _, rfl, _⟩ := h; rfl) | (obtain ⟨_, _, _, _, _, _, _, rfl, _⟩ := h; rfl) | (obtain ⟨_, _, _, _, _, _, _, _, rfl, _⟩ := h; rfl) | (obtain ⟨_, _, _, _, _, _, _, _, _, rfl, _⟩ := h; rfl) | (obtain ⟨_, _, _, _, _, _, _, _, _, _, rfl, _⟩ := h; rfl) | (obtain ⟨_, _, _, _, _, _, _, _, _, _, _, rfl, _⟩ := h; rfl) | (obtain ⟨_, _, _, _, _, _, _, _, _, _, _, _, rfl, _⟩ := h; rfl) | (obtain ⟨_, _, _, _, _, _, _, _, _, _, _, _, _, rfl, _⟩ := h; rfl) | exact Mt.tk_len rfl h | (obtain ⟨_, h⟩ := h; exact Mt.tk_len rfl h) | (obtain ⟨_, _, h⟩ := h; exact Mt.tk_len rfl h) | (obtain ⟨_, _, _, h⟩ := h; exact Mt.tk_len rfl h) | (obtain ⟨_, _, _, _, h⟩ := h; exact Mt.tk_len rfl h) | (obtain ⟨_, _, _, _, _, h⟩ := h; exact Mt.tk_len rfl h) | (obtain ⟨_, _, _, _, _, _, h⟩ := h; exact Mt.tk_len rfl h) | (obtain ⟨_, _, _, _, _, _, _, h⟩ := h; exact Mt.tk_len rfl h) | (obtain ⟨_, _, _, _, _, _, _, _, h⟩ := h; exact Mt.tk_len rfl h) | (obtain ⟨_, _, _, _, _, _, _, _, _, h⟩ := h; exact Mt.tk_len rfl h) | (obtain ⟨_, _, _, _, _, _, _, _, _, _, h⟩ := h; exact Mt.tk_len rfl h) | (obtain ⟨_, _, _, _, _, _, _, _, _, _, _, h⟩ := h; exact Mt.tk_len rfl h) | (obtain ⟨_, _, _, _, _, _, _, _, _, _, _, _, h⟩ := h; exact Mt.tk_len rfl h) | (obtain ⟨_, _, _, _, _, _, _, _, _, _, _, _, _, h⟩ := h; exact Mt.tk_len rfl h) | (obtain ⟨_, _, _, _, _, _, _, _, _, _, _, _, _, _, h⟩ := h; exact Mt.tk_len rfl h) | (obtain ⟨_, _, _, _, _, _, _, _, _, _, _, _, _, _, _, h⟩ := h; exact Mt.tk_len rfl h))) | (first | (obtain ⟨rfl, _⟩ := h; rfl) | (obtain ⟨_, _, _, _, ⟨_, _, rfl, _⟩, _⟩ := h; rfl) | (obtain ⟨_, rfl, _⟩ := h; rfl) | (obtain ⟨_, _, rfl, _⟩ := h; rfl) | (obtain ⟨_, _, _, rfl, _⟩ := h; rfl) | (obtain ⟨_, _, _, _, rfl, _⟩ := h; rfl) | (obtain ⟨_, _, _, _, _, rfl, _⟩ := h; rfl) | (obtain ⟨_, _, _, _, _, _, rfl, _⟩ := h; rfl) | (obtain ⟨_, _, _, _, _, _, _, rfl, _⟩ := h; rfl) | (obtain ⟨_, _, _, _, _, _, _, _, rfl, _⟩ := h; rfl) | (obtain ⟨_, _, _, _, _, _, _, _, _, rfl, _⟩ := h; rfl) | (obtain ⟨_, _, _, _, _, _, _, _, _, _, rfl, _⟩ := h; rfl) | (obtain ⟨_, _, _, _, _, _, _, _, _, _, _, rfl, _⟩ := h; rfl) | (obtain ⟨_, _, _, _, _, _, _, _, _, _, _, _, rfl, _⟩ := h; rfl) | (obtain ⟨_, _, _, _, _, _, _, _, _, _, _, _, _, rfl, _⟩ := h; rfl) | exact Mt.tk_len rfl h | (obtain ⟨_, h⟩ := h; exact Mt.tk_len rfl h) | (obtain ⟨_, _, h⟩ := h; exact Mt.tk_len rfl h) | (obtain ⟨_, _, _, h⟩ := h; exact Mt.tk_len rfl h) | (obtain ⟨_, _, _, _, h⟩ := h; exact Mt.tk_len rfl h) | (obtain ⟨_, _, _, _, _, h⟩ := h; exact Mt.tk_len rfl h) | (obtain ⟨_, _, _, _, _, _, h⟩ := h; exact Mt.tk_len rfl h) | (obtain ⟨_, _, _, _, _, _, _, h⟩ := h; exact Mt.tk_len rfl h) | (obtain ⟨_, _, _, _, _, _, _, _, h⟩ := h; exact Mt.tk_len rfl h) | (obtain ⟨_, _, _, _, _, _, _, _, _, h⟩ := h; exact Mt.tk_len rfl h) | (obtain ⟨_, _, _, _, _, _, _, _, _, _, h⟩ := h; exact Mt.tk_len rfl h) | (obtain ⟨_, _, _, _, _, _, _, _, _, _, _, h⟩ := h; exact Mt.tk_len rfl h) | (obtain ⟨_, _, _, _, _, _, _, _, _, _, _, _, h⟩ := h; exact Mt.tk_len rfl h) | (obtain ⟨_, _, _, _, _, _, _, _, _, _, _, _, _, h⟩ := h; exact Mt.tk_len rfl h) | (obtain ⟨_, _, _, _, _, _, _, _, _, _, _, _, _, _, h⟩ := h; exact Mt.tk_len rfl h) | (obtain ⟨_, _, _, _, _, _, _, _, _, _, _, _, _, _, _, h⟩ := h; exact Mt.tk_len rfl h))) (g_number_in K a) (fun f cdv A outer s H E hr => t_number_in T (ok_are_figures T) hr) (fun ds S q _ _ h => r_number_in ds S q h)
theorem ok_show_clock (T : Txt K mg a) : Fnc P w K mg base "show_clock" s_show_clock dv_show_clock 1 ps_show_clock (sp_show_clock a) :=
  fnc_of0 T.b_show_clock sc_show_clock (by intro ds S q h; first | (cases h with | inl h => (first | (obtain ⟨rfl, _⟩ := h; rfl) | (obtain ⟨_, _, _, _, ⟨_, _, rfl, _⟩, _⟩ := h; rfl) | (obtain ⟨_, rfl, _⟩ := h; rfl) | (obtain ⟨_, _, rfl, _⟩ := h; rfl) | (obtain ⟨_, _, _, rfl, _⟩ := h; rfl) | (obtain ⟨_, _, _, _, rfl, _⟩ := h; rfl) | (obtain ⟨_, _, _, _, _, rfl, _⟩ := h; rfl) | (obtain ⟨_, _, _, _, _, _, rfl, _⟩ := h; rfl) | (obtain ⟨_, _, _, _, _, _, _, rfl, _⟩ := h; rfl) | (obtain ⟨_, _, _, _, _, _, _, _, rfl, _⟩ := h; rfl) | (obtain ⟨_, _, _, _, _, _, _, _, _, rfl, _⟩ := h; rfl) | (obtain ⟨_, _, _, _, _, _, _, _, _, _, rfl, _⟩ := h; rfl) | (obtain ⟨_, _, _, _, _, _, _, _, _, _, _, rfl, _⟩ := h; rfl) | (obtain ⟨_, _, _, _, _, _, _, _, _, _, _, _, rfl, _⟩ := h; rfl) | (obtain ⟨_, _, _, _, _, _, _, _, _, _, _, _, _, rfl, _⟩ := h; rfl) | exact Mt.tk_len rfl h | (obtain ⟨_, h⟩ := h; exact Mt.tk_len rfl h) | (obtain ⟨_, _, h⟩ := h; exact Mt.tk_len rfl h) | (obtain ⟨_, _, _, h⟩ := h; exact Mt.tk_len rfl h) | (obtain ⟨_, _, _, _, h⟩ := h; exact Mt.tk_len rfl h) | (obtain ⟨_, _, _, _, _, h⟩ := h; exact Mt.tk_len rfl h) | (obtain ⟨_, _, _, _, _, _, h⟩ := h; exact Mt.tk_len rfl h) | (obtain ⟨_, _, _, _, _, _, _, h⟩ := h; exact Mt.tk_len rfl h) | (obtain ⟨_, _, _, _, _, _, _, _, h⟩ := h; exact Mt.tk_len rfl h) | (obtain ⟨_, _, _, _, _, _, _, _, _, h⟩ := h; exact Mt.tk_len rfl h) | (obtain ⟨_, _, _, _, _, _, _, _, _, _, h⟩ := h; exact Mt.tk_len rfl h) | (obtain ⟨_, _, _, _, _, _, _, _, _, _, _, h⟩ := h; exact Mt.tk_len rfl h) | (obtain ⟨_, _, _, _, _, _, _, _, _, _, _, _, h⟩ := h; exact Mt.tk_len rfl h) | (obtain ⟨_, _, _, _, _, _, _, _, _, _, _, _, _, h⟩ := h; exact Mt.tk_len rfl h) | (obtain ⟨_, _, _, _, _, _, _, _, _, _, _, _, _, _, h⟩ := h; exact Mt.tk_len rfl h) | (obtain ⟨_, _, _, _, _, _, _, _, _, _, _, _, _, _, _, h⟩ := h; exact Mt.tk_len rfl h)) | inr h => (first | (obtain ⟨rfl, _⟩ := h; rfl) | (obtain ⟨_, _, _, _, ⟨_, _, rfl, _⟩, _⟩ := h; rfl) | (obtain ⟨_, rfl, _⟩ := h; rfl) | (obtain ⟨_, _, rfl, _⟩ := h; rfl) | (obtain ⟨_, _, _, rfl, _⟩ := h; rfl) | (obtain ⟨_, _, _, _, rfl, _⟩ := h; rfl) | (obtain ⟨_, _, _, _, _, rfl, _⟩ := h; rfl) | (obtain ⟨_, _, _, _, _, _, rfl, _⟩ := h; rfl) | (obtain ⟨_, _, _, _, _, _, _, rfl, _⟩ := h; rfl) | (obtain ⟨_, _, _, _, _, _, _, _, rfl, _⟩ := h; rfl) | (obtain ⟨_, _, _, _, _, _, _, _, _, rfl, _⟩ := h; rfl) | (obtain ⟨_, _, _, _, _, _, _, _, _, _, rfl, _⟩ := h; rfl) | (obtain ⟨_, _, _, _, _, _, _, _, _, _, _, rfl, _⟩ := h; rfl) | (obtain ⟨_, _, _, _, _, _, _, _, _, _, _, _, rfl, _⟩ := h; rfl) | (obtain ⟨_, _, _, _, _, _, _, _, _, _, _, _, _, rfl, _⟩ := h; rfl) | exact Mt.tk_len rfl h | (obtain ⟨_, h⟩ := h; exact Mt.tk_len rfl h) | (obtain ⟨_, _, h⟩ := h; exact Mt.tk_len rfl h) | (obtain ⟨_, _, _, h⟩ := h; exact Mt.tk_len rfl h) | (obtain ⟨_, _, _, _, h⟩ := h; exact Mt.tk_len rfl h) | (obtain ⟨_, _, _, _, _, h⟩ := h; exact Mt.tk_len rfl h) | (obtain ⟨_, _, _, _, _, _, h⟩ := h; exact Mt.tk_len rfl h) | (obtain ⟨_, _, _, _, _, _, _, h⟩ := h; exact Mt.tk_len rfl h) | (obtain ⟨_, _, _, _, _, _, _, _, h⟩ := h; exact Mt.tk_len rfl h) | (obtain ⟨_, _, _, _, _, _, _, _, _, h⟩ := h; exact Mt.tk_len rfl h) | (obtain ⟨_, _, _, _, _, _, _, _, _, _, h⟩ := h; exact Mt.tk_len rfl h) | (obtain ⟨_, _, _, _, _, _, _, _, _, _, _, h⟩ := h; exact Mt.tk_len rfl h) | (obtain ⟨_, _, _, _, _, _, _, _, _, _, _, _, h⟩ := h; exact Mt.tk_len rfl h) | (obtain ⟨_, _, _, _, _, _, _, _, _, _, _, _, _, h⟩ := h; exact Mt.tk_len rfl h) | (obtain ⟨_, _, _, _, _, _, _, _, _, _, _, _, _, _, h⟩ := h; exact Mt.tk_len rfl h) | (obtain ⟨_, _, _, _, _, _, _, _, _, _, _, _, _, _, _, h⟩ := h; exact Mt.tk_len rfl h))) | (first | (obtain ⟨rfl, _⟩ := h; rfl) | (obtain ⟨_, _, _, _, ⟨_, _, rfl, _⟩, _⟩ := h; rfl) | (obtain ⟨_, rfl, _⟩ := h; rfl) | (obtain ⟨_, _, rfl, _⟩ := h; rfl) | (obtain ⟨_, _, _, rfl, _⟩ := h; rfl) | (obtain ⟨_, _, _, _, rfl, _⟩ := h; rfl) | (obtain ⟨_, _, _, _, _, rfl, _⟩ := h; rfl) | (obtain ⟨_, _, _, _, _, _, rfl, _⟩ := h; rfl) | (obtain ⟨_, _, _, _, _, _, _, rfl, _⟩ := h; rfl) | (obtain ⟨_, _, _, _, _, _, _, _, rfl, _⟩ := h; rfl) | (obtain ⟨_, _, _, _, _, _, _, _, _, rfl, _⟩ := h; rfl) | (obtain ⟨_, _, _, _, _, _, _, _, _, _, rfl, _⟩ := h; rfl) | (obtain ⟨_, _, _, _, _, _, _, _, _, _, _, rfl, _⟩ := h; rfl) | (obtain ⟨_, _, _, _, _, _, _, _, _, _, _, _, rfl, _⟩ := h; rfl) | (obtain ⟨_, _, _, _, _, _, _, _, _, _, _, _, _, rfl, _⟩ := h; rfl) | exact Mt.tk_len rfl h | (obtain ⟨_, h⟩ := h; exact Mt.tk_len rfl h) | (obtain ⟨_, _, h⟩ := h; exact Mt.tk_len rfl h) | (obtain ⟨_, _, _, h⟩ := h; exact Mt.tk_len rfl h) | (obtain ⟨_, _, _, _, h⟩ := h; exact Mt.tk_len rfl h) | (obtain ⟨_, _, _, _, _, h⟩ := h; exact Mt.tk_len rfl h) | (obtain ⟨_, _, _, _, _, _, h⟩ := h; exact Mt.tk_len rfl h) | (obtain ⟨_, _, _, _, _, _, _, h⟩ := h; exact Mt.tk_len rfl h) | (obtain ⟨_, _, _, _, _, _, _, _, h⟩ := h; exact Mt.tk_len rfl h) | (obtain ⟨_, _, _, _, _, _, _, _, _, h⟩ := h; exact Mt.tk_len rfl h) | (obtain ⟨_, _, _, _, _, _, _, _, _, _, h⟩ := h; exact Mt.tk_len rfl h) | (obtain ⟨_, _, _, _, _, _, _, _, _, _, _, h⟩ := h; exact Mt.tk_len rfl h) | (obtain ⟨_, _, _, _, _, _, _, _, _, _, _, _, h⟩ := h; exact Mt.tk_len rfl h) | (obtain ⟨_, _, _, _, _, _, _, _, _, _, _, _, _, h⟩ := h; exact Mt.tk_len rfl h) | (obtain ⟨_, _, _, _, _, _, _, _, _, _, _, _, _, _, h⟩ := h; exact Mt.tk_len rfl h) | (obtain ⟨_, _, _, _, _, _, _, _, _, _, _, _, _, _, _, h⟩ := h; exact Mt.tk_len rfl h))) (g_show_clock K a) (fun f cdv A outer s H E hr => t_show_clock T  hr) (fun ds S q _ _ h => r_show_clock ds S q h)
theorem ok_show_time (T : Txt K mg a) : Fnc P w K mg base "show_time" s_show_time dv_show_time 2 ps_show_time (sp_show_time a) :=
  fnc_of0 T.b_show_time sc_show_time (by intro ds S q h; first | (cases h with | inl h => (first | (obtain ⟨rfl, _⟩ := h; rfl) | (obtain ⟨_, _, _, _, ⟨_, _, rfl, _⟩, _⟩ := h; rfl) | (obtain ⟨_, rfl, _⟩ := h; rfl) | (obtain ⟨_, _, rfl, _⟩ := h; rfl) | (obtain ⟨_, _, _, rfl, _⟩ := h; rfl) | (obtain ⟨_, _, _, _, rfl, _⟩ := h; rfl) | (obtain ⟨_, _, _, _, _, rfl, _⟩ := h; rfl) | (obtain ⟨_, _, _, _, _, _, rfl, _⟩ := h; rfl) | (obtain ⟨_, _, _, _, _, _, _, rfl, _⟩ := h; rfl) | (obtain ⟨_, _, _, _, _, _, _, _, rfl, _⟩ := h; rfl) | (obtain ⟨_, _, _, _, _, _, _, _, _, rfl, _⟩ := h; rfl) | (obtain ⟨_, _, _, _, _, _, _, _, _, _, rfl, _⟩ := h; rfl) | (obtain ⟨_, _, _, _, _, _, _, _, _, _, _, rfl, _⟩ := h; rfl) | (obtain ⟨_, _, _, _, _, _, _, _, _, _, _, _, rfl, _⟩ := h; rfl) | (obtain ⟨_, _, _, _, _, _, _, _, _, _, _, _, _, rfl, _⟩ := h; rfl) | exact Mt.tk_len rfl h | (obtain ⟨_, h⟩ := h; exact Mt.tk_len rfl h) | (obtain ⟨_, _, h⟩ := h; exact Mt.tk_len rfl h) | (obtain ⟨_, _, _, h⟩ := h; exact Mt.tk_len rfl h) | (obtain ⟨_, _, _, _, h⟩ := h; exact Mt.tk_len rfl h) | (obtain ⟨_, _, _, _, _, h⟩ := h; exact Mt.tk_len rfl h) | (obtain ⟨_, _, _, _, _, _, h⟩ := h; exact Mt.tk_len rfl h) | (obtain ⟨_, _, _, _, _, _, _, h⟩ := h; exact Mt.tk_len rfl h) | (obtain ⟨_, _, _, _, _, _, _, _, h⟩ := h; exact Mt.tk_len rfl h) | (obtain ⟨_, _, _, _, _, _, _, _, _, h⟩ := h; exact Mt.tk_len rfl h) | (obtain ⟨_, _, _, _, _, _, _, _, _, _, h⟩ := h; exact Mt.tk_len rfl h) | (obtain ⟨_, _, _, _, _, _, _, _, _, _, _, h⟩ := h; exact Mt.tk_len rfl h) | (obtain ⟨_, _, _, _, _, _, _, _, _, _, _, _, h⟩ := h; exact Mt.tk_len rfl h) | (obtain ⟨_, _, _, _, _, _, _, _, _, _, _, _, _, h⟩ := h; exact Mt.tk_len rfl h) | (obtain ⟨_, _, _, _, _, _, _, _, _, _, _, _, _, _, h⟩ := h; exact Mt.tk_len rfl h) | (obtain ⟨_, _, _, _, _, _, _, _, _, _, _, _, _, _, _, h⟩ := h; exact Mt.tk_len rfl h)) | inr h => (first | (obtain ⟨rfl, _⟩ := h; rfl) | (obtain ⟨_, _, _, _, ⟨_, _, rfl, _⟩, _⟩ := h; rfl) | (obtain ⟨_, rfl, _⟩ := h; rfl) | (obtain ⟨_, _, rfl, _⟩ := h; rfl) | (obtain ⟨_, _, _, rfl, _⟩ := h; rfl) | (obtain ⟨_, _, _, _, rfl, _⟩ := h; rfl) | (obtain ⟨_, _, _, _, _, rfl, _⟩ := h; rfl) | (obtain ⟨_, _, _, _, _, _, rfl, _⟩ := h; rfl) | (obtain ⟨_, _, _, _, _, _, _, rfl, _⟩ := h; rfl) | (obtain ⟨_, _, _, _, _, _, _, _, rfl, _⟩ := h; rfl) | (obtain ⟨_, _, _, _, _, _, _, _, _, rfl, _⟩ := h; rfl) | (obtain ⟨_, _, _, _, _, _, _, _, _, _, rfl, _⟩ := h; rfl) | (obtain ⟨_, _, _, _, _, _, _, _, _, _, _, rfl, _⟩ := h; rfl) | (obtain ⟨_, _, _, _, _, _, _, _, _, _, _, _, rfl, _⟩ := h; rfl) | (obtain ⟨_, _, _, _, _, _, _, _, _, _, _, _, _, rfl, _⟩ := h; rfl) | exact Mt.tk_len rfl h | (obtain ⟨_, h⟩ := h; exact Mt.tk_len rfl h) | (obtain ⟨_, _, h⟩ := h; exact Mt.tk_len rfl h) | (obtain ⟨_, _, _, h⟩ := h; exact Mt.tk_len rfl h) | (obtain ⟨_, _, _, _, h⟩ := h; exact Mt.tk_len rfl h) | (obtain ⟨_, _, _, _, _, h⟩ := h; exact Mt.tk_len rfl h) | (obtain ⟨_, _, _, _, _, _, h⟩ := h; exact Mt.tk_len rfl h) | (obtain ⟨_, _, _, _, _, _, _, h⟩ := h; exact Mt.tk_len rfl h) | (obtain ⟨_, _, _, _, _, _, _, _, h⟩ := h; exact Mt.tk_len rfl h) | (obtain ⟨_, _, _, _, _, _, _, _, _, h⟩ := h; exact Mt.tk_len rfl h) | (obtain ⟨_, _, _, _, _, _, _, _, _, _, h⟩ := h; exact Mt.tk_len rfl h) | (obtain ⟨_, _, _, _, _, _, _, _, _, _, _, h⟩ := h; exact Mt.tk_len rfl h) | (obtain ⟨_, _, _, _, _, _, _, _, _, _, _, _, h⟩ := h; exact Mt.tk_len rfl h) | (obtain ⟨_, _, _, _, _, _, _, _, _, _, _, _, _, h⟩ := h; exact Mt.tk_len rfl h) | (obtain ⟨_, _, _, _, _, _, _, _, _, _, _, _, _, _, h⟩ := h; exact Mt.tk_len rfl h) | (obtain ⟨_, _, _, _, _, _, _, _, _, _, _, _, _, _, _, h⟩ := h; exact Mt.tk_len rfl h))) | (first | (obtain ⟨rfl, _⟩ := h; rfl) | (obtain ⟨_, _, _, _, ⟨_, _, rfl, _⟩, _⟩ := h; rfl) | (obtain ⟨_, rfl, _⟩ := h; rfl) | (obtain ⟨_, _, rfl, _⟩ := h; rfl) | (obtain ⟨_, _, _, rfl, _⟩ := h; rfl) | (obtain ⟨_, _, _, _, rfl, _⟩ := h; rfl) | (obtain ⟨_, _, _, _, _, rfl, _⟩ := h; rfl) | (obtain ⟨_, _, _, _, _, _, rfl, _⟩ := h; rfl) | (obtain ⟨_, _, _, _, _, _, _, rfl, _⟩ := h; rfl) | (obtain ⟨_, _, _, _, _, _, _, _, rfl, _⟩ := h; rfl) | (obtain ⟨_, _, _, _, _, _, _, _, _, rfl, _⟩ := h; rfl) | (obtain ⟨_, _, _, _, _, _, _, _, _, _, rfl, _⟩ := h; rfl) | (obtain ⟨_, _, _, _, _, _, _, _, _, _, _, rfl, _⟩ := h; rfl) | (obtain ⟨_, _, _, _, _, _, _, _, _, _, _, _, rfl, _⟩ := h; rfl) | (obtain ⟨_, _, _, _, _, _, _, _, _, _, _, _, _, rfl, _⟩ := h; rfl) | exact Mt.tk_len rfl h | (obtain ⟨_, h⟩ := h; exact Mt.tk_len rfl h) | (obtain ⟨_, _, h⟩ := h; exact Mt.tk_len rfl h) | (obtain ⟨_, _, _, h⟩ := h; exact Mt.tk_len rfl h) | (obtain ⟨_, _, _, _, h⟩ := h; exact Mt.tk_len rfl h) | (obtain ⟨_, _, _, _, _, h⟩ := h; exact Mt.tk_len rfl h) | (obtain ⟨_, _, _, _, _, _, h⟩ := h; exact Mt.tk_len rfl h) | (obtain ⟨_, _, _, _, _, _, _, h⟩ := h; exact Mt.tk_len rfl h) | (obtain ⟨_, _, _, _, _, _, _, _, h⟩ := h; exact Mt.tk_len rfl h) | (obtain ⟨_, _, _, _, _, _, _, _, _, h⟩ := h; exact Mt.tk_len rfl h) | (obtain ⟨_, _, _, _, _, _, _, _, _, _, h⟩ := h; exact Mt.tk_len rfl h) | (obtain ⟨_, _, _, _, _, _, _, _, _, _, _, h⟩ := h; exact Mt.tk_len rfl h) | (obtain ⟨_, _, _, _, _, _, _, _, _, _, _, _, h⟩ := h; exact Mt.tk_len rfl h) | (obtain ⟨_, _, _, _, _, _, _, _, _, _, _, _, _, h⟩ := h; exact Mt.tk_len rfl h) | (obtain ⟨_, _, _, _, _, _, _, _, _, _, _, _, _, _, h⟩ := h; exact Mt.tk_len rfl h) | (obtain ⟨_, _, _, _, _, _, _, _, _, _, _, _, _, _, _, h⟩ := h; exact Mt.tk_len rfl h))) (g_show_time K a) (fun f cdv A outer s H E hr => t_show_time T (ok_show_clock T) hr) (fun ds S q _ _ h => r_show_time ds S q h)
theorem ok_clock_in (T : Txt K mg a) : Fnc P w K mg base "clock_in" s_clock_in dv_clock_in 2 ps_clock_in (sp_clock_in a) :=
  fnc_of0 T.b_clock_in sc_clock_in (by intro ds S q h; first | (cases h with | inl h => (first | (obtain ⟨rfl, _⟩ := h; rfl) | (obtain ⟨_, _, _, _, ⟨_, _, rfl, _⟩, _⟩ := h; rfl) | (obtain ⟨_, rfl, _⟩ := h; rfl) | (obtain ⟨_, _, rfl, _⟩ := h; rfl) | (obtain ⟨_, _, _, rfl, _⟩ := h; rfl) | (obtain ⟨_, _, _, _, rfl, _⟩ := h; rfl) | (obtain ⟨_, _, _, _, _, rfl, _⟩ := h; rfl) | (obtain ⟨_, _, _, _, _, _, rfl, _⟩ := h; rfl) | (obtain ⟨_, _, _, _, _, _, _, rfl, _⟩ := h; rfl) | (obtain ⟨_, _, _, _, _, _, _, _, rfl, _⟩ := h; rfl) | (obtain ⟨_, _, _, _, _, _, _, _, _, rfl, _⟩ := h; rfl) | (obtain ⟨_, _, _, _, _, _, _, _, _, _, rfl, _⟩ := h; rfl) | (obtain ⟨_, _, _, _, _, _, _, _, _, _, _, rfl, _⟩ := h; rfl) | (obtain ⟨_, _, _, _, _, _, _, _, _, _, _, _, rfl, _⟩ := h; rfl) | (obtain ⟨_, _, _, _, _, _, _, _, _, _, _, _, _, rfl, _⟩ := h; rfl) | exact Mt.tk_len rfl h | (obtain ⟨_, h⟩ := h; exact Mt.tk_len rfl h) | (obtain ⟨_, _, h⟩ := h; exact Mt.tk_len rfl h) | (obtain ⟨_, _, _, h⟩ := h; exact Mt.tk_len rfl h) | (obtain ⟨_, _, _, _, h⟩ := h; exact Mt.tk_len rfl h) | (obtain ⟨_, _, _, _, _, h⟩ := h; exact Mt.tk_len rfl h) | (obtain ⟨_, _, _, _, _, _, h⟩ := h; exact Mt.tk_len rfl h) | (obtain ⟨_, _, _, _, _, _, _, h⟩ := h; exact Mt.tk_len rfl h) | (obtain ⟨_, _, _, _, _, _, _, _, h⟩ := h; exact Mt.tk_len rfl h) | (obtain ⟨_, _, _, _, _, _, _, _, _, h⟩ := h; exact Mt.tk_len rfl h) | (obtain ⟨_, _, _, _, _, _, _, _, _, _, h⟩ := h; exact Mt.tk_len rfl h) | (obtain ⟨_, _, _, _, _, _, _, _, _, _, _, h⟩ := h; exact Mt.tk_len rfl h) | (obtain ⟨_, _, _, _, _, _, _, _, _, _, _, _, h⟩ := h; exact Mt.tk_len rfl h) | (obtain ⟨_, _, _, _, _, _, _, _, _, _, _, _, _, h⟩ := h; exact Mt.tk_len rfl h) | (obtain ⟨_, _, _, _, _, _, _, _, _, _, _, _, _, _, h⟩ := h; exact Mt.tk_len rfl h) | (obtain ⟨_, _, _, _, _, _, _, _, _, _, _, _, _, _, _, h⟩ := h; exact Mt.tk_len rfl h)) | inr h => (first | (obtain ⟨rfl, _⟩ := h; rfl) | (obtain ⟨_, _, _, _, ⟨_, _, rfl, _⟩, _⟩ := h; rfl) | (obtain ⟨_, rfl, _⟩ := h; rfl) | (obtain ⟨_, _, rfl, _⟩ := h; rfl) | (obtain ⟨_, _, _, rfl, _⟩ := h; rfl) | (obtain ⟨_, _, _, _, rfl, _⟩ := h; rfl) | (obtain ⟨_, _, _, _, _, rfl, _⟩ := h; rfl) | (obtain ⟨_, _, _, _, _, _, rfl, _⟩ := h; rfl) | (obtain ⟨_, _, _, _, _, _, _, rfl, _⟩ := h; rfl) | (obtain ⟨_, _, _, _, _, _, _, _, rfl, _⟩ := h; rfl) | (obtain ⟨_, _, _, _, _, _, _, _, _, rfl, _⟩ := h; rfl) | (obtain ⟨_, _, _, _, _, _, _, _, _, _, rfl, _⟩ := h; rfl) | (obtain ⟨_, _, _, _, _, _, _, _, _, _, _, rfl, _⟩ := h; rfl) | (obtain ⟨_, _, _, _, _, _, _, _, _, _, _, _, rfl, _⟩ := h; rfl) | (obtain ⟨_, _, _, _, _, _, _, _, _, _, _, _, _, rfl, _⟩ := h; rfl) | exact Mt.tk_len rfl h | (obtain ⟨_, h⟩ := h; exact Mt.tk_len rfl h) | (obtain ⟨_, _, h⟩ := h; exact Mt.tk_len rfl h) | (obtain ⟨_, _, _, h⟩ := h; exact Mt.tk_len rfl h) | (obtain ⟨_, _, _, _, h⟩ := h; exact Mt.tk_len rfl h) | (obtain ⟨_, _, _, _, _, h⟩ := h; exact Mt.tk_len rfl h) | (obtain ⟨_, _, _, _, _, _, h⟩ := h; exact Mt.tk_len rfl h) | (obtain ⟨_, _, _, _, _, _, _, h⟩ := h; exact Mt.tk_len rfl h) | (obtain ⟨_, _, _, _, _, _, _, _, h⟩ := h; exact Mt.tk_len rfl h) | (obtain ⟨_, _, _, _, _, _, _, _, _, h⟩ := h; exact Mt.tk_len rfl h) | (obtain ⟨_, _, _, _, _, _, _, _, _, _, h⟩ := h; exact Mt.tk_len rfl h) | (obtain ⟨_, _, _, _, _, _, _, _, _, _, _, h⟩ := h; exact Mt.tk_len rfl h) | (obtain ⟨_, _, _, _, _, _, _, _, _, _, _, _, h⟩ := h; exact Mt.tk_len rfl h) | (obtain ⟨_, _, _, _, _, _, _, _, _, _, _, _, _, h⟩ := h; exact Mt.tk_len rfl h) | (obtain ⟨_, _, _, _, _, _, _, _, _, _, _, _, _, _, h⟩ := h; exact Mt.tk_len rfl h) | (obtain ⟨_, _, _, _, _, _, _, _, _, _, _, _, _, _, _, h⟩ := h; exact Mt.tk_len rfl h))) | (first | (obtain ⟨rfl, _⟩ := h; rfl) | (obtain ⟨_, _, _, _, ⟨_, _, rfl, _⟩, _⟩ := h; rfl) | (obtain ⟨_, rfl, _⟩ := h; rfl) | (obtain ⟨_, _, rfl, _⟩ := h; rfl) | (obtain ⟨_, _, _, rfl, _⟩ := h; rfl) | (obtain ⟨_, _, _, _, rfl, _⟩ := h; rfl) | (obtain ⟨_, _, _, _, _, rfl, _⟩ := h; rfl) | (obtain ⟨_, _, _, _, _, _, rfl, _⟩ := h; rfl) | (obtain ⟨_, _, _, _, _, _, _, rfl, _⟩ := h; rfl) | (obtain ⟨_, _, _, _, _, _, _, _, rfl, _⟩ := h; rfl) | (obtain ⟨_, _, _, _, _, _, _, _, _, rfl, _⟩ := h; rfl) | (obtain ⟨_, _, _, _, _, _, _, _, _, _, rfl, _⟩ := h; rfl) | (obtain ⟨_, _, _, _, _, _, _, _, _, _, _, rfl, _⟩ := h; rfl) | (obtain ⟨_, _, _, _, _, _, _, _, _, _, _, _, rfl, _⟩ := h; rfl) | (obtain ⟨_, _, _, _, _, _, _, _, _, _, _, _, _, rfl, _⟩ := h; rfl) | exact Mt.tk_len rfl h | (obtain ⟨_, h⟩ := h; exact Mt.tk_len rfl h) | (obtain ⟨_, _, h⟩ := h; exact Mt.tk_len rfl h) | (obtain ⟨_, _, _, h⟩ := h; exact Mt.tk_len rfl h) | (obtain ⟨_, _, _, _, h⟩ := h; exact Mt.tk_len rfl h) | (obtain ⟨_, _, _, _, _, h⟩ := h; exact Mt.tk_len rfl h) | (obtain ⟨_, _, _, _, _, _, h⟩ := h; exact Mt.tk_len rfl h) | (obtain ⟨_, _, _, _, _, _, _, h⟩ := h; exact Mt.tk_len rfl h) | (obtain ⟨_, _, _, _, _, _, _, _, h⟩ := h; exact Mt.tk_len rfl h) | (obtain ⟨_, _, _, _, _, _, _, _, _, h⟩ := h; exact Mt.tk_len rfl h) | (obtain ⟨_, _, _, _, _, _, _, _, _, _, h⟩ := h; exact Mt.tk_len rfl h) | (obtain ⟨_, _, _, _, _, _, _, _, _, _, _, h⟩ := h; exact Mt.tk_len rfl h) | (obtain ⟨_, _, _, _, _, _, _, _, _, _, _, _, h⟩ := h; exact Mt.tk_len rfl h) | (obtain ⟨_, _, _, _, _, _, _, _, _, _, _, _, _, h⟩ := h; exact Mt.tk_len rfl h) | (obtain ⟨_, _, _, _, _, _, _, _, _, _, _, _, _, _, h⟩ := h; exact Mt.tk_len rfl h) | (obtain ⟨_, _, _, _, _, _, _, _, _, _, _, _, _, _, _, h⟩ := h; exact Mt.tk_len rfl h))) (g_clock_in K a) (fun f cdv A outer s H E hr => t_clock_in T (ok_are_figures T) hr) (fun ds S q _ _ h => r_clock_in ds S q h)
theorem ok_time_in (T : Txt K mg a) : Fnc P w K mg base "time_in" s_time_in dv_time_in 3 ps_time_in (sp_time_in a) :=
  fnc_of0 T.b_time_in sc_time_in (by intro ds S q h; first | (cases h with | inl h => (first | (obtain ⟨rfl, _⟩ := h; rfl) | (obtain ⟨_, _, _, _, ⟨_, _, rfl, _⟩, _⟩ := h; rfl) | (obtain ⟨_, rfl, _⟩ := h; rfl) | (obtain ⟨_, _, rfl, _⟩ := h; rfl) | (obtain ⟨_, _, _, rfl, _⟩ := h; rfl) | (obtain ⟨_, _, _, _, rfl, _⟩ := h; rfl) | (obtain ⟨_, _, _, _, _, rfl, _⟩ := h; rfl) | (obtain ⟨_, _, _, _, _, _, rfl, _⟩ := h; rfl) | (obtain ⟨_, _, _, _, _, _, _, rfl, _⟩ := h; rfl) | (obtain ⟨_, _, _, _, _, _, _, _, rfl, _⟩ := h; rfl) | (obtain ⟨_, _, _, _, _, _, _, _, _, rfl, _⟩ := h; rfl) | (obtain ⟨_, _, _, _, _, _, _, _, _, _, rfl, _⟩ := h; rfl) | (obtain ⟨_, _, _, _, _, _, _, _, _, _, _, rfl, _⟩ := h; rfl) | (obtain ⟨_, _, _, _, _, _, _, _, _, _, _, _, rfl, _⟩ := h; rfl) | (obtain ⟨_, _, _, _, _, _, _, _, _, _, _, _, _, rfl, _⟩ := h; rfl) | exact Mt.tk_len rfl h | (obtain ⟨_, h⟩ := h; exact Mt.tk_len rfl h) | (obtain ⟨_, _, h⟩ := h; exact Mt.tk_len rfl h) | (obtain ⟨_, _, _, h⟩ := h; exact Mt.tk_len rfl h) | (obtain ⟨_, _, _, _, h⟩ := h; exact Mt.tk_len rfl h) | (obtain ⟨_, _, _, _, _, h⟩ := h; exact Mt.tk_len rfl h) | (obtain ⟨_, _, _, _, _, _, h⟩ := h; exact Mt.tk_len rfl h) | (obtain ⟨_, _, _, _, _, _, _, h⟩ := h; exact Mt.tk_len rfl h) | (obtain ⟨_, _, _, _, _, _, _, _, h⟩ := h; exact Mt.tk_len rfl h) | (obtain ⟨_, _, _, _, _, _, _, _, _, h⟩ := h; exact Mt.tk_len rfl h) | (obtain ⟨_, _, _, _, _, _, _, _, _, _, h⟩ := h; exact Mt.tk_len rfl h) | (obtain ⟨_, _, _, _, _, _, _, _, _, _, _, h⟩ := h; exact Mt.tk_len rfl h) | (obtain ⟨_, _, _, _, _, _, _, _, _, _, _, _, h⟩ := h; exact Mt.tk_len rfl h) | (obtain ⟨_, _, _, _, _, _, _, _, _, _, _, _, _, h⟩ := h; exact Mt.tk_len rfl h) | (obtain ⟨_, _, _, _, _, _, _, _, _, _, _, _, _, _, h⟩ := h; exact Mt.tk_len rfl h) | (obtain ⟨_, _, _, _, _, _, _, _, _, _, _, _, _, _, _, h⟩ := h; exact Mt.tk_len rfl h)) | inr h => (first | (obtain ⟨rfl, _⟩ := h; rfl) | (obtain ⟨_, _, _, _, ⟨_, _, rfl, _⟩, _⟩ := h; rfl) | (obtain ⟨_, rfl, _⟩ := h; rfl) | (obtain ⟨_, _, rfl, _⟩ := h; rfl) | (obtain ⟨_, _, _, rfl, _⟩ := h; rfl) | (obtain ⟨_, _, _, _, rfl, _⟩ := h; rfl) | (obtain ⟨_, _, _, _, _, rfl, _⟩ := h; rfl) | (obtain ⟨_, _, _, _, _, _, rfl, _⟩ := h; rfl) | (obtain ⟨_, _, _, _, _, _, _, rfl, _⟩ := h; rfl) | (obtain ⟨_, _, _, _, _, _, _, _, rfl, _⟩ := h; rfl) | (obtain ⟨_, _, _, _, _, _, _, _, _, rfl, _⟩ := h; rfl) | (obtain ⟨_, _, _, _, _, _, _, _, _, _, rfl, _⟩ := h; rfl) | (obtain ⟨_, _, _, _, _, _, _, _, _, _, _, rfl, _⟩ := h; rfl) | (obtain ⟨_, _, _, _, _, _, _, _, _, _, _, _, rfl, _⟩ := h; rfl) | (obtain ⟨_, _, _, _, _, _, _, _, _, _, _, _, _, rfl, _⟩ := h; rfl) | exact Mt.tk_len rfl h | (obtain ⟨_, h⟩ := h; exact Mt.tk_len rfl h) | (obtain ⟨_, _, h⟩ := h; exact Mt.tk_len rfl h) | (obtain ⟨_, _, _, h⟩ := h; exact Mt.tk_len rfl h) | (obtain ⟨_, _, _, _, h⟩ := h; exact Mt.tk_len rfl h) | (obtain ⟨_, _, _, _, _, h⟩ := h; exact Mt.tk_len rfl h) | (obtain ⟨_, _, _, _, _, _, h⟩ := h; exact Mt.tk_len rfl h) | (obtain ⟨_, _, _, _, _, _, _, h⟩ := h; exact Mt.tk_len rfl h) | (obtain ⟨_, _, _, _, _, _, _, _, h⟩ := h; exact Mt.tk_len rfl h) | (obtain ⟨_, _, _, _, _, _, _, _, _, h⟩ := h; exact Mt.tk_len rfl h) | (obtain ⟨_, _, _, _, _, _, _, _, _, _, h⟩ := h; exact Mt.tk_len rfl h) | (obtain ⟨_, _, _, _, _, _, _, _, _, _, _, h⟩ := h; exact Mt.tk_len rfl h) | (obtain ⟨_, _, _, _, _, _, _, _, _, _, _, _, h⟩ := h; exact Mt.tk_len rfl h) | (obtain ⟨_, _, _, _, _, _, _, _, _, _, _, _, _, h⟩ := h; exact Mt.tk_len rfl h) | (obtain ⟨_, _, _, _, _, _, _, _, _, _, _, _, _, _, h⟩ := h; exact Mt.tk_len rfl h) | (obtain ⟨_, _, _, _, _, _, _, _, _, _, _, _, _, _, _, h⟩ := h; exact Mt.tk_len rfl h))) | (first | (obtain ⟨rfl, _⟩ := h; rfl) | (obtain ⟨_, _, _, _, ⟨_, _, rfl, _⟩, _⟩ := h; rfl) | (obtain ⟨_, rfl, _⟩ := h; rfl) | (obtain ⟨_, _, rfl, _⟩ := h; rfl) | (obtain ⟨_, _, _, rfl, _⟩ := h; rfl) | (obtain ⟨_, _, _, _, rfl, _⟩ := h; rfl) | (obtain ⟨_, _, _, _, _, rfl, _⟩ := h; rfl) | (obtain ⟨_, _, _, _, _, _, rfl, _⟩ := h; rfl) | (obtain ⟨_, _, _, _, _, _, _, rfl, _⟩ := h; rfl) | (obtain ⟨_, _, _, _, _, _, _, _, rfl, _⟩ := h; rfl) | (obtain ⟨_, _, _, _, _, _, _, _, _, rfl, _⟩ := h; rfl) | (obtain ⟨_, _, _, _, _, _, _, _, _, _, rfl, _⟩ := h; rfl) | (obtain ⟨_, _, _, _, _, _, _, _, _, _, _, rfl, _⟩ := h; rfl) | (obtain ⟨_, _, _, _, _, _, _, _, _, _, _, _, rfl, _⟩ := h; rfl) | (obtain ⟨_, _, _, _, _, _, _, _, _, _, _, _, _, rfl, _⟩ := h; rfl) | exact Mt.tk_len rfl h | (obtain ⟨_, h⟩ := h; exact Mt.tk_len rfl h) | (obtain ⟨_, _, h⟩ := h; exact Mt.tk_len rfl h) | (obtain ⟨_, _, _, h⟩ := h; exact Mt.tk_len rfl h) | (obtain ⟨_, _, _, _, h⟩ := h; exact Mt.tk_len rfl h) | (obtain ⟨_, _, _, _, _, h⟩ := h; exact Mt.tk_len rfl h) | (obtain ⟨_, _, _, _, _, _, h⟩ := h; exact Mt.tk_len rfl h) | (obtain ⟨_, _, _, _, _, _, _, h⟩ := h; exact Mt.tk_len rfl h) | (obtain ⟨_, _, _, _, _, _, _, _, h⟩ := h; exact Mt.tk_len rfl h) | (obtain ⟨_, _, _, _, _, _, _, _, _, h⟩ := h; exact Mt.tk_len rfl h) | (obtain ⟨_, _, _, _, _, _, _, _, _, _, h⟩ := h; exact Mt.tk_len rfl h) | (obtain ⟨_, _, _, _, _, _, _, _, _, _, _, h⟩ := h; exact Mt.tk_len rfl h) | (obtain ⟨_, _, _, _, _, _, _, _, _, _, _, _, h⟩ := h; exact Mt.tk_len rfl h) | (obtain ⟨_, _, _, _, _, _, _, _, _, _, _, _, _, h⟩ := h; exact Mt.tk_len rfl h) | (obtain ⟨_, _, _, _, _, _, _, _, _, _, _, _, _, _, h⟩ := h; exact Mt.tk_len rfl h) | (obtain ⟨_, _, _, _, _, _, _, _, _, _, _, _, _, _, _, h⟩ := h; exact Mt.tk_len rfl h))) (g_time_in K a) (fun f cdv A outer s H E hr => t_time_in T (ok_clock_in T) (ok_number_in T) hr) (fun ds S q _ _ h => r_time_in ds S q h)
theorem ok_Book_init (T : Txt K mg a) : CFn P w K mg base "Book" a.C_Book "Book.__init__" s_Book_init dv_Book_init 1 ps_Book_init (sp_Book_init a) :=
  cfn_of0 T.mC_Book T.b_Book_init sc_Book_init (by intro ds S q h; obtain ⟨_, _, rfl, _⟩ := h; rfl) (g_Book_init K a) (fun f cdv A outer s H E hr => t_Book_init T  hr) (fun ds S q _ _ h => r_Book_init T ds S q h)
theorem ok_Book_write (T : Txt K mg a) : MFn P w K mg base a.C_Book "write" "Book.write" s_Book_write dv_Book_write 1 ps_Book_write (sp_Book_write a) :=
  mfn_of0 T.cl_Book T.b_Book_write sc_Book_write (by intro ds S q h; obtain ⟨_, _, _, _, _, _, _, rfl, _⟩ := h; rfl) (g_Book_write K a) (fun f cdv A outer s H E hr => t_Book_write T  hr) (fun ds S q _ _ h => r_Book_write T ds S q h)
theorem ok_Book_rows (T : Txt K mg a) : MFn P w K mg base a.C_Book "rows" "Book.rows" s_Book_rows dv_Book_rows 1 ps_Book_rows (sp_Book_rows a) :=
  mfn_of0 T.cl_Book T.b_Book_rows sc_Book_rows (by intro ds S q h; obtain ⟨_, _, _, _, rfl, _⟩ := h; rfl) (g_Book_rows K a) (fun f cdv A outer s H E hr => t_Book_rows T  hr) (fun ds S q _ _ h => r_Book_rows T ds S q h)
theorem ok_Book_len (T : Txt K mg a) : MFn P w K mg base a.C_Book "__len__" "Book.__len__" s_Book_len dv_Book_len 1 ps_Book_len (sp_Book_len a) :=
  mfn_of0 T.cl_Book T.b_Book_len sc_Book_len (by intro ds S q h; obtain ⟨_, _, _, _, rfl, _⟩ := h; rfl) (g_Book_len K a) (fun f cdv A outer s H E hr => t_Book_len T  hr) (fun ds S q _ _ h => r_Book_len T ds S q h)
theorem ok_Book_eq (T : Txt K mg a) : MFn P w K mg base a.C_Book "__eq__" "Book.__eq__" s_Book_eq dv_Book_eq 1 ps_Book_eq (sp_Book_eq a) :=
  mfn_of0 T.cl_Book T.b_Book_eq sc_Book_eq (by intro ds S q h; obtain ⟨_, _, _, _, _, _, _, _, rfl, _⟩ := h; rfl) (g_Book_eq K a) (fun f cdv A outer s H E hr => t_Book_eq T  hr) (fun ds S q _ _ h => r_Book_eq T ds S q h)
theorem ok_Book_str (T : Txt K mg a) : MFn P w K mg base a.C_Book "__str__" "Book.__str__" s_Book_str dv_Book_str 3 ps_Book_str (sp_Book_str a) :=
  mfn_of T.cl_Book T.b_Book_str sc_Book_str (by intro ds S q h; obtain ⟨_, _, _, _, rfl, _⟩ := h; rfl) (g_Book_str K a) (fun f cdv A outer s H E hr => t_Book_str T (ok_show_time T) hr) (rf_Book_str T)
theorem ok_row_in (T : Txt K mg a) : Fnc P w K mg base "row_in" s_row_in dv_row_in 4 ps_row_in (sp_row_in a) :=
  fnc_of0 T.b_row_in sc_row_in (by intro ds S q h; obtain ⟨_, rfl, _⟩ := h; rfl) (g_row_in K a) (fun f cdv A outer s H E hr => t_row_in T (ok_is_name T) (ok_time_in T) hr) (fun ds S q _ _ h => r_row_in T ds S q h)
theorem ok_read_book (T : Txt K mg a) : Fnc P w K mg base "read_book" s_read_book dv_read_book 5 ps_read_book (sp_read_book a) :=
  fnc_of0 T.b_read_book sc_read_book (by intro ds S q h; obtain ⟨_, _, rfl, _⟩ := h; rfl) (g_read_book K a) (fun f cdv A outer s H E hr => t_read_book T (ok_Book_init T) (ok_Book_write T) (ok_row_in T) hr) (fun ds S q _ _ h => r_read_book T ds S q h)
theorem ok__law_feed (T : Txt K mg a) : Fnc P w K mg base "_law_feed" s__law_feed dv__law_feed 1 ps__law_feed (sp__law_feed a) :=
  fnc_of0 T.b__law_feed sc__law_feed (by intro ds S q h; first | (cases h with | inl h => (first | (obtain ⟨rfl, _⟩ := h; rfl) | (obtain ⟨_, _, _, _, ⟨_, _, rfl, _⟩, _⟩ := h; rfl) | (obtain ⟨_, rfl, _⟩ := h; rfl) | (obtain ⟨_, _, rfl, _⟩ := h; rfl) | (obtain ⟨_, _, _, rfl, _⟩ := h; rfl) | (obtain ⟨_, _, _, _, rfl, _⟩ := h; rfl) | (obtain ⟨_, _, _, _, _, rfl, _⟩ := h; rfl) | (obtain ⟨_, _, _, _, _, _, rfl, _⟩ := h; rfl) | (obtain ⟨_, _, _, _, _, _, _, rfl, _⟩ := h; rfl) | (obtain ⟨_, _, _, _, _, _, _, _, rfl, _⟩ := h; rfl) | (obtain ⟨_, _, _, _, _, _, _, _, _, rfl, _⟩ := h; rfl) | (obtain ⟨_, _, _, _, _, _, _, _, _, _, rfl, _⟩ := h; rfl) | (obtain ⟨_, _, _, _, _, _, _, _, _, _, _, rfl, _⟩ := h; rfl) | (obtain ⟨_, _, _, _, _, _, _, _, _, _, _, _, rfl, _⟩ := h; rfl) | (obtain ⟨_, _, _, _, _, _, _, _, _, _, _, _, _, rfl, _⟩ := h; rfl) | exact Mt.tk_len rfl h | (obtain ⟨_, h⟩ := h; exact Mt.tk_len rfl h) | (obtain ⟨_, _, h⟩ := h; exact Mt.tk_len rfl h) | (obtain ⟨_, _, _, h⟩ := h; exact Mt.tk_len rfl h) | (obtain ⟨_, _, _, _, h⟩ := h; exact Mt.tk_len rfl h) | (obtain ⟨_, _, _, _, _, h⟩ := h; exact Mt.tk_len rfl h) | (obtain ⟨_, _, _, _, _, _, h⟩ := h; exact Mt.tk_len rfl h) | (obtain ⟨_, _, _, _, _, _, _, h⟩ := h; exact Mt.tk_len rfl h) | (obtain ⟨_, _, _, _, _, _, _, _, h⟩ := h; exact Mt.tk_len rfl h) | (obtain ⟨_, _, _, _, _, _, _, _, _, h⟩ := h; exact Mt.tk_len rfl h) | (obtain ⟨_, _, _, _, _, _, _, _, _, _, h⟩ := h; exact Mt.tk_len rfl h) | (obtain ⟨_, _, _, _, _, _, _, _, _, _, _, h⟩ := h; exact Mt.tk_len rfl h) | (obtain ⟨_, _, _, _, _, _, _, _, _, _, _, _, h⟩ := h; exact Mt.tk_len rfl h) | (obtain ⟨_, _, _, _, _, _, _, _, _, _, _, _, _, h⟩ := h; exact Mt.tk_len rfl h) | (obtain ⟨_, _, _, _, _, _, _, _, _, _, _, _, _, _, h⟩ := h; exact Mt.tk_len rfl h) | (obtain ⟨_, _, _, _, _, _, _, _, _, _, _, _, _, _, _, h⟩ := h; exact Mt.tk_len rfl h)) | inr h => (first | (obtain ⟨rfl, _⟩ := h; rfl) | (obtain ⟨_, _, _, _, ⟨_, _, rfl, _⟩, _⟩ := h; rfl) | (obtain ⟨_, rfl, _⟩ := h; rfl) | (obtain ⟨_, _, rfl, _⟩ := h; rfl) | (obtain ⟨_, _, _, rfl, _⟩ := h; rfl) | (obtain ⟨_, _, _, _, rfl, _⟩ := h; rfl) | (obtain ⟨_, _, _, _, _, rfl, _⟩ := h; rfl) | (obtain ⟨_, _, _, _, _, _, rfl, _⟩ := h; rfl) | (obtain ⟨_, _, _, _, _, _, _, rfl, _⟩ := h; rfl) | (obtain ⟨_, _, _, _, _, _, _, _, rfl, _⟩ := h; rfl) | (obtain ⟨_, _, _, _, _, _, _, _, _, rfl, _⟩ := h; rfl) | (obtain ⟨_, _, _, _, _, _, _, _, _, _, rfl, _⟩ := h; rfl) | (obtain ⟨_, _, _, _, _, _, _, _, _, _, _, rfl, _⟩ := h; rfl) | (obtain ⟨_, _, _, _, _, _, _, _, _, _, _, _, rfl, _⟩ := h; rfl) | (obtain ⟨_, _, _, _, _, _, _, _, _, _, _, _, _, rfl, _⟩ := h; rfl) | exact Mt.tk_len rfl h | (obtain ⟨_, h⟩ := h; exact Mt.tk_len rfl h) | (obtain ⟨_, _, h⟩ := h; exact Mt.tk_len rfl h) | (obtain ⟨_, _, _, h⟩ := h; exact Mt.tk_len rfl h) | (obtain ⟨_, _, _, _, h⟩ := h; exact Mt.tk_len rfl h) | (obtain ⟨_, _, _, _, _, h⟩ := h; exact Mt.tk_len rfl h) | (obtain ⟨_, _, _, _, _, _, h⟩ := h; exact Mt.tk_len rfl h) | (obtain ⟨_, _, _, _, _, _, _, h⟩ := h; exact Mt.tk_len rfl h) | (obtain ⟨_, _, _, _, _, _, _, _, h⟩ := h; exact Mt.tk_len rfl h) | (obtain ⟨_, _, _, _, _, _, _, _, _, h⟩ := h; exact Mt.tk_len rfl h) | (obtain ⟨_, _, _, _, _, _, _, _, _, _, h⟩ := h; exact Mt.tk_len rfl h) | (obtain ⟨_, _, _, _, _, _, _, _, _, _, _, h⟩ := h; exact Mt.tk_len rfl h) | (obtain ⟨_, _, _, _, _, _, _, _, _, _, _, _, h⟩ := h; exact Mt.tk_len rfl h) | (obtain ⟨_, _, _, _, _, _, _, _, _, _, _, _, _, h⟩ := h; exact Mt.tk_len rfl h) | (obtain ⟨_, _, _, _, _, _, _, _, _, _, _, _, _, _, h⟩ := h; exact Mt.tk_len rfl h) | (obtain ⟨_, _, _, _, _, _, _, _, _, _, _, _, _, _, _, h⟩ := h; exact Mt.tk_len rfl h))) | (first | (obtain ⟨rfl, _⟩ := h; rfl) | (obtain ⟨_, _, _, _, ⟨_, _, rfl, _⟩, _⟩ := h; rfl) | (obtain ⟨_, rfl, _⟩ := h; rfl) | (obtain ⟨_, _, rfl, _⟩ := h; rfl) | (obtain ⟨_, _, _, rfl, _⟩ := h; rfl) | (obtain ⟨_, _, _, _, rfl, _⟩ := h; rfl) | (obtain ⟨_, _, _, _, _, rfl, _⟩ := h; rfl) | (obtain ⟨_, _, _, _, _, _, rfl, _⟩ := h; rfl) | (obtain ⟨_, _, _, _, _, _, _, rfl, _⟩ := h; rfl) | (obtain ⟨_, _, _, _, _, _, _, _, rfl, _⟩ := h; rfl) | (obtain ⟨_, _, _, _, _, _, _, _, _, rfl, _⟩ := h; rfl) | (obtain ⟨_, _, _, _, _, _, _, _, _, _, rfl, _⟩ := h; rfl) | (obtain ⟨_, _, _, _, _, _, _, _, _, _, _, rfl, _⟩ := h; rfl) | (obtain ⟨_, _, _, _, _, _, _, _, _, _, _, _, rfl, _⟩ := h; rfl) | (obtain ⟨_, _, _, _, _, _, _, _, _, _, _, _, _, rfl, _⟩ := h; rfl) | exact Mt.tk_len rfl h | (obtain ⟨_, h⟩ := h; exact Mt.tk_len rfl h) | (obtain ⟨_, _, h⟩ := h; exact Mt.tk_len rfl h) | (obtain ⟨_, _, _, h⟩ := h; exact Mt.tk_len rfl h) | (obtain ⟨_, _, _, _, h⟩ := h; exact Mt.tk_len rfl h) | (obtain ⟨_, _, _, _, _, h⟩ := h; exact Mt.tk_len rfl h) | (obtain ⟨_, _, _, _, _, _, h⟩ := h; exact Mt.tk_len rfl h) | (obtain ⟨_, _, _, _, _, _, _, h⟩ := h; exact Mt.tk_len rfl h) | (obtain ⟨_, _, _, _, _, _, _, _, h⟩ := h; exact Mt.tk_len rfl h) | (obtain ⟨_, _, _, _, _, _, _, _, _, h⟩ := h; exact Mt.tk_len rfl h) | (obtain ⟨_, _, _, _, _, _, _, _, _, _, h⟩ := h; exact Mt.tk_len rfl h) | (obtain ⟨_, _, _, _, _, _, _, _, _, _, _, h⟩ := h; exact Mt.tk_len rfl h) | (obtain ⟨_, _, _, _, _, _, _, _, _, _, _, _, h⟩ := h; exact Mt.tk_len rfl h) | (obtain ⟨_, _, _, _, _, _, _, _, _, _, _, _, _, h⟩ := h; exact Mt.tk_len rfl h) | (obtain ⟨_, _, _, _, _, _, _, _, _, _, _, _, _, _, h⟩ := h; exact Mt.tk_len rfl h) | (obtain ⟨_, _, _, _, _, _, _, _, _, _, _, _, _, _, _, h⟩ := h; exact Mt.tk_len rfl h))) (g__law_feed K a) (fun f cdv A outer s H E hr => t__law_feed T  hr) (fun ds S q _ _ h => r__law_feed ds S q h)
theorem ok__law_draw (T : Txt K mg a) : Fnc P w K mg base "_law_draw" s__law_draw dv__law_draw 1 ps__law_draw (sp__law_draw a) :=
  fnc_of0 T.b__law_draw sc__law_draw (by intro ds S q h; first | (cases h with | inl h => (first | (obtain ⟨rfl, _⟩ := h; rfl) | (obtain ⟨_, _, _, _, ⟨_, _, rfl, _⟩, _⟩ := h; rfl) | (obtain ⟨_, rfl, _⟩ := h; rfl) | (obtain ⟨_, _, rfl, _⟩ := h; rfl) | (obtain ⟨_, _, _, rfl, _⟩ := h; rfl) | (obtain ⟨_, _, _, _, rfl, _⟩ := h; rfl) | (obtain ⟨_, _, _, _, _, rfl, _⟩ := h; rfl) | (obtain ⟨_, _, _, _, _, _, rfl, _⟩ := h; rfl) | (obtain ⟨_, _, _, _, _, _, _, rfl, _⟩ := h; rfl) | (obtain ⟨_, _, _, _, _, _, _, _, rfl, _⟩ := h; rfl) | (obtain ⟨_, _, _, _, _, _, _, _, _, rfl, _⟩ := h; rfl) | (obtain ⟨_, _, _, _, _, _, _, _, _, _, rfl, _⟩ := h; rfl) | (obtain ⟨_, _, _, _, _, _, _, _, _, _, _, rfl, _⟩ := h; rfl) | (obtain ⟨_, _, _, _, _, _, _, _, _, _, _, _, rfl, _⟩ := h; rfl) | (obtain ⟨_, _, _, _, _, _, _, _, _, _, _, _, _, rfl, _⟩ := h; rfl) | exact Mt.tk_len rfl h | (obtain ⟨_, h⟩ := h; exact Mt.tk_len rfl h) | (obtain ⟨_, _, h⟩ := h; exact Mt.tk_len rfl h) | (obtain ⟨_, _, _, h⟩ := h; exact Mt.tk_len rfl h) | (obtain ⟨_, _, _, _, h⟩ := h; exact Mt.tk_len rfl h) | (obtain ⟨_, _, _, _, _, h⟩ := h; exact Mt.tk_len rfl h) | (obtain ⟨_, _, _, _, _, _, h⟩ := h; exact Mt.tk_len rfl h) | (obtain ⟨_, _, _, _, _, _, _, h⟩ := h; exact Mt.tk_len rfl h) | (obtain ⟨_, _, _, _, _, _, _, _, h⟩ := h; exact Mt.tk_len rfl h) | (obtain ⟨_, _, _, _, _, _, _, _, _, h⟩ := h; exact Mt.tk_len rfl h) | (obtain ⟨_, _, _, _, _, _, _, _, _, _, h⟩ := h; exact Mt.tk_len rfl h) | (obtain ⟨_, _, _, _, _, _, _, _, _, _, _, h⟩ := h; exact Mt.tk_len rfl h) | (obtain ⟨_, _, _, _, _, _, _, _, _, _, _, _, h⟩ := h; exact Mt.tk_len rfl h) | (obtain ⟨_, _, _, _, _, _, _, _, _, _, _, _, _, h⟩ := h; exact Mt.tk_len rfl h) | (obtain ⟨_, _, _, _, _, _, _, _, _, _, _, _, _, _, h⟩ := h; exact Mt.tk_len rfl h) | (obtain ⟨_, _, _, _, _, _, _, _, _, _, _, _, _, _, _, h⟩ := h; exact Mt.tk_len rfl h)) | inr h => (first | (obtain ⟨rfl, _⟩ := h; rfl) | (obtain ⟨_, _, _, _, ⟨_, _, rfl, _⟩, _⟩ := h; rfl) | (obtain ⟨_, rfl, _⟩ := h; rfl) | (obtain ⟨_, _, rfl, _⟩ := h; rfl) | (obtain ⟨_, _, _, rfl, _⟩ := h; rfl) | (obtain ⟨_, _, _, _, rfl, _⟩ := h; rfl) | (obtain ⟨_, _, _, _, _, rfl, _⟩ := h; rfl) | (obtain ⟨_, _, _, _, _, _, rfl, _⟩ := h; rfl) | (obtain ⟨_, _, _, _, _, _, _, rfl, _⟩ := h; rfl) | (obtain ⟨_, _, _, _, _, _, _, _, rfl, _⟩ := h; rfl) | (obtain ⟨_, _, _, _, _, _, _, _, _, rfl, _⟩ := h; rfl) | (obtain ⟨_, _, _, _, _, _, _, _, _, _, rfl, _⟩ := h; rfl) | (obtain ⟨_, _, _, _, _, _, _, _, _, _, _, rfl, _⟩ := h; rfl) | (obtain ⟨_, _, _, _, _, _, _, _, _, _, _, _, rfl, _⟩ := h; rfl) | (obtain ⟨_, _, _, _, _, _, _, _, _, _, _, _, _, rfl, _⟩ := h; rfl) | exact Mt.tk_len rfl h | (obtain ⟨_, h⟩ := h; exact Mt.tk_len rfl h) | (obtain ⟨_, _, h⟩ := h; exact Mt.tk_len rfl h) | (obtain ⟨_, _, _, h⟩ := h; exact Mt.tk_len rfl h) | (obtain ⟨_, _, _, _, h⟩ := h; exact Mt.tk_len rfl h) | (obtain ⟨_, _, _, _, _, h⟩ := h; exact Mt.tk_len rfl h) | (obtain ⟨_, _, _, _, _, _, h⟩ := h; exact Mt.tk_len rfl h) | (obtain ⟨_, _, _, _, _, _, _, h⟩ := h; exact Mt.tk_len rfl h) | (obtain ⟨_, _, _, _, _, _, _, _, h⟩ := h; exact Mt.tk_len rfl h) | (obtain ⟨_, _, _, _, _, _, _, _, _, h⟩ := h; exact Mt.tk_len rfl h) | (obtain ⟨_, _, _, _, _, _, _, _, _, _, h⟩ := h; exact Mt.tk_len rfl h) | (obtain ⟨_, _, _, _, _, _, _, _, _, _, _, h⟩ := h; exact Mt.tk_len rfl h) | (obtain ⟨_, _, _, _, _, _, _, _, _, _, _, _, h⟩ := h; exact Mt.tk_len rfl h) | (obtain ⟨_, _, _, _, _, _, _, _, _, _, _, _, _, h⟩ := h; exact Mt.tk_len rfl h) | (obtain ⟨_, _, _, _, _, _, _, _, _, _, _, _, _, _, h⟩ := h; exact Mt.tk_len rfl h) | (obtain ⟨_, _, _, _, _, _, _, _, _, _, _, _, _, _, _, h⟩ := h; exact Mt.tk_len rfl h))) | (first | (obtain ⟨rfl, _⟩ := h; rfl) | (obtain ⟨_, _, _, _, ⟨_, _, rfl, _⟩, _⟩ := h; rfl) | (obtain ⟨_, rfl, _⟩ := h; rfl) | (obtain ⟨_, _, rfl, _⟩ := h; rfl) | (obtain ⟨_, _, _, rfl, _⟩ := h; rfl) | (obtain ⟨_, _, _, _, rfl, _⟩ := h; rfl) | (obtain ⟨_, _, _, _, _, rfl, _⟩ := h; rfl) | (obtain ⟨_, _, _, _, _, _, rfl, _⟩ := h; rfl) | (obtain ⟨_, _, _, _, _, _, _, rfl, _⟩ := h; rfl) | (obtain ⟨_, _, _, _, _, _, _, _, rfl, _⟩ := h; rfl) | (obtain ⟨_, _, _, _, _, _, _, _, _, rfl, _⟩ := h; rfl) | (obtain ⟨_, _, _, _, _, _, _, _, _, _, rfl, _⟩ := h; rfl) | (obtain ⟨_, _, _, _, _, _, _, _, _, _, _, rfl, _⟩ := h; rfl) | (obtain ⟨_, _, _, _, _, _, _, _, _, _, _, _, rfl, _⟩ := h; rfl) | (obtain ⟨_, _, _, _, _, _, _, _, _, _, _, _, _, rfl, _⟩ := h; rfl) | exact Mt.tk_len rfl h | (obtain ⟨_, h⟩ := h; exact Mt.tk_len rfl h) | (obtain ⟨_, _, h⟩ := h; exact Mt.tk_len rfl h) | (obtain ⟨_, _, _, h⟩ := h; exact Mt.tk_len rfl h) | (obtain ⟨_, _, _, _, h⟩ := h; exact Mt.tk_len rfl h) | (obtain ⟨_, _, _, _, _, h⟩ := h; exact Mt.tk_len rfl h) | (obtain ⟨_, _, _, _, _, _, h⟩ := h; exact Mt.tk_len rfl h) | (obtain ⟨_, _, _, _, _, _, _, h⟩ := h; exact Mt.tk_len rfl h) | (obtain ⟨_, _, _, _, _, _, _, _, h⟩ := h; exact Mt.tk_len rfl h) | (obtain ⟨_, _, _, _, _, _, _, _, _, h⟩ := h; exact Mt.tk_len rfl h) | (obtain ⟨_, _, _, _, _, _, _, _, _, _, h⟩ := h; exact Mt.tk_len rfl h) | (obtain ⟨_, _, _, _, _, _, _, _, _, _, _, h⟩ := h; exact Mt.tk_len rfl h) | (obtain ⟨_, _, _, _, _, _, _, _, _, _, _, _, h⟩ := h; exact Mt.tk_len rfl h) | (obtain ⟨_, _, _, _, _, _, _, _, _, _, _, _, _, h⟩ := h; exact Mt.tk_len rfl h) | (obtain ⟨_, _, _, _, _, _, _, _, _, _, _, _, _, _, h⟩ := h; exact Mt.tk_len rfl h) | (obtain ⟨_, _, _, _, _, _, _, _, _, _, _, _, _, _, _, h⟩ := h; exact Mt.tk_len rfl h))) (g__law_draw K a) (fun f cdv A outer s H E hr => t__law_draw T  hr) (fun ds S q _ _ h => r__law_draw ds S q h)
theorem ok__law_of (T : Txt K mg a) : Fnc P w K mg base "_law_of" s__law_of dv__law_of 2 ps__law_of (sp__law_of a) :=
  fnc_of0 T.b__law_of sc__law_of (by intro ds S q h; first | (cases h with | inl h => (first | (obtain ⟨rfl, _⟩ := h; rfl) | (obtain ⟨_, _, _, _, ⟨_, _, rfl, _⟩, _⟩ := h; rfl) | (obtain ⟨_, rfl, _⟩ := h; rfl) | (obtain ⟨_, _, rfl, _⟩ := h; rfl) | (obtain ⟨_, _, _, rfl, _⟩ := h; rfl) | (obtain ⟨_, _, _, _, rfl, _⟩ := h; rfl) | (obtain ⟨_, _, _, _, _, rfl, _⟩ := h; rfl) | (obtain ⟨_, _, _, _, _, _, rfl, _⟩ := h; rfl) | (obtain ⟨_, _, _, _, _, _, _, rfl, _⟩ := h; rfl) | (obtain ⟨_, _, _, _, _, _, _, _, rfl, _⟩ := h; rfl) | (obtain ⟨_, _, _, _, _, _, _, _, _, rfl, _⟩ := h; rfl) | (obtain ⟨_, _, _, _, _, _, _, _, _, _, rfl, _⟩ := h; rfl) | (obtain ⟨_, _, _, _, _, _, _, _, _, _, _, rfl, _⟩ := h; rfl) | (obtain ⟨_, _, _, _, _, _, _, _, _, _, _, _, rfl, _⟩ := h; rfl) | (obtain ⟨_, _, _, _, _, _, _, _, _, _, _, _, _, rfl, _⟩ := h; rfl) | exact Mt.tk_len rfl h | (obtain ⟨_, h⟩ := h; exact Mt.tk_len rfl h) | (obtain ⟨_, _, h⟩ := h; exact Mt.tk_len rfl h) | (obtain ⟨_, _, _, h⟩ := h; exact Mt.tk_len rfl h) | (obtain ⟨_, _, _, _, h⟩ := h; exact Mt.tk_len rfl h) | (obtain ⟨_, _, _, _, _, h⟩ := h; exact Mt.tk_len rfl h) | (obtain ⟨_, _, _, _, _, _, h⟩ := h; exact Mt.tk_len rfl h) | (obtain ⟨_, _, _, _, _, _, _, h⟩ := h; exact Mt.tk_len rfl h) | (obtain ⟨_, _, _, _, _, _, _, _, h⟩ := h; exact Mt.tk_len rfl h) | (obtain ⟨_, _, _, _, _, _, _, _, _, h⟩ := h; exact Mt.tk_len rfl h) | (obtain ⟨_, _, _, _, _, _, _, _, _, _, h⟩ := h; exact Mt.tk_len rfl h) | (obtain ⟨_, _, _, _, _, _, _, _, _, _, _, h⟩ := h; exact Mt.tk_len rfl h) | (obtain ⟨_, _, _, _, _, _, _, _, _, _, _, _, h⟩ := h; exact Mt.tk_len rfl h) | (obtain ⟨_, _, _, _, _, _, _, _, _, _, _, _, _, h⟩ := h; exact Mt.tk_len rfl h) | (obtain ⟨_, _, _, _, _, _, _, _, _, _, _, _, _, _, h⟩ := h; exact Mt.tk_len rfl h) | (obtain ⟨_, _, _, _, _, _, _, _, _, _, _, _, _, _, _, h⟩ := h; exact Mt.tk_len rfl h)) | inr h => (first | (obtain ⟨rfl, _⟩ := h; rfl) | (obtain ⟨_, _, _, _, ⟨_, _, rfl, _⟩, _⟩ := h; rfl) | (obtain ⟨_, rfl, _⟩ := h; rfl) | (obtain ⟨_, _, rfl, _⟩ := h; rfl) | (obtain ⟨_, _, _, rfl, _⟩ := h; rfl) | (obtain ⟨_, _, _, _, rfl, _⟩ := h; rfl) | (obtain ⟨_, _, _, _, _, rfl, _⟩ := h; rfl) | (obtain ⟨_, _, _, _, _, _, rfl, _⟩ := h; rfl) | (obtain ⟨_, _, _, _, _, _, _, rfl, _⟩ := h; rfl) | (obtain ⟨_, _, _, _, _, _, _, _, rfl, _⟩ := h; rfl) | (obtain ⟨_, _, _, _, _, _, _, _, _, rfl, _⟩ := h; rfl) | (obtain ⟨_, _, _, _, _, _, _, _, _, _, rfl, _⟩ := h; rfl) | (obtain ⟨_, _, _, _, _, _, _, _, _, _, _, rfl, _⟩ := h; rfl) | (obtain ⟨_, _, _, _, _, _, _, _, _, _, _, _, rfl, _⟩ := h; rfl) | (obtain ⟨_, _, _, _, _, _, _, _, _, _, _, _, _, rfl, _⟩ := h; rfl) | exact Mt.tk_len rfl h | (obtain ⟨_, h⟩ := h; exact Mt.tk_len rfl h) | (obtain ⟨_, _, h⟩ := h; exact Mt.tk_len rfl h) | (obtain ⟨_, _, _, h⟩ := h; exact Mt.tk_len rfl h) | (obtain ⟨_, _, _, _, h⟩ := h; exact Mt.tk_len rfl h) | (obtain ⟨_, _, _, _, _, h⟩ := h; exact Mt.tk_len rfl h) | (obtain ⟨_, _, _, _, _, _, h⟩ := h; exact Mt.tk_len rfl h) | (obtain ⟨_, _, _, _, _, _, _, h⟩ := h; exact Mt.tk_len rfl h) | (obtain ⟨_, _, _, _, _, _, _, _, h⟩ := h; exact Mt.tk_len rfl h) | (obtain ⟨_, _, _, _, _, _, _, _, _, h⟩ := h; exact Mt.tk_len rfl h) | (obtain ⟨_, _, _, _, _, _, _, _, _, _, h⟩ := h; exact Mt.tk_len rfl h) | (obtain ⟨_, _, _, _, _, _, _, _, _, _, _, h⟩ := h; exact Mt.tk_len rfl h) | (obtain ⟨_, _, _, _, _, _, _, _, _, _, _, _, h⟩ := h; exact Mt.tk_len rfl h) | (obtain ⟨_, _, _, _, _, _, _, _, _, _, _, _, _, h⟩ := h; exact Mt.tk_len rfl h) | (obtain ⟨_, _, _, _, _, _, _, _, _, _, _, _, _, _, h⟩ := h; exact Mt.tk_len rfl h) | (obtain ⟨_, _, _, _, _, _, _, _, _, _, _, _, _, _, _, h⟩ := h; exact Mt.tk_len rfl h))) | (first | (obtain ⟨rfl, _⟩ := h; rfl) | (obtain ⟨_, _, _, _, ⟨_, _, rfl, _⟩, _⟩ := h; rfl) | (obtain ⟨_, rfl, _⟩ := h; rfl) | (obtain ⟨_, _, rfl, _⟩ := h; rfl) | (obtain ⟨_, _, _, rfl, _⟩ := h; rfl) | (obtain ⟨_, _, _, _, rfl, _⟩ := h; rfl) | (obtain ⟨_, _, _, _, _, rfl, _⟩ := h; rfl) | (obtain ⟨_, _, _, _, _, _, rfl, _⟩ := h; rfl) | (obtain ⟨_, _, _, _, _, _, _, rfl, _⟩ := h; rfl) | (obtain ⟨_, _, _, _, _, _, _, _, rfl, _⟩ := h; rfl) | (obtain ⟨_, _, _, _, _, _, _, _, _, rfl, _⟩ := h; rfl) | (obtain ⟨_, _, _, _, _, _, _, _, _, _, rfl, _⟩ := h; rfl) | (obtain ⟨_, _, _, _, _, _, _, _, _, _, _, rfl, _⟩ := h; rfl) | (obtain ⟨_, _, _, _, _, _, _, _, _, _, _, _, rfl, _⟩ := h; rfl) | (obtain ⟨_, _, _, _, _, _, _, _, _, _, _, _, _, rfl, _⟩ := h; rfl) | exact Mt.tk_len rfl h | (obtain ⟨_, h⟩ := h; exact Mt.tk_len rfl h) | (obtain ⟨_, _, h⟩ := h; exact Mt.tk_len rfl h) | (obtain ⟨_, _, _, h⟩ := h; exact Mt.tk_len rfl h) | (obtain ⟨_, _, _, _, h⟩ := h; exact Mt.tk_len rfl h) | (obtain ⟨_, _, _, _, _, h⟩ := h; exact Mt.tk_len rfl h) | (obtain ⟨_, _, _, _, _, _, h⟩ := h; exact Mt.tk_len rfl h) | (obtain ⟨_, _, _, _, _, _, _, h⟩ := h; exact Mt.tk_len rfl h) | (obtain ⟨_, _, _, _, _, _, _, _, h⟩ := h; exact Mt.tk_len rfl h) | (obtain ⟨_, _, _, _, _, _, _, _, _, h⟩ := h; exact Mt.tk_len rfl h) | (obtain ⟨_, _, _, _, _, _, _, _, _, _, h⟩ := h; exact Mt.tk_len rfl h) | (obtain ⟨_, _, _, _, _, _, _, _, _, _, _, h⟩ := h; exact Mt.tk_len rfl h) | (obtain ⟨_, _, _, _, _, _, _, _, _, _, _, _, h⟩ := h; exact Mt.tk_len rfl h) | (obtain ⟨_, _, _, _, _, _, _, _, _, _, _, _, _, h⟩ := h; exact Mt.tk_len rfl h) | (obtain ⟨_, _, _, _, _, _, _, _, _, _, _, _, _, _, h⟩ := h; exact Mt.tk_len rfl h) | (obtain ⟨_, _, _, _, _, _, _, _, _, _, _, _, _, _, _, h⟩ := h; exact Mt.tk_len rfl h))) (g__law_of K a) (fun f cdv A outer s H E hr => t__law_of T (ok__law_draw T) hr) (fun ds S q _ _ h => r__law_of ds S q h)
theorem ok__law_names (T : Txt K mg a) : Fnc P w K mg base "_law_names" s__law_names dv__law_names 2 ps__law_names (sp__law_names a) :=
  fnc_of T.b__law_names sc__law_names (by intro ds S q h; first | (cases h with | inl h => (first | (obtain ⟨rfl, _⟩ := h; rfl) | (obtain ⟨_, _, _, _, ⟨_, _, rfl, _⟩, _⟩ := h; rfl) | (obtain ⟨_, rfl, _⟩ := h; rfl) | (obtain ⟨_, _, rfl, _⟩ := h; rfl) | (obtain ⟨_, _, _, rfl, _⟩ := h; rfl) | (obtain ⟨_, _, _, _, rfl, _⟩ := h; rfl) | (obtain ⟨_, _, _, _, _, rfl, _⟩ := h; rfl) | (obtain ⟨_, _, _, _, _, _, rfl, _⟩ := h; rfl) | (obtain ⟨_, _, _, _, _, _, _, rfl, _⟩ := h; rfl) | (obtain ⟨_, _, _, _, _, _, _, _, rfl, _⟩ := h; rfl) | (obtain ⟨_, _, _, _, _, _, _, _, _, rfl, _⟩ := h; rfl) | (obtain ⟨_, _, _, _, _, _, _, _, _, _, rfl, _⟩ := h; rfl) | (obtain ⟨_, _, _, _, _, _, _, _, _, _, _, rfl, _⟩ := h; rfl) | (obtain ⟨_, _, _, _, _, _, _, _, _, _, _, _, rfl, _⟩ := h; rfl) | (obtain ⟨_, _, _, _, _, _, _, _, _, _, _, _, _, rfl, _⟩ := h; rfl) | exact Mt.tk_len rfl h | (obtain ⟨_, h⟩ := h; exact Mt.tk_len rfl h) | (obtain ⟨_, _, h⟩ := h; exact Mt.tk_len rfl h) | (obtain ⟨_, _, _, h⟩ := h; exact Mt.tk_len rfl h) | (obtain ⟨_, _, _, _, h⟩ := h; exact Mt.tk_len rfl h) | (obtain ⟨_, _, _, _, _, h⟩ := h; exact Mt.tk_len rfl h) | (obtain ⟨_, _, _, _, _, _, h⟩ := h; exact Mt.tk_len rfl h) | (obtain ⟨_, _, _, _, _, _, _, h⟩ := h; exact Mt.tk_len rfl h) | (obtain ⟨_, _, _, _, _, _, _, _, h⟩ := h; exact Mt.tk_len rfl h) | (obtain ⟨_, _, _, _, _, _, _, _, _, h⟩ := h; exact Mt.tk_len rfl h) | (obtain ⟨_, _, _, _, _, _, _, _, _, _, h⟩ := h; exact Mt.tk_len rfl h) | (obtain ⟨_, _, _, _, _, _, _, _, _, _, _, h⟩ := h; exact Mt.tk_len rfl h) | (obtain ⟨_, _, _, _, _, _, _, _, _, _, _, _, h⟩ := h; exact Mt.tk_len rfl h) | (obtain ⟨_, _, _, _, _, _, _, _, _, _, _, _, _, h⟩ := h; exact Mt.tk_len rfl h) | (obtain ⟨_, _, _, _, _, _, _, _, _, _, _, _, _, _, h⟩ := h; exact Mt.tk_len rfl h) | (obtain ⟨_, _, _, _, _, _, _, _, _, _, _, _, _, _, _, h⟩ := h; exact Mt.tk_len rfl h)) | inr h => (first | (obtain ⟨rfl, _⟩ := h; rfl) | (obtain ⟨_, _, _, _, ⟨_, _, rfl, _⟩, _⟩ := h; rfl) | (obtain ⟨_, rfl, _⟩ := h; rfl) | (obtain ⟨_, _, rfl, _⟩ := h; rfl) | (obtain ⟨_, _, _, rfl, _⟩ := h; rfl) | (obtain ⟨_, _, _, _, rfl, _⟩ := h; rfl) | (obtain ⟨_, _, _, _, _, rfl, _⟩ := h; rfl) | (obtain ⟨_, _, _, _, _, _, rfl, _⟩ := h; rfl) | (obtain ⟨_, _, _, _, _, _, _, rfl, _⟩ := h; rfl) | (obtain ⟨_, _, _, _, _, _, _, _, rfl, _⟩ := h; rfl) | (obtain ⟨_, _, _, _, _, _, _, _, _, rfl, _⟩ := h; rfl) | (obtain ⟨_, _, _, _, _, _, _, _, _, _, rfl, _⟩ := h; rfl) | (obtain ⟨_, _, _, _, _, _, _, _, _, _, _, rfl, _⟩ := h; rfl) | (obtain ⟨_, _, _, _, _, _, _, _, _, _, _, _, rfl, _⟩ := h; rfl) | (obtain ⟨_, _, _, _, _, _, _, _, _, _, _, _, _, rfl, _⟩ := h; rfl) | exact Mt.tk_len rfl h | (obtain ⟨_, h⟩ := h; exact Mt.tk_len rfl h) | (obtain ⟨_, _, h⟩ := h; exact Mt.tk_len rfl h) | (obtain ⟨_, _, _, h⟩ := h; exact Mt.tk_len rfl h) | (obtain ⟨_, _, _, _, h⟩ := h; exact Mt.tk_len rfl h) | (obtain ⟨_, _, _, _, _, h⟩ := h; exact Mt.tk_len rfl h) | (obtain ⟨_, _, _, _, _, _, h⟩ := h; exact Mt.tk_len rfl h) | (obtain ⟨_, _, _, _, _, _, _, h⟩ := h; exact Mt.tk_len rfl h) | (obtain ⟨_, _, _, _, _, _, _, _, h⟩ := h; exact Mt.tk_len rfl h) | (obtain ⟨_, _, _, _, _, _, _, _, _, h⟩ := h; exact Mt.tk_len rfl h) | (obtain ⟨_, _, _, _, _, _, _, _, _, _, h⟩ := h; exact Mt.tk_len rfl h) | (obtain ⟨_, _, _, _, _, _, _, _, _, _, _, h⟩ := h; exact Mt.tk_len rfl h) | (obtain ⟨_, _, _, _, _, _, _, _, _, _, _, _, h⟩ := h; exact Mt.tk_len rfl h) | (obtain ⟨_, _, _, _, _, _, _, _, _, _, _, _, _, h⟩ := h; exact Mt.tk_len rfl h) | (obtain ⟨_, _, _, _, _, _, _, _, _, _, _, _, _, _, h⟩ := h; exact Mt.tk_len rfl h) | (obtain ⟨_, _, _, _, _, _, _, _, _, _, _, _, _, _, _, h⟩ := h; exact Mt.tk_len rfl h))) | (first | (obtain ⟨rfl, _⟩ := h; rfl) | (obtain ⟨_, _, _, _, ⟨_, _, rfl, _⟩, _⟩ := h; rfl) | (obtain ⟨_, rfl, _⟩ := h; rfl) | (obtain ⟨_, _, rfl, _⟩ := h; rfl) | (obtain ⟨_, _, _, rfl, _⟩ := h; rfl) | (obtain ⟨_, _, _, _, rfl, _⟩ := h; rfl) | (obtain ⟨_, _, _, _, _, rfl, _⟩ := h; rfl) | (obtain ⟨_, _, _, _, _, _, rfl, _⟩ := h; rfl) | (obtain ⟨_, _, _, _, _, _, _, rfl, _⟩ := h; rfl) | (obtain ⟨_, _, _, _, _, _, _, _, rfl, _⟩ := h; rfl) | (obtain ⟨_, _, _, _, _, _, _, _, _, rfl, _⟩ := h; rfl) | (obtain ⟨_, _, _, _, _, _, _, _, _, _, rfl, _⟩ := h; rfl) | (obtain ⟨_, _, _, _, _, _, _, _, _, _, _, rfl, _⟩ := h; rfl) | (obtain ⟨_, _, _, _, _, _, _, _, _, _, _, _, rfl, _⟩ := h; rfl) | (obtain ⟨_, _, _, _, _, _, _, _, _, _, _, _, _, rfl, _⟩ := h; rfl) | exact Mt.tk_len rfl h | (obtain ⟨_, h⟩ := h; exact Mt.tk_len rfl h) | (obtain ⟨_, _, h⟩ := h; exact Mt.tk_len rfl h) | (obtain ⟨_, _, _, h⟩ := h; exact Mt.tk_len rfl h) | (obtain ⟨_, _, _, _, h⟩ := h; exact Mt.tk_len rfl h) | (obtain ⟨_, _, _, _, _, h⟩ := h; exact Mt.tk_len rfl h) | (obtain ⟨_, _, _, _, _, _, h⟩ := h; exact Mt.tk_len rfl h) | (obtain ⟨_, _, _, _, _, _, _, h⟩ := h; exact Mt.tk_len rfl h) | (obtain ⟨_, _, _, _, _, _, _, _, h⟩ := h; exact Mt.tk_len rfl h) | (obtain ⟨_, _, _, _, _, _, _, _, _, h⟩ := h; exact Mt.tk_len rfl h) | (obtain ⟨_, _, _, _, _, _, _, _, _, _, h⟩ := h; exact Mt.tk_len rfl h) | (obtain ⟨_, _, _, _, _, _, _, _, _, _, _, h⟩ := h; exact Mt.tk_len rfl h) | (obtain ⟨_, _, _, _, _, _, _, _, _, _, _, _, h⟩ := h; exact Mt.tk_len rfl h) | (obtain ⟨_, _, _, _, _, _, _, _, _, _, _, _, _, h⟩ := h; exact Mt.tk_len rfl h) | (obtain ⟨_, _, _, _, _, _, _, _, _, _, _, _, _, _, h⟩ := h; exact Mt.tk_len rfl h) | (obtain ⟨_, _, _, _, _, _, _, _, _, _, _, _, _, _, _, h⟩ := h; exact Mt.tk_len rfl h))) (g__law_names K a) (fun f cdv A outer s H E hr => t__law_names T (ok__law_draw T) hr) (rf__law_names)
theorem ok__law_time (T : Txt K mg a) : Fnc P w K mg base "_law_time" s__law_time dv__law_time 1 ps__law_time (sp__law_time a) :=
  fnc_of0 T.b__law_time sc__law_time (by intro ds S q h; first | (cases h with | inl h => (first | (obtain ⟨rfl, _⟩ := h; rfl) | (obtain ⟨_, _, _, _, ⟨_, _, rfl, _⟩, _⟩ := h; rfl) | (obtain ⟨_, rfl, _⟩ := h; rfl) | (obtain ⟨_, _, rfl, _⟩ := h; rfl) | (obtain ⟨_, _, _, rfl, _⟩ := h; rfl) | (obtain ⟨_, _, _, _, rfl, _⟩ := h; rfl) | (obtain ⟨_, _, _, _, _, rfl, _⟩ := h; rfl) | (obtain ⟨_, _, _, _, _, _, rfl, _⟩ := h; rfl) | (obtain ⟨_, _, _, _, _, _, _, rfl, _⟩ := h; rfl) | (obtain ⟨_, _, _, _, _, _, _, _, rfl, _⟩ := h; rfl) | (obtain ⟨_, _, _, _, _, _, _, _, _, rfl, _⟩ := h; rfl) | (obtain ⟨_, _, _, _, _, _, _, _, _, _, rfl, _⟩ := h; rfl) | (obtain ⟨_, _, _, _, _, _, _, _, _, _, _, rfl, _⟩ := h; rfl) | (obtain ⟨_, _, _, _, _, _, _, _, _, _, _, _, rfl, _⟩ := h; rfl) | (obtain ⟨_, _, _, _, _, _, _, _, _, _, _, _, _, rfl, _⟩ := h; rfl) | exact Mt.tk_len rfl h | (obtain ⟨_, h⟩ := h; exact Mt.tk_len rfl h) | (obtain ⟨_, _, h⟩ := h; exact Mt.tk_len rfl h) | (obtain ⟨_, _, _, h⟩ := h; exact Mt.tk_len rfl h) | (obtain ⟨_, _, _, _, h⟩ := h; exact Mt.tk_len rfl h) | (obtain ⟨_, _, _, _, _, h⟩ := h; exact Mt.tk_len rfl h) | (obtain ⟨_, _, _, _, _, _, h⟩ := h; exact Mt.tk_len rfl h) | (obtain ⟨_, _, _, _, _, _, _, h⟩ := h; exact Mt.tk_len rfl h) | (obtain ⟨_, _, _, _, _, _, _, _, h⟩ := h; exact Mt.tk_len rfl h) | (obtain ⟨_, _, _, _, _, _, _, _, _, h⟩ := h; exact Mt.tk_len rfl h) | (obtain ⟨_, _, _, _, _, _, _, _, _, _, h⟩ := h; exact Mt.tk_len rfl h) | (obtain ⟨_, _, _, _, _, _, _, _, _, _, _, h⟩ := h; exact Mt.tk_len rfl h) | (obtain ⟨_, _, _, _, _, _, _, _, _, _, _, _, h⟩ := h; exact Mt.tk_len rfl h) | (obtain ⟨_, _, _, _, _, _, _, _, _, _, _, _, _, h⟩ := h; exact Mt.tk_len rfl h) | (obtain ⟨_, _, _, _, _, _, _, _, _, _, _, _, _, _, h⟩ := h; exact Mt.tk_len rfl h) | (obtain ⟨_, _, _, _, _, _, _, _, _, _, _, _, _, _, _, h⟩ := h; exact Mt.tk_len rfl h)) | inr h => (first | (obtain ⟨rfl, _⟩ := h; rfl) | (obtain ⟨_, _, _, _, ⟨_, _, rfl, _⟩, _⟩ := h; rfl) | (obtain ⟨_, rfl, _⟩ := h; rfl) | (obtain ⟨_, _, rfl, _⟩ := h; rfl) | (obtain ⟨_, _, _, rfl, _⟩ := h; rfl) | (obtain ⟨_, _, _, _, rfl, _⟩ := h; rfl) | (obtain ⟨_, _, _, _, _, rfl, _⟩ := h; rfl) | (obtain ⟨_, _, _, _, _, _, rfl, _⟩ := h; rfl) | (obtain ⟨_, _, _, _, _, _, _, rfl, _⟩ := h; rfl) | (obtain ⟨_, _, _, _, _, _, _, _, rfl, _⟩ := h; rfl) | (obtain ⟨_, _, _, _, _, _, _, _, _, rfl, _⟩ := h; rfl) | (obtain ⟨_, _, _, _, _, _, _, _, _, _, rfl, _⟩ := h; rfl) | (obtain ⟨_, _, _, _, _, _, _, _, _, _, _, rfl, _⟩ := h; rfl) | (obtain ⟨_, _, _, _, _, _, _, _, _, _, _, _, rfl, _⟩ := h; rfl) | (obtain ⟨_, _, _, _, _, _, _, _, _, _, _, _, _, rfl, _⟩ := h; rfl) | exact Mt.tk_len rfl h | (obtain ⟨_, h⟩ := h; exact Mt.tk_len rfl h) | (obtain ⟨_, _, h⟩ := h; exact Mt.tk_len rfl h) | (obtain ⟨_, _, _, h⟩ := h; exact Mt.tk_len rfl h) | (obtain ⟨_, _, _, _, h⟩ := h; exact Mt.tk_len rfl h) | (obtain ⟨_, _, _, _, _, h⟩ := h; exact Mt.tk_len rfl h) | (obtain ⟨_, _, _, _, _, _, h⟩ := h; exact Mt.tk_len rfl h) | (obtain ⟨_, _, _, _, _, _, _, h⟩ := h; exact Mt.tk_len rfl h) | (obtain ⟨_, _, _, _, _, _, _, _, h⟩ := h; exact Mt.tk_len rfl h) | (obtain ⟨_, _, _, _, _, _, _, _, _, h⟩ := h; exact Mt.tk_len rfl h) | (obtain ⟨_, _, _, _, _, _, _, _, _, _, h⟩ := h; exact Mt.tk_len rfl h) | (obtain ⟨_, _, _, _, _, _, _, _, _, _, _, h⟩ := h; exact Mt.tk_len rfl h) | (obtain ⟨_, _, _, _, _, _, _, _, _, _, _, _, h⟩ := h; exact Mt.tk_len rfl h) | (obtain ⟨_, _, _, _, _, _, _, _, _, _, _, _, _, h⟩ := h; exact Mt.tk_len rfl h) | (obtain ⟨_, _, _, _, _, _, _, _, _, _, _, _, _, _, h⟩ := h; exact Mt.tk_len rfl h) | (obtain ⟨_, _, _, _, _, _, _, _, _, _, _, _, _, _, _, h⟩ := h; exact Mt.tk_len rfl h))) | (first | (obtain ⟨rfl, _⟩ := h; rfl) | (obtain ⟨_, _, _, _, ⟨_, _, rfl, _⟩, _⟩ := h; rfl) | (obtain ⟨_, rfl, _⟩ := h; rfl) | (obtain ⟨_, _, rfl, _⟩ := h; rfl) | (obtain ⟨_, _, _, rfl, _⟩ := h; rfl) | (obtain ⟨_, _, _, _, rfl, _⟩ := h; rfl) | (obtain ⟨_, _, _, _, _, rfl, _⟩ := h; rfl) | (obtain ⟨_, _, _, _, _, _, rfl, _⟩ := h; rfl) | (obtain ⟨_, _, _, _, _, _, _, rfl, _⟩ := h; rfl) | (obtain ⟨_, _, _, _, _, _, _, _, rfl, _⟩ := h; rfl) | (obtain ⟨_, _, _, _, _, _, _, _, _, rfl, _⟩ := h; rfl) | (obtain ⟨_, _, _, _, _, _, _, _, _, _, rfl, _⟩ := h; rfl) | (obtain ⟨_, _, _, _, _, _, _, _, _, _, _, rfl, _⟩ := h; rfl) | (obtain ⟨_, _, _, _, _, _, _, _, _, _, _, _, rfl, _⟩ := h; rfl) | (obtain ⟨_, _, _, _, _, _, _, _, _, _, _, _, _, rfl, _⟩ := h; rfl) | exact Mt.tk_len rfl h | (obtain ⟨_, h⟩ := h; exact Mt.tk_len rfl h) | (obtain ⟨_, _, h⟩ := h; exact Mt.tk_len rfl h) | (obtain ⟨_, _, _, h⟩ := h; exact Mt.tk_len rfl h) | (obtain ⟨_, _, _, _, h⟩ := h; exact Mt.tk_len rfl h) | (obtain ⟨_, _, _, _, _, h⟩ := h; exact Mt.tk_len rfl h) | (obtain ⟨_, _, _, _, _, _, h⟩ := h; exact Mt.tk_len rfl h) | (obtain ⟨_, _, _, _, _, _, _, h⟩ := h; exact Mt.tk_len rfl h) | (obtain ⟨_, _, _, _, _, _, _, _, h⟩ := h; exact Mt.tk_len rfl h) | (obtain ⟨_, _, _, _, _, _, _, _, _, h⟩ := h; exact Mt.tk_len rfl h) | (obtain ⟨_, _, _, _, _, _, _, _, _, _, h⟩ := h; exact Mt.tk_len rfl h) | (obtain ⟨_, _, _, _, _, _, _, _, _, _, _, h⟩ := h; exact Mt.tk_len rfl h) | (obtain ⟨_, _, _, _, _, _, _, _, _, _, _, _, h⟩ := h; exact Mt.tk_len rfl h) | (obtain ⟨_, _, _, _, _, _, _, _, _, _, _, _, _, h⟩ := h; exact Mt.tk_len rfl h) | (obtain ⟨_, _, _, _, _, _, _, _, _, _, _, _, _, _, h⟩ := h; exact Mt.tk_len rfl h) | (obtain ⟨_, _, _, _, _, _, _, _, _, _, _, _, _, _, _, h⟩ := h; exact Mt.tk_len rfl h))) (g__law_time K a) (fun f cdv A outer s H E hr => t__law_time T  hr) (fun ds S q _ _ h => r__law_time ds S q h)
theorem ok__law_rows (T : Txt K mg a) : Fnc P w K mg base "_law_rows" s__law_rows dv__law_rows 3 ps__law_rows (sp__law_rows a) :=
  fnc_of T.b__law_rows sc__law_rows (by intro ds S q h; first | (cases h with | inl h => (first | (obtain ⟨rfl, _⟩ := h; rfl) | (obtain ⟨_, _, _, _, ⟨_, _, rfl, _⟩, _⟩ := h; rfl) | (obtain ⟨_, rfl, _⟩ := h; rfl) | (obtain ⟨_, _, rfl, _⟩ := h; rfl) | (obtain ⟨_, _, _, rfl, _⟩ := h; rfl) | (obtain ⟨_, _, _, _, rfl, _⟩ := h; rfl) | (obtain ⟨_, _, _, _, _, rfl, _⟩ := h; rfl) | (obtain ⟨_, _, _, _, _, _, rfl, _⟩ := h; rfl) | (obtain ⟨_, _, _, _, _, _, _, rfl, _⟩ := h; rfl) | (obtain ⟨_, _, _, _, _, _, _, _, rfl, _⟩ := h; rfl) | (obtain ⟨_, _, _, _, _, _, _, _, _, rfl, _⟩ := h; rfl) | (obtain ⟨_, _, _, _, _, _, _, _, _, _, rfl, _⟩ := h; rfl) | (obtain ⟨_, _, _, _, _, _, _, _, _, _, _, rfl, _⟩ := h; rfl) | (obtain ⟨_, _, _, _, _, _, _, _, _, _, _, _, rfl, _⟩ := h; rfl) | (obtain ⟨_, _, _, _, _, _, _, _, _, _, _, _, _, rfl, _⟩ := h; rfl) | exact Mt.tk_len rfl h | (obtain ⟨_, h⟩ := h; exact Mt.tk_len rfl h) | (obtain ⟨_, _, h⟩ := h; exact Mt.tk_len rfl h) | (obtain ⟨_, _, _, h⟩ := h; exact Mt.tk_len rfl h) | (obtain ⟨_, _, _, _, h⟩ := h; exact Mt.tk_len rfl h) | (obtain ⟨_, _, _, _, _, h⟩ := h; exact Mt.tk_len rfl h) | (obtain ⟨_, _, _, _, _, _, h⟩ := h; exact Mt.tk_len rfl h) | (obtain ⟨_, _, _, _, _, _, _, h⟩ := h; exact Mt.tk_len rfl h) | (obtain ⟨_, _, _, _, _, _, _, _, h⟩ := h; exact Mt.tk_len rfl h) | (obtain ⟨_, _, _, _, _, _, _, _, _, h⟩ := h; exact Mt.tk_len rfl h) | (obtain ⟨_, _, _, _, _, _, _, _, _, _, h⟩ := h; exact Mt.tk_len rfl h) | (obtain ⟨_, _, _, _, _, _, _, _, _, _, _, h⟩ := h; exact Mt.tk_len rfl h) | (obtain ⟨_, _, _, _, _, _, _, _, _, _, _, _, h⟩ := h; exact Mt.tk_len rfl h) | (obtain ⟨_, _, _, _, _, _, _, _, _, _, _, _, _, h⟩ := h; exact Mt.tk_len rfl h) | (obtain ⟨_, _, _, _, _, _, _, _, _, _, _, _, _, _, h⟩ := h; exact Mt.tk_len rfl h) | (obtain ⟨_, _, _, _, _, _, _, _, _, _, _, _, _, _, _, h⟩ := h; exact Mt.tk_len rfl h)) | inr h => (first | (obtain ⟨rfl, _⟩ := h; rfl) | (obtain ⟨_, _, _, _, ⟨_, _, rfl, _⟩, _⟩ := h; rfl) | (obtain ⟨_, rfl, _⟩ := h; rfl) | (obtain ⟨_, _, rfl, _⟩ := h; rfl) | (obtain ⟨_, _, _, rfl, _⟩ := h; rfl) | (obtain ⟨_, _, _, _, rfl, _⟩ := h; rfl) | (obtain ⟨_, _, _, _, _, rfl, _⟩ := h; rfl) | (obtain ⟨_, _, _, _, _, _, rfl, _⟩ := h; rfl) | (obtain ⟨_, _, _, _, _, _, _, rfl, _⟩ := h; rfl) | (obtain ⟨_, _, _, _, _, _, _, _, rfl, _⟩ := h; rfl) | (obtain ⟨_, _, _, _, _, _, _, _, _, rfl, _⟩ := h; rfl) | (obtain ⟨_, _, _, _, _, _, _, _, _, _, rfl, _⟩ := h; rfl) | (obtain ⟨_, _, _, _, _, _, _, _, _, _, _, rfl, _⟩ := h; rfl) | (obtain ⟨_, _, _, _, _, _, _, _, _, _, _, _, rfl, _⟩ := h; rfl) | (obtain ⟨_, _, _, _, _, _, _, _, _, _, _, _, _, rfl, _⟩ := h; rfl) | exact Mt.tk_len rfl h | (obtain ⟨_, h⟩ := h; exact Mt.tk_len rfl h) | (obtain ⟨_, _, h⟩ := h; exact Mt.tk_len rfl h) | (obtain ⟨_, _, _, h⟩ := h; exact Mt.tk_len rfl h) | (obtain ⟨_, _, _, _, h⟩ := h; exact Mt.tk_len rfl h) | (obtain ⟨_, _, _, _, _, h⟩ := h; exact Mt.tk_len rfl h) | (obtain ⟨_, _, _, _, _, _, h⟩ := h; exact Mt.tk_len rfl h) | (obtain ⟨_, _, _, _, _, _, _, h⟩ := h; exact Mt.tk_len rfl h) | (obtain ⟨_, _, _, _, _, _, _, _, h⟩ := h; exact Mt.tk_len rfl h) | (obtain ⟨_, _, _, _, _, _, _, _, _, h⟩ := h; exact Mt.tk_len rfl h) | (obtain ⟨_, _, _, _, _, _, _, _, _, _, h⟩ := h; exact Mt.tk_len rfl h) | (obtain ⟨_, _, _, _, _, _, _, _, _, _, _, h⟩ := h; exact Mt.tk_len rfl h) | (obtain ⟨_, _, _, _, _, _, _, _, _, _, _, _, h⟩ := h; exact Mt.tk_len rfl h) | (obtain ⟨_, _, _, _, _, _, _, _, _, _, _, _, _, h⟩ := h; exact Mt.tk_len rfl h) | (obtain ⟨_, _, _, _, _, _, _, _, _, _, _, _, _, _, h⟩ := h; exact Mt.tk_len rfl h) | (obtain ⟨_, _, _, _, _, _, _, _, _, _, _, _, _, _, _, h⟩ := h; exact Mt.tk_len rfl h))) | (first | (obtain ⟨rfl, _⟩ := h; rfl) | (obtain ⟨_, _, _, _, ⟨_, _, rfl, _⟩, _⟩ := h; rfl) | (obtain ⟨_, rfl, _⟩ := h; rfl) | (obtain ⟨_, _, rfl, _⟩ := h; rfl) | (obtain ⟨_, _, _, rfl, _⟩ := h; rfl) | (obtain ⟨_, _, _, _, rfl, _⟩ := h; rfl) | (obtain ⟨_, _, _, _, _, rfl, _⟩ := h; rfl) | (obtain ⟨_, _, _, _, _, _, rfl, _⟩ := h; rfl) | (obtain ⟨_, _, _, _, _, _, _, rfl, _⟩ := h; rfl) | (obtain ⟨_, _, _, _, _, _, _, _, rfl, _⟩ := h; rfl) | (obtain ⟨_, _, _, _, _, _, _, _, _, rfl, _⟩ := h; rfl) | (obtain ⟨_, _, _, _, _, _, _, _, _, _, rfl, _⟩ := h; rfl) | (obtain ⟨_, _, _, _, _, _, _, _, _, _, _, rfl, _⟩ := h; rfl) | (obtain ⟨_, _, _, _, _, _, _, _, _, _, _, _, rfl, _⟩ := h; rfl) | (obtain ⟨_, _, _, _, _, _, _, _, _, _, _, _, _, rfl, _⟩ := h; rfl) | exact Mt.tk_len rfl h | (obtain ⟨_, h⟩ := h; exact Mt.tk_len rfl h) | (obtain ⟨_, _, h⟩ := h; exact Mt.tk_len rfl h) | (obtain ⟨_, _, _, h⟩ := h; exact Mt.tk_len rfl h) | (obtain ⟨_, _, _, _, h⟩ := h; exact Mt.tk_len rfl h) | (obtain ⟨_, _, _, _, _, h⟩ := h; exact Mt.tk_len rfl h) | (obtain ⟨_, _, _, _, _, _, h⟩ := h; exact Mt.tk_len rfl h) | (obtain ⟨_, _, _, _, _, _, _, h⟩ := h; exact Mt.tk_len rfl h) | (obtain ⟨_, _, _, _, _, _, _, _, h⟩ := h; exact Mt.tk_len rfl h) | (obtain ⟨_, _, _, _, _, _, _, _, _, h⟩ := h; exact Mt.tk_len rfl h) | (obtain ⟨_, _, _, _, _, _, _, _, _, _, h⟩ := h; exact Mt.tk_len rfl h) | (obtain ⟨_, _, _, _, _, _, _, _, _, _, _, h⟩ := h; exact Mt.tk_len rfl h) | (obtain ⟨_, _, _, _, _, _, _, _, _, _, _, _, h⟩ := h; exact Mt.tk_len rfl h) | (obtain ⟨_, _, _, _, _, _, _, _, _, _, _, _, _, h⟩ := h; exact Mt.tk_len rfl h) | (obtain ⟨_, _, _, _, _, _, _, _, _, _, _, _, _, _, h⟩ := h; exact Mt.tk_len rfl h) | (obtain ⟨_, _, _, _, _, _, _, _, _, _, _, _, _, _, _, h⟩ := h; exact Mt.tk_len rfl h))) (g__law_rows K a) (fun f cdv A outer s H E hr => t__law_rows T (ok__law_draw T) (ok__law_of T) hr) (rf__law_rows)
theorem ok__law_text (T : Txt K mg a) : Fnc P w K mg base "_law_text" s__law_text dv__law_text 2 ps__law_text (sp__law_text a) :=
  fnc_of0 T.b__law_text sc__law_text (by intro ds S q h; obtain ⟨_, _, rfl, _⟩ := h; rfl) (g__law_text K a) (fun f cdv A outer s H E hr => t__law_text T (ok__law_time T) hr) (fun ds S q _ _ h => r__law_text ds S q h)
end
def hd_is_name : He.DefD := ⟨("is_name", none), "is_name", "is_name", defArgs s_is_name, defBody s_is_name, defScope s_is_name, [], []⟩
def hd_are_figures : He.DefD := ⟨("are_figures", none), "are_figures", "are_figures", defArgs s_are_figures, defBody s_are_figures, defScope s_are_figures, [], []⟩
def hd_number_in : He.DefD := ⟨("number_in", none), "number_in", "number_in", defArgs s_number_in, defBody s_number_in, defScope s_number_in, [.int 0, .int 999999999], []⟩
def hd_show_clock : He.DefD := ⟨("show_clock", none), "show_clock", "show_clock", defArgs s_show_clock, defBody s_show_clock, defScope s_show_clock, [], []⟩
def hd_show_time : He.DefD := ⟨("show_time", none), "show_time", "show_time", defArgs s_show_time, defBody s_show_time, defScope s_show_time, [], []⟩
def hd_clock_in : He.DefD := ⟨("clock_in", none), "clock_in", "clock_in", defArgs s_clock_in, defBody s_clock_in, defScope s_clock_in, [], []⟩
def hd_time_in : He.DefD := ⟨("time_in", none), "time_in", "time_in", defArgs s_time_in, defBody s_time_in, defScope s_time_in, [], []⟩
def hd_Book_init : He.DefD := ⟨("Book", some "__init__"), "__init__", "Book.__init__", defArgs s_Book_init, defBody s_Book_init, defScope s_Book_init, [], []⟩
def hd_Book_write : He.DefD := ⟨("Book", some "write"), "write", "Book.write", defArgs s_Book_write, defBody s_Book_write, defScope s_Book_write, [], []⟩
def hd_Book_rows : He.DefD := ⟨("Book", some "rows"), "rows", "Book.rows", defArgs s_Book_rows, defBody s_Book_rows, defScope s_Book_rows, [], []⟩
def hd_Book_len : He.DefD := ⟨("Book", some "__len__"), "__len__", "Book.__len__", defArgs s_Book_len, defBody s_Book_len, defScope s_Book_len, [], []⟩
def hd_Book_eq : He.DefD := ⟨("Book", some "__eq__"), "__eq__", "Book.__eq__", defArgs s_Book_eq, defBody s_Book_eq, defScope s_Book_eq, [], []⟩
def hd_Book_str : He.DefD := ⟨("Book", some "__str__"), "__str__", "Book.__str__", defArgs s_Book_str, defBody s_Book_str, defScope s_Book_str, [], []⟩
def hd_row_in : He.DefD := ⟨("row_in", none), "row_in", "row_in", defArgs s_row_in, defBody s_row_in, defScope s_row_in, [], []⟩
def hd_read_book : He.DefD := ⟨("read_book", none), "read_book", "read_book", defArgs s_read_book, defBody s_read_book, defScope s_read_book, [], []⟩
def hd__law_feed : He.DefD := ⟨("_law_feed", none), "_law_feed", "_law_feed", defArgs s__law_feed, defBody s__law_feed, defScope s__law_feed, [], []⟩
def hd__law_draw : He.DefD := ⟨("_law_draw", none), "_law_draw", "_law_draw", defArgs s__law_draw, defBody s__law_draw, defScope s__law_draw, [], []⟩
def hd__law_of : He.DefD := ⟨("_law_of", none), "_law_of", "_law_of", defArgs s__law_of, defBody s__law_of, defScope s__law_of, [], []⟩
def hd__law_names : He.DefD := ⟨("_law_names", none), "_law_names", "_law_names", defArgs s__law_names, defBody s__law_names, defScope s__law_names, [], []⟩
def hd__law_time : He.DefD := ⟨("_law_time", none), "_law_time", "_law_time", defArgs s__law_time, defBody s__law_time, defScope s__law_time, [], []⟩
def hd__law_rows : He.DefD := ⟨("_law_rows", none), "_law_rows", "_law_rows", defArgs s__law_rows, defBody s__law_rows, defScope s__law_rows, [], []⟩
def hd__law_text : He.DefD := ⟨("_law_text", none), "_law_text", "_law_text", defArgs s__law_text, defBody s__law_text, defScope s__law_text, [], []⟩
def hd_law : He.DefD := ⟨("law", none), "law", "law", defArgs s_law, defBody s_law, defScope s_law, [], []⟩
def hfn0 : List He.DefD := [hd_is_name, hd_are_figures, hd_number_in, hd_show_clock, hd_show_time, hd_clock_in, hd_time_in, hd_Book_init, hd_Book_write, hd_Book_rows, hd_Book_len, hd_Book_eq, hd_Book_str, hd_row_in, hd_read_book, hd__law_feed, hd__law_draw, hd__law_of, hd__law_names, hd__law_time, hd__law_rows, hd__law_text, hd_law]
def hfa0 : List Hd.Fq := [fun K => decide (PySem.W.nsIn K mainGlobals "Book" = some (some (.ref (He.ga K "Book")))), fun K => decide (PySem.W.nsIn K mainGlobals "is_name" = some (some (.ref (He.fAd K ("is_name", none))))), fun K => decide (PySem.W.nsIn K mainGlobals "are_figures" = some (some (.ref (He.fAd K ("are_figures", none))))), fun K => decide (PySem.W.nsIn K mainGlobals "number_in" = some (some (.ref (He.fAd K ("number_in", none))))), fun K => decide (PySem.W.nsIn K mainGlobals "show_clock" = some (some (.ref (He.fAd K ("show_clock", none))))), fun K => decide (PySem.W.nsIn K mainGlobals "show_time" = some (some (.ref (He.fAd K ("show_time", none))))), fun K => decide (PySem.W.nsIn K mainGlobals "clock_in" = some (some (.ref (He.fAd K ("clock_in", none))))), fun K => decide (PySem.W.nsIn K mainGlobals "time_in" = some (some (.ref (He.fAd K ("time_in", none))))), fun K => decide (PySem.W.findIn K (.ref (He.ga K "Book")) "__init__" = some (some (.ref (He.fAd K ("Book", some "__init__"))))), fun K => PySem.W.isFn K (.ref (He.fAd K ("Book", some "__init__"))), fun K => decide (PySem.W.findIn K (.ref (He.ga K "Book")) "write" = some (some (.ref (He.fAd K ("Book", some "write"))))), fun K => PySem.W.isFn K (.ref (He.fAd K ("Book", some "write"))), fun K => decide (PySem.W.findIn K (.ref (He.ga K "Book")) "rows" = some (some (.ref (He.fAd K ("Book", some "rows"))))), fun K => PySem.W.isFn K (.ref (He.fAd K ("Book", some "rows"))), fun K => decide (PySem.W.findIn K (.ref (He.ga K "Book")) "__len__" = some (some (.ref (He.fAd K ("Book", some "__len__"))))), fun K => PySem.W.isFn K (.ref (He.fAd K ("Book", some "__len__"))), fun K => decide (PySem.W.findIn K (.ref (He.ga K "Book")) "__eq__" = some (some (.ref (He.fAd K ("Book", some "__eq__"))))), fun K => PySem.W.isFn K (.ref (He.fAd K ("Book", some "__eq__"))), fun K => decide (PySem.W.findIn K (.ref (He.ga K "Book")) "__str__" = some (some (.ref (He.fAd K ("Book", some "__str__"))))), fun K => PySem.W.isFn K (.ref (He.fAd K ("Book", some "__str__"))), fun K => decide (PySem.W.nsIn K mainGlobals "row_in" = some (some (.ref (He.fAd K ("row_in", none))))), fun K => decide (PySem.W.nsIn K mainGlobals "read_book" = some (some (.ref (He.fAd K ("read_book", none))))), fun K => decide (PySem.W.nsIn K mainGlobals "_law_feed" = some (some (.ref (He.fAd K ("_law_feed", none))))), fun K => decide (PySem.W.nsIn K mainGlobals "_law_draw" = some (some (.ref (He.fAd K ("_law_draw", none))))), fun K => decide (PySem.W.nsIn K mainGlobals "_law_of" = some (some (.ref (He.fAd K ("_law_of", none))))), fun K => decide (PySem.W.nsIn K mainGlobals "_law_names" = some (some (.ref (He.fAd K ("_law_names", none))))), fun K => decide (PySem.W.nsIn K mainGlobals "_law_time" = some (some (.ref (He.fAd K ("_law_time", none))))), fun K => decide (PySem.W.nsIn K mainGlobals "_law_rows" = some (some (.ref (He.fAd K ("_law_rows", none))))), fun K => decide (PySem.W.nsIn K mainGlobals "_law_text" = some (some (.ref (He.fAd K ("_law_text", none))))), fun K => decide (PySem.W.nsIn K mainGlobals "law" = some (some (.ref (He.fAd K ("law", none))))), fun K => PySem.W.plainGet K (He.ga K "Book") Str.empty, fun K => PySem.W.hasDictIn K (He.ga K "Book"), fun K => PySem.W.plainOver K (He.ga K "Book"), fun K => decide (PySem.W.findIn K (.ref (He.ga K "Book")) "__setattr__" = some (some (.builtin "object.__setattr__"))), fun K => PySem.W.makesIn K (He.ga K "Book"), fun K => PySem.W.keepIn K (.ref (He.ga K "Book")), fun K => decide (PySem.W.nsIn K mainGlobals "all" = some none), fun K => decide (PySem.W.nsIn K mainGlobals "divmod" = some none), fun K => decide (PySem.W.nsIn K mainGlobals "enumerate" = some none), fun K => decide (PySem.W.nsIn K mainGlobals "int" = some none), fun K => decide (PySem.W.nsIn K mainGlobals "isinstance" = some none), fun K => decide (PySem.W.nsIn K mainGlobals "len" = some none), fun K => decide (PySem.W.nsIn K mainGlobals "list" = some none), fun K => decide (PySem.W.nsIn K mainGlobals "max" = some none), fun K => decide (PySem.W.nsIn K mainGlobals "min" = some none), fun K => decide (PySem.W.nsIn K mainGlobals "range" = some none), fun K => decide (PySem.W.nsIn K mainGlobals "repr" = some none), fun K => decide (PySem.W.nsIn K mainGlobals "str" = some none), fun K => decide (PySem.W.nsIn K mainGlobals "BANKS" = some (some (.ref (He.ga K "BANKS")))), fun K => Hd.kttB K (He.ga K "BANKS") ["near", "far"], fun K => (He.Fa.int "DAY" 1440).ok K, fun K => (He.Fa.str "FIGURES" "0123456789").ok K, fun K => (He.Fa.int "HOUR" 60).ok K, fun K => (He.Fa.int "LAST_MINUTE" 1000000).ok K, fun K => (He.Fa.str "LETTERS" "abcdefghijklmnopqrstuvwxyz").ok K, fun K => (He.Fa.int "LONGEST_NAME" 8).ok K, fun K => (He.Fa.int "MOST_FIGURES" 9).ok K, fun K => decide (PySem.W.nsIn K mainGlobals "WORDS" = some (some (.ref (He.ga K "WORDS")))), fun K => Hd.kttB K (He.ga K "WORDS") ["on", "off"], fun K => decide (PySem.W.findIn K (.ref (He.ga K "Book")) "bank" = some none), fun K => decide (PySem.W.findIn K (.ref (He.ga K "Book")) "kept" = some none), fun K => PySem.W.isClsIn K (He.ga K "Book"), fun K => decide (PySem.W.typeIn K (.ref (He.ga K "Book")) = some (.type "type")), fun K => decide (PySem.W.subIn K (.type "NoneType") (.ref (He.ga K "Book")) = some false), fun K => decide (PySem.W.subIn K (.type "bool") (.ref (He.ga K "Book")) = some false), fun K => decide (PySem.W.subIn K (.type "int") (.ref (He.ga K "Book")) = some false), fun K => decide (PySem.W.subIn K (.type "str") (.ref (He.ga K "Book")) = some false), fun K => decide (PySem.W.subIn K (.type "tuple") (.ref (He.ga K "Book")) = some false), fun K => decide (PySem.W.subIn K (.type "list") (.ref (He.ga K "Book")) = some false), fun K => decide (PySem.W.subIn K (.type "dict") (.ref (He.ga K "Book")) = some false), fun K => decide (PySem.W.findIn K (.ref (He.ga K "Book")) "__bool__" = some none), fun K => decide (PySem.W.findIn K (.ref (He.ga K "Book")) "__ne__" = some (some (.builtin "object.__ne__"))), fun K => decide (PySem.W.mroIn K (He.ga K "Book") (.type "object") = some true), fun K => decide (PySem.W.findIn K (.ref (He.ga K "Book")) "__class__" = some (some (.builtin "object.__class__"))), fun K => decide (PySem.W.specialIn K (.builtin "object.__class__") "__get__" = some (some (.builtin "getset_descriptor.__get__"))), fun K => decide (PySem.W.takesIn K (.builtin "object.__class__") = some true)]
def hqs : Hd.Qs := [([], hfn0), (hfa0, [])]
abbrev hR : PySem.W.OpenRow := PySem.W.OpenLaw.row PySem.Challenge.rw_boatbridge_k69_books_written_and_read
abbrev hk : PySem.W.Hook := Hd.hookQ 5 hqs
abbrev hob : PySem.W.SharedT → List He.AlD := fun s => Hd.obsL 5 hqs (HandSHeadRun.getT s)
theorem hob_eq (s : PySem.W.SharedT) : hob s = hk.obs s.abs := Hd.obsL_eq (HandSHeadRun.getT_eq s)
def hnames : List PySem.Str := (["NoBook", "Backward", "LETTERS", "FIGURES", "LONGEST_NAME", "MOST_FIGURES", "is_name", "are_figures", "number_in", "BANKS", "HOUR", "DAY", "LAST_MINUTE", "show_clock", "show_time", "clock_in", "time_in", "WORDS", "Book", "row_in", "read_book", "_law_feed", "_law_draw", "_law_of", "_law_names", "_law_time", "_law_rows", "_law_text"] : List PySem.Str)
theorem hrun_l (w : World) : Hd.Looks hR (PySem.W.view hR.prog [33]) 60000 hnames w := by
  intro os
  kernel_rfl
theorem hrun_0 (w : World) : Hd.Obs1 hR 5 [] hfn0 60000 w := by
  intro os
  kernel_rfl
theorem hrun_1 (w : World) : Hd.Obs1 hR 5 hfa0 [] 60000 w := by
  intro os
  kernel_rfl
theorem hrun (w : World) : HandSHeadRun.RunEq hR (PySem.W.view hR.prog [33]) hk hob 60000 hnames w := Hd.runEq_of (hrun_l w) (Hd.obsA_cons (hrun_0 w) (Hd.obsA_cons (hrun_1 w) (Hd.obsA_nil (hrun_l w))))
theorem all_mk {l : PySem.W.OpenLaw} {w : World} {K : PySem.W.Frag} {h : Heap} {mg : Str → Option Value} {fa : Addr} (X : K.In h) (G : h.Ns mainGlobals mg) (hfa_ : mg "law" = some (.ref fa)) (c : Hd.SaysL hqs K) :
    ∃ fd : FuncData, (∀ (s : Shared) (v : Value), BindsTo s fd ⟨[v], []⟩ [("_law_script", v)]) ∧ ∀ base : Heap, K.In base → base.Ns mainGlobals mg → FnG l.prog w K mg base CX0 6 fa fd ["_law_script"] (spOf K sp_law) := by
  have c0 := c ([], hfn0) (by simp [hqs])
  have cc0 := c (hfa0, []) (by simp [hqs])
  obtain ⟨fd_is_name, F_is_name⟩ := c0.def_ 0 (d := hd_is_name) rfl
  obtain ⟨fd_are_figures, F_are_figures⟩ := c0.def_ 1 (d := hd_are_figures) rfl
  obtain ⟨fd_number_in, F_number_in⟩ := c0.def_ 2 (d := hd_number_in) rfl
  obtain ⟨fd_show_clock, F_show_clock⟩ := c0.def_ 3 (d := hd_show_clock) rfl
  obtain ⟨fd_show_time, F_show_time⟩ := c0.def_ 4 (d := hd_show_time) rfl
  obtain ⟨fd_clock_in, F_clock_in⟩ := c0.def_ 5 (d := hd_clock_in) rfl
  obtain ⟨fd_time_in, F_time_in⟩ := c0.def_ 6 (d := hd_time_in) rfl
  obtain ⟨fd_Book_init, F_Book_init⟩ := c0.def_ 7 (d := hd_Book_init) rfl
  obtain ⟨fd_Book_write, F_Book_write⟩ := c0.def_ 8 (d := hd_Book_write) rfl
  obtain ⟨fd_Book_rows, F_Book_rows⟩ := c0.def_ 9 (d := hd_Book_rows) rfl
  obtain ⟨fd_Book_len, F_Book_len⟩ := c0.def_ 10 (d := hd_Book_len) rfl
  obtain ⟨fd_Book_eq, F_Book_eq⟩ := c0.def_ 11 (d := hd_Book_eq) rfl
  obtain ⟨fd_Book_str, F_Book_str⟩ := c0.def_ 12 (d := hd_Book_str) rfl
  obtain ⟨fd_row_in, F_row_in⟩ := c0.def_ 13 (d := hd_row_in) rfl
  obtain ⟨fd_read_book, F_read_book⟩ := c0.def_ 14 (d := hd_read_book) rfl
  obtain ⟨fd__law_feed, F__law_feed⟩ := c0.def_ 15 (d := hd__law_feed) rfl
  obtain ⟨fd__law_draw, F__law_draw⟩ := c0.def_ 16 (d := hd__law_draw) rfl
  obtain ⟨fd__law_of, F__law_of⟩ := c0.def_ 17 (d := hd__law_of) rfl
  obtain ⟨fd__law_names, F__law_names⟩ := c0.def_ 18 (d := hd__law_names) rfl
  obtain ⟨fd__law_time, F__law_time⟩ := c0.def_ 19 (d := hd__law_time) rfl
  obtain ⟨fd__law_rows, F__law_rows⟩ := c0.def_ 20 (d := hd__law_rows) rfl
  obtain ⟨fd__law_text, F__law_text⟩ := c0.def_ 21 (d := hd__law_text) rfl
  obtain ⟨fd_law, F_law⟩ := c0.def_ 22 (d := hd_law) rfl
  have aC_Book : PySem.W.nsIn K mainGlobals "Book" = some (some (.ref (He.ga K "Book"))) := of_decide_eq_true (cc0.fact 0 rfl)
  have a_is_name : PySem.W.nsIn K mainGlobals "is_name" = some (some (.ref (He.fAd K ("is_name", none)))) := of_decide_eq_true (cc0.fact 1 rfl)
  have a_are_figures : PySem.W.nsIn K mainGlobals "are_figures" = some (some (.ref (He.fAd K ("are_figures", none)))) := of_decide_eq_true (cc0.fact 2 rfl)
  have a_number_in : PySem.W.nsIn K mainGlobals "number_in" = some (some (.ref (He.fAd K ("number_in", none)))) := of_decide_eq_true (cc0.fact 3 rfl)
  have a_show_clock : PySem.W.nsIn K mainGlobals "show_clock" = some (some (.ref (He.fAd K ("show_clock", none)))) := of_decide_eq_true (cc0.fact 4 rfl)
  have a_show_time : PySem.W.nsIn K mainGlobals "show_time" = some (some (.ref (He.fAd K ("show_time", none)))) := of_decide_eq_true (cc0.fact 5 rfl)
  have a_clock_in : PySem.W.nsIn K mainGlobals "clock_in" = some (some (.ref (He.fAd K ("clock_in", none)))) := of_decide_eq_true (cc0.fact 6 rfl)
  have a_time_in : PySem.W.nsIn K mainGlobals "time_in" = some (some (.ref (He.fAd K ("time_in", none)))) := of_decide_eq_true (cc0.fact 7 rfl)
  have a_Book_init : PySem.W.findIn K (.ref (He.ga K "Book")) "__init__" = some (some (.ref (He.fAd K ("Book", some "__init__")))) := of_decide_eq_true (cc0.fact 8 rfl)
  have i_Book_init : PySem.W.isFn K (.ref (He.fAd K ("Book", some "__init__"))) = true := cc0.fact 9 rfl
  have a_Book_write : PySem.W.findIn K (.ref (He.ga K "Book")) "write" = some (some (.ref (He.fAd K ("Book", some "write")))) := of_decide_eq_true (cc0.fact 10 rfl)
  have i_Book_write : PySem.W.isFn K (.ref (He.fAd K ("Book", some "write"))) = true := cc0.fact 11 rfl
  have a_Book_rows : PySem.W.findIn K (.ref (He.ga K "Book")) "rows" = some (some (.ref (He.fAd K ("Book", some "rows")))) := of_decide_eq_true (cc0.fact 12 rfl)
  have i_Book_rows : PySem.W.isFn K (.ref (He.fAd K ("Book", some "rows"))) = true := cc0.fact 13 rfl
  have a_Book_len : PySem.W.findIn K (.ref (He.ga K "Book")) "__len__" = some (some (.ref (He.fAd K ("Book", some "__len__")))) := of_decide_eq_true (cc0.fact 14 rfl)
  have i_Book_len : PySem.W.isFn K (.ref (He.fAd K ("Book", some "__len__"))) = true := cc0.fact 15 rfl
  have a_Book_eq : PySem.W.findIn K (.ref (He.ga K "Book")) "__eq__" = some (some (.ref (He.fAd K ("Book", some "__eq__")))) := of_decide_eq_true (cc0.fact 16 rfl)
  have i_Book_eq : PySem.W.isFn K (.ref (He.fAd K ("Book", some "__eq__"))) = true := cc0.fact 17 rfl
  have a_Book_str : PySem.W.findIn K (.ref (He.ga K "Book")) "__str__" = some (some (.ref (He.fAd K ("Book", some "__str__")))) := of_decide_eq_true (cc0.fact 18 rfl)
  have i_Book_str : PySem.W.isFn K (.ref (He.fAd K ("Book", some "__str__"))) = true := cc0.fact 19 rfl
  have a_row_in : PySem.W.nsIn K mainGlobals "row_in" = some (some (.ref (He.fAd K ("row_in", none)))) := of_decide_eq_true (cc0.fact 20 rfl)
  have a_read_book : PySem.W.nsIn K mainGlobals "read_book" = some (some (.ref (He.fAd K ("read_book", none)))) := of_decide_eq_true (cc0.fact 21 rfl)
  have a__law_feed : PySem.W.nsIn K mainGlobals "_law_feed" = some (some (.ref (He.fAd K ("_law_feed", none)))) := of_decide_eq_true (cc0.fact 22 rfl)
  have a__law_draw : PySem.W.nsIn K mainGlobals "_law_draw" = some (some (.ref (He.fAd K ("_law_draw", none)))) := of_decide_eq_true (cc0.fact 23 rfl)
  have a__law_of : PySem.W.nsIn K mainGlobals "_law_of" = some (some (.ref (He.fAd K ("_law_of", none)))) := of_decide_eq_true (cc0.fact 24 rfl)
  have a__law_names : PySem.W.nsIn K mainGlobals "_law_names" = some (some (.ref (He.fAd K ("_law_names", none)))) := of_decide_eq_true (cc0.fact 25 rfl)
  have a__law_time : PySem.W.nsIn K mainGlobals "_law_time" = some (some (.ref (He.fAd K ("_law_time", none)))) := of_decide_eq_true (cc0.fact 26 rfl)
  have a__law_rows : PySem.W.nsIn K mainGlobals "_law_rows" = some (some (.ref (He.fAd K ("_law_rows", none)))) := of_decide_eq_true (cc0.fact 27 rfl)
  have a__law_text : PySem.W.nsIn K mainGlobals "_law_text" = some (some (.ref (He.fAd K ("_law_text", none)))) := of_decide_eq_true (cc0.fact 28 rfl)
  have a_law : PySem.W.nsIn K mainGlobals "law" = some (some (.ref (He.fAd K ("law", none)))) := of_decide_eq_true (cc0.fact 29 rfl)
  have pg_Book : PySem.W.plainGet K (He.ga K "Book") Str.empty = true := cc0.fact 30 rfl
  have hd_Book : PySem.W.hasDictIn K (He.ga K "Book") = true := cc0.fact 31 rfl
  have po_Book : PySem.W.plainOver K (He.ga K "Book") = true := cc0.fact 32 rfl
  have sa_Book : PySem.W.findIn K (.ref (He.ga K "Book")) "__setattr__" = some (some (.builtin "object.__setattr__")) := of_decide_eq_true (cc0.fact 33 rfl)
  have mk_Book : PySem.W.makesIn K (He.ga K "Book") = true := cc0.fact 34 rfl
  have kc_Book : PySem.W.keepIn K (.ref (He.ga K "Book")) = true := cc0.fact 35 rfl
  have zno_all : PySem.W.nsIn K mainGlobals "all" = some none := of_decide_eq_true (cc0.fact 36 rfl)
  have zno_divmod : PySem.W.nsIn K mainGlobals "divmod" = some none := of_decide_eq_true (cc0.fact 37 rfl)
  have zno_enumerate : PySem.W.nsIn K mainGlobals "enumerate" = some none := of_decide_eq_true (cc0.fact 38 rfl)
  have zno_int : PySem.W.nsIn K mainGlobals "int" = some none := of_decide_eq_true (cc0.fact 39 rfl)
  have zno_isinstance : PySem.W.nsIn K mainGlobals "isinstance" = some none := of_decide_eq_true (cc0.fact 40 rfl)
  have zno_len : PySem.W.nsIn K mainGlobals "len" = some none := of_decide_eq_true (cc0.fact 41 rfl)
  have zno_list : PySem.W.nsIn K mainGlobals "list" = some none := of_decide_eq_true (cc0.fact 42 rfl)
  have zno_max : PySem.W.nsIn K mainGlobals "max" = some none := of_decide_eq_true (cc0.fact 43 rfl)
  have zno_min : PySem.W.nsIn K mainGlobals "min" = some none := of_decide_eq_true (cc0.fact 44 rfl)
  have zno_range : PySem.W.nsIn K mainGlobals "range" = some none := of_decide_eq_true (cc0.fact 45 rfl)
  have zno_repr : PySem.W.nsIn K mainGlobals "repr" = some none := of_decide_eq_true (cc0.fact 46 rfl)
  have zno_str : PySem.W.nsIn K mainGlobals "str" = some none := of_decide_eq_true (cc0.fact 47 rfl)
  have zc_BANKS : PySem.W.nsIn K mainGlobals "BANKS" = some (some (.ref (He.ga K "BANKS"))) := of_decide_eq_true (cc0.fact 48 rfl)
  have kt_BANKS : Hd.kttB K (He.ga K "BANKS") ["near", "far"] = true := cc0.fact 49 rfl
  have zc_DAY : (He.Fa.int "DAY" 1440).ok K = true := cc0.fact 50 rfl
  have zc_FIGURES : (He.Fa.str "FIGURES" "0123456789").ok K = true := cc0.fact 51 rfl
  have zc_HOUR : (He.Fa.int "HOUR" 60).ok K = true := cc0.fact 52 rfl
  have zc_LAST_MINUTE : (He.Fa.int "LAST_MINUTE" 1000000).ok K = true := cc0.fact 53 rfl
  have zc_LETTERS : (He.Fa.str "LETTERS" "abcdefghijklmnopqrstuvwxyz").ok K = true := cc0.fact 54 rfl
  have zc_LONGEST_NAME : (He.Fa.int "LONGEST_NAME" 8).ok K = true := cc0.fact 55 rfl
  have zc_MOST_FIGURES : (He.Fa.int "MOST_FIGURES" 9).ok K = true := cc0.fact 56 rfl
  have zc_WORDS : PySem.W.nsIn K mainGlobals "WORDS" = some (some (.ref (He.ga K "WORDS"))) := of_decide_eq_true (cc0.fact 57 rfl)
  have kt_WORDS : Hd.kttB K (He.ga K "WORDS") ["on", "off"] = true := cc0.fact 58 rfl
  have zf_Book_bank : PySem.W.findIn K (.ref (He.ga K "Book")) "bank" = some none := of_decide_eq_true (cc0.fact 59 rfl)
  have zf_Book_kept : PySem.W.findIn K (.ref (He.ga K "Book")) "kept" = some none := of_decide_eq_true (cc0.fact 60 rfl)
  have icl_Book : PySem.W.isClsIn K (He.ga K "Book") = true := cc0.fact 61 rfl
  have ity_Book : PySem.W.typeIn K (.ref (He.ga K "Book")) = some (.type "type") := of_decide_eq_true (cc0.fact 62 rfl)
  have zkb_Book_NoneType : PySem.W.subIn K (.type "NoneType") (.ref (He.ga K "Book")) = some false := of_decide_eq_true (cc0.fact 63 rfl)
  have zkb_Book_bool : PySem.W.subIn K (.type "bool") (.ref (He.ga K "Book")) = some false := of_decide_eq_true (cc0.fact 64 rfl)
  have zkb_Book_int : PySem.W.subIn K (.type "int") (.ref (He.ga K "Book")) = some false := of_decide_eq_true (cc0.fact 65 rfl)
  have zkb_Book_str : PySem.W.subIn K (.type "str") (.ref (He.ga K "Book")) = some false := of_decide_eq_true (cc0.fact 66 rfl)
  have zkb_Book_tuple : PySem.W.subIn K (.type "tuple") (.ref (He.ga K "Book")) = some false := of_decide_eq_true (cc0.fact 67 rfl)
  have zkb_Book_list : PySem.W.subIn K (.type "list") (.ref (He.ga K "Book")) = some false := of_decide_eq_true (cc0.fact 68 rfl)
  have zkb_Book_dict : PySem.W.subIn K (.type "dict") (.ref (He.ga K "Book")) = some false := of_decide_eq_true (cc0.fact 69 rfl)
  have nbo_Book : PySem.W.findIn K (.ref (He.ga K "Book")) "__bool__" = some none := of_decide_eq_true (cc0.fact 70 rfl)
  have nne_Book : PySem.W.findIn K (.ref (He.ga K "Book")) "__ne__" = some (some (.builtin "object.__ne__")) := of_decide_eq_true (cc0.fact 71 rfl)
  have nob_Book : PySem.W.mroIn K (He.ga K "Book") (.type "object") = some true := of_decide_eq_true (cc0.fact 72 rfl)
  have ia_Book : PySem.W.findIn K (.ref (He.ga K "Book")) "__class__" = some (some (.builtin "object.__class__")) := of_decide_eq_true (cc0.fact 73 rfl)
  have in_Book : PySem.W.specialIn K (.builtin "object.__class__") "__get__" = some (some (.builtin "getset_descriptor.__get__")) := of_decide_eq_true (cc0.fact 74 rfl)
  have it_Book : PySem.W.takesIn K (.builtin "object.__class__") = some true := of_decide_eq_true (cc0.fact 75 rfl)
  have im_Book : PySem.W.mroIn K (He.ga K "Book") (.type "object") = some true := of_decide_eq_true (cc0.fact 72 rfl)
  have T : Txt K mg ⟨(He.ga K "Book"), (He.ga K "BANKS"), (He.ga K "WORDS")⟩ := ⟨⟨(He.fAd K ("is_name", none)), fd_is_name, F_is_name, PySem.W.mg_of X G a_is_name⟩, ⟨(He.fAd K ("are_figures", none)), fd_are_figures, F_are_figures, PySem.W.mg_of X G a_are_figures⟩, ⟨(He.fAd K ("number_in", none)), fd_number_in, F_number_in, PySem.W.mg_of X G a_number_in⟩, ⟨(He.fAd K ("show_clock", none)), fd_show_clock, F_show_clock, PySem.W.mg_of X G a_show_clock⟩, ⟨(He.fAd K ("show_time", none)), fd_show_time, F_show_time, PySem.W.mg_of X G a_show_time⟩, ⟨(He.fAd K ("clock_in", none)), fd_clock_in, F_clock_in, PySem.W.mg_of X G a_clock_in⟩, ⟨(He.fAd K ("time_in", none)), fd_time_in, F_time_in, PySem.W.mg_of X G a_time_in⟩, ⟨(He.fAd K ("Book", some "__init__")), fd_Book_init, F_Book_init, ⟨mk_Book, a_Book_init, i_Book_init, kc_Book⟩⟩, ⟨(He.fAd K ("Book", some "write")), fd_Book_write, F_Book_write, ⟨a_Book_write, i_Book_write, F_Book_write.kp⟩⟩, ⟨(He.fAd K ("Book", some "rows")), fd_Book_rows, F_Book_rows, ⟨a_Book_rows, i_Book_rows, F_Book_rows.kp⟩⟩, ⟨(He.fAd K ("Book", some "__len__")), fd_Book_len, F_Book_len, ⟨a_Book_len, i_Book_len, F_Book_len.kp⟩⟩, ⟨(He.fAd K ("Book", some "__eq__")), fd_Book_eq, F_Book_eq, ⟨a_Book_eq, i_Book_eq, F_Book_eq.kp⟩⟩, ⟨(He.fAd K ("Book", some "__str__")), fd_Book_str, F_Book_str, ⟨a_Book_str, i_Book_str, F_Book_str.kp⟩⟩, ⟨(He.fAd K ("row_in", none)), fd_row_in, F_row_in, PySem.W.mg_of X G a_row_in⟩, ⟨(He.fAd K ("read_book", none)), fd_read_book, F_read_book, PySem.W.mg_of X G a_read_book⟩, ⟨(He.fAd K ("_law_feed", none)), fd__law_feed, F__law_feed, PySem.W.mg_of X G a__law_feed⟩, ⟨(He.fAd K ("_law_draw", none)), fd__law_draw, F__law_draw, PySem.W.mg_of X G a__law_draw⟩, ⟨(He.fAd K ("_law_of", none)), fd__law_of, F__law_of, PySem.W.mg_of X G a__law_of⟩, ⟨(He.fAd K ("_law_names", none)), fd__law_names, F__law_names, PySem.W.mg_of X G a__law_names⟩, ⟨(He.fAd K ("_law_time", none)), fd__law_time, F__law_time, PySem.W.mg_of X G a__law_time⟩, ⟨(He.fAd K ("_law_rows", none)), fd__law_rows, F__law_rows, PySem.W.mg_of X G a__law_rows⟩, ⟨(He.fAd K ("_law_text", none)), fd__law_text, F__law_text, PySem.W.mg_of X G a__law_text⟩, ⟨(He.fAd K ("law", none)), fd_law, F_law, PySem.W.mg_of X G a_law⟩, PySem.W.mg_of X G aC_Book, ⟨pg_Book, hd_Book, po_Book, sa_Book⟩, PySem.W.mg_none_of X G zno_all, PySem.W.mg_none_of X G zno_divmod, PySem.W.mg_none_of X G zno_enumerate, PySem.W.mg_none_of X G zno_int, PySem.W.mg_none_of X G zno_isinstance, PySem.W.mg_none_of X G zno_len, PySem.W.mg_none_of X G zno_list, PySem.W.mg_none_of X G zno_max, PySem.W.mg_none_of X G zno_min, PySem.W.mg_none_of X G zno_range, PySem.W.mg_none_of X G zno_repr, PySem.W.mg_none_of X G zno_str, PySem.W.mg_of X G zc_BANKS, ⟨Hd.kttB_ok kt_BANKS⟩, He.int_ok X G zc_DAY, He.str_ok X G zc_FIGURES, He.int_ok X G zc_HOUR, He.int_ok X G zc_LAST_MINUTE, He.str_ok X G zc_LETTERS, He.int_ok X G zc_LONGEST_NAME, He.int_ok X G zc_MOST_FIGURES, PySem.W.mg_of X G zc_WORDS, ⟨Hd.kttB_ok kt_WORDS⟩, ⟨⟨pg_Book, hd_Book, po_Book, sa_Book⟩, zf_Book_bank⟩, ⟨⟨pg_Book, hd_Book, po_Book, sa_Book⟩, zf_Book_kept⟩, ⟨by intro b hb; simp only [basicT, List.mem_cons, List.not_mem_nil, or_false] at hb; rcases hb with rfl | rfl | rfl | rfl | rfl | rfl | rfl; exact kit_mk icl_Book ity_Book zkb_Book_NoneType rfl; exact kit_mk icl_Book ity_Book zkb_Book_bool rfl; exact kit_mk icl_Book ity_Book zkb_Book_int rfl; exact kit_mk icl_Book ity_Book zkb_Book_str rfl; exact kit_mk icl_Book ity_Book zkb_Book_tuple rfl; exact kit_mk icl_Book ity_Book zkb_Book_list rfl; exact kit_mk icl_Book ity_Book zkb_Book_dict rfl⟩, ⟨kit_same⟩, ⟨nbo_Book⟩, ⟨nne_Book, nob_Book⟩, ⟨⟨pg_Book, hd_Book, po_Book, sa_Book⟩, ia_Book, in_Book, it_Book, im_Book⟩⟩
  obtain ⟨f0, fd, F, hm⟩ := T.b_law
  have e := hfa_.symm.trans hm
  cases e
  refine ⟨fd, fun s v => ?_, fun base _ _ => fn_body0 F sc_law (by intro ds S q h; first | (cases h with | inl h => (first | (obtain ⟨rfl, _⟩ := h; rfl) | (obtain ⟨_, _, _, _, ⟨_, _, rfl, _⟩, _⟩ := h; rfl) | (obtain ⟨_, rfl, _⟩ := h; rfl) | (obtain ⟨_, _, rfl, _⟩ := h; rfl) | (obtain ⟨_, _, _, rfl, _⟩ := h; rfl) | (obtain ⟨_, _, _, _, rfl, _⟩ := h; rfl) | (obtain ⟨_, _, _, _, _, rfl, _⟩ := h; rfl) | (obtain ⟨_, _, _, _, _, _, rfl, _⟩ := h; rfl) | (obtain ⟨_, _, _, _, _, _, _, rfl, _⟩ := h; rfl) | (obtain ⟨_, _, _, _, _, _, _, _, rfl, _⟩ := h; rfl) | (obtain ⟨_, _, _, _, _, _, _, _, _, rfl, _⟩ := h; rfl) | (obtain ⟨_, _, _, _, _, _, _, _, _, _, rfl, _⟩ := h; rfl) | (obtain ⟨_, _, _, _, _, _, _, _, _, _, _, rfl, _⟩ := h; rfl) | (obtain ⟨_, _, _, _, _, _, _, _, _, _, _, _, rfl, _⟩ := h; rfl) | (obtain ⟨_, _, _, _, _, _, _, _, _, _, _, _, _, rfl, _⟩ := h; rfl) | exact Mt.tk_len rfl h | (obtain ⟨_, h⟩ := h; exact Mt.tk_len rfl h) | (obtain ⟨_, _, h⟩ := h; exact Mt.tk_len rfl h) | (obtain ⟨_, _, _, h⟩ := h; exact Mt.tk_len rfl h) | (obtain ⟨_, _, _, _, h⟩ := h; exact Mt.tk_len rfl h) | (obtain ⟨_, _, _, _, _, h⟩ := h; exact Mt.tk_len rfl h) | (obtain ⟨_, _, _, _, _, _, h⟩ := h; exact Mt.tk_len rfl h) | (obtain ⟨_, _, _, _, _, _, _, h⟩ := h; exact Mt.tk_len rfl h) | (obtain ⟨_, _, _, _, _, _, _, _, h⟩ := h; exact Mt.tk_len rfl h) | (obtain ⟨_, _, _, _, _, _, _, _, _, h⟩ := h; exact Mt.tk_len rfl h) | (obtain ⟨_, _, _, _, _, _, _, _, _, _, h⟩ := h; exact Mt.tk_len rfl h) | (obtain ⟨_, _, _, _, _, _, _, _, _, _, _, h⟩ := h; exact Mt.tk_len rfl h) | (obtain ⟨_, _, _, _, _, _, _, _, _, _, _, _, h⟩ := h; exact Mt.tk_len rfl h) | (obtain ⟨_, _, _, _, _, _, _, _, _, _, _, _, _, h⟩ := h; exact Mt.tk_len rfl h) | (obtain ⟨_, _, _, _, _, _, _, _, _, _, _, _, _, _, h⟩ := h; exact Mt.tk_len rfl h) | (obtain ⟨_, _, _, _, _, _, _, _, _, _, _, _, _, _, _, h⟩ := h; exact Mt.tk_len rfl h)) | inr h => (first | (obtain ⟨rfl, _⟩ := h; rfl) | (obtain ⟨_, _, _, _, ⟨_, _, rfl, _⟩, _⟩ := h; rfl) | (obtain ⟨_, rfl, _⟩ := h; rfl) | (obtain ⟨_, _, rfl, _⟩ := h; rfl) | (obtain ⟨_, _, _, rfl, _⟩ := h; rfl) | (obtain ⟨_, _, _, _, rfl, _⟩ := h; rfl) | (obtain ⟨_, _, _, _, _, rfl, _⟩ := h; rfl) | (obtain ⟨_, _, _, _, _, _, rfl, _⟩ := h; rfl) | (obtain ⟨_, _, _, _, _, _, _, rfl, _⟩ := h; rfl) | (obtain ⟨_, _, _, _, _, _, _, _, rfl, _⟩ := h; rfl) | (obtain ⟨_, _, _, _, _, _, _, _, _, rfl, _⟩ := h; rfl) | (obtain ⟨_, _, _, _, _, _, _, _, _, _, rfl, _⟩ := h; rfl) | (obtain ⟨_, _, _, _, _, _, _, _, _, _, _, rfl, _⟩ := h; rfl) | (obtain ⟨_, _, _, _, _, _, _, _, _, _, _, _, rfl, _⟩ := h; rfl) | (obtain ⟨_, _, _, _, _, _, _, _, _, _, _, _, _, rfl, _⟩ := h; rfl) | exact Mt.tk_len rfl h | (obtain ⟨_, h⟩ := h; exact Mt.tk_len rfl h) | (obtain ⟨_, _, h⟩ := h; exact Mt.tk_len rfl h) | (obtain ⟨_, _, _, h⟩ := h; exact Mt.tk_len rfl h) | (obtain ⟨_, _, _, _, h⟩ := h; exact Mt.tk_len rfl h) | (obtain ⟨_, _, _, _, _, h⟩ := h; exact Mt.tk_len rfl h) | (obtain ⟨_, _, _, _, _, _, h⟩ := h; exact Mt.tk_len rfl h) | (obtain ⟨_, _, _, _, _, _, _, h⟩ := h; exact Mt.tk_len rfl h) | (obtain ⟨_, _, _, _, _, _, _, _, h⟩ := h; exact Mt.tk_len rfl h) | (obtain ⟨_, _, _, _, _, _, _, _, _, h⟩ := h; exact Mt.tk_len rfl h) | (obtain ⟨_, _, _, _, _, _, _, _, _, _, h⟩ := h; exact Mt.tk_len rfl h) | (obtain ⟨_, _, _, _, _, _, _, _, _, _, _, h⟩ := h; exact Mt.tk_len rfl h) | (obtain ⟨_, _, _, _, _, _, _, _, _, _, _, _, h⟩ := h; exact Mt.tk_len rfl h) | (obtain ⟨_, _, _, _, _, _, _, _, _, _, _, _, _, h⟩ := h; exact Mt.tk_len rfl h) | (obtain ⟨_, _, _, _, _, _, _, _, _, _, _, _, _, _, h⟩ := h; exact Mt.tk_len rfl h) | (obtain ⟨_, _, _, _, _, _, _, _, _, _, _, _, _, _, _, h⟩ := h; exact Mt.tk_len rfl h))) | (first | (obtain ⟨rfl, _⟩ := h; rfl) | (obtain ⟨_, _, _, _, ⟨_, _, rfl, _⟩, _⟩ := h; rfl) | (obtain ⟨_, rfl, _⟩ := h; rfl) | (obtain ⟨_, _, rfl, _⟩ := h; rfl) | (obtain ⟨_, _, _, rfl, _⟩ := h; rfl) | (obtain ⟨_, _, _, _, rfl, _⟩ := h; rfl) | (obtain ⟨_, _, _, _, _, rfl, _⟩ := h; rfl) | (obtain ⟨_, _, _, _, _, _, rfl, _⟩ := h; rfl) | (obtain ⟨_, _, _, _, _, _, _, rfl, _⟩ := h; rfl) | (obtain ⟨_, _, _, _, _, _, _, _, rfl, _⟩ := h; rfl) | (obtain ⟨_, _, _, _, _, _, _, _, _, rfl, _⟩ := h; rfl) | (obtain ⟨_, _, _, _, _, _, _, _, _, _, rfl, _⟩ := h; rfl) | (obtain ⟨_, _, _, _, _, _, _, _, _, _, _, rfl, _⟩ := h; rfl) | (obtain ⟨_, _, _, _, _, _, _, _, _, _, _, _, rfl, _⟩ := h; rfl) | (obtain ⟨_, _, _, _, _, _, _, _, _, _, _, _, _, rfl, _⟩ := h; rfl) | exact Mt.tk_len rfl h | (obtain ⟨_, h⟩ := h; exact Mt.tk_len rfl h) | (obtain ⟨_, _, h⟩ := h; exact Mt.tk_len rfl h) | (obtain ⟨_, _, _, h⟩ := h; exact Mt.tk_len rfl h) | (obtain ⟨_, _, _, _, h⟩ := h; exact Mt.tk_len rfl h) | (obtain ⟨_, _, _, _, _, h⟩ := h; exact Mt.tk_len rfl h) | (obtain ⟨_, _, _, _, _, _, h⟩ := h; exact Mt.tk_len rfl h) | (obtain ⟨_, _, _, _, _, _, _, h⟩ := h; exact Mt.tk_len rfl h) | (obtain ⟨_, _, _, _, _, _, _, _, h⟩ := h; exact Mt.tk_len rfl h) | (obtain ⟨_, _, _, _, _, _, _, _, _, h⟩ := h; exact Mt.tk_len rfl h) | (obtain ⟨_, _, _, _, _, _, _, _, _, _, h⟩ := h; exact Mt.tk_len rfl h) | (obtain ⟨_, _, _, _, _, _, _, _, _, _, _, h⟩ := h; exact Mt.tk_len rfl h) | (obtain ⟨_, _, _, _, _, _, _, _, _, _, _, _, h⟩ := h; exact Mt.tk_len rfl h) | (obtain ⟨_, _, _, _, _, _, _, _, _, _, _, _, _, h⟩ := h; exact Mt.tk_len rfl h) | (obtain ⟨_, _, _, _, _, _, _, _, _, _, _, _, _, _, h⟩ := h; exact Mt.tk_len rfl h) | (obtain ⟨_, _, _, _, _, _, _, _, _, _, _, _, _, _, _, h⟩ := h; exact Mt.tk_len rfl h))) (g_law K ⟨(He.ga K "Book"), (He.ga K "BANKS"), (He.ga K "WORDS")⟩) (fun cdv A outer s H E hr => t_law T (ok_Book_eq T) (ok_Book_init T) (ok_Book_len T) (ok_Book_str T) (ok_Book_rows T) (ok_Book_write T) (ok__law_draw T) (ok__law_feed T) (ok__law_names T) (ok__law_of T) (ok__law_rows T) (ok__law_text T) (ok_read_book T) hr) (fun ds S q _ _ h => r_law T ds S q h)⟩
  obtain ⟨oc, od, dV, kV, doc, pm, an, cdv, ct, osl, rfl, lk, hcd, df, kw⟩ := F.ex
  rcases df with ⟨_, rfl⟩ | ⟨z, _⟩
  · exact .of_eq rfl
  · exact absurd rfl z
theorem start_law {K : PySem.W.Frag} {H : Hp} {a : Addr} {ns : List Int} (hS : SqL K H a (ns.map V.int)) : spOf K sp_law [.ref a] H (fun v _ => v = .bl true) fun _ _ _ => False := by
  have hv : ∀ b o, H b = some o → vis (fun _ => a) [] (fun _ => False) H b = some o := fun b o e => vis_of e (fun z => z) fun n ⟨o, l⟩ => by simp at l
  refine ⟨fun _ => a, [], fun _ => False, [.ksq (ns.map .int)], fun d _ => d = .bl true, Wd0.u0 ⟨fun i j ⟨o, l⟩ => by simp at l, fun i ⟨o, l⟩ => by simp at l, fun b z => z.elim, fun i o l => by simp at l⟩, ?_, ⟨ns, rfl, rfl, fun _ => rfl⟩, ?_⟩
  · exact Reps.one (by rw [Rep]; exact ⟨a, _, rfl, SqL.sub hv hS, Reps.ofInts ns⟩)
  · intro v H' m' d S' e w r hd
    subst hd
    exact r
end Lw
open PySem PySem.W PySem.Calls PyProof.Rows in
set_option maxRecDepth 100000 in
set_option maxHeartbeats 0 in
theorem PySem.Challenge.cw_boatbridge_k69_books_written_and_read_holds : PySem.Challenge.rw_boatbridge_k69_books_written_and_read.Holds := by
  w_on; o_law
  refine HandSHeadRun.head_any (r := OpenLaw.row PySem.Challenge.rw_boatbridge_k69_books_written_and_read) (q := view (OpenLaw.row PySem.Challenge.rw_boatbridge_k69_books_written_and_read).prog [33]) (H := Lw.hk) (ob := Lw.hob) (M := 60000) (loose := Lw.hnames) (d := HandSHeadRun.topDef (OpenLaw.row PySem.Challenge.rw_boatbridge_k69_books_written_and_read).prog 33) (kwd := []) Lw.hob_eq
    (by kernel_rfl) (fun s => by kernel_rfl) Lw.hrun (by kernel_rfl) (by kernel_rfl) (by kernel_rfl) (by rfl) (by first | assumption | decide +kernel) (by decide +kernel) ⟨rfl, rfl, rfl, rfl, rfl, by decide +kernel⟩ ?hw ?hc
  case hw => w_witness2
  case hc =>
    refine Hd.walk_ofQ (l := PySem.Challenge.rw_boatbridge_k69_books_written_and_read) (n := 63) (k := 6) (x := "_law_script") (sp := fun K => Dl.spOf K Lw.sp_law) rfl (by decide) (by kernel_rfl) ⟨rfl, by decide, by decide⟩ ?F (fun K H a ns hl _ hS => Lw.start_law hS)
    intro w mg fa h Y G hmg0
    obtain ⟨K, KX, c⟩ := Y
    have hmg : mg ("law" : PySem.Str) = some (.ref fa) := by
      have e : (HandSHeadRun.topDef (OpenLaw.row PySem.Challenge.rw_boatbridge_k69_books_written_and_read).prog 33).name = ("law" : PySem.Str) := by kernel_rfl
      rw [← e]
      exact hmg0
    obtain ⟨fd, hb, hF⟩ := Lw.all_mk (l := PySem.Challenge.rw_boatbridge_k69_books_written_and_read) (w := w) KX G hmg c
    exact ⟨K, fd, KX, hb, hF⟩
#print axioms PySem.Challenge.cw_boatbridge_k69_books_written_and_read_holds
