import PyProof.Rows.All
import Wide.All
import OpenK.AllK
import Wide.FinOn
import HandS.ForMost
import HandS.Lambda
import HandS.TupAny
import HandS.Codes
import HandS.Flow
import HandS.Defaults
import HandS.MakeKw
import HandS.ExcOwn
import HandS.Wide
import HandS.FStr
import HandS.StrMore
import HandS.IsInst
import HandS.Small
import HandS.Style
import KE.SortData
import KE.DataFind
import OpenK.KOps
import HandS.OwnEq
import PyProof.InstEq
import HandS.Sort
import HandS.More
import PyProof.ReprRoads
import PyProof.StrLawsRepr
import HandS.IntHex
import HandS.Exc
import HandS.ListItems
import HandS.TryOnly
import HandS.SortKw
import KE.DataMinMax
import KE.KDictItemsList
import HandS.Deep
import HandS.ExcInit
import HandS.ExcSuper
import HandS.ExcBuiltin
import HandS.ExcField
import KE.KExcIs
import HandS.WordsExc
import HandS.ExcIs
import PyProof.ExcBaseAll.NotImplementedError
import PyProof.ExcBaseAll.OverflowError
import PyProof.ExcBaseAll.ArithmeticError
import PyProof.ExcBaseAll.TypeError
import PyProof.ExcBaseAll.ValueError
import PyProof.ExcBaseAll.ZeroDivisionError
import PyProof.ExcBaseAll.RuntimeError
import PyProof.ExcBaseAll.Exception
import PyProof.ExcBaseAll.IndexError
import PyProof.ExcBaseAll.LookupError
import HandS.Nested
import KE.SortKeyHeap
import KE.KNestM
import KE.KStateDown
import HandS.Head0
import HandS.Head1
import HandS.Head2
import HandS.HeadEnd
import HandS.HeadHook1
import HandS.HeadHook2
import HandS.HeadHook4
import HandS.EndTab
import PySem.Challenge.RW_boatbridge_k07_whole_stretches_part_the
set_option Elab.async false
set_option linter.all false
set_option maxRecDepth 100000
set_option maxHeartbeats 4000000
namespace Dl
open PySem L2
/-- an exception's class: an own one, a built-in one -/
inductive XC where
  | own (C : Addr) | blt (n : String)
  deriving DecidableEq
def XC.val : XC → Value
  | .own C => .ref C
  | .blt n => .type n
/-- plain data -/
inductive D where
  | non | bl (b : Bool) | int (i : Int) | str (x : Str)
  | tup (ds : List D) | lst (ds : List D) | ksq (ds : List D)
  | obj (C : Addr) (ks : List Str) (ds : List D)
  | dic (ks : List Key) (ds : List D)
  | loc (n : Nat) | ref (a : Addr) | ty (n : String)
  | exc (c : XC) (ks : List Str) (ds : List D)
/-- mutable objects -/
inductive MO where
  | lst (ds : List D)
  | obj (C : Addr) (ks : List Str) (ds : List D)
  | dic (ks : List Key) (ds : List D)
  | dicT (ks : List (List Key)) (ds : List D)
abbrev Sto := List (Option MO)
abbrev Env_ := List (Option D)
/-- an exception's object that is kept -/
def excO (cls : Value) (d : Option Addr) (a : Addr) : HO := .ext fun h => ∃ (oe : Obj) (vs : Array Value), h.get? a = some oe ∧ oe.cls = cls ∧ oe.dict = d ∧ oe.data = .fields vs
/-- its fields -/
def Xd (Hv : Hp) (d : Option Addr) (fs : List (Str × V)) : Prop := match d with
  | some dd => Hv dd = some (.xd fs)
  | none => fs = []
theorem Xd.sub {H H' : Hp} {d : Option Addr} {fs : List (Str × V)} (h : ∀ a o, H a = some o → H' a = some o) (r : Xd H d fs) : Xd H' d fs := by
  cases d with
  | none => exact r
  | some dd => exact h _ _ r
section
variable (K : PySem.W.Frag) (m : Nat → Addr) (N : Nat) (Hv : Hp)
mutual
def Rep : D → V → Prop
  | .non, v => v = .non
  | .bl b, v => v = .bl b
  | .int i, v => v = .int i
  | .str x, v => v = .str x
  | .tup ds, v => ∃ a vs, v = .ref a ∧ SqT K Hv a vs ∧ Reps ds vs
  | .lst ds, v => ∃ a vs, v = .ref a ∧ Hv a = some (.lst vs) ∧ Reps ds vs
  | .ksq ds, v => ∃ a vs, v = .ref a ∧ SqL K Hv a vs ∧ Reps ds vs
  | .obj C ks ds, v => ∃ a dx vs, v = .ref a ∧ Hv a = some (.ins C dx (ks.zip vs)) ∧ ks.length = vs.length ∧ Reps ds vs
  | .dic ks ds, v => ∃ a vs, v = .ref a ∧ Hv a = some (.dK (ks.zip vs)) ∧ ks.length = vs.length ∧ Reps ds vs
  | .loc n, v => v = .ref (m n) ∧ n < N
  | .ref a, v => v = .ref a
  | .ty n, v => v = .ty n
  | .exc c ks ds, v => ∃ a dd vs, v = .ref a ∧ Hv a = some (excO c.val dd a) ∧ Xd Hv dd (ks.zip vs) ∧ ks.length = vs.length ∧ Reps ds vs
def Reps : List D → List V → Prop
  | [], vs => vs = []
  | d :: ds, vs => ∃ v r, vs = v :: r ∧ Rep d v ∧ Reps ds r
end
end
theorem SqT.sub {K : PySem.W.Frag} {H H' : Hp} {a : Addr} {vs : List V} (h : ∀ a o, H a = some o → H' a = some o) (r : SqT K H a vs) : SqT K H' a vs := by
  rcases r with (r | ⟨o, r⟩) | r
  · exact .inl (.inl (h _ _ r))
  · exact .inl (.inr ⟨o, h _ _ r⟩)
  · exact .inr r
theorem SqL.sub {K : PySem.W.Frag} {H H' : Hp} {a : Addr} {vs : List V} (h : ∀ a o, H a = some o → H' a = some o) (r : SqL K H a vs) : SqL K H' a vs := by
  rcases r with (r | ⟨o, r⟩) | r
  · exact .inl (.inl (h _ _ r))
  · exact .inl (.inr ⟨o, h _ _ r⟩)
  · exact .inr r
section
variable {K : PySem.W.Frag} {m m' : Nat → Addr} {N N' : Nat} {H H' : Hp}
mutual
theorem Rep.mono (hm : ∀ i, i < N → m' i = m i) (hN : N ≤ N') (hh : ∀ a o, H a = some o → H' a = some o) : ∀ {d : D} {v : V}, Rep K m N H d v → Rep K m' N' H' d v
  | .non, _, r => r
  | .bl _, _, r => r
  | .int _, _, r => r
  | .str _, _, r => r
  | .tup ds, _, r => by
    obtain ⟨a, vs, e, s, q⟩ := r
    exact ⟨a, vs, e, SqT.sub hh s, Reps.mono hm hN hh q⟩
  | .lst ds, _, r => by
    obtain ⟨a, vs, e, s, q⟩ := r
    exact ⟨a, vs, e, hh _ _ s, Reps.mono hm hN hh q⟩
  | .ksq ds, _, r => by
    obtain ⟨a, vs, e, s, q⟩ := r
    exact ⟨a, vs, e, SqL.sub hh s, Reps.mono hm hN hh q⟩
  | .obj C ks ds, _, r => by
    obtain ⟨a, dx, vs, e, s, l, q⟩ := r
    exact ⟨a, dx, vs, e, hh _ _ s, l, Reps.mono hm hN hh q⟩
  | .dic ks ds, _, r => by
    obtain ⟨a, vs, e, s, l, q⟩ := r
    exact ⟨a, vs, e, hh _ _ s, l, Reps.mono hm hN hh q⟩
  | .loc n, _, r => ⟨by rw [r.1, hm n r.2], Nat.lt_of_lt_of_le r.2 hN⟩
  | .ref _, _, r => r
  | .ty _, _, r => r
  | .exc c ks ds, _, r => by
    obtain ⟨a, dd, vs, e, s, x, l, q⟩ := r
    exact ⟨a, dd, vs, e, hh _ _ s, x.sub hh, l, Reps.mono hm hN hh q⟩
theorem Reps.mono (hm : ∀ i, i < N → m' i = m i) (hN : N ≤ N') (hh : ∀ a o, H a = some o → H' a = some o) : ∀ {ds : List D} {vs : List V}, Reps K m N H ds vs → Reps K m' N' H' ds vs
  | [], _, r => r
  | d :: ds, _, r => by
    obtain ⟨v, q, e, r1, r2⟩ := r
    exact ⟨v, q, e, Rep.mono hm hN hh r1, Reps.mono hm hN hh r2⟩
end
theorem Reps.len : ∀ {ds : List D} {vs : List V}, Reps K m N H ds vs → vs.length = ds.length
  | [], _, r => by rw [show _ = [] from r]; rfl
  | d :: ds, _, r => by
    obtain ⟨v, q, e, r1, r2⟩ := r
    rw [e, List.length_cons, List.length_cons, Reps.len r2]
theorem Reps.get : ∀ {ds : List D} {vs : List V} {i : Nat} {d : D}, Reps K m N H ds vs → ds[i]? = some d → ∃ v, vs[i]? = some v ∧ Rep K m N H d v
  | [], _, _, _, _, e => by simp at e
  | d :: ds, _, 0, _, r, e => by
    obtain ⟨v, q, e1, r1, r2⟩ := r
    rw [List.getElem?_cons_zero] at e
    cases e
    exact ⟨v, by rw [e1]; rfl, r1⟩
  | d :: ds, _, i + 1, _, r, e => by
    obtain ⟨v, q, e1, r1, r2⟩ := r
    rw [List.getElem?_cons_succ] at e
    obtain ⟨w, h1, h2⟩ := Reps.get r2 e
    exact ⟨w, by rw [e1, List.getElem?_cons_succ]; exact h1, h2⟩
theorem Reps.append : ∀ {ds es : List D} {vs ws : List V}, Reps K m N H ds vs → Reps K m N H es ws → Reps K m N H (ds ++ es) (vs ++ ws)
  | [], _, _, _, r, s => by rw [show _ = [] from r]; exact s
  | d :: ds, _, _, _, r, s => by
    obtain ⟨v, q, e1, r1, r2⟩ := r
    rw [e1]
    exact ⟨v, _, rfl, r1, Reps.append r2 s⟩
theorem Reps.nil : Reps K m N H [] [] := rfl
theorem Reps.one {d : D} {v : V} (r : Rep K m N H d v) : Reps K m N H [d] [v] := ⟨v, [], rfl, r, rfl⟩
theorem Reps.cons {d : D} {v : V} {ds : List D} {vs : List V} (r : Rep K m N H d v) (s : Reps K m N H ds vs) : Reps K m N H (d :: ds) (v :: vs) := ⟨v, vs, rfl, r, s⟩
theorem Reps.take : ∀ {ds : List D} {vs : List V} (n : Nat), Reps K m N H ds vs → Reps K m N H (ds.take n) (vs.take n)
  | [], _, n, r => by rw [show _ = [] from r]; simp [Reps]
  | d :: ds, _, 0, r => by simp [Reps]
  | d :: ds, _, n + 1, r => by
    obtain ⟨v, q, e1, r1, r2⟩ := r
    rw [e1]
    exact ⟨v, _, rfl, r1, Reps.take n r2⟩
theorem Reps.drop : ∀ {ds : List D} {vs : List V} (n : Nat), Reps K m N H ds vs → Reps K m N H (ds.drop n) (vs.drop n)
  | [], _, n, r => by rw [show _ = [] from r]; simp [Reps]
  | d :: ds, _, 0, r => r
  | d :: ds, _, n + 1, r => by
    obtain ⟨v, q, e1, r1, r2⟩ := r
    rw [e1]
    exact Reps.drop n r2
theorem Reps.set : ∀ {ds : List D} {vs : List V} (n : Nat) {d : D} {v : V}, Reps K m N H ds vs → Rep K m N H d v → Reps K m N H (ds.set n d) (vs.set n v)
  | [], _, n, _, _, r, _ => by rw [show _ = [] from r]; simp [Reps]
  | d :: ds, _, 0, _, _, r, s => by
    obtain ⟨v, q, e1, r1, r2⟩ := r
    rw [e1]
    exact ⟨_, _, rfl, s, r2⟩
  | d :: ds, _, n + 1, _, _, r, s => by
    obtain ⟨v, q, e1, r1, r2⟩ := r
    rw [e1]
    exact ⟨v, _, rfl, r1, Reps.set n r2 s⟩
theorem Reps.rev : ∀ {ds : List D} {vs : List V}, Reps K m N H ds vs → Reps K m N H ds.reverse vs.reverse
  | [], _, r => by rw [show _ = [] from r]; simp [Reps]
  | d :: ds, _, r => by
    obtain ⟨v, q, e1, r1, r2⟩ := r
    rw [e1, List.reverse_cons, List.reverse_cons]
    exact (Reps.rev r2).append (Reps.one r1)
/-- ints, texts -/
theorem Reps.ints : ∀ {ns : List Int} {vs : List V}, Reps K m N H (ns.map D.int) vs → vs = ns.map V.int
  | [], _, r => r
  | n :: ns, _, r => by
    obtain ⟨v, q, e1, r1, r2⟩ := r
    rw [e1, show v = V.int n from r1, Reps.ints r2]
    rfl
theorem Reps.ofInts : ∀ (ns : List Int), Reps K m N H (ns.map D.int) (ns.map V.int)
  | [] => rfl
  | n :: ns => ⟨_, _, rfl, rfl, Reps.ofInts ns⟩
end
def markOf (p : Addr × Obj) : Option (Addr × Addr × Str) := match p.2.cls, p.2.data with
  | .type n, .fields vs => if n = "#lam" then (match vs.toList with
    | [.ref c, .ref P, .str q _] => some (c, P, q)
    | _ => none) else none
  | _, _ => none
def tabsOf (K : PySem.W.Frag) : List (Addr × Addr × Str) := K.filterMap markOf
def Marked (K : PySem.W.Frag) (P : Addr) : Prop := ∃ c q, (c, P, q) ∈ tabsOf K
structure TbOk (K : PySem.W.Frag) (Z : Addr → Prop) (H : Hp) : Prop where
  z : ∀ P, Marked K P → Z P
  t : ∀ c P q, (c, P, q) ∈ tabsOf K → LamX.TabS H P q
  n : ∀ P ps, H P = some (.tbl ps) → Marked K P
theorem TbOk.none {K : PySem.W.Frag} {Z : Addr → Prop} {H : Hp} (h : tabsOf K = []) (hn : ∀ P ps, H P ≠ some (.tbl ps)) : TbOk K Z H := ⟨fun P ⟨c, q, m⟩ => absurd m (by rw [h]; exact List.not_mem_nil), fun c P q m => absurd m (by rw [h]; exact List.not_mem_nil), fun P ps e => absurd e (hn P ps)⟩
/-- what may be written and no table minds -/
def NoTb (o : Option HO) : Prop := (∀ ps, o ≠ some (.tbl ps)) ∧ ∀ c q, o ≠ some (LamX.CodeO c q)
theorem tabS_upd {H : Hp} {P p : Addr} {q : Str} {o : HO} (t : LamX.TabS H P q) (hp : NoTb (H p)) : LamX.TabS (upd H p o) P q := by
  obtain ⟨ps, h1, h2, h3⟩ := t
  have e1 : P ≠ p := fun e => hp.1 ps (by rw [← e]; exact h1)
  refine ⟨ps, by rw [upd_ne e1]; exact h1, h2, fun pos cv hc => ?_⟩
  obtain ⟨c, e2, e3⟩ := h3 pos cv hc
  exact ⟨c, e2, by rw [upd_ne (fun e => hp.2 c q (by rw [← e]; exact e3))]; exact e3⟩
theorem noTb_none {o : Option HO} (h : o = none) : NoTb o := ⟨fun _ => by rw [h]; exact (by intro z; cases z), fun _ _ => by rw [h]; exact (by intro z; cases z)⟩
theorem noTb_lst {o : Option HO} {vs : List V} (h : o = some (.lst vs)) : NoTb o := ⟨fun _ => by rw [h]; exact (by intro z; cases z), fun _ _ => by rw [h]; unfold LamX.CodeO; exact (by intro z; cases z)⟩
theorem TbOk.upd {K : PySem.W.Frag} {Z : Addr → Prop} {H : Hp} {p : Addr} {o : HO} (t : TbOk K Z H) (hp : NoTb (H p)) (ho : ∀ ps, o ≠ .tbl ps) : TbOk K Z (upd H p o) := ⟨t.z, fun c P q m => tabS_upd (t.t c P q m) hp, fun P ps e => by
  by_cases h : P = p
  · rw [h, upd_same] at e
    exact absurd (Option.some.inj e) (ho ps)
  · rw [upd_ne h] at e
    exact t.n P ps e⟩
theorem TbOk.hide {K : PySem.W.Frag} {Z Z' : Addr → Prop} {H : Hp} (t : TbOk K Z H) (h : ∀ P, Marked K P → Z P → Z' P) : TbOk K Z' H := ⟨fun P m => h P m (t.z P m), t.t, t.n⟩
def Live (S : Sto) (n : Nat) : Prop := ∃ o, S[n]? = some (some o)
open Classical in
noncomputable def vis (m : Nat → Addr) (S : Sto) (Z : Addr → Prop) (H : Hp) : Hp := fun a => if Z a ∨ (∃ n, Live S n ∧ m n = a) then none else H a
theorem vis_sub {m : Nat → Addr} {S : Sto} {Z : Addr → Prop} {H : Hp} {a : Addr} {o : HO} (h : vis m S Z H a = some o) : H a = some o := by
  unfold vis at h
  split at h
  · cases h
  · exact h
theorem vis_of {m : Nat → Addr} {S : Sto} {Z : Addr → Prop} {H : Hp} {a : Addr} {o : HO} (h : H a = some o) (hz : ¬ Z a) (hl : ∀ n, Live S n → m n ≠ a) : vis m S Z H a = some o := by
  unfold vis
  rw [if_neg]
  · exact h
  · rintro (z | ⟨n, l, e⟩)
    · exact hz z
    · exact hl n l e
theorem vis_not {m : Nat → Addr} {S : Sto} {Z : Addr → Prop} {H : Hp} {a : Addr} {o : HO} (h : vis m S Z H a = some o) : ¬ Z a ∧ ∀ n, Live S n → m n ≠ a := by
  unfold vis at h
  split at h
  · cases h
  · rename_i q
    exact ⟨fun z => q (.inl z), fun n l e => q (.inr ⟨n, l, e⟩)⟩
section
variable (K : PySem.W.Frag) (m : Nat → Addr) (N : Nat) (Hv H : Hp)
def RepM : MO → Addr → Prop
  | .lst ds, a => ∃ vs, H a = some (.lst vs) ∧ Reps K m N Hv ds vs
  | .obj C ks ds, a => ∃ dx vs, H a = some (.ins C dx (ks.zip vs)) ∧ ks.length = vs.length ∧ Reps K m N Hv ds vs
  | .dic ks ds, a => ∃ vs, H a = some (.dK (ks.zip vs)) ∧ ks.length = vs.length ∧ Reps K m N Hv ds vs
  | .dicT ks ds, a => ∃ vs, H a = some (.dT (ks.zip vs)) ∧ ks.length = vs.length ∧ Reps K m N Hv ds vs
end
theorem RepM.mono {K : PySem.W.Frag} {m m' : Nat → Addr} {N N' : Nat} {Hv Hv' H H' : Hp} {o : MO} {a a' : Addr} (hm : ∀ i, i < N → m' i = m i) (hN : N ≤ N') (hh : ∀ a o, Hv a = some o → Hv' a = some o) (ha : H' a' = H a)
    (r : RepM K m N Hv H o a) : RepM K m' N' Hv' H' o a' := by
  cases o with
  | lst ds => obtain ⟨vs, e, q⟩ := r; exact ⟨vs, ha.trans e, Reps.mono hm hN hh q⟩
  | obj C ks ds => obtain ⟨dx, vs, e, l, q⟩ := r; exact ⟨dx, vs, ha.trans e, l, Reps.mono hm hN hh q⟩
  | dic ks ds => obtain ⟨vs, e, l, q⟩ := r; exact ⟨vs, ha.trans e, l, Reps.mono hm hN hh q⟩
  | dicT ks ds => obtain ⟨vs, e, l, q⟩ := r; exact ⟨vs, ha.trans e, l, Reps.mono hm hN hh q⟩
theorem RepM.noTb {K : PySem.W.Frag} {m : Nat → Addr} {N : Nat} {Hv H : Hp} {o : MO} {a : Addr} (r : RepM K m N Hv H o a) : NoTb (H a) := by
  cases o with
  | lst ds => obtain ⟨vs, e, q⟩ := r; exact noTb_lst e
  | obj C ks ds => obtain ⟨dx, vs, e, l, q⟩ := r; exact ⟨fun _ => by rw [e]; exact (by intro z; cases z), fun _ _ => by rw [e]; unfold LamX.CodeO; exact (by intro z; cases z)⟩
  | dic ks ds => obtain ⟨vs, e, l, q⟩ := r; exact ⟨fun _ => by rw [e]; exact (by intro z; cases z), fun _ _ => by rw [e]; unfold LamX.CodeO; exact (by intro z; cases z)⟩
  | dicT ks ds => obtain ⟨vs, e, l, q⟩ := r; exact ⟨fun _ => by rw [e]; exact (by intro z; cases z), fun _ _ => by rw [e]; unfold LamX.CodeO; exact (by intro z; cases z)⟩
theorem RepM.there {K : PySem.W.Frag} {m : Nat → Addr} {N : Nat} {Hv H : Hp} {o : MO} {a : Addr} (r : RepM K m N Hv H o a) : ∃ u, H a = some u := by
  cases o with
  | lst ds => obtain ⟨vs, e, q⟩ := r; exact ⟨_, e⟩
  | obj C ks ds => obtain ⟨dx, vs, e, l, q⟩ := r; exact ⟨_, e⟩
  | dic ks ds => obtain ⟨vs, e, l, q⟩ := r; exact ⟨_, e⟩
  | dicT ks ds => obtain ⟨vs, e, l, q⟩ := r; exact ⟨_, e⟩
structure Wd0 (K : PySem.W.Frag) (m : Nat → Addr) (S : Sto) (Z : Addr → Prop) (H : Hp) : Prop where
  inj : ∀ i j, Live S i → Live S j → m i = m j → i = j
  zz : ∀ i, Live S i → ¬ Z (m i)
  zh : ∀ a, Z a → ∃ o, H a = some o
  rep : ∀ i o, S[i]? = some (some o) → RepM K m S.length (vis m S Z H) H o (m i)
  tb : TbOk K Z H
structure Ext (m : Nat → Addr) (S : Sto) (Z : Addr → Prop) (H : Hp) (m' : Nat → Addr) (S' : Sto) (H' : Hp) : Prop where
  len : S.length ≤ S'.length
  loc : ∀ i, i < S.length → m' i = m i
  vis : ∀ a o, vis m S Z H a = some o → vis m' S' Z H' a = some o
  zed : ∀ a, Z a → (∀ ps, H a ≠ some (.tbl ps)) → H' a = H a
section
variable {K : PySem.W.Frag} {m m1 m2 : Nat → Addr} {S S1 S2 : Sto} {Z : Addr → Prop} {H H1 H2 : Hp}
theorem Ext.refl : Ext m S Z H m S H := ⟨Nat.le_refl _, fun _ _ => rfl, fun _ _ h => h, fun _ _ _ => rfl⟩
theorem Ext.trans (a : Ext m S Z H m1 S1 H1) (b : Ext m1 S1 Z H1 m2 S2 H2) : Ext m S Z H m2 S2 H2 :=
  ⟨Nat.le_trans a.len b.len, fun i h => (b.loc i (Nat.lt_of_lt_of_le h a.len)).trans (a.loc i h), fun x o h => b.vis x o (a.vis x o h), fun x h n => (b.zed x h (by rw [a.zed x h n]; exact n)).trans (a.zed x h n)⟩
theorem Rep.ext {d : D} {v : V} (e : Ext m S Z H m1 S1 H1) (r : Rep K m S.length (vis m S Z H) d v) : Rep K m1 S1.length (vis m1 S1 Z H1) d v := Rep.mono e.loc e.len e.vis r
theorem Reps.ext {d : List D} {v : List V} (e : Ext m S Z H m1 S1 H1) (r : Reps K m S.length (vis m S Z H) d v) : Reps K m1 S1.length (vis m1 S1 Z H1) d v := Reps.mono e.loc e.len e.vis r
theorem Wd0.live (w : Wd0 K m S Z H) {i : Nat} (l : Live S i) : ∃ o, H (m i) = some o := by
  obtain ⟨o, e⟩ := l
  exact (w.rep i o e).there
theorem Wd0.fresh (w : Wd0 K m S Z H) {p : Addr} (hp : H p = none) : ¬ Z p ∧ ∀ n, Live S n → m n ≠ p := by
  refine ⟨fun z => ?_, fun n l e => ?_⟩
  · obtain ⟨o, q⟩ := w.zh p z
    rw [hp] at q; cases q
  · obtain ⟨o, q⟩ := w.live l
    rw [e, hp] at q; cases q
/-- a new object that is no part of the store -/
theorem Wd0.new (w : Wd0 K m S Z H) {p : Addr} {o : HO} (hp : H p = none) (ho : ∀ ps, o ≠ .tbl ps := by intro ps z; first | (cases z; done) | (unfold excO at z; cases z)) : Wd0 K m S Z (upd H p o) ∧ Ext m S Z H m S (upd H p o) ∧ vis m S Z (upd H p o) p = some o := by
  obtain ⟨nz, nl⟩ := w.fresh hp
  have hv : ∀ a u, vis m S Z H a = some u → vis m S Z (upd H p o) a = some u := fun a u h => by
    obtain ⟨z1, z2⟩ := vis_not h
    exact vis_of (by rw [upd_ne (ne_of_none (vis_sub h) hp)]; exact vis_sub h) z1 z2
  have hz : ∀ a, Z a → upd H p o a = H a := fun a z => upd_ne (fun e => nz (e ▸ z))
  refine ⟨⟨w.inj, w.zz, fun a z => ?_, fun i x e => ?_, w.tb.upd (noTb_none hp) ho⟩, ⟨Nat.le_refl _, fun _ _ => rfl, hv, fun a z _ => hz a z⟩, vis_of upd_same nz nl⟩
  · rw [hz a z]; exact w.zh a z
  · exact (w.rep i x e).mono (fun _ _ => rfl) (Nat.le_refl _) hv (upd_ne (nl i ⟨x, e⟩))
/-- a new object of the store -/
theorem Wd0.add (w : Wd0 K m S Z H) {p : Addr} {o : HO} {mo : MO} (hp : H p = none) (hr : ∀ m1 N1 Hv1, (∀ i, i < S.length → m1 i = m i) → S.length ≤ N1 → (∀ a u, vis m S Z H a = some u → Hv1 a = some u) → RepM K m1 N1 Hv1 (upd H p o) mo p) :
    ∃ m', m' S.length = p ∧ Wd0 K m' (S ++ [some mo]) Z (upd H p o) ∧ Ext m S Z H m' (S ++ [some mo]) (upd H p o) := by
  obtain ⟨nz, nl⟩ := w.fresh hp
  let m' : Nat → Addr := fun i => if i = S.length then p else m i
  have e0 : m' S.length = p := if_pos rfl
  have e1 : ∀ i, i < S.length → m' i = m i := fun i h => if_neg (Nat.ne_of_lt h)
  have lv : ∀ i, Live (S ++ [some mo]) i → (i < S.length ∧ Live S i) ∨ i = S.length := fun i ⟨x, e⟩ => by
    by_cases h : i < S.length
    · exact .inl ⟨h, x, by rw [List.getElem?_append_left h] at e; exact e⟩
    · right
      have := (List.getElem?_eq_some_iff.mp e).1
      rw [List.length_append, List.length_singleton] at this
      omega
  have hv : ∀ a u, vis m S Z H a = some u → vis m' (S ++ [some mo]) Z (upd H p o) a = some u := fun a u h => by
    obtain ⟨z1, z2⟩ := vis_not h
    have nap : a ≠ p := ne_of_none (vis_sub h) hp
    refine vis_of (by rw [upd_ne nap]; exact vis_sub h) z1 fun n l => ?_
    rcases lv n l with ⟨hn, l⟩ | rfl
    · rw [e1 n hn]; exact z2 n l
    · rw [e0]; exact nap.symm
  have hz : ∀ a, Z a → upd H p o a = H a := fun a z => upd_ne (fun e => nz (e ▸ z))
  have len : (S ++ [some mo]).length = S.length + 1 := by simp
  refine ⟨m', e0, ⟨fun i j li lj e => ?_, fun i li => ?_, fun a z => by rw [hz a z]; exact w.zh a z, fun i x e => ?_, w.tb.upd (noTb_none hp) (fun ps z => (by have h9 := (hr m S.length _ (fun _ _ => rfl) (Nat.le_refl _) (fun _ _ q => q)).noTb.1 ps; rw [upd_same, z] at h9; exact h9 rfl))⟩, ⟨by omega, e1, hv, fun a z _ => hz a z⟩⟩
  · rcases lv i li with ⟨hi, li⟩ | rfl <;> rcases lv j lj with ⟨hj, lj⟩ | rfl
    · rw [e1 i hi, e1 j hj] at e; exact w.inj i j li lj e
    · rw [e1 i hi, e0] at e; exact absurd e (nl i li)
    · rw [e0, e1 j hj] at e; exact absurd e.symm (nl j lj)
    · rfl
  · rcases lv i li with ⟨hi, li⟩ | rfl
    · rw [e1 i hi]; exact w.zz i li
    · rw [e0]; exact nz
  · rw [len]
    rcases lv i ⟨x, e⟩ with ⟨hi, li⟩ | rfl
    · rw [List.getElem?_append_left hi] at e
      exact (w.rep i x e).mono e1 (Nat.le_succ _) hv (by rw [e1 i hi]; exact upd_ne (nl i li))
    · rw [List.getElem?_append_right (Nat.le_refl _), Nat.sub_self, List.getElem?_cons_zero] at e
      cases e
      rw [e0]
      exact hr m' _ _ e1 (Nat.le_succ _) hv
/-- an object of the store changes -/
theorem Wd0.upd (w : Wd0 K m S Z H) {n : Nat} {o : HO} {mo : MO} (l : Live S n) (hr : RepM K m S.length (vis m S Z H) (upd H (m n) o) mo (m n)) :
    Wd0 K m (S.set n (some mo)) Z (upd H (m n) o) ∧ Ext m S Z H m (S.set n (some mo)) (upd H (m n) o) ∧ vis m (S.set n (some mo)) Z (upd H (m n) o) = vis m S Z H := by
  have hn : n < S.length := by obtain ⟨x, e⟩ := l; exact (List.getElem?_eq_some_iff.mp e).1
  have lv : ∀ i, Live (S.set n (some mo)) i ↔ Live S i := fun i => by
    unfold Live
    by_cases h : n = i
    · subst h
      rw [List.getElem?_set_self hn]
      exact ⟨fun _ => l, fun _ => ⟨_, rfl⟩⟩
    · rw [List.getElem?_set_ne h]
  have hv : vis m (S.set n (some mo)) Z (L2.upd H (m n) o) = vis m S Z H := by
    funext a
    unfold vis
    have e : (∃ k, Live (S.set n (some mo)) k ∧ m k = a) ↔ ∃ k, Live S k ∧ m k = a := ⟨fun ⟨k, q, e⟩ => ⟨k, (lv k).mp q, e⟩, fun ⟨k, q, e⟩ => ⟨k, (lv k).mpr q, e⟩⟩
    by_cases c : Z a ∨ ∃ k, Live S k ∧ m k = a
    · rw [if_pos c, if_pos (by rw [e]; exact c)]
    · rw [if_neg c, if_neg (by rw [e]; exact c)]
      exact upd_ne (fun q => c (.inr ⟨n, l, q.symm⟩))
  have hz : ∀ a, Z a → L2.upd H (m n) o a = H a := fun a z => upd_ne (fun e => w.zz n l (e ▸ z))
  refine ⟨⟨fun i j li lj => w.inj i j ((lv i).mp li) ((lv j).mp lj), fun i li => w.zz i ((lv i).mp li), fun a z => by rw [hz a z]; exact w.zh a z, fun i x e => ?_, w.tb.upd (let ⟨y, ey⟩ := l; (w.rep n y ey).noTb) (fun ps z => (by have h9 := hr.noTb.1 ps; rw [upd_same, z] at h9; exact h9 rfl))⟩, ⟨by rw [List.length_set]; exact Nat.le_refl _, fun _ _ => rfl, fun a u h => by rw [hv]; exact h, fun a z _ => hz a z⟩, hv⟩
  rw [hv, List.length_set]
  by_cases h : n = i
  · subst h
    rw [List.getElem?_set_self hn] at e
    cases e
    exact hr
  · rw [List.getElem?_set_ne h] at e
    exact (w.rep i x e).mono (fun _ _ => rfl) (Nat.le_refl _) (fun _ _ q => q) (upd_ne (fun q => h (w.inj i n ⟨x, e⟩ l q).symm))
end
mutual
def D.under (n : Nat) : D → Bool
  | .tup ds => D.unders n ds
  | .lst ds => D.unders n ds
  | .ksq ds => D.unders n ds
  | .obj _ _ ds => D.unders n ds
  | .dic _ ds => D.unders n ds
  | .loc k => decide (k < n)
  | .exc _ _ ds => D.unders n ds
  | .non => true | .bl _ => true | .int _ => true | .str _ => true | .ref _ => true | .ty _ => true
def D.unders (n : Nat) : List D → Bool
  | [] => true
  | d :: ds => D.under n d && D.unders n ds
end
def MO.under (n : Nat) : MO → Bool
  | .lst ds => D.unders n ds
  | .obj _ _ ds => D.unders n ds
  | .dic _ ds => D.unders n ds
  | .dicT _ ds => D.unders n ds
def Sto.under (n : Nat) (S : Sto) : Bool := S.all fun o => match o with | none => true | some x => x.under n
section
variable {K : PySem.W.Frag} {m : Nat → Addr} {N n : Nat} {H : Hp}
mutual
theorem Rep.cut (hn : n ≤ N) : ∀ {d : D} {v : V}, Rep K m N H d v → d.under n = true → Rep K m n H d v
  | .non, _, r, _ => r
  | .bl _, _, r, _ => r
  | .int _, _, r, _ => r
  | .str _, _, r, _ => r
  | .tup ds, _, r, b => by
    obtain ⟨a, vs, e, s, q⟩ := r
    exact ⟨a, vs, e, s, Reps.cut hn q b⟩
  | .lst ds, _, r, b => by
    obtain ⟨a, vs, e, s, q⟩ := r
    exact ⟨a, vs, e, s, Reps.cut hn q b⟩
  | .ksq ds, _, r, b => by
    obtain ⟨a, vs, e, s, q⟩ := r
    exact ⟨a, vs, e, s, Reps.cut hn q b⟩
  | .obj C ks ds, _, r, b => by
    obtain ⟨a, dx, vs, e, s, l, q⟩ := r
    exact ⟨a, dx, vs, e, s, l, Reps.cut hn q b⟩
  | .dic ks ds, _, r, b => by
    obtain ⟨a, vs, e, s, l, q⟩ := r
    exact ⟨a, vs, e, s, l, Reps.cut hn q b⟩
  | .loc k, _, r, b => ⟨r.1, by simpa [D.under] using b⟩
  | .ref _, _, r, _ => r
  | .ty _, _, r, _ => r
  | .exc c ks ds, _, r, b => by
    obtain ⟨a, dd, vs, e, s, x, l, q⟩ := r
    exact ⟨a, dd, vs, e, s, x, l, Reps.cut hn q b⟩
theorem Reps.cut (hn : n ≤ N) : ∀ {ds : List D} {vs : List V}, Reps K m N H ds vs → D.unders n ds = true → Reps K m n H ds vs
  | [], _, r, _ => r
  | d :: ds, _, r, b => by
    obtain ⟨v, q, e, r1, r2⟩ := r
    have b' : D.under n d = true ∧ D.unders n ds = true := by simpa [D.unders] using b
    exact ⟨v, q, e, Rep.cut hn r1 b'.1, Reps.cut hn r2 b'.2⟩
end
mutual
theorem Rep.below : ∀ {d : D} {v : V}, Rep K m N H d v → d.under N = true
  | .non, _, _ => by simp [D.under]
  | .bl _, _, _ => by simp [D.under]
  | .int _, _, _ => by simp [D.under]
  | .str _, _, _ => by simp [D.under]
  | .tup ds, _, r => by
    obtain ⟨a, vs, e, s, q⟩ := r
    simpa [D.under] using Reps.below q
  | .lst ds, _, r => by
    obtain ⟨a, vs, e, s, q⟩ := r
    simpa [D.under] using Reps.below q
  | .ksq ds, _, r => by
    obtain ⟨a, vs, e, s, q⟩ := r
    simpa [D.under] using Reps.below q
  | .obj C ks ds, _, r => by
    obtain ⟨a, dx, vs, e, s, l, q⟩ := r
    simpa [D.under] using Reps.below q
  | .dic ks ds, _, r => by
    obtain ⟨a, vs, e, s, l, q⟩ := r
    simpa [D.under] using Reps.below q
  | .loc k, _, r => by simpa [D.under] using r.2
  | .ref _, _, _ => by simp [D.under]
  | .ty _, _, _ => by simp [D.under]
  | .exc c ks ds, _, r => by
    obtain ⟨a, dd, vs, e, s, x, l, q⟩ := r
    simpa [D.under] using Reps.below q
theorem Reps.below : ∀ {ds : List D} {vs : List V}, Reps K m N H ds vs → D.unders N ds = true
  | [], _, _ => by simp [D.unders]
  | d :: ds, _, r => by
    obtain ⟨v, q, e, r1, r2⟩ := r
    simp [D.unders, Rep.below r1, Reps.below r2]
end
theorem RepM.cut {Hv : Hp} (hn : n ≤ N) {o : MO} {a : Addr} (r : RepM K m N Hv H o a) (b : o.under n = true) : RepM K m n Hv H o a := by
  cases o with
  | lst ds => obtain ⟨vs, e, q⟩ := r; exact ⟨vs, e, Reps.cut hn q b⟩
  | obj C ks ds => obtain ⟨dx, vs, e, l, q⟩ := r; exact ⟨dx, vs, e, l, Reps.cut hn q b⟩
  | dic ks ds => obtain ⟨vs, e, l, q⟩ := r; exact ⟨vs, e, l, Reps.cut hn q b⟩
  | dicT ks ds => obtain ⟨vs, e, l, q⟩ := r; exact ⟨vs, e, l, Reps.cut hn q b⟩
end
section
variable {K : PySem.W.Frag} {m m0 : Nat → Addr} {S S0 : Sto} {Z : Addr → Prop} {H H0 : Hp} {n : Nat}
theorem live_take {i : Nat} (h : Live (S.take n) i) : i < n ∧ Live S i := by
  obtain ⟨x, e⟩ := h
  have h1 : i < (S.take n).length := (List.getElem?_eq_some_iff.mp e).1
  rw [List.length_take] at h1
  have h2 : i < n := by omega
  refine ⟨h2, x, ?_⟩
  rw [List.getElem?_take_of_lt h2] at e
  exact e
theorem vis_take {a : Addr} {o : HO} (h : vis m S Z H a = some o) : vis m (S.take n) Z H a = some o := by
  obtain ⟨z1, z2⟩ := vis_not h
  exact vis_of (vis_sub h) z1 fun k l => z2 k (live_take l).2
/-- the store is cut: what lies beyond n is forgotten -/
theorem Wd0.take (w : Wd0 K m S Z H) (hn : n ≤ S.length) (hb : Sto.under n (S.take n) = true) : Wd0 K m (S.take n) Z H := by
  have len : (S.take n).length = n := by rw [List.length_take]; omega
  refine ⟨fun i j li lj => w.inj i j (live_take li).2 (live_take lj).2, fun i li => w.zz i (live_take li).2, w.zh, fun i x e => ?_, w.tb⟩
  have h := live_take ⟨x, e⟩
  have e' := e
  rw [List.getElem?_take_of_lt h.1] at e'
  rw [len]
  have bx : x.under n = true := by
    have hm : some x ∈ S.take n := List.mem_of_getElem? e
    have := List.all_eq_true.mp hb _ hm
    exact this
  exact ((w.rep i x e').mono (fun _ _ => rfl) (Nat.le_refl _) (fun a o q => vis_take (n := n) q) rfl).cut hn bx
theorem Ext.take (e : Ext m0 S0 Z H0 m S H) (h : S0.length ≤ n) (hn : n ≤ S.length) : Ext m0 S0 Z H0 m (S.take n) H :=
  ⟨by rw [List.length_take]; omega, e.loc, fun a o q => vis_take (e.vis a o q), e.zed⟩
/-- an object of the store is given up: from here on it is seen, and never changes -/
theorem live_setN {i k : Nat} (h : Live (S.set k none) i) : i ≠ k ∧ Live S i := by
  obtain ⟨x, e⟩ := h
  by_cases q : k = i
  · subst q
    by_cases hk : k < S.length
    · rw [List.getElem?_set_self hk] at e; cases e
    · rw [List.getElem?_eq_none_iff.mpr (by rw [List.length_set]; omega)] at e; cases e
  · rw [List.getElem?_set_ne q] at e
    exact ⟨fun z => q z.symm, x, e⟩
theorem vis_setN {a : Addr} {o : HO} {k : Nat} (h : vis m S Z H a = some o) : vis m (S.set k none) Z H a = some o := by
  obtain ⟨z1, z2⟩ := vis_not h
  exact vis_of (vis_sub h) z1 fun j l => z2 j (live_setN l).2
/-- the list at k, given up, as data -/
theorem Wd0.frozen_lst (w : Wd0 K m S Z H) {k : Nat} {ds : List D} (e : S[k]? = some (some (.lst ds))) : Rep K m (S.set k none).length (vis m (S.set k none) Z H) (.lst ds) (.ref (m k)) := by
  obtain ⟨vs, h, r⟩ := w.rep k _ e
  refine ⟨m k, vs, rfl, vis_of h (w.zz k ⟨_, e⟩) fun j l q => ?_, ?_⟩
  · have h2 := live_setN l
    exact h2.1 (w.inj j k h2.2 ⟨_, e⟩ q)
  · rw [List.length_set]
    exact Reps.mono (fun _ _ => rfl) (Nat.le_refl _) (fun a o q => vis_setN q) r
theorem Wd0.frozen_obj (w : Wd0 K m S Z H) {k : Nat} {C : Addr} {ks : List Str} {ds : List D} (e : S[k]? = some (some (.obj C ks ds))) : Rep K m (S.set k none).length (vis m (S.set k none) Z H) (.obj C ks ds) (.ref (m k)) := by
  obtain ⟨dx, vs, h, hl, r⟩ := w.rep k _ e
  refine ⟨m k, dx, vs, rfl, vis_of h (w.zz k ⟨_, e⟩) fun j l q => ?_, hl, ?_⟩
  · have h2 := live_setN l
    exact h2.1 (w.inj j k h2.2 ⟨_, e⟩ q)
  · rw [List.length_set]
    exact Reps.mono (fun _ _ => rfl) (Nat.le_refl _) (fun a o q => vis_setN q) r
theorem Wd0.frozen_dic (w : Wd0 K m S Z H) {k : Nat} {ks : List Key} {ds : List D} (e : S[k]? = some (some (.dic ks ds))) : Rep K m (S.set k none).length (vis m (S.set k none) Z H) (.dic ks ds) (.ref (m k)) := by
  obtain ⟨vs, h, hl, r⟩ := w.rep k _ e
  refine ⟨m k, vs, rfl, vis_of h (w.zz k ⟨_, e⟩) fun j l q => ?_, hl, ?_⟩
  · have h2 := live_setN l
    exact h2.1 (w.inj j k h2.2 ⟨_, e⟩ q)
  · rw [List.length_set]
    exact Reps.mono (fun _ _ => rfl) (Nat.le_refl _) (fun a o q => vis_setN q) r
end
def RelS (K : PySem.W.Frag) (m : Nat → Addr) (N : Nat) (Hv : Hp) (ρ : Env_) (σ : St) : Prop :=
  ρ.length = σ.length ∧ ∀ (i : Nat) (d : D), ρ[i]? = some (some d) → ∃ v : V, σ[i]? = some (some v) ∧ Rep K m N Hv d v
/-- a wish of exceptions, by data: class, fields, slots, store -/
abbrev XW := XC → List Str → List D → Env_ → Sto → Prop
structure Wi where
  W : Value → Option Addr → St → Hp → Prop
  D : XW
/-- none is let out -/
def U0 : Wi := ⟨fun _ _ _ _ => False, fun _ _ _ _ _ => False⟩
def Up (K : PySem.W.Frag) (U : Wi) (m : Nat → Addr) (S : Sto) (Z : Addr → Prop) (H : Hp) : Prop :=
  ∀ (H' : Hp) (m' : Nat → Addr) (S' : Sto) (σ' : St) (ρ' : Env_) (c : XC) (dd : Option Addr) (ks : List Str) (ds : List D) (vs : List V), Ext m S Z H m' S' H' → Wd0 K m' S' Z H' → RelS K m' S'.length (vis m' S' Z H') ρ' σ' →
    Xd (vis m' S' Z H') dd (ks.zip vs) → ks.length = vs.length → Reps K m' S'.length (vis m' S' Z H') ds vs → U.D c ks ds ρ' S' → U.W c.val dd σ' H'
structure Wd (K : PySem.W.Frag) (U : Wi) (m : Nat → Addr) (S : Sto) (Z : Addr → Prop) (H : Hp) : Prop extends Wd0 K m S Z H where
  up : Up K U m S Z H
section
variable {K : PySem.W.Frag} {U : Wi} {m m1 : Nat → Addr} {S S1 : Sto} {Z : Addr → Prop} {H H1 : Hp}
theorem Wd0.u0 (w : Wd0 K m S Z H) : Wd K U0 m S Z H := ⟨w, fun _ _ _ _ _ _ _ _ _ _ _ _ _ _ _ _ z => z.elim⟩
/-- a later world -/
theorem Wd.on (w : Wd K U m S Z H) (e : Ext m S Z H m1 S1 H1) (w1 : Wd0 K m1 S1 Z H1) : Wd K U m1 S1 Z H1 := ⟨w1, fun H' m' S' σ' ρ' c dd ks ds vs e' => w.up H' m' S' σ' ρ' c dd ks ds vs (e.trans e')⟩
theorem Wd.new (w : Wd K U m S Z H) {p : Addr} {o : HO} (hp : H p = none) (ho : ∀ ps, o ≠ .tbl ps := by intro ps z; first | (cases z; done) | (unfold excO at z; cases z)) : Wd K U m S Z (upd H p o) ∧ Ext m S Z H m S (upd H p o) ∧ vis m S Z (upd H p o) p = some o := by
  obtain ⟨a, b, c⟩ := w.toWd0.new (o := o) hp ho
  exact ⟨w.on b a, b, c⟩
theorem Wd.add (w : Wd K U m S Z H) {p : Addr} {o : HO} {mo : MO} (hp : H p = none) (hr : ∀ m1 N1 Hv1, (∀ i, i < S.length → m1 i = m i) → S.length ≤ N1 → (∀ a u, vis m S Z H a = some u → Hv1 a = some u) → RepM K m1 N1 Hv1 (upd H p o) mo p) :
    ∃ m', m' S.length = p ∧ Wd K U m' (S ++ [some mo]) Z (upd H p o) ∧ Ext m S Z H m' (S ++ [some mo]) (upd H p o) := by
  obtain ⟨m', e0, a, b⟩ := w.toWd0.add (o := o) (mo := mo) hp hr
  exact ⟨m', e0, w.on b a, b⟩
theorem Wd.upd (w : Wd K U m S Z H) {n : Nat} {o : HO} {mo : MO} (l : Live S n) (hr : RepM K m S.length (vis m S Z H) (upd H (m n) o) mo (m n)) :
    Wd K U m (S.set n (some mo)) Z (L2.upd H (m n) o) ∧ Ext m S Z H m (S.set n (some mo)) (L2.upd H (m n) o) ∧ vis m (S.set n (some mo)) Z (L2.upd H (m n) o) = vis m S Z H := by
  obtain ⟨a, b, c⟩ := w.toWd0.upd (o := o) (mo := mo) l hr
  exact ⟨w.on b a, b, c⟩
end
end Dl
namespace Dl
open PySem L2
section
variable {K : PySem.W.Frag} {m : Nat → Addr} {N : Nat} {Hv : Hp}
theorem rep_non : Rep K m N Hv .non .non := by simp [Rep]
theorem rep_bl {b : Bool} : Rep K m N Hv (.bl b) (.bl b) := by simp [Rep]
theorem rep_int {b : Int} : Rep K m N Hv (.int b) (.int b) := by simp [Rep]
theorem rep_str {b : Str} : Rep K m N Hv (.str b) (.str b) := by simp [Rep]
theorem rep_tup {a : Addr} {vs : List V} {ds : List D} (h : SqT K Hv a vs) (r : Reps K m N Hv ds vs) : Rep K m N Hv (.tup ds) (.ref a) := by rw [Rep]; exact ⟨a, vs, rfl, h, r⟩
theorem rep_lst {a : Addr} {vs : List V} {ds : List D} (h : Hv a = some (.lst vs)) (r : Reps K m N Hv ds vs) : Rep K m N Hv (.lst ds) (.ref a) := by rw [Rep]; exact ⟨a, vs, rfl, h, r⟩
theorem rep_loc {a : Addr} {n : Nat} (e : m n = a) (h : n < N) : Rep K m N Hv (.loc n) (.ref a) := by rw [Rep]; exact ⟨by rw [e], h⟩
theorem reps_nil : Reps K m N Hv [] [] := by simp [Reps]
end
/-- what is wanted behind a step, by data -/
def Outs {A B : Type} (m : Nat → Addr) (S : Sto) (Z : Addr → Prop) (H : Hp) (K : PySem.W.Frag) (U : Wi) (rel : (Nat → Addr) → Nat → Hp → A → B → Prop) (q : A → Sto → Prop) (Q : B → Hp → Prop) : Prop :=
  ∀ b H' m' a S', Ext m S Z H m' S' H' → Wd K U m' S' Z H' → rel m' S'.length (vis m' S' Z H') a b → q a S' → Q b H'
abbrev rD (K : PySem.W.Frag) : (Nat → Addr) → Nat → Hp → D → V → Prop := fun m N Hv d v => Rep K m N Hv d v
abbrev rDs (K : PySem.W.Frag) : (Nat → Addr) → Nat → Hp → List D → List V → Prop := fun m N Hv d v => Reps K m N Hv d v
abbrev rEq {A : Type} : (Nat → Addr) → Nat → Hp → A → A → Prop := fun _ _ _ a b => a = b
/-- a step by data -/
abbrev G (A : Type) := Env_ → Sto → (A → Sto → Prop) → Prop
def tof {A B : Type} (K : PySem.W.Frag) (U : Wi) (rel : (Nat → Addr) → Nat → Hp → A → B → Prop) (g : G A) : St → Hp → (B → Hp → Prop) → Prop := fun σ H Q =>
  ∃ m S Z ρ q, Wd K U m S Z H ∧ RelS K m S.length (vis m S Z H) ρ σ ∧ g ρ S q ∧ Outs m S Z H K U rel q Q
abbrev tofE (K : PySem.W.Frag) (U : Wi) (g : G D) : TE := tof K U (rD K) g
abbrev tofB (K : PySem.W.Frag) (U : Wi) (g : G Bool) : TT := tof K U rEq g
abbrev tofA (K : PySem.W.Frag) (U : Wi) (g : G (List D)) : TA := tof K U (rDs K) g
abbrev tofO (K : PySem.W.Frag) (U : Wi) (g : G (Option Int)) : TO := tof K U rEq g
section
variable {A B : Type} {K : PySem.W.Frag} {m m1 : Nat → Addr} {S S1 : Sto} {Z : Addr → Prop} {H H1 : Hp} {rel : (Nat → Addr) → Nat → Hp → A → B → Prop} {q : A → Sto → Prop} {Q : B → Hp → Prop} {ρ : Env_} {σ : St}
theorem Outs.ext (e : Ext m S Z H m1 S1 H1) (k : Outs m S Z H K U rel q Q) : Outs m1 S1 Z H1 K U rel q Q := fun b H' m' a S' e' w r h => k b H' m' a S' (e.trans e') w r h
theorem Outs.now (k : Outs m S Z H K U rel q Q) (w : Wd K U m S Z H) {a : A} {b : B} (r : rel m S.length (vis m S Z H) a b) (h : q a S) : Q b H := k b H m a S Ext.refl w r h
theorem Outs.at (k : Outs m S Z H K U rel q Q) (e : Ext m S Z H m1 S1 H1) (w : Wd K U m1 S1 Z H1) {a : A} {b : B} (r : rel m1 S1.length (vis m1 S1 Z H1) a b) (h : q a S1) : Q b H1 := k b H1 m1 a S1 e w r h
theorem RelS.ext (e : Ext m S Z H m1 S1 H1) (r : RelS K m S.length (vis m S Z H) ρ σ) : RelS K m1 S1.length (vis m1 S1 Z H1) ρ σ :=
  ⟨r.1, fun i d h => let ⟨v, h1, h2⟩ := r.2 i d h; ⟨v, h1, h2.ext e⟩⟩
theorem RelS.set {i : Nat} {d : D} {v : V} {N : Nat} {Hv : Hp} (r : RelS K m N Hv ρ σ) (h : Rep K m N Hv d v) : RelS K m N Hv (ρ.set i (some d)) (σ.set i (some v)) := by
  refine ⟨by rw [List.length_set, List.length_set]; exact r.1, fun j x e => ?_⟩
  by_cases hj : i = j
  · subst hj
    have hl : i < ρ.length := by
      have := (List.getElem?_eq_some_iff.mp e).1
      rw [List.length_set] at this; exact this
    rw [List.getElem?_set_self hl] at e
    cases e
    exact ⟨v, List.getElem?_set_self (by rw [← r.1]; exact hl), h⟩
  · rw [List.getElem?_set_ne hj] at e
    obtain ⟨w, h1, h2⟩ := r.2 j x e
    exact ⟨w, by rw [List.getElem?_set_ne hj]; exact h1, h2⟩
theorem tof_in {g : G A} (w : Wd K U m S Z H) (r : RelS K m S.length (vis m S Z H) ρ σ) (h : g ρ S q) (k : Outs m S Z H K U rel q Q) : tof K U rel g σ H Q := ⟨m, S, Z, ρ, q, w, r, h, k⟩
end
section
variable {X : Cx} {e : Expr} {t t' : TE}
theorem weakE (h : PE X e t) (k : ∀ σ H Q, t' σ H Q → t σ H Q) : PE X e t' := ⟨fun pins s σ H Q I q => h.run pins s σ H Q I (k σ H Q q)⟩
theorem weakT {u u' : TT} (h : PT X e u) (k : ∀ σ H Q, u' σ H Q → u σ H Q) : PT X e u' := ⟨fun pins s σ H Q I q => h.run pins s σ H Q I (k σ H Q q)⟩
theorem weakW {u u' : TT} (h : PW X e u) (k : ∀ σ H Q, u' σ H Q → u σ H Q) : PW X e u' := ⟨fun wh pins s σ H Q I q => h.run wh pins s σ H Q I (k σ H Q q)⟩
theorem weakA {es : List Expr} {u u' : TA} (h : PA X es u) (k : ∀ σ H Q, u' σ H Q → u σ H Q) : PA X es u' := ⟨fun pos pins s σ H Q I q => h.run pos pins s σ H Q I (k σ H Q q)⟩
theorem weakO {e : Option Expr} {u u' : TO} (h : PO X e u) (k : ∀ σ H Q, u' σ H Q → u σ H Q) : PO X e u' := ⟨fun pins s σ H Q I q => h.run pins s σ H Q I (k σ H Q q)⟩
theorem weakS {st : Stmt} {u u' : TS} (h : PS X st u) (k : ∀ E σ H, u' E σ H → u E σ H) : PS X st u' := ⟨fun pins s σ H E I q => h.run pins s σ H E I (k E σ H q)⟩
theorem weakSs {st : List Stmt} {u u' : TS} (h : PSs X st u) (k : ∀ E σ H, u' E σ H → u E σ H) : PSs X st u' := ⟨fun pins s σ H E I q => h.run pins s σ H E I (k E σ H q)⟩
theorem deadS {st : Stmt} : PS X st (fun _ _ _ => False) := ⟨fun _ _ _ _ _ _ h => h.elim⟩
end
def gVar (i : Nat) : G D := fun ρ S q => ∃ d : D, ρ[i]? = some (some d) ∧ q d S
def gC (d : D) : G D := fun _ S q => q d S
section
variable {X : Cx} {pos : Pos}
theorem d_var (i : Nat) {x : Str} (hN : X.N[i]? = some x := by rfl) (hv : Vis X.env.scope x := by first | exact Or.inl rfl | exact Or.inr (Or.inl rfl) | exact Or.inr (Or.inr rfl)) (hd : (x == ("__debug__" : Str)) = false := by decide)
    (hcd : (x == ("__classdict__" : Str)) = false := by decide) : PE X (.Name x pos) (tofE X.K U (gVar i)) :=
  weakE (pe_var hN hv hd hcd) fun σ H Q ⟨m, S, Z, ρ, q, w, r, ⟨d, e, h⟩, k⟩ => by
    obtain ⟨v, h1, h2⟩ := r.2 i d e
    exact ⟨v, h1, k.now w h2 h⟩
theorem ofC {e : Expr} {d : D} {v : V} (h : PE X e (tC v)) (hr : ∀ K m N Hv, Rep K m N Hv d v) : PE X e (tofE X.K U (gC d)) :=
  weakE h fun σ H Q ⟨m, S, Z, ρ, q, w, r, h, k⟩ => k.now w (hr _ _ _ _) h
theorem d_int {i j} : PE X (.Constant (.int i) j pos) (tofE X.K U (gC (.int i))) := ofC pe_int fun _ _ _ _ => rfl
theorem d_bl {b j} : PE X (.Constant (.bool b) j pos) (tofE X.K U (gC (.bl b))) := ofC pe_bl fun _ _ _ _ => rfl
theorem d_non {j} : PE X (.Constant .none j pos) (tofE X.K U (gC .non)) := ofC pe_non fun _ _ _ _ => rfl
theorem d_gref {x : Str} {a : Addr} (hg : Gl X x) (hm : X.mg x = some (.ref a)) (hd : (x == ("__debug__" : Str)) = false := by decide) : PE X (.Name x pos) (tofE X.K U (gC (.ref a))) :=
  ofC (pe_glob (v := .ref a) hg hm rfl hd) fun _ _ _ _ => rfl
end
abbrev R2D := D → D → Sto → (D → Sto → Prop) → Prop
abbrev R1D := D → Sto → (D → Sto → Prop) → Prop
abbrev RND := List D → Sto → (D → Sto → Prop) → Prop
def gB2 (r : R2D) (ga gb : G D) : G D := fun ρ S q => ga ρ S fun a S1 => gb ρ S1 fun b S2 => r a b S2 q
def gU (r : R1D) (ga : G D) : G D := fun ρ S q => ga ρ S fun a S1 => r a S1 q
def VR2 (K : PySem.W.Frag) (r : R2) (g : R2D) : Prop := ∀ {U : Wi} {m : Nat → Addr} {S : Sto} {Z : Addr → Prop} {H : Hp} {a b : D} {v u : V} {q : D → Sto → Prop} {Q : VK}, Wd K U m S Z H → Rep K m S.length (vis m S Z H) a v → Rep K m S.length (vis m S Z H) b u →
  g a b S q → Outs m S Z H K U (rD K) q Q → r v u H Q
def VR1 (K : PySem.W.Frag) (r : V → Hp → VK → Prop) (g : R1D) : Prop := ∀ {U : Wi} {m : Nat → Addr} {S : Sto} {Z : Addr → Prop} {H : Hp} {a : D} {v : V} {q : D → Sto → Prop} {Q : VK}, Wd K U m S Z H → Rep K m S.length (vis m S Z H) a v →
  g a S q → Outs m S Z H K U (rD K) q Q → r v H Q
def VRN (K : PySem.W.Frag) (r : List V → Hp → VK → Prop) (g : RND) : Prop := ∀ {U : Wi} {m : Nat → Addr} {S : Sto} {Z : Addr → Prop} {H : Hp} {a : List D} {v : List V} {q : D → Sto → Prop} {Q : VK}, Wd K U m S Z H → Reps K m S.length (vis m S Z H) a v →
  g a S q → Outs m S Z H K U (rD K) q Q → r v H Q
section
variable {X : Cx} {pos : Pos} {a b c e : Expr} {ga gb gc : G D} {r r' : R2} {g g' : R2D}
theorem two_in {K : PySem.W.Frag} (hv : VR2 K r g) {σ : St} {H : Hp} {Q : VK} (h : tofE K U (gB2 g ga gb) σ H Q) : tOp r (tofE K U ga) (tofE K U gb) σ H Q := by
  obtain ⟨m, S, Z, ρ, q, w, rs, h, k⟩ := h
  exact tof_in w rs h fun v1 H1 m1 d1 S1 e1 w1 r1 h1 => tof_in w1 (rs.ext e1) h1 fun v2 H2 m2 d2 S2 e2 w2 r2 h2 => hv w2 (r1.ext e2) r2 h2 (k.ext (e1.trans e2))
theorem d_op {op : Operator} (ho : OpR X (binaryOp op) r) (hv : VR2 X.K r g) (ha : PE X a (tofE X.K U ga)) (hb : PE X b (tofE X.K U gb)) : PE X (.BinOp a op b pos) (tofE X.K U (gB2 g ga gb)) :=
  weakE (pe_op ho ha hb) fun _ _ _ h => two_in hv h
theorem d_cmp {op : CmpOp} (ho : OpR X (compareOp op) r) (hv : VR2 X.K r g) (ha : PE X a (tofE X.K U ga)) (hb : PE X b (tofE X.K U gb)) (hm : behindInMarks op b = false := by first | rfl | exact nomark _) : PE X (.Compare a [op] [b] pos) (tofE X.K U (gB2 g ga gb)) :=
  weakE (pe_cmpR ho ha hb hm) fun _ _ _ h => two_in hv h
/-- a comparison as a test -/
def gTest (g : G D) : G Bool := fun ρ S q => g ρ S fun d S1 => ∃ k, d = .bl k ∧ q k S1
theorem d_test {t : TE} (h : PE X e t) (ht : PT X e (tTest t)) {g : G D} (k : ∀ σ H Q, tofE X.K U g σ H Q → t σ H Q) : PT X e (tofB X.K U (gTest g)) :=
  weakT ht fun σ H Q ⟨m, S, Z, ρ, q, w, rs, h, kk⟩ => k σ H _ (tof_in w rs h fun v1 H1 m1 d1 S1 e1 w1 r1 h1 => by
    obtain ⟨b, e, h1⟩ := h1
    subst e
    exact ⟨b, r1, kk.at e1 w1 rfl h1⟩)
theorem d_tcmp {op : CmpOp} (ho : OpR X (compareOp op) r) (hv : VR2 X.K r g) (ha : PE X a (tofE X.K U ga)) (hb : PE X b (tofE X.K U gb)) (hm : behindInMarks op b = false := by first | rfl | exact nomark _) : PT X (.Compare a [op] [b] pos) (tofB X.K U (gTest (gB2 g ga gb))) :=
  d_test (pe_cmpR (pos := pos) ho ha hb hm) (pt_cmpR ho ha hb hm) fun _ _ _ h => two_in hv h
theorem VR2.or {K : PySem.W.Frag} (h : VR2 K r g) (h' : VR2 K r' g') : VR2 K (fun x y H Q => r x y H Q ∨ r' x y H Q) (fun a b S q => g a b S q ∨ g' a b S q) := fun w r1 r2 x k => x.elim (fun x => .inl (h w r1 r2 x k)) (fun x => .inr (h' w r1 r2 x k))
theorem VR2.imp {K : PySem.W.Frag} (h : VR2 K r g) (i : ∀ a b S q, g' a b S q → g a b S q) : VR2 K r g' := fun w r1 r2 x k => h w r1 r2 (i _ _ _ _ x) k
/-- a chain a < b < c -/
def gChain (g g' : R2D) (ga gb gc : G D) : G D := fun ρ S q => ga ρ S fun a S1 => gb ρ S1 fun b S2 => g a b S2 fun z S3 => ∃ k, z = .bl k ∧ (if k = true then gc ρ S3 fun c S4 => g' b c S4 q else q (.bl false) S3)
theorem d_un {op : UnaryOp} {u : V → Hp → VK → Prop} {g1 : R1D} (ho : UnR X (unaryOp op) u) (hv : VR1 X.K u g1) (ha : PE X a (tofE X.K U ga)) : PE X (.UnaryOp op a pos) (tofE X.K U (gU g1 ga)) :=
  weakE (pe_un ho ha) fun _ _ _ ⟨m, S, Z, ρ, q, w, rs, h, k⟩ => tof_in w rs h fun v1 H1 m1 d1 S1 e1 w1 r1 h1 => hv w1 r1 h1 (k.ext e1)
end
section
variable {X : Cx} {pos : Pos} {a b c e : Expr} {ga gb gc : G D} {rest : List Expr} {ta tb : G Bool}
/-- an expression whose value is a bool, as a test -/
theorem d_val (h : PE X e (tofE X.K U ga)) (he : ∀ whole, isTrue e X.env whole = (do let v ← whole; standAt e.pos; holding [v] (truthy v)) := by intro _; rfl) : PT X e (tofB X.K U (gTest ga)) :=
  d_test (t := tofE X.K U ga) h (weakT (pt_val h he) fun _ _ _ h => h) fun _ _ _ h => h
def gAndB (ta tb : G Bool) : G Bool := fun ρ S q => ta ρ S fun c S1 => if c = true then tb ρ S1 q else q false S1
def gOrB (ta tb : G Bool) : G Bool := fun ρ S q => ta ρ S fun c S1 => if c = true then q true S1 else tb ρ S1 q
def gNotB (ta : G Bool) : G Bool := fun ρ S q => ta ρ S fun c S1 => q (!c) S1
theorem d_and1 (ha : PT X a (tofB X.K U ta)) : PW X (.BoolOp .And [a] pos) (tofB X.K U ta) := pw_and1 ha
theorem d_or1 (ha : PT X a (tofB X.K U ta)) : PW X (.BoolOp .Or [a] pos) (tofB X.K U ta) := pw_or1 ha
theorem d_and (ha : PT X a (tofB X.K U ta)) (hb : PW X (.BoolOp .And (b :: rest) pos) (tofB X.K U tb)) : PW X (.BoolOp .And (a :: b :: rest) pos) (tofB X.K U (gAndB ta tb)) :=
  weakW (pw_and ha hb) fun σ H Q ⟨m, S, Z, ρ, q, w, rs, h, k⟩ => tof_in w rs h fun v1 H1 m1 d1 S1 e1 w1 r1 h1 => by
    cases (show d1 = v1 from r1)
    cases v1 with
    | true => exact tof_in w1 (rs.ext e1) h1 (k.ext e1)
    | false => exact k.at e1 w1 rfl h1
theorem d_or (ha : PT X a (tofB X.K U ta)) (hb : PW X (.BoolOp .Or (b :: rest) pos) (tofB X.K U tb)) : PW X (.BoolOp .Or (a :: b :: rest) pos) (tofB X.K U (gOrB ta tb)) :=
  weakW (pw_or ha hb) fun σ H Q ⟨m, S, Z, ρ, q, w, rs, h, k⟩ => tof_in w rs h fun v1 H1 m1 d1 S1 e1 w1 r1 h1 => by
    cases (show d1 = v1 from r1)
    cases v1 with
    | true => exact k.at e1 w1 rfl h1
    | false => exact tof_in w1 (rs.ext e1) h1 (k.ext e1)
theorem d_not (ha : PT X a (tofB X.K U ta)) : PT X (.UnaryOp .Not a pos) (tofB X.K U (gNotB ta)) :=
  weakT (pt_not ha) fun σ H Q ⟨m, S, Z, ρ, q, w, rs, h, k⟩ => tof_in w rs h fun v1 H1 m1 d1 S1 e1 w1 r1 h1 => by
    cases (show d1 = v1 from r1)
    exact k.at e1 w1 rfl h1
/-- and, or, not as values: bools -/
def gAndV (ga gb : G D) : G D := fun ρ S q => ga ρ S fun a S1 => ∃ c, a = .bl c ∧ if c = true then gb ρ S1 q else q (.bl false) S1
def gOrV (ga gb : G D) : G D := fun ρ S q => ga ρ S fun a S1 => ∃ c, a = .bl c ∧ if c = true then q (.bl true) S1 else gb ρ S1 q
def gNotV (ga : G D) : G D := fun ρ S q => ga ρ S fun a S1 => ∃ c, a = .bl c ∧ q (.bl (!c)) S1
theorem d_oneV {op} (h : PE X a (tofE X.K U ga)) : PE X (.BoolOp op [a] pos) (tofE X.K U ga) := pe_one h
theorem d_andV (ha : PE X a (tofE X.K U ga)) (hb : PE X (.BoolOp .And (b :: rest) pos) (tofE X.K U gb)) : PE X (.BoolOp .And (a :: b :: rest) pos) (tofE X.K U (gAndV ga gb)) :=
  weakE (pe_and ha hb) fun σ H Q ⟨m, S, Z, ρ, q, w, rs, h, k⟩ => tof_in w rs h fun v1 H1 m1 d1 S1 e1 w1 r1 h1 => by
    obtain ⟨c, e, h1⟩ := h1
    subst e
    refine ⟨c, r1, ?_⟩
    cases c with
    | true => exact tof_in w1 (rs.ext e1) h1 (k.ext e1)
    | false => exact k.at e1 w1 rep_bl h1
def gIf (t : G Bool) (ga gb : G D) : G D := fun ρ S q => t ρ S fun c S1 => if c = true then ga ρ S1 q else gb ρ S1 q
theorem d_ifExp (hc : PT X c (tofB X.K U ta)) (ha : PE X a (tofE X.K U ga)) (hb : PE X b (tofE X.K U gb)) : PE X (.IfExp c a b pos) (tofE X.K U (gIf ta ga gb)) :=
  weakE (pe_ifExp hc ha hb) fun σ H Q ⟨m, S, Z, ρ, q, w, rs, h, k⟩ => tof_in w rs h fun v1 H1 m1 d1 S1 e1 w1 r1 h1 => by
    cases (show d1 = v1 from r1)
    cases v1 with
    | true => exact tof_in w1 (rs.ext e1) h1 (k.ext e1)
    | false => exact tof_in w1 (rs.ext e1) h1 (k.ext e1)
/-- is None -/
def D.isNon : D → Bool
  | .non => true
  | _ => false
theorem Rep.isNon {K : PySem.W.Frag} {m : Nat → Addr} {N : Nat} {Hv : Hp} {d : D} {v : V} (r : Rep K m N Hv d v) : decide (v = .non) = d.isNon := by
  cases d with
  | non => rw [show v = .non from r]; rfl
  | bl b => rw [show v = .bl b from r]; rfl
  | int b => rw [show v = .int b from r]; rfl
  | str b => rw [show v = .str b from r]; rfl
  | tup b => obtain ⟨a, vs, e, _⟩ := r; rw [e]; rfl
  | lst b => obtain ⟨a, vs, e, _⟩ := r; rw [e]; rfl
  | ksq b => obtain ⟨a, vs, e, _⟩ := r; rw [e]; rfl
  | obj b => obtain ⟨a, dx, vs, e, _⟩ := r; rw [e]; rfl
  | dic b => obtain ⟨a, vs, e, _⟩ := r; rw [e]; rfl
  | loc n => rw [r.1]; rfl
  | ref a => rw [show v = .ref a from r]; rfl
  | ty a => rw [show v = .ty a from r]; rfl
  | exc c ks ds => obtain ⟨a, dd, vs, e, _⟩ := r; rw [e]; rfl
def gIsN (ga : G D) : G D := fun ρ S q => ga ρ S fun a S1 => q (.bl a.isNon) S1
def gNotN (ga : G D) : G D := fun ρ S q => ga ρ S fun a S1 => q (.bl (!a.isNon)) S1
theorem d_tisN {j pos'} (ha : PE X a (tofE X.K U ga)) : PT X (.Compare a [.Is] [.Constant .none j pos'] pos) (tofB X.K U (gTest (gIsN ga))) :=
  weakT (pt_cmp (pc_isN ha)) fun σ H Q ⟨m, S, Z, ρ, q, w, rs, h, k⟩ => tof_in w rs h fun v1 H1 m1 d1 S1 e1 w1 r1 ⟨b, e, h1⟩ => ⟨_, by rw [Rep.isNon r1], k.at e1 w1 (by cases e; rfl) h1⟩
theorem d_tnotN {j pos'} (ha : PE X a (tofE X.K U ga)) : PT X (.Compare a [.IsNot] [.Constant .none j pos'] pos) (tofB X.K U (gTest (gNotN ga))) :=
  weakT (pt_cmp (pc_notN ha)) fun σ H Q ⟨m, S, Z, ρ, q, w, rs, h, k⟩ => tof_in w rs h fun v1 H1 m1 d1 S1 e1 w1 r1 ⟨b, e, h1⟩ => ⟨_, by rw [Rep.isNon r1], k.at e1 w1 (by cases e; rfl) h1⟩
end
def gNil : G (List D) := fun _ S q => q [] S
def gCons (ga : G D) (gr : G (List D)) : G (List D) := fun ρ S q => ga ρ S fun a S1 => gr ρ S1 fun as S2 => q (a :: as) S2
/-- a new list: given up at once, or of the store -/
def newL (fz : Bool) (ds : List D) (S : Sto) (q : D → Sto → Prop) : Prop := if fz = true then q (.lst ds) S else q (.loc S.length) (S ++ [some (.lst ds)])
section
variable {K : PySem.W.Frag} {m : Nat → Addr} {S : Sto} {Z : Addr → Prop} {H : Hp} {q : D → Sto → Prop} {Q : VK} {ds : List D} {vs : List V} {fz : Bool} {p : Addr}
theorem out_newL (w : Wd K U m S Z H) (r : Reps K m S.length (vis m S Z H) ds vs) (h : newL fz ds S q) (k : Outs m S Z H K U (rD K) q Q) (hp : H p = none) : Q (.ref p) (upd H p (.lst vs)) := by
  cases fz with
  | true =>
    obtain ⟨w1, e1, hv⟩ := w.new (o := .lst vs) hp
    exact k.at e1 w1 (rep_lst hv (r.ext e1)) h
  | false =>
    obtain ⟨m', e0, w1, e1⟩ := w.add (o := .lst vs) (mo := .lst ds) hp fun m1 N1 Hv1 h1 h2 h3 => ⟨vs, upd_same, Reps.mono h1 h2 h3 r⟩
    exact k.at e1 w1 (rep_loc e0 (by simp)) h
theorem out_newT (w : Wd K U m S Z H) (r : Reps K m S.length (vis m S Z H) ds vs) (h : q (.tup ds) S) (k : Outs m S Z H K U (rD K) q Q) (hp : H p = none) : Q (.ref p) (upd H p (.tup vs)) := by
  obtain ⟨w1, e1, hv⟩ := w.new (o := .tup vs) hp
  exact k.at e1 w1 (rep_tup (SqT.of hv) (r.ext e1)) h
end
section
variable {X : Cx} {pos : Pos} {e : Expr} {es : List Expr} {ga : G D} {gr : G (List D)}
theorem d_nil : PA X [] (tofA X.K U gNil) := weakA pa_nil fun σ H Q ⟨m, S, Z, ρ, q, w, rs, h, k⟩ => k.now w reps_nil h
theorem d_cons (ha : PE X e (tofE X.K U ga)) (hr : PA X es (tofA X.K U gr)) (hs : starEach (e :: es) X.env = (false, eval e X.env) :: starEach es X.env := by rfl) : PA X (e :: es) (tofA X.K U (gCons ga gr)) :=
  weakA (pa_cons ha hr hs) fun σ H Q ⟨m, S, Z, ρ, q, w, rs, h, k⟩ => tof_in w rs h fun v1 H1 m1 d1 S1 e1 w1 r1 h1 => tof_in w1 (rs.ext e1) h1 fun v2 H2 m2 d2 S2 e2 w2 r2 h2 => k.at (e1.trans e2) w2 (Reps.cons (r1.ext e2) r2) h2
def gTup (gs : G (List D)) : G D := fun ρ S q => gs ρ S fun ds S1 => ds.length ≤ sizeLine ∧ q (.tup ds) S1
def gLst (fz : Bool) (gs : G (List D)) : G D := fun ρ S q => gs ρ S fun ds S1 => ds.length ≤ sizeLine ∧ newL fz ds S1 q
theorem d_tup {x1} (h : PA X es (tofA X.K U gr)) : PE X (.Tuple es x1 pos) (tofE X.K U (gTup gr)) :=
  weakE (pe_tup h) fun σ H Q ⟨m, S, Z, ρ, q, w, rs, h, k⟩ => tof_in w rs h fun v1 H1 m1 d1 S1 e1 w1 r1 h1 => ⟨by rw [Reps.len r1]; exact h1.1, fun p hp => out_newT w1 r1 h1.2 (k.ext e1) hp⟩
theorem d_lst (fz : Bool) (h : PA X es (tofA X.K U gr)) : PE X (.List es pos) (tofE X.K U (gLst fz gr)) :=
  weakE (pe_lst h) fun σ H Q ⟨m, S, Z, ρ, q, w, rs, h, k⟩ => tof_in w rs h fun v1 H1 m1 d1 S1 e1 w1 r1 h1 => ⟨by rw [Reps.len r1]; exact h1.1, fun p hp => out_newL w1 r1 h1.2 (k.ext e1) hp⟩
/-- a built-in by its name -/
def gCB (r : RND) (gs : G (List D)) : G D := fun ρ S q => gs ρ S fun ds S1 => r ds S1 q
theorem d_callB {x : Str} {id : String} {p : Pos} {r : List V → Hp → VK → Prop} {g : RND} (hc : CallR X (.builtin id) r) (hv : VRN X.K r g) (hg : Gl X x) (hm : X.mg x = none) (hb : bootBuiltins x = some (.builtin id)) (ha : PA X (e :: es) (tofA X.K U gr)) (hn : x ≠ "__name__" := by decide) (hdb : (x == ("__debug__" : Str)) = false := by decide)
    (hs : starEach (e :: es) X.env = (false, eval e X.env) :: starEach es X.env := by rfl) (hpl : (backTo pos (starEach es X.env)).any (·.1) = false := by rfl) : PE X (.Call (.Name x p) (e :: es) [] pos) (tofE X.K U (gCB g gr)) :=
  weakE (pe_callB hc hg hm hb ha hn hdb hs hpl) fun σ H Q ⟨m, S, Z, ρ, q, w, rs, h, k⟩ => tof_in w rs h fun v1 H1 m1 d1 S1 e1 w1 r1 h1 => hv w1 r1 h1 (k.ext e1)
def VRM (K : PySem.W.Frag) (T : String) (r : V → List V → Hp → VK → Prop) (g : D → RND) : Prop := (∀ {U : Wi} {m : Nat → Addr} {S : Sto} {Z : Addr → Prop} {H : Hp} {o : D} {u : V} {a : List D} {v : List V} {q : D → Sto → Prop} {Q : VK}, Wd K U m S Z H → Rep K m S.length (vis m S Z H) o u → Reps K m S.length (vis m S Z H) a v →
  g o a S q → Outs m S Z H K U (rD K) q Q → r u v H Q)
/-- the receiver's kind -/
def isTy (T : String) (S : Sto) : D → Bool
  | .str _ => T == "str"
  | .lst _ => T == "list"
  | .ksq _ => T == "list"
  | .tup _ => T == "tuple"
  | .int _ => T == "int"
  | .loc k => match S[k]? with
    | some (some (.lst _)) => T == "list"
    | some (some (.dic _ _)) => T == "dict"
    | some (some (.dicT _ _)) => T == "dict"
    | _ => false
  | .dic _ _ => T == "dict"
  | _ => false
end
end Dl
namespace Dl
open PySem L2
/-- what is wanted behind a statement, by data -/
structure DE where
  nx : Env_ → Sto → Prop
  rt : D → Sto → Prop
  bk : Env_ → Sto → Prop := fun _ _ => False
  ct : Env_ → Sto → Prop := fun _ _ => False
abbrev GS := DE → Env_ → Sto → Prop
abbrev rS (K : PySem.W.Frag) : (Nat → Addr) → Nat → Hp → Env_ → St → Prop := fun m N Hv ρ σ => RelS K m N Hv ρ σ
structure OutE (m : Nat → Addr) (S : Sto) (Z : Addr → Prop) (H : Hp) (K : PySem.W.Frag) (U : Wi) (E : DE) (De : Ends) : Prop where
  nx : Outs m S Z H K U (rS K) E.nx De.nx
  rt : Outs m S Z H K U (rD K) E.rt De.rt
  bk : Outs m S Z H K U (rS K) E.bk De.bk
  ct : Outs m S Z H K U (rS K) E.ct De.ct
def tofS (K : PySem.W.Frag) (U : Wi) (g : GS) : TS := fun De σ H => ∃ m S Z ρ E, Wd K U m S Z H ∧ RelS K m S.length (vis m S Z H) ρ σ ∧ g E ρ S ∧ OutE m S Z H K U E De
section
variable {K : PySem.W.Frag} {m m1 : Nat → Addr} {S S1 : Sto} {Z : Addr → Prop} {H H1 : Hp} {E : DE} {De : Ends} {ρ : Env_} {σ : St}
theorem OutE.ext (e : Ext m S Z H m1 S1 H1) (k : OutE m S Z H K U E De) : OutE m1 S1 Z H1 K U E De := ⟨k.nx.ext e, k.rt.ext e, k.bk.ext e, k.ct.ext e⟩
theorem tofS_in {g : GS} (w : Wd K U m S Z H) (r : RelS K m S.length (vis m S Z H) ρ σ) (h : g E ρ S) (k : OutE m S Z H K U E De) : tofS K U g De σ H := ⟨m, S, Z, ρ, E, w, r, h, k⟩
end
def gNext : GS := fun E ρ S => E.nx ρ S
def gSeq (g1 g2 : GS) : GS := fun E ρ S => g1 { E with nx := g2 E } ρ S
def gBreak : GS := fun E ρ S => E.bk ρ S
def gCont : GS := fun E ρ S => E.ct ρ S
def gDrop (ge : G D) : GS := fun E ρ S => ge ρ S fun _ S1 => E.nx ρ S1
def gRet (ge : G D) : GS := fun E ρ S => ge ρ S E.rt
def gRetN : GS := fun E ρ S => E.rt .non S
def gIfS (gt : G Bool) (g1 g2 : GS) : GS := fun E ρ S => gt ρ S fun b S1 => if b = true then g1 E ρ S1 else g2 E ρ S1
def gDead : GS := fun _ _ _ => False
section
variable {X : Cx} {pos : Pos} {st : Stmt} {rest : List Stmt} {e c : Expr} {ge : G D} {gt : G Bool} {g1 g2 : GS}
theorem d_dead : PS X st (tofS X.K U gDead) := weakS deadS fun E σ H ⟨m, S, Z, ρ, D, w, rs, h, k⟩ => h
theorem ds_nil : PSs X [] (tofS X.K U gNext) := weakSs pss_nil fun E σ H ⟨m, S, Z, ρ, D, w, rs, h, k⟩ => k.nx.now w rs h
theorem ds_cons (h1 : PS X st (tofS X.K U g1)) (h2 : PSs X rest (tofS X.K U g2)) : PSs X (st :: rest) (tofS X.K U (gSeq g1 g2)) :=
  weakSs (pss_cons h1 h2) fun E σ H ⟨m, S, Z, ρ, D, w, rs, h, k⟩ => tofS_in (E := { D with nx := g2 D }) w rs h ⟨fun σ1 H1 m1 ρ1 S1 e1 w1 r1 h1 => tofS_in w1 r1 h1 (k.ext e1), k.rt, k.bk, k.ct⟩
theorem ds_one (h1 : PS X st (tofS X.K U g1)) : PSs X [st] (tofS X.K U g1) := pss_one h1
theorem d_expr (he : PE X e (tofE X.K U ge)) (hs : swapsWith e none pos.line X.env = pure false := by rfl) : PS X (.Expr e pos) (tofS X.K U (gDrop ge)) :=
  weakS (ps_expr he hs) fun E σ H ⟨m, S, Z, ρ, D, w, rs, h, k⟩ => tof_in w rs h fun v1 H1 m1 d1 S1 e1 w1 r1 h1 => k.nx.at e1 w1 (rs.ext e1) h1
theorem d_ret (he : PE X e (tofE X.K U ge)) : PS X (.Return (some e) pos) (tofS X.K U (gRet ge)) :=
  weakS (ps_ret he) fun E σ H ⟨m, S, Z, ρ, D, w, rs, h, k⟩ => tof_in w rs h k.rt
theorem d_if {a b : List Stmt} (hc : PT X c (tofB X.K U gt)) (ha : PSs X a (tofS X.K U g1)) (hb : PSs X b (tofS X.K U g2)) : PS X (.If c a b pos) (tofS X.K U (gIfS gt g1 g2)) :=
  weakS (ps_if hc ha hb) fun E σ H ⟨m, S, Z, ρ, D, w, rs, h, k⟩ => tof_in w rs h fun v1 H1 m1 d1 S1 e1 w1 r1 h1 => by
    cases (show d1 = v1 from r1)
    cases v1 with
    | true => exact tofS_in w1 (rs.ext e1) h1 (k.ext e1)
    | false => exact tofS_in w1 (rs.ext e1) h1 (k.ext e1)
end
inductive Tgt where
  | nm (i : Nat) | tp (ts : List Tgt)
mutual
def Tgt.bind : Tgt → D → Env_ → Option Env_
  | .nm i, d, ρ => some (ρ.set i (some d))
  | .tp ts, .tup ds, ρ => Tgt.binds ts ds ρ
  | .tp _, _, _ => none
def Tgt.binds : List Tgt → List D → Env_ → Option Env_
  | [], [], ρ => some ρ
  | t :: ts, d :: ds, ρ => (Tgt.bind t d ρ).bind fun ρ' => Tgt.binds ts ds ρ'
  | _, _, _ => none
end
mutual
def Tgt.gof (K : PySem.W.Frag) : Tgt → TG
  | .nm i => gName i
  | .tp ts => L2.gTup K ts.length (Tgt.gofs K ts)
def Tgt.gofs (K : PySem.W.Frag) : List Tgt → TGs
  | [] => L2.gNil
  | t :: ts => L2.gCons (Tgt.gof K t) (Tgt.gofs K ts)
end
mutual
def Tgt.slots : Tgt → List Nat
  | .nm i => [i]
  | .tp ts => Tgt.slotss ts
def Tgt.slotss : List Tgt → List Nat
  | [] => []
  | t :: ts => Tgt.slots t ++ Tgt.slotss ts
end
theorem wipe_swap (σ : St) (v : Nat) : ∀ vs : List Nat, wipe (σ.set v none) vs = (wipe σ vs).set v none
  | [] => rfl
  | u :: us => by
    show (wipe (σ.set v none) us).set u none = ((wipe σ us).set u none).set v none
    rw [wipe_swap σ v us]
    by_cases h : u = v
    · subst h; rfl
    · exact List.set_comm _ _ (fun z => h z.symm)
theorem wipe_set {σ : St} {i : Nat} {x : Option V} : ∀ {vs : List Nat}, i ∈ vs → wipe (σ.set i x) vs = wipe σ vs
  | [], h => by cases h
  | v :: vs, h => by
    show (wipe (σ.set i x) vs).set v none = (wipe σ vs).set v none
    by_cases hv : i = v
    · subst hv
      rw [← wipe_swap, ← wipe_swap, List.set_set]
    · rcases List.mem_cons.mp h with e | h
      · exact absurd e hv
      · rw [wipe_set h]
theorem wipe_wipe {σ : St} : ∀ {vs : List Nat} (ws : List Nat), (∀ v ∈ vs, v ∈ ws) → wipe (wipe σ vs) ws = wipe σ ws
  | [], ws, _ => rfl
  | v :: vs, ws, h => by
    show wipe ((wipe σ vs).set v none) ws = wipe σ ws
    rw [wipe_set (h v (List.mem_cons_self ..)), wipe_wipe ws fun u hu => h u (List.mem_cons_of_mem _ hu)]
section
variable {K : PySem.W.Frag} {m : Nat → Addr} {N : Nat} {Hv H : Hp} {vs : List Nat}
mutual
theorem Tgt.ok (hH : ∀ a o, Hv a = some o → H a = some o) : ∀ {t : Tgt} {d : D} {v : V} {ρ ρ' : Env_} {σ : St} {Q : St → Hp → Prop}, t.bind d ρ = some ρ' → Rep K m N Hv d v → RelS K m N Hv ρ σ →
    (∀ σ', RelS K m N Hv ρ' σ' → ((∀ i ∈ t.slots, i ∈ vs) → wipe σ' vs = wipe σ vs) → Q σ' H) → t.gof K v σ H Q
  | .nm i, d, v, ρ, ρ', σ, Q, e, r, rs, k => by
    rw [Tgt.bind] at e
    cases e
    rw [Tgt.gof]
    exact k _ (rs.set r) fun h => wipe_set (h i (by rw [Tgt.slots]; exact List.mem_singleton.mpr rfl))
  | .tp ts, .tup ds, v, ρ, ρ', σ, Q, e, r, rs, k => by
    rw [Tgt.bind] at e
    rw [Rep] at r
    obtain ⟨a, xs, ev, hs, hr⟩ := r
    rw [Tgt.gof]
    have hl : ds.length = ts.length := Tgt.binds_len e
    refine ⟨a, xs, ev, SqT.sub hH hs, by rw [Reps.len hr, hl], Tgt.oks hH e hr rs fun σ' r' hw => k σ' r' fun h => hw fun i hi => h i (by rw [Tgt.slots]; exact hi)⟩
  | .tp ts, .non, v, ρ, ρ', σ, Q, e, r, rs, k => by rw [Tgt.bind] at e <;> first | cases e | (intro _ z; cases z)
  | .tp ts, .bl _, v, ρ, ρ', σ, Q, e, r, rs, k => by rw [Tgt.bind] at e <;> first | cases e | (intro _ z; cases z)
  | .tp ts, .int _, v, ρ, ρ', σ, Q, e, r, rs, k => by rw [Tgt.bind] at e <;> first | cases e | (intro _ z; cases z)
  | .tp ts, .str _, v, ρ, ρ', σ, Q, e, r, rs, k => by rw [Tgt.bind] at e <;> first | cases e | (intro _ z; cases z)
  | .tp ts, .lst _, v, ρ, ρ', σ, Q, e, r, rs, k => by rw [Tgt.bind] at e <;> first | cases e | (intro _ z; cases z)
  | .tp ts, .ksq _, v, ρ, ρ', σ, Q, e, r, rs, k => by rw [Tgt.bind] at e <;> first | cases e | (intro _ z; cases z)
  | .tp ts, .obj _ _ _, v, ρ, ρ', σ, Q, e, r, rs, k => by rw [Tgt.bind] at e <;> first | cases e | (intro _ z; cases z)
  | .tp ts, .dic _ _, v, ρ, ρ', σ, Q, e, r, rs, k => by rw [Tgt.bind] at e <;> first | cases e | (intro _ z; cases z)
  | .tp ts, .loc _, v, ρ, ρ', σ, Q, e, r, rs, k => by rw [Tgt.bind] at e <;> first | cases e | (intro _ z; cases z)
  | .tp ts, .ref _, v, ρ, ρ', σ, Q, e, r, rs, k => by rw [Tgt.bind] at e <;> first | cases e | (intro _ z; cases z)
  | .tp ts, .ty _, v, ρ, ρ', σ, Q, e, r, rs, k => by rw [Tgt.bind] at e <;> first | cases e | (intro _ z; cases z)
  | .tp ts, .exc _ _ _, v, ρ, ρ', σ, Q, e, r, rs, k => by rw [Tgt.bind] at e <;> first | cases e | (intro _ z; cases z)
theorem Tgt.oks (hH : ∀ a o, Hv a = some o → H a = some o) : ∀ {ts : List Tgt} {ds : List D} {xs : List V} {ρ ρ' : Env_} {σ : St} {Q : St → Hp → Prop}, Tgt.binds ts ds ρ = some ρ' → Reps K m N Hv ds xs → RelS K m N Hv ρ σ →
    (∀ σ', RelS K m N Hv ρ' σ' → ((∀ i ∈ Tgt.slotss ts, i ∈ vs) → wipe σ' vs = wipe σ vs) → Q σ' H) → Tgt.gofs K ts xs σ H Q
  | [], [], xs, ρ, ρ', σ, Q, e, r, rs, k => by
    rw [Tgt.binds] at e
    cases e
    rw [Reps] at r
    rw [Tgt.gofs]
    exact ⟨r, k σ rs fun _ => rfl⟩
  | t :: ts, d :: ds, xs, ρ, ρ', σ, Q, e, r, rs, k => by
    rw [Tgt.binds] at e
    rw [Reps] at r
    obtain ⟨v, q, ev, r1, r2⟩ := r
    rw [Tgt.gofs]
    cases h1 : t.bind d ρ with
    | none => rw [h1] at e; cases e
    | some ρ1 =>
      rw [h1] at e
      refine ⟨v, q, ev, Tgt.ok hH h1 r1 rs fun σ1 rs1 hw1 => Tgt.oks hH e r2 rs1 fun σ2 rs2 hw2 => k σ2 rs2 fun h => ?_⟩
      rw [hw2 fun i hi => h i (by rw [Tgt.slotss]; exact List.mem_append_right _ hi), hw1 fun i hi => h i (by rw [Tgt.slotss]; exact List.mem_append_left _ hi)]
  | [], _ :: _, xs, ρ, ρ', σ, Q, e, r, rs, k => by rw [Tgt.binds] at e <;> first | cases e | (intros; simp_all)
  | _ :: _, [], xs, ρ, ρ', σ, Q, e, r, rs, k => by rw [Tgt.binds] at e <;> first | cases e | (intros; simp_all)
theorem Tgt.binds_len : ∀ {ts : List Tgt} {ds : List D} {ρ ρ' : Env_}, Tgt.binds ts ds ρ = some ρ' → ds.length = ts.length
  | [], [], _, _, _ => rfl
  | t :: ts, d :: ds, ρ, ρ', e => by
    rw [Tgt.binds] at e
    cases h1 : t.bind d ρ with
    | none => rw [h1] at e; cases e
    | some ρ1 =>
      rw [h1] at e
      rw [List.length_cons, List.length_cons, Tgt.binds_len e]
  | [], _ :: _, ρ, ρ', e => by rw [Tgt.binds] at e <;> first | cases e | (intros; simp_all)
  | _ :: _, [], ρ, ρ', e => by rw [Tgt.binds] at e <;> first | cases e | (intros; simp_all)
end
end
/-- name(s) = e -/
def gAsg (t : Tgt) (ge : G D) : GS := fun E ρ S => ge ρ S fun d S1 => ∃ ρ', t.bind d ρ = some ρ' ∧ E.nx ρ' S1
def gSet (i : Nat) (ge : G D) : GS := fun E ρ S => ge ρ S fun d S1 => E.nx (ρ.set i (some d)) S1
/-- name op= e -/
def gAug (i : Nat) (r : R2D) (ge : G D) : GS := fun E ρ S => ∃ x : D, ρ[i]? = some (some x) ∧ ge ρ S fun y S1 => r x y S1 fun z S2 => E.nx (ρ.set i (some z)) S2
theorem vis_le {m : Nat → Addr} {S : Sto} {Z : Addr → Prop} {H : Hp} : ∀ a o, vis m S Z H a = some o → H a = some o := fun _ _ h => vis_sub h
section
variable {X : Cx} {pos : Pos} {e tg : Expr} {ge : G D}
theorem d_set {i : Nat} {x : Str} {pos' : Pos} (hN : X.N.Nodup) (hi : X.N[i]? = some x) (hx : Loc X.env.scope x) (he : PE X e (tofE X.K U ge)) (hs : swapsWith e (some (.Name x pos')) pos.line X.env = pure false := by rfl)
    (hf : X.fn x = true ∨ X.env.scope.names.lookup x = some .local := by first | exact .inl rfl | exact .inr rfl | assumption) : PS X (.Assign [.Name x pos'] e pos) (tofS X.K U (gSet i ge)) :=
  weakS (ps_set hN hi hx he hs hf) fun E σ H ⟨m, S, Z, ρ, D, w, rs, h, k⟩ => tof_in w rs h fun v1 H1 m1 d1 S1 e1 w1 r1 h1 => k.nx.at e1 w1 ((rs.ext e1).set r1) h1
end
structure Lt (m : Nat → Addr) (S : Sto) (Z : Addr → Prop) (H : Hp) (m' : Nat → Addr) (S' : Sto) (Z' : Addr → Prop) (H' : Hp) : Prop where
  len : S.length ≤ S'.length
  loc : ∀ i, i < S.length → m' i = m i
  vis : ∀ a o, Dl.vis m S Z H a = some o → Dl.vis m' S' Z' H' a = some o
theorem Ext.lt {m m' : Nat → Addr} {S S' : Sto} {Z : Addr → Prop} {H H' : Hp} (e : Ext m S Z H m' S' H') : Lt m S Z H m' S' Z H' := ⟨e.len, e.loc, e.vis⟩
structure Yl (K : PySem.W.Frag) (J : It) (m : Nat → Addr) (S : Sto) (Z : Addr → Prop) (H : Hp) (ds : List D) (chk : Sto → Prop) : Prop where
  go : ∀ {U : Wi} {m' : Nat → Addr} {S' : Sto} {Z' : Addr → Prop} {H' : Hp} {i : Nat}, Lt m S Z H m' S' Z' H' → Wd K U m' S' Z' H' → chk S' → i < ds.length → J.go i H' ∧ ∀ x H2, J.yld i H' x H2 → ∃ d, ds[i]? = some d ∧ Wd K U m' S' Z' H2 ∧ Ext m' S' Z' H' m' S' H2 ∧ Rep K m' S'.length (vis m' S' Z' H2) d x
  stop : ∀ {U : Wi} {m' : Nat → Addr} {S' : Sto} {Z' : Addr → Prop} {H' : Hp}, Lt m S Z H m' S' Z' H' → Wd K U m' S' Z' H' → chk S' → J.stop ds.length H'
abbrev GI := Env_ → Sto → (List D → (Sto → Prop) → Sto → Prop) → Prop
def tofI (K : PySem.W.Frag) (U : Wi) (gi : GI) : TI := fun σ H R => ∃ m S Z ρ q, Wd K U m S Z H ∧ RelS K m S.length (vis m S Z H) ρ σ ∧ gi ρ S q ∧
  ∀ J H' m' S' ds chk, Ext m S Z H m' S' H' → Wd K U m' S' Z H' → Yl K J m' S' Z H' ds chk → q ds chk S' → R J H'
def gFor (gi : GI) (t : Tgt) (gb : GS) : GS := fun E ρ S => gi ρ S fun ds chk S1 => ∃ I : Nat → Env_ → Sto → Prop, I 0 ρ S1 ∧
  (∀ i d ρ S, ds[i]? = some d → I i ρ S → chk S ∧ ∃ ρ', t.bind d ρ = some ρ' ∧ gb { nx := I (i + 1), rt := E.rt, ct := I (i + 1), bk := E.nx } ρ' S) ∧ ∀ ρ S, I ds.length ρ S → chk S ∧ E.nx ρ S
section
variable {X : Cx} {pos : Pos} {tg iter : Expr} {gi : GI} {t : Tgt} {gb : GS} {body : List Stmt}
theorem weakI {w w' : TI} (h : PI X tg iter w) (k : ∀ σ H R, w' σ H R → w σ H R) : PI X tg iter w' := ⟨fun pins s σ H R I q => h.run pins s σ H R I (k σ H R q)⟩
theorem d_for (hp : PassesOwn (model X.prog X.w) X.A X.env X.xe) (hc : X.calm = true) (hi : PI X tg iter (tofI X.K U gi)) (hg : PG X tg (t.gof X.K)) (hb : PSs X body (tofS X.K U gb)) (hs : ∀ x, foldedSetIterable iter X.env x = pure x := by intro _; rfl) :
    PS X (.For tg iter body [] pos) (tofS X.K U (gFor gi t gb)) := by
  refine weakS (ps_for hp hc hi hg hb hs) fun De σ H ⟨m, S, Z, ρ, E, w, rs, h, k⟩ => ?_
  refine ⟨m, S, Z, ρ, _, w, rs, h, fun J H1 m1 S1 ds chk e1 w1 Y ⟨I, h0, hstep, hend⟩ => ?_⟩
  refine ⟨fun i n σ' H' => n = ds.length - i ∧ i ≤ ds.length ∧ ∃ m' S' ρ', Ext m1 S1 Z H1 m' S' H' ∧ Wd X.K U m' S' Z H' ∧ RelS X.K m' S'.length (vis m' S' Z H') ρ' σ' ∧ I i ρ' S', ⟨ds.length, by simp, Nat.zero_le _, m1, S1, ρ, Ext.refl, w1, rs.ext e1, h0⟩, ?_⟩
  rintro i n σ2 H2 ⟨rfl, hi2, m2, S2, ρ2, e2, w2, rs2, I2⟩
  by_cases hlt : i < ds.length
  · right
    obtain ⟨d, hd⟩ : ∃ d, ds[i]? = some d := ⟨ds[i], by simp [hlt]⟩
    obtain ⟨hchk, ρ3, hbind, hbody⟩ := hstep i d ρ2 S2 hd I2
    obtain ⟨g1, g2⟩ := Y.go e2.lt w2 hchk hlt
    refine ⟨g1, fun σ' H' => ∃ m' S' ρ', Ext m1 S1 Z H1 m' S' H' ∧ Wd X.K U m' S' Z H' ∧ RelS X.K m' S'.length (vis m' S' Z H') ρ' σ' ∧ I (i + 1) ρ' S', fun σ' H' hN => ⟨ds.length - (i + 1), by omega, rfl, hlt, hN⟩, fun x H3 hy => ?_⟩
    obtain ⟨d', hd', w3, e3, r3⟩ := g2 x H3 hy
    rw [hd] at hd'; cases hd'
    refine Tgt.ok (vs := []) vis_le hbind r3 (rs2.ext e3) fun σ4 rs4 _ => ?_
    have e23 := e2.trans e3
    exact tofS_in w3 rs4 hbody ⟨fun σ5 H5 m5 ρ5 S5 e5 w5 r5 h5 => ⟨m5, S5, ρ5, e23.trans e5, w5, r5, h5⟩, k.rt.ext (e1.trans e23), k.nx.ext (e1.trans e23), fun σ5 H5 m5 ρ5 S5 e5 w5 r5 h5 => ⟨m5, S5, ρ5, e23.trans e5, w5, r5, h5⟩⟩
  · left
    have ei : i = ds.length := by omega
    subst ei
    obtain ⟨hchk, hnx⟩ := hend ρ2 S2 I2
    exact ⟨Y.stop e2.lt w2 hchk, k.nx.at (e1.trans e2) w2 rs2 hnx⟩
end
end Dl
namespace Dl
open PySem L2 PyProof.Rows
structure RoomG (k : Nat) (A : Around) : Prop extends Room k A where
  gd : A.guards = some []
theorem RoomG.mono {j k : Nat} {A : Around} (r : RoomG k A) (h : j ≤ k) : RoomG j A := ⟨r.toRoom.mono h, r.gd⟩
theorem RoomG.deeper {k : Nat} {A : Around} (r : RoomG (k + 1) A) (env : Env) : RoomG k (A.deeper env) := ⟨r.toRoom.deeper env, r.gd⟩
theorem RoomG.in1 {k : Nat} {A : Around} (r : RoomG (k + 1) A) : RoomG k A.in1 := ⟨r.toRoom.in1, r.gd⟩
theorem make_guards {A : Around} {C : Addr} {us : List Value} {kw : List (Str × Value)} (h : A.guards = some []) : (A.under (.builtin "type.__call__" ⟨.ref C :: us, kw⟩)).guards = some [] := by
  simp [Around.under, Code.guards, Code.isGuard, guardIds, pushGuards, h]
theorem RoomG.make {k : Nat} {A : Around} (r : RoomG (k + 1) A) (C : Addr) (us : List Value) (kw : List (Str × Value)) : RoomG k (A.under (.builtin "type.__call__" ⟨.ref C :: us, kw⟩)) := ⟨r.toRoom.make C us kw, make_guards r.gd⟩
structure SubG (X : Cx) (n : Nat) (A : Around) : Prop where
  room : RoomG n A
  fr : A.frames = X.A.frames
theorem SubG.in1 {X : Cx} {n : Nat} {A : Around} (s : SubG X (n + 1) A) : SubG X n A.in1 := ⟨s.room.in1, s.fr⟩
theorem SubG.mono {X : Cx} {n m : Nat} {A : Around} (s : SubG X n A) (h : m ≤ n) : SubG X m A := ⟨s.room.mono h, s.fr⟩
/-- a def that keeps a promise wherever no repr is under way -/
structure FnG (P : Program) (w : World) (K : PySem.W.Frag) (mg : Str → Option Value) (base : Heap) (CX : CXT) (k : Nat) (f : Addr) (fd : FuncData) (ps : List Str) (sp : Sp) : Prop where
  len : ∀ vs H Q E, sp vs H Q E → vs.length = ps.length
  run : ∀ (A : Around) (outer : List Env) (s : Shared) (H : Hp) (args : Args) (us : List Value) (vs : List V) (Q : VK) (E : XK), RoomG k A → Env0 P w K mg base A outer s H → BindsTo s fd args (ps.zip us) → Vals vs us →
    sp vs H Q E → codeAny (model P w) A (.call (.ref f) args) (CR CX outer P w H s Q E) s
section
variable {P : Program} {w : World} {K : PySem.W.Frag} {mg : Str → Option Value} {base : Heap} {CX : CXT} {k : Nat} {f : Addr} {fd : FuncData} {ps : List Str} {sp sp' : Sp}
theorem FnG.mono {j : Nat} (F : FnG P w K mg base CX j f fd ps sp) (h : j ≤ k) : FnG P w K mg base CX k f fd ps sp where
  len := F.len
  run A outer s H args us vs Q E hr := F.run A outer s H args us vs Q E (hr.mono h)
theorem FnG.imp (F : FnG P w K mg base CX k f fd ps sp) (h : ∀ vs H Q E, sp' vs H Q E → sp vs H Q E) : FnG P w K mg base CX k f fd ps sp' where
  len vs H Q E q := F.len vs H Q E (h vs H Q E q)
  run A outer s H args us vs Q E hr e0 hb hv hs := F.run A outer s H args us vs Q E hr e0 hb hv (h vs H Q E hs)
/-- by its body -/
theorem FnG.by_body {x qual : Str} {params : Arguments} {body : List Stmt} {scope : Scope} {dvs : List V} {kws : List (Str × V)} {N : List Str} (F : FunD K x qual params body scope dvs kws f fd) (S : FnScope N ps scope) (len : ∀ vs H Q E, sp vs H Q E → vs.length = ps.length)
    (go : ∀ (cdv : Value) (A : Around) (outer : List Env) (s : Shared) (H : Hp) (vs : List V) (Q : VK) (E : XK), RoomG k (A.deeper (envOfC qual scope s.heap.objs.size f cdv)) → sp vs H Q E →
      ∃ t, PSs (cxOf CX P w K mg base N qual scope f cdv A outer s H E) body t ∧ t { nx := fun _ H' => Q .non H', rt := Q } (L2.start N vs) H) : FnG P w K mg base CX (k + 1) f fd ps sp := by
  obtain ⟨oc, od, dV, kV, doc, pm, an, cdv, ct, osl, rfl, lk, hcd, _, _⟩ := F.ex
  constructor
  · exact len
  intro A outer s H args us vs Q E hr e0 hb hv hsp
  have kept : ∀ b o, base.get? b = some o → s.heap.get? b = some o := fun b o e => (e0.bs b o e).1
  have inK := e0.mod.kin.keeps kept
  refine codeAny_call_function hr.toRoom.depth (inK _ _ lk) rfl S.co S.gen rfl (PySem.W.codeRec_of inK hcd) (hb _ _ _ _ ?_)
  refine wpAny_newFunctionEnv_cells S.kind (fun y hy => ?_) fun env he s1 x => ?_
  · rcases S.par y.1 (List.of_mem_zip (a := y.1) (b := y.2) hy).1 with q | q
    · left; exact q
    · right; exact ⟨q, PySem.W.cellsFrom_some _ _ _ (.inl q)⟩
  subst he
  obtain ⟨t, ht, hq⟩ := go cdv A outer s H vs Q E (hr.deeper _) hsp
  refine ⟨(e0.mod.nolimit.keeps kept).keeps x.toInCall.keep, codeAny_func (wpAny_mono (ht.run [] s1 _ H _ (inv_start S hr.hd e0 (len _ _ _ _ hsp) hv x) hq) (fun fl s' hs => ?_) fun e s' hs => hs)⟩
  cases fl with
  | ret u => obtain ⟨v, σ', H', J, rv, q⟩ := hs; exact ⟨v, H', J.os, J.bare, J.base, J.hok, rv, q⟩
  | next => obtain ⟨σ', H', J, q⟩ := hs; exact ⟨.non, H', J.os, J.bare, J.base, J.hok, rfl, q⟩
  | brk => obtain ⟨σ', H', J, q⟩ := hs; exact q.elim
  | cont => obtain ⟨σ', H', J, q⟩ := hs; exact q.elim
end
section
variable {X : Cx} {CX : CXT} {k n : Nat} {f C : Addr} {fd : FuncData} {ps ks : List Str} {sp : Sp} {E : XK} {g : List Value → List Value → List Value} {gV : List V → List V → List V}
/-- a def's end, told to its caller -/
theorem told {pins : List (Addr × Obj)} {σ : L2.St} {H : Hp} {s : Shared} {Q : VK} (hx : PassesAt CX X σ E) (I : Inv X pins σ H s) (r : Result) (s' : Shared) (h : CR CX X.stack X.prog X.w H s Q E r s') :
    (match r with | .ok (.ret u) => EP X pins σ Q u s' | .ok _ => False | .error e => X.xe e s') := by
  cases r with
  | error e => exact hx pins H s e s' I h
  | ok fl =>
    cases fl with
    | ret u => exact I.after h
    | next => exact h
    | brk => exact h
    | cont => exact h
theorem run_fnS' {pins : List (Addr × Obj)} {σ : L2.St} {H : Hp} {s : Shared} {Q : VK} {us ws : List Value} {vs zs : List V} (F : FnG X.prog X.w X.K X.mg X.base CX k f fd ps sp) (hr : RoomG k X.A) (hb : KBn X.K fd ps n ks g gV) (hx : PassesAt CX X σ E)
    (I : Inv X pins σ H s) (r : Vals vs us) (rz : Vals zs ws) (l1 : vs.length = n) (l2 : zs.length = ks.length) (h : sp (gV vs zs) H Q E) : wpAny (model X.prog X.w) X.A (call (.ref f) us (ks.zip ws)) (EP X pins σ Q) X.xe s := by
  refine wpAny_call (codeAny_mono (F.run X.A X.stack s H ⟨us, ks.zip ws⟩ (g us ws) (gV vs zs) Q E hr I.env0 (hb.to s us ws I.kIn (r.length.symm.trans l1) (rz.length.symm.trans l2)) (hb.rel r rz) h) fun r s' q => ?_)
  have z := told hx I r s' q
  cases r with
  | error e => exact z
  | ok fl => cases fl <;> exact z
theorem passAll {σ : L2.St} (hx : Passes CX X E) : PassesAt CX X σ E := fun pins H s e s' => hx pins σ H s e s'
theorem run_fnG {pins : List (Addr × Obj)} {σ : L2.St} {H : Hp} {s : Shared} {Q : VK} {us ws : List Value} {vs zs : List V} (F : FnG X.prog X.w X.K X.mg X.base CX k f fd ps sp) (hr : RoomG k X.A) (hb : KBn X.K fd ps n ks g gV) (hx : Passes CX X E)
    (I : Inv X pins σ H s) (r : Vals vs us) (rz : Vals zs ws) (l1 : vs.length = n) (l2 : zs.length = ks.length) (h : sp (gV vs zs) H Q E) : wpAny (model X.prog X.w) X.A (call (.ref f) us (ks.zip ws)) (EP X pins σ Q) X.xe s :=
  run_fnS' F hr hb (passAll hx) I r rz l1 l2 h
/-- C(..) -/
theorem run_makeS {pins : List (Addr × Obj)} {σ : L2.St} {H : Hp} {s : Shared} {Q : VK} {us ws : List Value} {vs zs : List V} (M : Mk X.K C f) (F : FnG X.prog X.w X.K X.mg X.base CX k f fd ps sp) (hr : RoomG (k + 1) X.A) (hb : KBn X.K fd ps (n + 1) ks g gV)
    (hx : PassesAt CX X σ E) (I : Inv X pins σ H s) (r : Vals vs us) (rz : Vals zs ws) (l1 : vs.length = n) (l2 : zs.length = ks.length)
    (h : ∀ x dx, H x = none → H dx = none → dx ≠ x → sp (gV (.ref x :: vs) zs) (upd (upd H dx (.own x)) x (.ins C dx [])) (fun v H2 => v = .non ∧ Q (.ref x) H2) E) :
    wpAny (model X.prog X.w) X.A (call (.ref C) us (ks.zip ws)) (EP X pins σ Q) X.xe s := by
  let sz := s.heap.objs.size
  have hq := h (sz + 1) sz (I.hok.fresh (Nat.le_succ _)) (I.hok.fresh (Nat.le_refl _)) (Nat.ne_of_lt (Nat.lt_succ_self _))
  have I2 := Inv.made (C := C) I
  have r1 : Vals (V.ref (sz + 1) :: vs) (Value.ref (sz + 1) :: us) := .cons rfl r
  have b2 := hb.to _ (Value.ref (sz + 1) :: us) ws I2.kIn (r1.length.symm.trans (congrArg Nat.succ l1)) (rz.length.symm.trans l2)
  have run := F.run _ X.stack _ _ ⟨Value.ref (sz + 1) :: us, ks.zip ws⟩ (g (Value.ref (sz + 1) :: us) ws) _ _ E (hr.make C us (ks.zip ws)) (I2.env0.make C us (ks.zip ws)) b2 (hb.rel r1 rz) hq
  refine wpAny_call (make_map (f := f) I.kIn M.makes M.init (beq_iff_eq.mp M.fn) (codeAny_mono run fun r s' q => ?_))
  have z := told hx I2 r s' q
  cases r with
  | error e => exact z
  | ok fl =>
    cases fl with
    | ret u =>
      obtain ⟨v, H', I3, rv, ev, q3⟩ := z
      subst ev
      exact ⟨rv, ⟨V.ref (sz + 1), H', I3, rfl, q3⟩⟩
    | next => exact z
    | brk => exact z
    | cont => exact z
theorem run_makeG {pins : List (Addr × Obj)} {σ : L2.St} {H : Hp} {s : Shared} {Q : VK} {us ws : List Value} {vs zs : List V} (M : Mk X.K C f) (F : FnG X.prog X.w X.K X.mg X.base CX k f fd ps sp) (hr : RoomG (k + 1) X.A) (hb : KBn X.K fd ps (n + 1) ks g gV)
    (hx : Passes CX X E) (I : Inv X pins σ H s) (r : Vals vs us) (rz : Vals zs ws) (l1 : vs.length = n) (l2 : zs.length = ks.length)
    (h : ∀ x dx, H x = none → H dx = none → dx ≠ x → sp (gV (.ref x :: vs) zs) (upd (upd H dx (.own x)) x (.ins C dx [])) (fun v H2 => v = .non ∧ Q (.ref x) H2) E) :
    wpAny (model X.prog X.w) X.A (call (.ref C) us (ks.zip ws)) (EP X pins σ Q) X.xe s := run_makeS M F hr hb (passAll hx) I r rz l1 l2 h
end
end Dl
namespace Dl
open PySem L2
abbrev DSp := List D → Sto → (D → Sto → Prop) → Prop
theorem Outs.to0 {A B : Type} {K : PySem.W.Frag} {U : Wi} {m : Nat → Addr} {S : Sto} {Z : Addr → Prop} {H : Hp} {rel : (Nat → Addr) → Nat → Hp → A → B → Prop} {q : A → Sto → Prop} {Q : B → Hp → Prop} (w : Wd K U m S Z H) (k : Outs m S Z H K U rel q Q) : Outs m S Z H K U0 rel q Q :=
  fun b H' m' a S' e w0 r h => k b H' m' a S' e (w.on e w0.toWd0) r h
theorem Wd.w0 {K : PySem.W.Frag} {U : Wi} {m : Nat → Addr} {S : Sto} {Z : Addr → Prop} {H : Hp} (w : Wd K U m S Z H) : Wd K U0 m S Z H := w.toWd0.u0
def spOf (K : PySem.W.Frag) (dsp : DSp) : Sp := fun vs H Q _ => ∃ m S Z ds q, Wd K U0 m S Z H ∧ Reps K m S.length (vis m S Z H) ds vs ∧ dsp ds S q ∧ Outs m S Z H K U0 (rD K) q Q
def startD (N : List Str) (ds : List D) : Env_ := ds.map some ++ List.replicate (N.length - ds.length) none
theorem relS_start {K : PySem.W.Frag} {m : Nat → Addr} {n : Nat} {Hv : Hp} {N : List Str} {ds : List D} {vs : List V} (r : Reps K m n Hv ds vs) : RelS K m n Hv (startD N ds) (L2.start N vs) := by
  have hl := Reps.len r
  refine ⟨by unfold startD L2.start; simp [hl], fun i d e => ?_⟩
  unfold startD at e
  by_cases hi : i < ds.length
  · rw [List.getElem?_append_left (by simpa using hi), List.getElem?_map] at e
    cases h1 : ds[i]? with
    | none => rw [h1] at e; cases e
    | some x =>
      rw [h1] at e
      cases e
      obtain ⟨v, h2, h3⟩ := Reps.get r h1
      refine ⟨v, ?_, h3⟩
      unfold L2.start
      rw [List.getElem?_append_left (by rw [List.length_map, hl]; exact hi), List.getElem?_map, h2]
      rfl
  · rw [List.getElem?_append_right (by simpa using Nat.le_of_not_lt hi), List.getElem?_replicate] at e
    split at e <;> cases e
theorem Wd.under {K : PySem.W.Frag} {m : Nat → Addr} {S : Sto} {Z : Addr → Prop} {H : Hp} (w : Wd K U m S Z H) : Sto.under S.length S = true := by
  refine List.all_eq_true.mpr fun o ho => ?_
  cases o with
  | none => rfl
  | some x =>
    obtain ⟨i, hi⟩ := List.getElem?_of_mem ho
    have r := w.rep i x hi
    show x.under S.length = true
    cases x with
    | lst ds => obtain ⟨vs, _, r⟩ := r; exact Reps.below r
    | obj C ks ds => obtain ⟨dx, vs, _, _, r⟩ := r; exact Reps.below r
    | dic ks ds => obtain ⟨vs, _, _, r⟩ := r; exact Reps.below r
    | dicT ks ds => obtain ⟨vs, _, _, r⟩ := r; exact Reps.below r
/-- a def's end: the store cut back to what it was, a list of its own given up -/
def fin (n : Nat) (q : D → Sto → Prop) (d : D) (S' : Sto) : Prop :=
  Sto.under n (S'.take n) = true ∧ match d with
  | .loc k => if k < n then q (.loc k) (S'.take n) else match S'[k]? with
    | some (some (.lst ds)) => D.unders n ds = true ∧ q (.lst ds) (S'.take n)
    | some (some (.dic ks ds)) => D.unders n ds = true ∧ q (.dic ks ds) (S'.take n)
    | some (some (.obj C ks ds)) => D.unders n ds = true ∧ q (.obj C ks ds) (S'.take n)
    | _ => False
  | d => d.under n = true ∧ q d (S'.take n)
theorem take_setN {S : Sto} {k n : Nat} (h : n ≤ k) : (S.set k none).take n = S.take n := by
  apply List.ext_getElem?
  intro i
  by_cases hi : i < n
  · rw [List.getElem?_take_of_lt hi, List.getElem?_take_of_lt hi, List.getElem?_set_ne (by omega)]
  · rw [List.getElem?_eq_none_iff.mpr (by rw [List.length_take]; omega), List.getElem?_eq_none_iff.mpr (by rw [List.length_take]; omega)]
theorem out_fin {K : PySem.W.Frag} {m : Nat → Addr} {S : Sto} {Z : Addr → Prop} {H : Hp} {q : D → Sto → Prop} {Q : VK} (w0 : Wd K U m S Z H) (k : Outs m S Z H K U (rD K) q Q) : Outs m S Z H K U (rD K) (fin S.length q) Q := by
  intro v H' m' d S' e w r ⟨hu, h⟩
  have e2 := e.take (Nat.le_refl _) e.len
  have w2 := w0.on e2 (w.toWd0.take e.len hu)
  have len : (S'.take S.length).length = S.length := by rw [List.length_take]; have := e.len; omega
  have key : ∀ {d : D}, Rep K m' S'.length (vis m' S' Z H') d v → d.under S.length = true → Rep K m' (S'.take S.length).length (vis m' (S'.take S.length) Z H') d v := fun {d} r hb => by
    rw [len]
    exact Rep.cut e.len (Rep.mono (fun _ _ => rfl) (Nat.le_refl _) (fun a o z => vis_take z) r) hb
  have key2 : ∀ {j : Nat} {d : D}, S.length ≤ j → v = V.ref (m' j) → Rep K m' (S'.set j none).length (vis m' (S'.set j none) Z H') d (.ref (m' j)) → d.under S.length = true →
      Rep K m' (S'.take S.length).length (vis m' (S'.take S.length) Z H') d v := fun {j d} hj hv r hb => by
    rw [hv, len]
    have r2 := Rep.cut (n := S.length) (by rw [List.length_set]; exact e.len) (Rep.mono (fun _ _ => rfl) (Nat.le_refl _) (fun a o z => vis_take (n := S.length) z) r) hb
    rw [take_setN hj] at r2
    exact r2
  cases d with
  | loc j =>
    by_cases hj : j < S.length
    · have h' : q (.loc j) (S'.take S.length) := by simpa [hj] using h
      exact k.at e2 w2 (key r (by simp [D.under, hj])) h'
    · have h' : match S'[j]? with
        | some (some (.lst ds)) => D.unders S.length ds = true ∧ q (.lst ds) (S'.take S.length)
        | some (some (.dic ks ds)) => D.unders S.length ds = true ∧ q (.dic ks ds) (S'.take S.length)
        | some (some (.obj C ks ds)) => D.unders S.length ds = true ∧ q (.obj C ks ds) (S'.take S.length)
        | _ => False := by simpa [hj] using h
      have hv : v = V.ref (m' j) := by
        have r' : Rep K m' S'.length (vis m' S' Z H') (.loc j) v := r
        rw [Rep] at r'
        exact r'.1
      have hj' := Nat.le_of_not_lt hj
      cases ho : S'[j]? with
      | none => rw [ho] at h'; exact h'.elim
      | some o =>
        cases o with
        | none => rw [ho] at h'; exact h'.elim
        | some o =>
          rw [ho] at h'
          cases o with
          | lst ds => exact k.at e2 w2 (key2 hj' hv (w.frozen_lst ho) (by simpa [D.under] using h'.1)) h'.2
          | dic ks ds => exact k.at e2 w2 (key2 hj' hv (w.frozen_dic ho) (by simpa [D.under] using h'.1)) h'.2
          | obj C ks ds => exact k.at e2 w2 (key2 hj' hv (w.frozen_obj ho) (by simpa [D.under] using h'.1)) h'.2
          | dicT ks ds => exact h'.elim
  | non => exact k.at e2 w2 (key r h.1) h.2
  | bl b => exact k.at e2 w2 (key r h.1) h.2
  | int b => exact k.at e2 w2 (key r h.1) h.2
  | str b => exact k.at e2 w2 (key r h.1) h.2
  | tup b => exact k.at e2 w2 (key r h.1) h.2
  | lst b => exact k.at e2 w2 (key r h.1) h.2
  | ksq b => exact k.at e2 w2 (key r h.1) h.2
  | obj C b c => exact k.at e2 w2 (key r h.1) h.2
  | dic b c => exact k.at e2 w2 (key r h.1) h.2
  | ref b => exact k.at e2 w2 (key r h.1) h.2
  | ty b => exact k.at e2 w2 (key r h.1) h.2
  | exc a b c => exact k.at e2 w2 (key r h.1) h.2
inductive Src where
  | p (i : Nat) | d (i : Nat) | k (i : Nat)
def pick {A : Type} (us its ws : List A) : Src → Option A
  | .p i => us[i]?
  | .d i => its[i]?
  | .k i => ws[i]?
def gat {A : Type} (src : List Src) (us its ws : List A) : List A := src.filterMap (pick us its ws)
theorem paired_at {A B : Type} {F : A → B → Prop} : ∀ {l : List A} {l' : List B}, Paired F l l' → ∀ i : Nat, (l[i]? = none ∧ l'[i]? = none) ∨ ∃ (a : A) (b : B), l[i]? = some a ∧ l'[i]? = some b ∧ F a b
  | _, _, .nil, i => .inl (by simp)
  | _, _, .cons r t, 0 => .inr ⟨_, _, rfl, rfl, r⟩
  | _, _, .cons r t, i + 1 => by simpa using paired_at t i
theorem gat_pair {A B : Type} {F : A → B → Prop} {us its ws : List A} {us' its' ws' : List B} (h1 : Paired F us us') (h2 : Paired F its its') (h3 : Paired F ws ws') : ∀ src : List Src, Paired F (gat src us its ws) (gat src us' its' ws')
  | [] => .nil
  | x :: xs => by
    have ih := gat_pair h1 h2 h3 xs
    unfold gat at *
    have : (pick us its ws x = none ∧ pick us' its' ws' x = none) ∨ ∃ a b, pick us its ws x = some a ∧ pick us' its' ws' x = some b ∧ F a b := by
      cases x with
      | p i => exact paired_at h1 i
      | d i => exact paired_at h2 i
      | k i => exact paired_at h3 i
    rcases this with ⟨e1, e2⟩ | ⟨a, b, e1, e2, r⟩
    · rw [List.filterMap_cons_none e1, List.filterMap_cons_none e2]; exact ih
    · rw [List.filterMap_cons_some e1, List.filterMap_cons_some e2]; exact .cons r ih
theorem Reps.paired {K : PySem.W.Frag} {m : Nat → Addr} {N : Nat} {H : Hp} : ∀ {ds : List D} {vs : List V}, Reps K m N H ds vs → Paired (fun d v => Rep K m N H d v) ds vs
  | [], _, r => by rw [show _ = [] from r]; exact .nil
  | d :: ds, _, r => by
    obtain ⟨v, q, e, r1, r2⟩ := r
    rw [e]
    exact .cons r1 (Reps.paired r2)
theorem Reps.of_paired {K : PySem.W.Frag} {m : Nat → Addr} {N : Nat} {H : Hp} : ∀ {ds : List D} {vs : List V}, Paired (fun d v => Rep K m N H d v) ds vs → Reps K m N H ds vs
  | _, _, .nil => reps_nil
  | _, _, .cons r t => Reps.cons r (Reps.of_paired t)
/-- how a call with n values and keywords ks binds; nd defaults -/
inductive Bnd (x qual : Str) (st : Stmt) (ps : List Str) (n : Nat) (ks : List Str) (src : List Src) : Nat → Prop where
  | zero (h : ∀ (kV doc pm : Value) (an : Option Addr) (cdv ct : Value) (us ws : List Value), us.length = n → ws.length = ks.length →
      bindArgs (PySem.W.fnOf x qual (defArgs st) (defBody st) (defScope st) .none kV doc pm an cdv ct) ⟨us, ks.zip ws⟩ = pure (ps.zip (gat src us [] ws))) : Bnd x qual st ps n ks src 0
  | more (nd : Nat) (h : ∀ (T : Addr) (kV doc pm : Value) (an : Option Addr) (cdv ct : Value) (us its ws : List Value), us.length = n → its.length = nd + 1 → ws.length = ks.length →
      ∃ k, bindArgs (PySem.W.fnOf x qual (defArgs st) (defBody st) (defScope st) (.ref T) kV doc pm an cdv ct) ⟨us, ks.zip ws⟩ = seqItems? (.ref T) >>= k ∧ k (some its.toArray) = pure (ps.zip (gat src us its ws))) : Bnd x qual st ps n ks src (nd + 1)
abbrev FunS (K : PySem.W.Frag) (x qual : Str) (st : Stmt) (dvs : List V) (f : Addr) (fd : FuncData) : Prop := FunD K x qual (defArgs st) (defBody st) (defScope st) dvs [] f fd
theorem kbn_of {K : PySem.W.Frag} {x qual : Str} {st : Stmt} {dvs : List V} {f : Addr} {fd : FuncData} {ps ks : List Str} {n : Nat} {src : List Src} (F : FunS K x qual st dvs f fd) (b : Bnd x qual st ps n ks src dvs.length) :
    ∃ its : List Value, KBn K fd ps n ks (fun us ws => gat src us its ws) (fun vs zs => gat src vs dvs zs) := by
  obtain ⟨oc, od, dV, kV, doc, pm, an, cdv, ct, osl, rfl, lk, hcd, hD, hK⟩ := F.ex
  rcases hD with ⟨rfl, rfl⟩ | ⟨hne, T, o, its, mm, rfl, lT, oT, rT⟩
  · cases b with
    | zero h => exact ⟨[], ⟨fun s us ws X l1 l2 => .of_eq (h kV doc pm an cdv ct us ws l1 l2), fun r1 r2 => gat_pair r1 .nil r2 src⟩⟩
  · have hb : ∃ nd, dvs.length = nd + 1 := by
      cases dvs with
      | nil => exact absurd rfl hne
      | cons _ r => exact ⟨r.length, rfl⟩
    obtain ⟨nd, e⟩ := hb
    rw [e] at b
    cases b with
    | more _ h =>
      refine ⟨its, ⟨fun s us ws X l1 l2 => ?_, fun r1 r2 => gat_pair r1 rT r2 src⟩⟩
      obtain ⟨k, e1, e2⟩ := h T kV doc pm an cdv ct us its ws l1 (rT.length.symm.trans e) l2
      refine BindsTo.of_looks fun M => ?_
      rw [e1]
      exact looks_items X lT oT (.of_pure e2)
abbrev GA := Env_ → Sto → (List D → List D → Sto → Prop) → Prop
def gArgs (ga gk : G (List D)) : GA := fun ρ S q => ga ρ S fun as S1 => gk ρ S1 fun ks S2 => q as ks S2
abbrev TA2 := St → Hp → (List V → List V → Hp → Prop) → Prop
structure PArgs (X : Cx) (es : List Expr) (kws : List Keyword) (pos : Pos) (ks : List Str) (t : TA2) : Prop where
  run : ∀ (pins : List (Addr × Obj)) (s : Shared) (σ : St) (H : Hp) (Q : List V → List V → Hp → Prop) (f : Value) (first : List Value) (R : Value → Shared → Prop), Inv X pins σ H s → PySem.W.keepIn X.K f = true → t σ H Q →
    (∀ us ws vs zs s' H', Inv X pins σ H' s' → Vals vs us → Vals zs ws → Q vs zs H' → wpAny (model X.prog X.w) X.A (call f (first ++ us) (ks.zip ws)) R X.xe s') →
    wpAny (model X.prog X.w) X.A (callWith pos f first (backTo pos (starEach es X.env)) (backToKw pos (keywordEach kws X.env))) R X.xe s
def tof2 (K : PySem.W.Frag) (U : Wi) (g : GA) : TA2 := fun σ H Q => ∃ m S Z ρ q, Wd K U m S Z H ∧ RelS K m S.length (vis m S Z H) ρ σ ∧ g ρ S q ∧
  ∀ vs zs H' m' as ks S', Ext m S Z H m' S' H' → Wd K U m' S' Z H' → Reps K m' S'.length (vis m' S' Z H') as vs → Reps K m' S'.length (vis m' S' Z H') ks zs → q as ks S' → Q vs zs H'
section
variable {X : Cx} {pos : Pos} {e : Expr} {es : List Expr} {kws : List Keyword} {ks : List Str} {ga gk : G (List D)}
theorem dk_nil : PK X [] (tofA X.K U gNil) := ⟨fun pos pins s σ H Q I ⟨m, S, Z, ρ, q, w, rs, h, k⟩ => (pk_nil (X := X)).run pos pins s σ H Q I (k.now w reps_nil h)⟩
theorem dk_cons {nm : Option Str} {kpos : Pos} {ge : G D} (ha : PE X e (tofE X.K U ge)) (hr : PK X kws (tofA X.K U gk)) : PK X (⟨nm, e, kpos⟩ :: kws) (tofA X.K U (gCons ge gk)) :=
  ⟨fun pos pins s σ H Q I ⟨m, S, Z, ρ, q, w, rs, h, k⟩ => (pk_cons (nm := nm) (kpos := kpos) ha hr).run pos pins s σ H Q I
    (tof_in w rs h fun v1 H1 m1 d1 S1 e1 w1 r1 h1 => tof_in w1 (rs.ext e1) h1 fun v2 H2 m2 d2 S2 e2 w2 r2 h2 => k.at (e1.trans e2) w2 (Reps.cons (r1.ext e2) r2) h2)⟩
theorem da_p0 (ha : PA X (e :: es) (tofA X.K U ga)) (he : starEach (e :: es) X.env = (false, eval e X.env) :: starEach es X.env := by rfl) (hpl : (backTo pos (starEach es X.env)).any (·.1) = false := by rfl) :
    PArgs X (e :: es) [] pos [] (tof2 X.K U (gArgs ga gNil)) := ⟨fun pins s σ H Q f first R I hk h go => by
  obtain ⟨m, S, Z, ρ, q, w, rs, h, k⟩ := h
  refine PySem.W.callWith_K (h₀ := X.base) I.ok.mod.kin hk (thn (ha.run pos pins s σ H (fun vs H1 => Q vs [] H1) I (tof_in w rs h fun v1 H1 m1 d1 S1 e1 w1 r1 h1 => k v1 [] H1 m1 d1 [] S1 e1 w1 r1 reps_nil h1)) fun us s1 ⟨vs, H1, I1, r, q⟩ => ⟨I1.kIn, ?_⟩) he hpl
  exact go us [] vs [] s1 H1 I1 r .nil q⟩
theorem da_0k (hkw : PK X kws (tofA X.K U gk)) (hall : (backToKw pos (keywordEach kws X.env)).all (·.1.isSome) = true := by rfl) (hks : (backToKw pos (keywordEach kws X.env)).filterMap (·.1) = ks := by rfl)
    (hpl : ((backTo pos (starEach [] X.env)).any (·.1) || (backToKw pos (keywordEach kws X.env)).any (·.1.isNone)) = false := by rfl) : PArgs X [] kws pos ks (tof2 X.K U (gArgs gNil gk)) := ⟨fun pins s σ H Q f first R I hk h go => by
  obtain ⟨m, S, Z, ρ, q, w, rs, h, k⟩ := h
  refine PySem.W.callWith_KW0 (h₀ := X.base) I.ok.mod.kin hk hall (thn (hkw.run pos pins s σ H (fun zs H1 => Q [] zs H1) I (tof_in w rs h fun v1 H1 m1 d1 S1 e1 w1 r1 h1 => k [] v1 H1 m1 [] d1 S1 e1 w1 reps_nil r1 h1)) fun ws s1 ⟨zs, H1, I1, r, q⟩ => ⟨I1.kIn, ?_⟩) hpl
  rw [hks]
  exact go [] ws [] zs s1 H1 I1 .nil r q⟩
end
/-- a def of the top with its promise -/
structure Fnc (P : Program) (w : World) (K : PySem.W.Frag) (mg : Str → Option Value) (base : Heap) (x : Str) (st : Stmt) (dvs : List V) (k : Nat) (ps : List Str) (dsp : DSp) : Prop where
  ex : ∃ f fd, FunS K x x st dvs f fd ∧ mg x = some (.ref f) ∧ FnG P w K mg base CX0 k f fd ps (spOf K dsp)
def DfV (dds : List D) (dvs : List V) : Prop := ∀ K m N Hv, Reps K m N Hv dds dvs
theorem dfv_nil : DfV [] [] := fun _ _ _ _ => reps_nil
/-- f(..): n values, keywords -/
def gCall (n nk : Nat) (src : List Src) (dds : List D) (dsp : DSp) (ga : GA) : G D := fun ρ S q => ga ρ S fun as ks S1 => as.length = n ∧ ks.length = nk ∧ dsp (gat src as dds ks) S1 q
section
variable {X : Cx} {pos p apos : Pos} {x m qual : Str} {st : Stmt} {dvs : List V} {dds : List D} {k n : Nat} {ps ks : List Str} {dsp : DSp} {es : List Expr} {kws : List Keyword} {src : List Src} {ga : GA}
theorem gat_reps {K : PySem.W.Frag} {mm : Nat → Addr} {N : Nat} {Hv : Hp} {as zs : List D} {vs ws : List V} (r1 : Reps K mm N Hv as vs) (hd : DfV dds dvs) (r2 : Reps K mm N Hv zs ws) : Reps K mm N Hv (gat src as dds zs) (gat src vs dvs ws) :=
  Reps.of_paired (gat_pair (Reps.paired r1) (Reps.paired (hd K mm N Hv)) (Reps.paired r2) src)
theorem d_call (F : Fnc X.prog X.w X.K X.mg X.base x st dvs k ps dsp) (hr : RoomG k X.A) (hg : Gl X x) (b : Bnd x x st ps n ks src dvs.length) (hd : DfV dds dvs) (ha : PArgs X es kws pos ks (tof2 X.K U ga)) (hdb : (x == ("__debug__" : Str)) = false := by decide) :
    PE X (.Call (.Name x p) es kws pos) (tofE X.K U (gCall n ks.length src dds dsp ga)) := by
  refine ⟨fun pins s σ H Q I ⟨mm, S, Z, ρ, q, w, rs, h, kk⟩ => ?_⟩
  obtain ⟨f, fd, FS, hm, FO⟩ := F.ex
  obtain ⟨its, KB⟩ := kbn_of FS b
  refine wpAny_Call_Name_kw (ld_glob I hg hm ?_ hdb)
  refine ha.run pins s σ H (fun vs zs H1 => vs.length = n ∧ zs.length = ks.length ∧ spOf X.K dsp (gat src vs dvs zs) H1 Q fun _ _ _ => False) (.ref f) [] _ I FS.kp ⟨mm, S, Z, ρ, _, w, rs, h, fun vs zs H1 m1 as zd S1 e1 w1 r1 r2 h1 => ?_⟩ fun us ws vs zs s1 H1 I1 rv rz ⟨l1, l2, hs⟩ => ?_
  · exact ⟨by rw [Reps.len r1]; exact h1.1, by rw [Reps.len r2]; exact h1.2.1, m1, S1, Z, gat src as dds zd, q, w1.w0, gat_reps r1 hd r2, h1.2.2, (kk.ext e1).to0 w1⟩
  · exact run_fnG FO hr KB pass0 I1 rv rz l1 l2 hs
end
end Dl
namespace Dl
open PySem L2
def putK (f : Str) : List Str → List Str
  | [] => [f]
  | g :: ks => if g = f then g :: ks else g :: putK f ks
def putX {A : Type} (f : Str) (y : A) : List Str → List A → List A
  | [], _ => [y]
  | g :: ks, x :: xs => if g = f then y :: xs else x :: putX f y ks xs
  | _ :: _, [] => []
theorem putF_zip (f : Str) (v : V) : ∀ (ks : List Str) (vs : List V), ks.length = vs.length → putF f v (ks.zip vs) = (putK f ks).zip (putX f v ks vs) ∧ (putK f ks).length = (putX f v ks vs).length
  | [], [], _ => ⟨rfl, rfl⟩
  | g :: ks, x :: vs, h => by
    have ih := putF_zip f v ks vs (by simpa using h)
    rw [List.zip_cons_cons, putF, putK, putX]
    by_cases e : g = f
    · rw [if_pos e, if_pos e, if_pos e, List.zip_cons_cons]
      exact ⟨rfl, by simpa using h⟩
    · rw [if_neg e, if_neg e, if_neg e, List.zip_cons_cons, ih.1]
      exact ⟨rfl, by simp [ih.2]⟩
  | [], _ :: _, h => by simp at h
  | _ :: _, [], h => by simp at h
def fget (f : Str) (ks : List Str) (ds : List D) : Option D := (ks.zip ds).lookup f
section
variable {K : PySem.W.Frag} {m : Nat → Addr} {N : Nat} {Hv : Hp}
theorem reps_putX {f : Str} {d : D} {v : V} (r : Rep K m N Hv d v) : ∀ {ks : List Str} {ds : List D} {vs : List V}, ks.length = vs.length → Reps K m N Hv ds vs → Reps K m N Hv (putX f d ks ds) (putX f v ks vs)
  | [], _, _, _, _ => Reps.one r
  | g :: ks, [], _, h, q => by rw [show _ = [] from q] at h; simp at h
  | g :: ks, x :: ds, _, h, q => by
    obtain ⟨u, us, e, r1, r2⟩ := q
    rw [e] at h ⊢
    rw [putX, putX]
    by_cases e1 : g = f
    · rw [if_pos e1, if_pos e1]; exact Reps.cons r r2
    · rw [if_neg e1, if_neg e1]; exact Reps.cons r1 (reps_putX r (by simpa using h) r2)
theorem reps_fget {f : Str} : ∀ {ks : List Str} {ds : List D} {vs : List V} {d : D}, Reps K m N Hv ds vs → fget f ks ds = some d → ∃ v, (ks.zip vs).lookup f = some v ∧ Rep K m N Hv d v
  | [], _, _, _, _, h => by simp [fget] at h
  | _ :: _, [], _, _, _, h => by simp [fget] at h
  | g :: ks, x :: ds, _, d, q, h => by
    obtain ⟨u, us, e, r1, r2⟩ := q
    rw [e]
    unfold fget at h
    rw [List.zip_cons_cons, List.lookup_cons] at h ⊢
    by_cases e1 : f == g
    · rw [e1] at h ⊢
      cases h
      exact ⟨u, rfl, r1⟩
    · rw [Bool.eq_false_iff.mpr e1] at h ⊢
      exact reps_fget r2 h
end
def objOf (S : Sto) : D → Option (Addr × List Str × List D)
  | .obj C ks ds => some (C, ks, ds)
  | .loc n => match S[n]? with
    | some (some (.obj C ks ds)) => some (C, ks, ds)
    | _ => none
  | _ => none
theorem objOf_rep {K : PySem.W.Frag} {m : Nat → Addr} {S : Sto} {Z : Addr → Prop} {H : Hp} {d : D} {v : V} {C : Addr} {ks : List Str} {ds : List D} (w : Wd K U m S Z H) (r : Rep K m S.length (vis m S Z H) d v) (h : objOf S d = some (C, ks, ds)) :
    ∃ a dx vs, v = .ref a ∧ H a = some (.ins C dx (ks.zip vs)) ∧ ks.length = vs.length ∧ Reps K m S.length (vis m S Z H) ds vs := by
  cases d with
  | obj C' ks' ds' =>
    cases h
    rw [Rep] at r
    obtain ⟨a, dx, vs, e, h1, h2, h3⟩ := r
    exact ⟨a, dx, vs, e, vis_sub h1, h2, h3⟩
  | loc n =>
    rw [Rep] at r
    rw [objOf] at h
    cases hS : S[n]? with
    | none => rw [hS] at h; cases h
    | some o =>
      cases o with
      | none => rw [hS] at h; cases h
      | some o =>
        cases o with
        | obj C' ks' ds' =>
          rw [hS] at h
          cases h
          obtain ⟨dx, vs, h1, h2, h3⟩ := w.rep n _ hS
          exact ⟨m n, dx, vs, r.1, h1, h2, h3⟩
        | lst _ => rw [hS] at h; cases h
        | dic _ _ => rw [hS] at h; cases h
        | dicT _ _ => rw [hS] at h; cases h
  | non => cases h
  | bl _ => cases h
  | int _ => cases h
  | str _ => cases h
  | tup _ => cases h
  | lst _ => cases h
  | ksq _ => cases h
  | dic _ _ => cases h
  | ref _ => cases h
  | ty _ => cases h
  | exc _ _ _ => cases h
structure FldOk (K : PySem.W.Frag) (C : Addr) (f : Str) : Prop where
  cl : Cls K C
  no : NoAttr K C f
def gFld (K : PySem.W.Frag) (f : Str) (go : G D) : G D := fun ρ S q => go ρ S fun o S1 => ∃ C ks ds d, objOf S1 o = some (C, ks, ds) ∧ FldOk K C f ∧ fget f ks ds = some d ∧ q d S1
def gFldSet (K : PySem.W.Frag) (f : Str) (go gv : G D) : GS := fun E ρ S => gv ρ S fun y S1 => go ρ S1 fun o S2 => ∃ n C ks ds, o = .loc n ∧ S2[n]? = some (some (.obj C ks ds)) ∧ FldOk K C f ∧ ks.length < 1000 ∧
  E.nx ρ (S2.set n (some (.obj C (putK f ks) (putX f y ks ds))))
section
variable {X : Cx} {pos pos' : Pos} {e o value : Expr} {f : Str} {go gv : G D}
theorem d_fld (he : PE X e (tofE X.K U go)) (hb : attributeBase e f X.env (eval e X.env) = eval e X.env := by rfl) : PE X (.Attribute e f pos) (tofE X.K U (gFld X.K f go)) :=
  weakE (pe_fld he hb) fun σ H Q ⟨m, S, Z, ρ, q, w, rs, h, k⟩ => tof_in w rs h fun v1 H1 m1 d1 S1 e1 w1 r1 ⟨C, ks, ds, d, h1, h2, h3, h4⟩ => by
    obtain ⟨a, dx, vs, ev, ha, hl, hr⟩ := objOf_rep w1 r1 h1
    obtain ⟨v, hv, rv⟩ := reps_fget hr h3
    exact ⟨a, C, dx, _, v, ev, ha, h2.cl, h2.no, hv, k.at e1 w1 rv h4⟩
theorem d_fldset (ho : PE X o (tofE X.K U go)) (hv : PE X value (tofE X.K U gv)) (hs : swapsWith value (some (.Attribute o f pos')) pos.line X.env = pure false := by rfl) : PS X (.Assign [.Attribute o f pos'] value pos) (tofS X.K U (gFldSet X.K f go gv)) :=
  weakS (ps_fld ho hv hs) fun De σ H ⟨m, S, Z, ρ, E, w, rs, h, k⟩ => tof_in w rs h fun v1 H1 m1 d1 S1 e1 w1 r1 h1 => tof_in w1 (rs.ext e1) h1 fun v2 H2 m2 d2 S2 e2 w2 r2 ⟨n, C, ks, ds, ed, hS, h2, hl, h3⟩ => by
    subst ed
    obtain ⟨dx, vs, ha, hlen, hr⟩ := w2.rep n _ hS
    have r2' : Rep X.K m2 S2.length (vis m2 S2 Z H2) (.loc n) v2 := r2
    rw [Rep] at r2'
    refine ⟨m2 n, C, dx, _, r2'.1, ha, h2.cl, h2.no, by rw [List.length_zip, ← hlen, Nat.min_self]; exact hl, ?_⟩
    obtain ⟨z1, z2⟩ := putF_zip f v1 ks vs hlen
    rw [z1]
    obtain ⟨w3, e3, hv3⟩ := w2.upd (o := .ins C dx ((putK f ks).zip (putX f v1 ks vs))) (mo := .obj C (putK f ks) (putX f d1 ks ds)) ⟨_, hS⟩ ⟨dx, _, upd_same, z2, reps_putX (r1.ext e2) hlen hr⟩
    exact k.nx.at ((e1.trans e2).trans e3) w3 (rs.ext ((e1.trans e2).trans e3)) h3
end
structure MFn (P : Program) (w : World) (K : PySem.W.Frag) (mg : Str → Option Value) (base : Heap) (C : Addr) (m qual : Str) (st : Stmt) (dvs : List V) (k : Nat) (ps : List Str) (dsp : DSp) : Prop where
  cl : Cls K C
  ex : ∃ f fd, FunS K m qual st dvs f fd ∧ Meth K C m f ∧ FnG P w K mg base CX0 k f fd ps (spOf K dsp)
structure CFn (P : Program) (w : World) (K : PySem.W.Frag) (mg : Str → Option Value) (base : Heap) (x : Str) (C : Addr) (qual : Str) (st : Stmt) (dvs : List V) (k : Nat) (ps : List Str) (dsp : DSp) : Prop where
  mC : mg x = some (.ref C)
  ex : ∃ f fd, FunS K "__init__" qual st dvs f fd ∧ Mk K C f ∧ FnG P w K mg base CX0 k f fd ps (spOf K dsp)
def gMeth (C : Addr) (m : Str) (n nk : Nat) (src : List Src) (dds : List D) (dsp : DSp) (go : G D) (ga : GA) : G D := fun ρ S q => go ρ S fun o S1 => ∃ ks ds, objOf S1 o = some (C, ks, ds) ∧ ks.contains m = false ∧
  ga ρ S1 fun as zs S2 => as.length = n ∧ zs.length = nk ∧ dsp (gat src (o :: as) dds zs) S2 q
/-- C(..), the new instance of the store -/
def gMake (C : Addr) (n nk : Nat) (src : List Src) (dds : List D) (dsp : DSp) (ga : GA) : G D := fun ρ S q => ga ρ S fun as zs S1 => as.length = n ∧ zs.length = nk ∧
  dsp (gat src (.loc S1.length :: as) dds zs) (S1 ++ [some (.obj C [] [])]) fun v S2 => v = .non ∧ q (.loc S1.length) S2
/-- C(..), the new instance given up at once -/
def gMakeF (C : Addr) (n nk : Nat) (src : List Src) (dds : List D) (dsp : DSp) (ga : GA) : G D := fun ρ S q => ga ρ S fun as zs S1 => as.length = n ∧ zs.length = nk ∧ (D.unders S1.length as = true → D.unders S1.length zs = true →
  dsp (gat src (.loc S1.length :: as) dds zs) (S1 ++ [some (.obj C [] [])]) fun v S2 => v = .non ∧ ∃ ks ds, S2 = S1 ++ [some (.obj C ks ds)] ∧ D.unders S1.length ds = true ∧ q (.obj C ks ds) S1)
section
variable {X : Cx} {pos p apos : Pos} {x m qual : Str} {st : Stmt} {dvs : List V} {dds : List D} {k n : Nat} {ps ks : List Str} {dsp : DSp} {es : List Expr} {kws : List Keyword} {src : List Src} {ga : GA} {o : Expr} {go : G D} {C : Addr}
theorem spOf_len {K : PySem.W.Frag} (hl : ∀ ds S q, dsp ds S q → ds.length = ps.length) : ∀ vs H Q E, spOf K dsp vs H Q E → vs.length = ps.length := fun vs H Q E ⟨m, S, Z, ds, q, w, r, h, k⟩ => by rw [Reps.len r]; exact hl ds S q h
theorem run_makeD {P : Program} {wo : World} (M : ∃ f fd, FunS X.K "__init__" qual st dvs f fd ∧ Mk X.K C f ∧ FnG X.prog X.w X.K X.mg X.base CX0 k f fd ps (spOf X.K dsp)) (hm : X.mg x = some (.ref C)) (hr : RoomG (k + 1) X.A) (hg : Gl X x) (b : Bnd "__init__" qual st ps (n + 1) ks src dvs.length)
    (ha : PArgs X es kws pos ks (tof2 X.K U ga)) (hdb : (x == ("__debug__" : Str)) = false) {g : G D}
    (hgo : ∀ σ H Q, tofE X.K U g σ H Q → tof2 X.K U ga σ H fun vs zs H2 => vs.length = n ∧ zs.length = ks.length ∧ ∀ x dx, H2 x = none → H2 dx = none → dx ≠ x → spOf X.K dsp (gat src (.ref x :: vs) dvs zs) (upd (upd H2 dx (.own x)) x (.ins C dx [])) (fun v H3 => v = .non ∧ Q (.ref x) H3) fun _ _ _ => False) :
    PE X (.Call (.Name x p) es kws pos) (tofE X.K U g) := by
  refine ⟨fun pins s σ H Q I h => ?_⟩
  obtain ⟨f, fd, FS, MK, FO⟩ := M
  obtain ⟨its, KB⟩ := kbn_of FS b
  refine wpAny_Call_Name_kw (ld_glob I hg hm ?_ hdb)
  refine ha.run pins s σ H _ (.ref C) [] _ I MK.kp (hgo σ H Q h) fun us ws vs zs s1 H1 I1 rv rz ⟨l1, l2, hs⟩ => ?_
  exact run_makeG MK FO hr KB pass0 I1 rv rz l1 l2 hs
theorem made_in {K : PySem.W.Frag} {mm : Nat → Addr} {S : Sto} {Z : Addr → Prop} {H : Hp} {a dx : Addr} (w : Wd K U mm S Z H) (ha : H a = none) (hdx : H dx = none) (hne : dx ≠ a) :
    ∃ m', m' S.length = a ∧ Wd K U m' (S ++ [some (.obj C [] [])]) Z (upd (upd H dx (.own a)) a (.ins C dx [])) ∧ Ext mm S Z H m' (S ++ [some (.obj C [] [])]) (upd (upd H dx (.own a)) a (.ins C dx [])) := by
  obtain ⟨w1, e1, _⟩ := w.new (o := .own a) hdx
  obtain ⟨m', e0, w2, e2⟩ := w1.add (p := a) (o := .ins C dx []) (mo := .obj C [] []) (by rw [upd_ne hne.symm]; exact ha) fun m1 N1 Hv1 h1 h2 h3 => ⟨dx, [], upd_same, rfl, reps_nil⟩
  exact ⟨m', e0, w2, e1.trans e2⟩
theorem d_makeF (F : CFn X.prog X.w X.K X.mg X.base x C qual st dvs k ps dsp) (hr : RoomG (k + 1) X.A) (hg : Gl X x) (b : Bnd "__init__" qual st ps (n + 1) ks src dvs.length) (hd : DfV dds dvs) (ha : PArgs X es kws pos ks (tof2 X.K U ga)) (hdb : (x == ("__debug__" : Str)) = false := by decide) :
    PE X (.Call (.Name x p) es kws pos) (tofE X.K U (gMakeF C n ks.length src dds dsp ga)) :=
  run_makeD (P := X.prog) (wo := X.w) F.ex F.mC hr hg b ha hdb fun σ H Q ⟨mm, S, Z, ρ, q, w, rs, h, kk⟩ => ⟨mm, S, Z, ρ, _, w, rs, h, fun vs zs H2 m2 as zd S2 e2 w2 r2 r3 h4 => by
    refine ⟨by rw [Reps.len r2]; exact h4.1, by rw [Reps.len r3]; exact h4.2.1, fun a dx ha hdx hne => ?_⟩
    obtain ⟨m', e0, w3, e3⟩ := made_in (C := C) w2 ha hdx hne
    refine ⟨m', _, Z, gat src (.loc S2.length :: as) dds zd, _, w3.w0, gat_reps (Reps.cons (rep_loc e0 (by simp)) (r2.ext e3)) hd (r3.ext e3), h4.2.2 (Reps.below r2) (Reps.below r3), fun v H5 m5 d5 S5 e5 w5 r5 ⟨hv, kf, df, eS, hu, h5⟩ => ?_⟩
    subst hv
    refine ⟨r5, ?_⟩
    subst eS
    have hN : (S2 ++ [some (MO.obj C kf df)])[S2.length]? = some (some (.obj C kf df)) := by simp
    have ht : (S2 ++ [some (MO.obj C kf df)]).take S2.length = S2 := by simp
    have hle : S2.length ≤ (S2 ++ [some (MO.obj C kf df)]).length := by simp
    have w6 := w5.toWd0.take (n := S2.length) hle (by rw [ht]; exact w2.under)
    have e6 := (e3.trans e5).take (n := S2.length) (Nat.le_refl _) hle
    have r6 := w5.frozen_obj hN
    rw [ht] at w6 e6
    have em : m5 S2.length = a := by rw [e5.loc _ (by simp), e0]
    have r7 : Rep X.K m5 S2.length (vis m5 S2 Z H5) (.obj C kf df) (.ref a) := by
      have z := Rep.cut (n := S2.length) (by rw [List.length_set]; exact hle) (Rep.mono (fun _ _ => rfl) (Nat.le_refl _) (fun a o z => vis_take (n := S2.length) z) r6) (by simpa [D.under] using hu)
      rw [take_setN (Nat.le_refl _), ht, em] at z
      exact z
    exact kk.at (e2.trans e6) (w2.on e6 w6) r7 h5⟩
end
section
variable {P : Program} {w : World} {K : PySem.W.Frag} {mg : Str → Option Value} {base : Heap} {x qual : Str} {st : Stmt} {dvs : List V} {f : Addr} {fd : FuncData} {N ps : List Str} {k : Nat} {dsp : DSp}
theorem fn_body (F : FunS K x qual st dvs f fd) (S : FnScope N ps (defScope st)) (len : ∀ ds S q, dsp ds S q → ds.length = ps.length) (g : GS)
    (hbody : ∀ (cdv : Value) (A : Around) (outer : List Env) (s : Shared) (H : Hp) (E : XK), RoomG k (A.deeper (PyProof.Rows.envOfC qual (defScope st) s.heap.objs.size f cdv)) →
      PSs (cxOf CX0 P w K mg base N qual (defScope st) f cdv A outer s H E).nox (defBody st) (tofS K U0 g))
    (hread : ∀ ds S q, D.unders S.length ds = true → Sto.under S.length S = true → dsp ds S q → g { nx := fun _ S' => fin S.length q .non S', rt := fin S.length q } (startD N ds) S) : FnG P w K mg base CX0 (k + 1) f fd ps (spOf K dsp) := by
  refine FnG.by_body F S (spOf_len len) fun cdv A outer s H vs Q E hr ⟨m, St', Z, ds, q, wd, rd, hd, kk⟩ => ?_
  refine ⟨_, (hbody cdv A outer s H E hr).nox, m, St', Z, startD N ds, _, wd, relS_start rd, hread ds St' q (Reps.below rd) wd.under hd, ⟨?_, out_fin wd kk, ?_, ?_⟩⟩
  · exact fun σ' H' m' ρ' S' e' w' _ h' => out_fin wd kk .non H' m' .non S' e' w' rep_non h'
  · exact fun _ _ _ _ _ _ _ _ h => h.elim
  · exact fun _ _ _ _ _ _ _ _ h => h.elim
end
end Dl
namespace Dl
open PySem L2
def seqOf (S : Sto) : D → Option (List D)
  | .lst ds => some ds
  | .ksq ds => some ds
  | .tup ds => some ds
  | .loc n => match S[n]? with
    | some (some (.lst ds)) => some ds
    | _ => none
  | _ => none
def D.isTup : D → Bool
  | .tup _ => true
  | _ => false
theorem loc_lst {S : Sto} {n : Nat} {ds : List D} (h : seqOf S (.loc n) = some ds) : S[n]? = some (some (.lst ds)) := by
  rw [seqOf] at h
  cases hS : S[n]? with
  | none => rw [hS] at h; cases h
  | some o =>
    cases o with
    | none => rw [hS] at h; cases h
    | some o =>
      cases o with
      | lst _ => rw [hS] at h; cases h; rfl
      | obj _ _ _ => rw [hS] at h; cases h
      | dic _ _ => rw [hS] at h; cases h
      | dicT _ _ => rw [hS] at h; cases h
theorem seqOf_rep {K : PySem.W.Frag} {m : Nat → Addr} {S : Sto} {Z : Addr → Prop} {H : Hp} {d : D} {v : V} {ds : List D} (w : Wd K U m S Z H) (r : Rep K m S.length (vis m S Z H) d v) (h : seqOf S d = some ds) :
    ∃ a vs, v = .ref a ∧ Reps K m S.length (vis m S Z H) ds vs ∧ (d.isTup = true → SqT K H a vs) ∧ (d.isTup = false → SqL K H a vs) := by
  cases d with
  | lst ds' => cases h; rw [Rep] at r; obtain ⟨a, vs, e, h1, h2⟩ := r; exact ⟨a, vs, e, h2, fun z => (by cases z), fun _ => SqL.of (vis_sub h1)⟩
  | ksq ds' => cases h; rw [Rep] at r; obtain ⟨a, vs, e, h1, h2⟩ := r; exact ⟨a, vs, e, h2, fun z => (by cases z), fun _ => SqL.sub vis_le h1⟩
  | tup ds' => cases h; rw [Rep] at r; obtain ⟨a, vs, e, h1, h2⟩ := r; exact ⟨a, vs, e, h2, fun _ => SqT.sub vis_le h1, fun z => (by cases z)⟩
  | loc n =>
    rw [Rep] at r
    obtain ⟨vs, h1, h2⟩ := w.rep n _ (loc_lst h)
    exact ⟨m n, vs, r.1, h2, fun z => (by cases z), fun _ => SqL.of h1⟩
  | non => cases h
  | bl _ => cases h
  | int _ => cases h
  | str _ => cases h
  | obj _ _ _ => cases h
  | dic _ _ => cases h
  | ref _ => cases h
  | ty _ => cases h
  | exc _ _ _ => cases h
theorem Rep.lt {K : PySem.W.Frag} {m m' : Nat → Addr} {S S' : Sto} {Z Z' : Addr → Prop} {H H' : Hp} {d : D} {v : V} (e : Lt m S Z H m' S' Z' H') (r : Rep K m S.length (vis m S Z H) d v) : Rep K m' S'.length (vis m' S' Z' H') d v := Rep.mono e.loc e.len e.vis r
theorem Reps.lt {K : PySem.W.Frag} {m m' : Nat → Addr} {S S' : Sto} {Z Z' : Addr → Prop} {H H' : Hp} {d : List D} {v : List V} (e : Lt m S Z H m' S' Z' H') (r : Reps K m S.length (vis m S Z H) d v) : Reps K m' S'.length (vis m' S' Z' H') d v := Reps.mono e.loc e.len e.vis r
def rngD (lo : Int) (n : Nat) : List D := (List.range n).map fun i => .int (lo + ((i : Nat) : Int))
def gRng1 (ga : G (List D)) : GI := fun ρ S q => ga ρ S fun as S1 => ∃ j : Int, as = [.int j] ∧ -(2 ^ 62) ≤ j ∧ j < 2 ^ 62 ∧ q (rngD 0 j.toNat) (fun _ => True) S1
def gRng2 (ga : G (List D)) : GI := fun ρ S q => ga ρ S fun as S1 => ∃ i j : Int, as = [.int i, .int j] ∧ (-(2 ^ 62) ≤ i ∧ i < 2 ^ 62 ∧ -(2 ^ 62) ≤ j ∧ j < 2 ^ 62) ∧ q (rngD i (j - i).toNat) (fun _ => True) S1
def signsD (x : Str) : List D := x.cps.toList.map fun c => .str ⟨#[c]⟩
def enumD (ds : List D) : List D := ds.zipIdx.map fun p => .tup [.int (p.2 : Nat), p.1]
def gEnum (ga : G (List D)) : GI := fun ρ S q => ga ρ S fun as S1 => ∃ d ds, as = [d] ∧ d.isTup = false ∧ seqOf S1 d = some ds ∧ q (enumD ds) (fun S' => seqOf S' d = some ds) S1
def zipD (ds es : List D) : List D := List.zipWith (fun a b => .tup [a, b]) ds es
def gZip (ga : G (List D)) : GI := fun ρ S q => ga ρ S fun as S1 => ∃ d e ds es, as = [d, e] ∧ d.isTup = false ∧ e.isTup = false ∧ seqOf S1 d = some ds ∧ seqOf S1 e = some es ∧ q (zipD ds es) (fun S' => seqOf S' d = some ds ∧ seqOf S' e = some es) S1
section
variable {X : Cx} {pos p tpos : Pos} {tg e e2 : Expr} {ge : G D} {ga : G (List D)}
theorem yl_list {K : PySem.W.Frag} {m : Nat → Addr} {S : Sto} {Z : Addr → Prop} {H : Hp} {d : D} {a : Addr} {ds : List D} (ht : d.isTup = false) (r : Rep K m S.length (vis m S Z H) d (.ref a)) : Yl K (Itl K a) m S Z H ds (fun S' => seqOf S' d = some ds) := by
  refine ⟨fun {_ m' S' Z' H' i} l w hc hi => ?_, fun {_ m' S' Z' H'} l w hc => ?_⟩
  · obtain ⟨a', vs, e, hr, _, hs⟩ := seqOf_rep w (r.lt l) hc
    cases e
    obtain ⟨d', hd⟩ : ∃ d', ds[i]? = some d' := ⟨ds[i], by simp [hi]⟩
    obtain ⟨v, hv, rv⟩ := Reps.get hr hd
    refine ⟨⟨vs, v, hs ht, hv⟩, fun x H2 ⟨e2, hx⟩ => ?_⟩
    subst e2
    have := hx vs (hs ht)
    rw [hv] at this; cases this
    exact ⟨d', hd, w, Ext.refl, rv⟩
  · obtain ⟨a', vs, e, hr, _, hs⟩ := seqOf_rep w (r.lt l) hc
    cases e
    exact ⟨vs, hs ht, by rw [Reps.len hr]; exact Nat.le_refl _⟩
theorem yl_tup {K : PySem.W.Frag} {m : Nat → Addr} {S : Sto} {Z : Addr → Prop} {H : Hp} {d : D} {a : Addr} {ds : List D} (ht : d.isTup = true) (r : Rep K m S.length (vis m S Z H) d (.ref a)) : Yl K (Itt K a) m S Z H ds (fun S' => seqOf S' d = some ds) := by
  refine ⟨fun {_ m' S' Z' H' i} l w hc hi => ?_, fun {_ m' S' Z' H'} l w hc => ?_⟩
  · obtain ⟨a', vs, e, hr, hs, _⟩ := seqOf_rep w (r.lt l) hc
    cases e
    obtain ⟨d', hd⟩ : ∃ d', ds[i]? = some d' := ⟨ds[i], by simp [hi]⟩
    obtain ⟨v, hv, rv⟩ := Reps.get hr hd
    refine ⟨⟨vs, v, hs ht, hv⟩, fun x H2 ⟨e2, hx⟩ => ?_⟩
    subst e2
    have := hx vs (hs ht)
    rw [hv] at this; cases this
    exact ⟨d', hd, w, Ext.refl, rv⟩
  · obtain ⟨a', vs, e, hr, hs, _⟩ := seqOf_rep w (r.lt l) hc
    cases e
    exact ⟨vs, hs ht, by rw [Reps.len hr]; exact Nat.le_refl _⟩
/-- what a for walks: a list, a tuple, a text -/
theorem pi_seq {tl : TE} (hl : PE X e tl) : PI X tg e (fun σ H R => tl σ H fun x H1 => (∃ a, x = .ref a ∧ (∃ xs, SqL X.K H1 a xs) ∧ R (Itl X.K a) H1) ∨ (∃ a, x = .ref a ∧ (∃ xs, SqT X.K H1 a xs) ∧ R (Itt X.K a) H1) ∨ ∃ z, x = .str z ∧ R (Its z) H1) := by
  refine ⟨fun pins s σ H R I h => ?_⟩
  refine thn (hl.run pins s σ H _ I h) fun v s1 ⟨x, H1, I1, r1, q1⟩ => ?_
  rcases q1 with ⟨a, e, ⟨xs, hq⟩, q⟩ | ⟨a, e, ⟨xs, hq⟩, q⟩ | ⟨z, e, q⟩
  · subst e
    cases r1
    obtain ⟨its, rv, p, hz⟩ := I1.list hq
    refine wpAny_pyIter_list p.isList ?_
    refine ⟨s1.heap.objs.size, [s1.heap.objs.size], _, _, H1, rfl, I1.kept (t' := s1.toks) fun b o e => Heap.get?_push_of_some _ e, turn_list a _, ⟨_, Heap.get?_push_size _ rfl, rfl, rfl⟩, fun b hb => ?_, q⟩
    have e : b = s1.heap.objs.size := by simpa using hb
    subst e
    exact I1.fpOk (Nat.le_refl _) (I1.hok.fresh (Nat.le_refl _))
  · subst e
    cases r1
    obtain ⟨its, rv, p, hz⟩ := I1.tuple hq
    refine wpAny_pyIter_tuple (show s1.heap.IsTuple a its.toArray from p) ?_
    refine ⟨s1.heap.objs.size, [s1.heap.objs.size], _, _, H1, rfl, I1.kept (t' := s1.toks) fun b o e => Heap.get?_push_of_some _ e, turn_tuple a _, ⟨_, Heap.get?_push_size _ rfl, rfl, rfl⟩, fun b hb => ?_, q⟩
    have e : b = s1.heap.objs.size := by simpa using hb
    subst e
    exact I1.fpOk (Nat.le_refl _) (I1.hok.fresh (Nat.le_refl _))
  · subst e
    obtain ⟨t, rfl⟩ := r1
    cases ha : z.cps.all (· < 128)
    · exact wpAny_pyIter_wide ha (pi_one (tk := s1.toks) I1 _ (turn_str _ z t "str_iterator" (.inr rfl)) ⟨_, Heap.get?_push_size _ rfl, rfl, rfl⟩ q)
    · exact wpAny_pyIter_ascii ha (pi_one (tk := s1.toks) I1 _ (turn_str _ z t "str_ascii_iterator" (.inl rfl)) ⟨_, Heap.get?_push_size _ rfl, rfl, rfl⟩ q)
def gIt (ge : G D) : GI := fun ρ S q => ge ρ S fun d S1 => match d with
  | .str x => q (signsD x) (fun _ => True) S1
  | d => ∃ ds, seqOf S1 d = some ds ∧ q ds (fun S' => seqOf S' d = some ds) S1
theorem di_seq (h : PE X e (tofE X.K U ge)) : PI X tg e (tofI X.K U (gIt ge)) :=
  weakI (pi_seq h) fun σ H R ⟨m, S, Z, ρ, q, w, rs, h, k⟩ => tof_in w rs h fun v1 H1 m1 d1 S1 e1 w1 r1 h1 => by
    have go : ∀ ds, seqOf S1 d1 = some ds → q ds (fun S' => seqOf S' d1 = some ds) S1 → (∃ a, v1 = .ref a ∧ (∃ xs, SqL X.K H1 a xs) ∧ R (Itl X.K a) H1) ∨ (∃ a, v1 = .ref a ∧ (∃ xs, SqT X.K H1 a xs) ∧ R (Itt X.K a) H1) ∨ ∃ z, v1 = .str z ∧ R (Its z) H1 := fun ds hq hk => by
      obtain ⟨a, vs, e, hr, ht, hl⟩ := seqOf_rep w1 r1 hq
      subst e
      cases hd : d1.isTup with
      | false => exact .inl ⟨a, rfl, ⟨vs, hl hd⟩, k _ _ _ _ _ _ e1 w1 (yl_list hd r1) hk⟩
      | true => exact .inr (.inl ⟨a, rfl, ⟨vs, ht hd⟩, k _ _ _ _ _ _ e1 w1 (yl_tup hd r1) hk⟩)
    cases d1 with
    | str x =>
      have r1' : Rep X.K m1 S1.length (vis m1 S1 Z H1) (.str x) v1 := r1
      rw [Rep] at r1'
      refine .inr (.inr ⟨x, r1', k _ _ _ _ _ _ e1 w1 ⟨fun {_ m' S' Z' H' i} l w hc hi => ?_, fun {_ m' S' Z' H'} l w hc => ?_⟩ h1⟩)
      · have hi' : i < x.cps.size := by simpa [signsD] using hi
        refine ⟨hi', fun y H2 ⟨e2, c, hc, ey⟩ => ?_⟩
        subst e2 ey
        refine ⟨.str ⟨#[c]⟩, ?_, w, Ext.refl, rep_str⟩
        unfold signsD
        rw [List.getElem?_map, Array.getElem?_toList, hc]
        rfl
      · show x.cps.size ≤ (signsD x).length
        simp [signsD]
    | lst _ => obtain ⟨ds, hq, hk⟩ := h1; exact go ds hq hk
    | ksq _ => obtain ⟨ds, hq, hk⟩ := h1; exact go ds hq hk
    | tup _ => obtain ⟨ds, hq, hk⟩ := h1; exact go ds hq hk
    | loc _ => obtain ⟨ds, hq, hk⟩ := h1; exact go ds hq hk
    | non => obtain ⟨ds, hq, hk⟩ := h1; cases hq
    | bl _ => obtain ⟨ds, hq, hk⟩ := h1; cases hq
    | int _ => obtain ⟨ds, hq, hk⟩ := h1; cases hq
    | obj _ _ _ => obtain ⟨ds, hq, hk⟩ := h1; cases hq
    | dic _ _ => obtain ⟨ds, hq, hk⟩ := h1; cases hq
    | ref _ => obtain ⟨ds, hq, hk⟩ := h1; cases hq
    | ty _ => obtain ⟨ds, hq, hk⟩ := h1; cases hq
    | exc _ _ _ => obtain ⟨ds, hq, hk⟩ := h1; cases hq
theorem yl_rng {K : PySem.W.Frag} {m : Nat → Addr} {S : Sto} {Z : Addr → Prop} {H : Hp} {lo : Int} {n : Nat} : Yl K (Itr lo n) m S Z H (rngD lo n) (fun _ => True) := by
  have len : (rngD lo n).length = n := by simp [rngD]
  refine ⟨fun {_ m' S' Z' H' i} l w hc hi => ?_, fun {_ m' S' Z' H'} l w hc => ?_⟩
  · rw [len] at hi
    refine ⟨hi, fun y H2 ⟨e2, ey⟩ => ?_⟩
    subst e2 ey
    exact ⟨.int (lo + (i : Int)), by unfold rngD; rw [List.getElem?_map, List.getElem?_range hi]; rfl, w, Ext.refl, rep_int⟩
  · show n ≤ (rngD lo n).length
    rw [len]
    exact Nat.le_refl _
theorem reps1 {K : PySem.W.Frag} {m : Nat → Addr} {N : Nat} {Hv : Hp} {d : D} {vs : List V} (r : Reps K m N Hv [d] vs) : ∃ v, vs = [v] ∧ Rep K m N Hv d v := by
  obtain ⟨v, q, e, r1, r2⟩ := r
  exact ⟨v, by rw [e, show q = [] from r2], r1⟩
theorem reps2 {K : PySem.W.Frag} {m : Nat → Addr} {N : Nat} {Hv : Hp} {d d' : D} {vs : List V} (r : Reps K m N Hv [d, d'] vs) : ∃ v v', vs = [v, v'] ∧ Rep K m N Hv d v ∧ Rep K m N Hv d' v' := by
  obtain ⟨v, q, e, r1, r2⟩ := r
  obtain ⟨v', e', r'⟩ := reps1 r2
  exact ⟨v, v', by rw [e, e'], r1, r'⟩
theorem di_rng1 {a : Expr} (hg : Gl X "range") (hm : X.mg "range" = none) (ha : PA X [a] (tofA X.K U ga)) (hs : starEach [a] X.env = [(false, eval a X.env)] := by rfl) : PI X tg (.Call (.Name "range" p) [a] [] pos) (tofI X.K U (gRng1 ga)) :=
  weakI (pi_range1 hg hm ha hs) fun σ H R ⟨m, S, Z, ρ, q, w, rs, h, k⟩ => tof_in w rs h fun v1 H1 m1 d1 S1 e1 w1 r1 ⟨j, ed, h1, h2, h3⟩ => by
    subst ed
    obtain ⟨v, ev, rv⟩ := reps1 r1
    rw [Rep] at rv
    exact ⟨j, by rw [ev, rv], h1, h2, k _ _ _ _ _ _ e1 w1 yl_rng h3⟩
end
def wipeD (ρ : Env_) : List Nat → Env_
  | [] => ρ
  | v :: vs => (wipeD ρ vs).set v none
theorem relS_wipe {K : PySem.W.Frag} {m : Nat → Addr} {N : Nat} {Hv : Hp} {ρ : Env_} {σ : L2.St} (r : RelS K m N Hv ρ σ) : ∀ vs : List Nat, RelS K m N Hv (wipeD ρ vs) (wipe σ vs)
  | [] => r
  | v :: vs => by
    have ih := relS_wipe r vs
    refine ⟨by unfold wipeD wipe; rw [List.length_set, List.length_set]; exact ih.1, fun i d e => ?_⟩
    unfold wipeD at e
    by_cases h : v = i
    · subst h
      by_cases hl : v < (wipeD ρ vs).length
      · rw [List.getElem?_set_self hl] at e; cases e
      · rw [List.getElem?_eq_none_iff.mpr (by rw [List.length_set]; omega)] at e; cases e
    · rw [List.getElem?_set_ne h] at e
      obtain ⟨u, h1, h2⟩ := ih.2 i d e
      exact ⟨u, by unfold wipe; rw [List.getElem?_set_ne h]; exact h1, h2⟩
def gYes : G Bool := fun _ S q => q true S
def gLc (fz : Bool) (gi : GI) (t : Tgt) (gt : G Bool) (ge : G D) (vs : List Nat) : G D := fun ρ S q => gi ρ S fun ds chk S1 => ∃ I : Nat → List D → Sto → Prop, I 0 [] S1 ∧
  (∀ i d acc S, ds[i]? = some d → I i acc S → chk S ∧ ∃ ρ', t.bind d (wipeD ρ vs) = some ρ' ∧ gt ρ' S fun b S2 => if b = true then ge ρ' S2 fun y S3 => acc.length < sizeLine ∧ I (i + 1) (acc ++ [y]) S3 else I (i + 1) acc S2) ∧
  ∀ acc S, I ds.length acc S → chk S ∧ newL fz acc S q
theorem Wd0.hide {K : PySem.W.Frag} {m : Nat → Addr} {S : Sto} {Z : Addr → Prop} {H : Hp} (w : Wd0 K m S Z H) {p : Addr} {o : HO} (hp : H p = none) (ho : ∀ ps, o ≠ .tbl ps := by intro ps z; first | (cases z; done) | (unfold excO at z; cases z)) : Wd0 K m S (fun a => Z a ∨ a = p) (L2.upd H p o) ∧ Lt m S Z H m S (fun a => Z a ∨ a = p) (L2.upd H p o) := by
  obtain ⟨nz, nl⟩ := w.fresh hp
  have hv : ∀ a u, vis m S Z H a = some u → vis m S (fun a => Z a ∨ a = p) (L2.upd H p o) a = some u := fun a u h => by
    obtain ⟨z1, z2⟩ := vis_not h
    have nap : a ≠ p := ne_of_none (vis_sub h) hp
    exact vis_of (by rw [L2.upd_ne nap]; exact vis_sub h) (fun z => z.elim z1 nap) z2
  refine ⟨⟨w.inj, fun i l => ?_, fun a z => ?_, fun i x e => ?_, (w.tb.upd (noTb_none hp) ho).hide fun _ _ z => .inl z⟩, ⟨Nat.le_refl _, fun _ _ => rfl, hv⟩⟩
  · rintro (z | z)
    · exact w.zz i l z
    · exact nl i l z
  · by_cases e : a = p
    · rw [e, L2.upd_same]; exact ⟨_, rfl⟩
    · rcases z with z | z
      · rw [L2.upd_ne e]; exact w.zh a z
      · exact absurd z e
  · exact (w.rep i x e).mono (fun _ _ => rfl) (Nat.le_refl _) hv (L2.upd_ne (nl i ⟨x, e⟩))
/-- a hidden object changes -/
theorem Wd0.hid {K : PySem.W.Frag} {m : Nat → Addr} {S : Sto} {Z : Addr → Prop} {H : Hp} (w : Wd0 K m S Z H) {p : Addr} {o : HO} (hz : Z p) (hnt : NoTb (H p)) (ho : ∀ ps, o ≠ .tbl ps := by intro ps z; first | (cases z; done) | (unfold excO at z; cases z)) : Wd0 K m S Z (L2.upd H p o) ∧ vis m S Z (L2.upd H p o) = vis m S Z H := by
  have hv : vis m S Z (L2.upd H p o) = vis m S Z H := by
    funext a
    unfold vis
    by_cases c : Z a ∨ ∃ k, Live S k ∧ m k = a
    · rw [if_pos c, if_pos c]
    · rw [if_neg c, if_neg c]
      exact upd_ne (fun q => c (.inl (q ▸ hz)))
  refine ⟨⟨w.inj, w.zz, fun a z => ?_, fun i x e => ?_, w.tb.upd hnt ho⟩, hv⟩
  · by_cases e : a = p
    · rw [e, upd_same]; exact ⟨_, rfl⟩
    · rw [upd_ne e]; exact w.zh a z
  · rw [hv]
    exact (w.rep i x e).mono (fun _ _ => rfl) (Nat.le_refl _) (fun _ _ q => q) (upd_ne (fun q => w.zz i ⟨x, e⟩ (q ▸ hz)))
theorem vis_unhide {m : Nat → Addr} {S : Sto} {Z Z' : Addr → Prop} {H : Hp} (hz : ∀ a, Z a → Z' a) {a : Addr} {o : HO} (h : vis m S Z' H a = some o) : vis m S Z H a = some o := by
  obtain ⟨z1, z2⟩ := vis_not h
  exact vis_of (vis_sub h) (fun z => z1 (hz a z)) z2
theorem Wd0.unhide {K : PySem.W.Frag} {m : Nat → Addr} {S : Sto} {Z Z' : Addr → Prop} {H : Hp} (hz : ∀ a, Z a → Z' a) (hb : ∀ P, Marked K P → Z P) (w : Wd0 K m S Z' H) : Wd0 K m S Z H :=
  ⟨w.inj, fun i l z => w.zz i l (hz _ z), fun a z => w.zh a (hz a z), fun i x e => (w.rep i x e).mono (fun _ _ => rfl) (Nat.le_refl _) (fun _ _ q => vis_unhide hz q) rfl, w.tb.hide fun P mm _ => hb P mm⟩
theorem Wd0.adopt {K : PySem.W.Frag} {m : Nat → Addr} {S : Sto} {Z : Addr → Prop} {H : Hp} {p : Addr} {ds : List D} {vs : List V} (nz : ¬ Z p) (hb : ∀ P, Marked K P → Z P) (w : Wd0 K m S (fun a => Z a ∨ a = p) H) (hp : H p = some (.lst vs)) (r : Reps K m S.length (vis m S (fun a => Z a ∨ a = p) H) ds vs) :
    ∃ m', m' S.length = p ∧ Wd0 K m' (S ++ [some (.lst ds)]) Z H ∧ (∀ i, i < S.length → m' i = m i) ∧ ∀ a u, vis m S (fun a => Z a ∨ a = p) H a = some u → vis m' (S ++ [some (.lst ds)]) Z H a = some u := by
  let m' : Nat → Addr := fun i => if i = S.length then p else m i
  have e0 : m' S.length = p := if_pos rfl
  have e1 : ∀ i, i < S.length → m' i = m i := fun i h => if_neg (Nat.ne_of_lt h)
  have lv : ∀ i, Live (S ++ [some (MO.lst ds)]) i → (i < S.length ∧ Live S i) ∨ i = S.length := fun i ⟨x, e⟩ => by
    by_cases h : i < S.length
    · exact .inl ⟨h, x, by rw [List.getElem?_append_left h] at e; exact e⟩
    · right
      have := (List.getElem?_eq_some_iff.mp e).1
      rw [List.length_append, List.length_singleton] at this
      omega
  have nl : ∀ i, Live S i → m i ≠ p := fun i l e => w.zz i l (.inr e)
  have hv : ∀ a u, vis m S (fun a => Z a ∨ a = p) H a = some u → vis m' (S ++ [some (.lst ds)]) Z H a = some u := fun a u h => by
    obtain ⟨z1, z2⟩ := vis_not h
    refine vis_of (vis_sub h) (fun z => z1 (.inl z)) fun n l => ?_
    rcases lv n l with ⟨hn, l⟩ | rfl
    · rw [e1 n hn]; exact z2 n l
    · rw [e0]; exact fun q => z1 (.inr q.symm)
  have len : (S ++ [some (MO.lst ds)]).length = S.length + 1 := by simp
  refine ⟨m', e0, ⟨fun i j li lj e => ?_, fun i li => ?_, fun a z => w.zh a (.inl z), fun i x e => ?_, w.tb.hide fun P mm _ => hb P mm⟩, e1, hv⟩
  · rcases lv i li with ⟨hi, li⟩ | rfl <;> rcases lv j lj with ⟨hj, lj⟩ | rfl
    · rw [e1 i hi, e1 j hj] at e; exact w.inj i j li lj e
    · rw [e1 i hi, e0] at e; exact absurd e (nl i li)
    · rw [e0, e1 j hj] at e; exact absurd e.symm (nl j lj)
    · rfl
  · rcases lv i li with ⟨hi, li⟩ | rfl
    · rw [e1 i hi]; exact fun z => w.zz i li (.inl z)
    · rw [e0]; exact nz
  · rw [len]
    rcases lv i ⟨x, e⟩ with ⟨hi, li⟩ | rfl
    · rw [List.getElem?_append_left hi] at e
      exact (w.rep i x e).mono e1 (Nat.le_succ _) hv (by rw [e1 i hi])
    · rw [List.getElem?_append_right (Nat.le_refl _), Nat.sub_self, List.getElem?_cons_zero] at e
      cases e
      exact ⟨vs, by rw [e0]; exact hp, Reps.mono e1 (Nat.le_succ _) hv r⟩
section
variable {K : PySem.W.Frag} {gi : GI} {t : Tgt} {gt : G Bool} {ge : G D} {vs : List Nat} {fz : Bool}
theorem lc_in (hsub : ∀ i ∈ t.slots, i ∈ vs) {σ : L2.St} {H : Hp} {Q : VK} (h : tofE K U (gLc fz gi t gt ge vs) σ H Q) : tLc (tofI K U gi) (t.gof K) (tofB K U0 gt) (tofE K U0 ge) vs σ H Q := by
  obtain ⟨m, S, Z, ρ, q, w, rs, h, k⟩ := h
  refine ⟨m, S, Z, ρ, _, w, rs, h, fun J H1 m1 S1 ds chk e1 w1 Y ⟨I, h0, hstep, hend⟩ p hp => ?_⟩
  obtain ⟨nz, nl⟩ := w1.fresh hp
  obtain ⟨w1', l1⟩ := w1.toWd0.hide (o := .lst []) hp
  let Z' : Addr → Prop := fun a => Z a ∨ a = p
  have hzp : Z' p := .inr rfl
  have hz1 : ∀ a, Z a → upd H1 p (.lst []) a = H1 a := fun a z => upd_ne (fun e => nz (e ▸ z))
  refine ⟨fun i n H' => n = ds.length - i ∧ i ≤ ds.length ∧ ∃ m' S' acc av, Lt m1 S1 Z H1 m' S' Z' H' ∧ (∀ a, Z a → (∀ ps, H1 a ≠ some (.tbl ps)) → H' a = H1 a) ∧ Wd K U0 m' S' Z' H' ∧ H' p = some (.lst av) ∧ Reps K m' S'.length (vis m' S' Z' H') acc av ∧ I i acc S',
    ⟨ds.length, by simp, Nat.zero_le _, m1, S1, [], [], l1, fun a z _ => hz1 a z, w1'.u0, upd_same, reps_nil, h0⟩, ?_⟩
  rintro i n H2 ⟨rfl, hi2, m2, S2, acc, av, l2, z2, w2, hp2, ra, I2⟩
  by_cases hlt : i < ds.length
  · right
    obtain ⟨d, hd⟩ : ∃ d, ds[i]? = some d := ⟨ds[i], by simp [hlt]⟩
    obtain ⟨hchk, ρ3, hbind, hbody⟩ := hstep i d acc S2 hd I2
    obtain ⟨g1, g2⟩ := Y.go l2 w2 hchk hlt
    refine ⟨g1, fun H' => ∃ m' S' acc av, Lt m1 S1 Z H1 m' S' Z' H' ∧ (∀ a, Z a → (∀ ps, H1 a ≠ some (.tbl ps)) → H' a = H1 a) ∧ Wd K U0 m' S' Z' H' ∧ H' p = some (.lst av) ∧ Reps K m' S'.length (vis m' S' Z' H') acc av ∧ I (i + 1) acc S', fun H' hN => ⟨ds.length - (i + 1), by omega, rfl, hlt, hN⟩, fun x H3 hy => ?_⟩
    obtain ⟨d', hd', w3, e3, r3⟩ := g2 x H3 hy
    rw [hd] at hd'; cases hd'
    have rs2 : RelS K m2 S2.length (vis m2 S2 Z' H2) ρ σ := by
      have z := rs.ext e1
      exact ⟨z.1, fun i d h => let ⟨v, h1, h2⟩ := z.2 i d h; ⟨v, h1, h2.lt l2⟩⟩
    refine Tgt.ok (vs := vs) vis_le hbind r3 (relS_wipe (rs2.ext e3) vs) fun σ4 rs4 hw4 => ⟨?_, ?_⟩
    · rw [hw4 hsub, wipe_wipe vs fun v hv => hv]
    · have lt_of : ∀ {m' S' H'}, Ext m2 S2 Z' H2 m' S' H' → Lt m1 S1 Z H1 m' S' Z' H' ∧ (∀ a, Z a → (∀ ps, H1 a ≠ some (.tbl ps)) → H' a = H1 a) := fun {m' S' H'} e => ⟨⟨Nat.le_trans l2.len e.len, fun i hi => (e.loc i (Nat.lt_of_lt_of_le hi l2.len)).trans (l2.loc i hi), fun a o q => e.vis a o (l2.vis a o q)⟩, fun a z n => (e.zed a (.inl z) (by rw [z2 a z n]; exact n)).trans (z2 a z n)⟩
      refine tof_in w3 rs4 hbody fun b H4 m4 b' S4 e4 w4 hb h4 => ?_
      cases (show b' = b from hb)
      cases b with
      | true =>
        refine tof_in w4 (rs4.ext e4) h4 fun y H5 m5 dy S5 e5 w5 ry h5 => ?_
        have e25 := (e3.trans e4).trans e5
        have hp5 : H5 p = some (.lst av) := (e25.zed p hzp (noTb_lst hp2).1).trans hp2
        obtain ⟨w6, hv6⟩ := w5.toWd0.hid (o := .lst (av ++ [y])) hzp (noTb_lst hp5)
        obtain ⟨l5, z5⟩ := lt_of e25
        refine ⟨av, hp5, by rw [Reps.len ra]; exact h5.1, m5, S5, acc ++ [dy], av ++ [y], ⟨l5.len, l5.loc, fun a o q => by rw [hv6]; exact l5.vis a o q⟩, fun a z n => (upd_ne (show a ≠ p from fun e => nz (e ▸ z))).trans (z5 a z n), w6.u0, upd_same, ?_, h5.2⟩
        rw [hv6]
        exact (ra.ext e25).append (Reps.one ry)
      | false =>
        have e24 := e3.trans e4
        obtain ⟨l4, z4⟩ := lt_of e24
        exact ⟨m4, S4, acc, av, l4, z4, w4, (e24.zed p hzp (noTb_lst hp2).1).trans hp2, ra.ext e24, h4⟩
  · left
    have ei : i = ds.length := by omega
    subst ei
    obtain ⟨hchk, hnew⟩ := hend acc S2 I2
    refine ⟨Y.stop l2 w2 hchk, ?_⟩
    cases fz with
    | true =>
      have wu : Wd0 K m2 S2 Z H2 := Wd0.unhide (fun a z => .inl z) w1.tb.z w2.toWd0
      have eu : Ext m1 S1 Z H1 m2 S2 H2 := ⟨l2.len, l2.loc, fun a o q => vis_unhide (fun a z => .inl z) (l2.vis a o q), z2⟩
      refine k.at (e1.trans eu) (w1.on eu wu) (rep_lst (vis_of hp2 nz fun n l e => w2.zz n l (.inr e)) (Reps.mono (fun _ _ => rfl) (Nat.le_refl _) (fun a o q => vis_unhide (fun a z => .inl z) q) ra)) hnew
    | false =>
      obtain ⟨m3, e0, w3, em, hv3⟩ := Wd0.adopt nz w1.tb.z w2.toWd0 hp2 ra
      have eu : Ext m1 S1 Z H1 m3 (S2 ++ [some (.lst acc)]) H2 := ⟨by rw [List.length_append]; exact Nat.le_trans l2.len (Nat.le_add_right _ _), fun i hi => (em i (Nat.lt_of_lt_of_le hi l2.len)).trans (l2.loc i hi), fun a o q => hv3 a o (l2.vis a o q), z2⟩
      exact k.at (e1.trans eu) (w1.on eu w3) (rep_loc e0 (by simp)) hnew
end
section
variable {X : Cx} {elt tg iter c : Expr} {ifs : List Expr} {scope : Scope} {own : List (Str × Nat)} {pos spos : Pos} {gi : GI} {t : Tgt} {gt : G Bool} {ge : G D}
theorem dt_nil : PTs X [] (tofB X.K U gYes) := ⟨fun pins s σ H Q I ⟨m, S, Z, ρ, q, w, rs, h, k⟩ => (pts_nil (X := X)).run pins s σ H Q I (k.now w rfl h)⟩
theorem dt_one (h : PT X c (tofB X.K U gt)) : PTs X [c] (tofB X.K U gt) := pts_one h
theorem d_lc (fz : Bool) (hc : X.calm = true) (hN : X.N.Nodup) (hi : PI X tg iter (tofI X.K U gi)) (ok : BlkOk X.N X.env.scope scope own) (hsub : ∀ i ∈ t.slots, i ∈ own.map (·.2))
    (hg : ∀ (s : Shared) (H : Hp) (C : Addr) (cl : List (Str × Addr)) (fp : List Addr), PG (X.blk s H scope (compEnvC scope cl C X.env) fp) tg (t.gof X.K)) (ht : ∀ (s : Shared) (H : Hp) (C : Addr) (cl : List (Str × Addr)) (fp : List Addr), PTs (X.blk s H scope (compEnvC scope cl C X.env) fp) ifs (tofB X.K U0 gt))
    (he : ∀ (s : Shared) (H : Hp) (C : Addr) (cl : List (Str × Addr)) (fp : List Addr), PE (X.blk s H scope (compEnvC scope cl C X.env) fp) elt (tofE X.K U0 ge)) (hs : ∀ x, foldedSetIterable iter X.env x = pure x := by intro _; rfl) :
    PE X (.ListComp elt [⟨tg, iter, ifs, 0⟩] scope pos) (tofE X.K U (gLc fz gi t gt ge (own.map (·.2)))) :=
  weakE (pe_lc hc hN hi ok hg ht he hs) fun _ _ _ h => lc_in hsub h
/-- name = [..] -/
theorem d_setLc (fz : Bool) {i : Nat} {y : Str} {py : Pos} (hc : X.calm = true) (hN : X.N.Nodup) (hy : X.N[i]? = some y) (hyl : X.env.scope.names.lookup y = some .local)
    (hsw : swapsWith (.ListComp elt [⟨tg, iter, ifs, 0⟩] scope pos) (some (.Name y py)) spos.line X.env = pure true) (hi : PI X tg iter (tofI X.K U gi)) (ok : BlkOk X.N X.env.scope scope own) (hsub : ∀ i ∈ t.slots, i ∈ own.map (·.2))
    (hg : ∀ (s : Shared) (H : Hp) (C : Addr) (cl : List (Str × Addr)) (fp : List Addr), PG (X.blk s H scope (compEnvC scope cl C X.env) fp) tg (t.gof X.K)) (ht : ∀ (s : Shared) (H : Hp) (C : Addr) (cl : List (Str × Addr)) (fp : List Addr), PTs (X.blk s H scope (compEnvC scope cl C X.env) fp) ifs (tofB X.K U0 gt))
    (he : ∀ (s : Shared) (H : Hp) (C : Addr) (cl : List (Str × Addr)) (fp : List Addr), PE (X.blk s H scope (compEnvC scope cl C X.env) fp) elt (tofE X.K U0 ge)) (hs : ∀ x, foldedSetIterable iter X.env x = pure x := by intro _; rfl) :
    PS X (.Assign [.Name y py] (.ListComp elt [⟨tg, iter, ifs, 0⟩] scope pos) spos) (tofS X.K U (gSet i (gLc fz gi t gt ge (own.map (·.2))))) :=
  weakS (ps_setLc hc hN hy hyl hsw hi ok hg ht he hs) fun E σ H ⟨m, S, Z, ρ, D, w, rs, h, k⟩ => lc_in hsub (tof_in w rs h fun v1 H1 m1 d1 S1 e1 w1 r1 h1 => k.nx.at e1 w1 ((rs.ext e1).set r1) h1)
end
end Dl
namespace Dl
open PySem L2
abbrev rMx2 : List V → Hp → VK → Prop := fun xs H Q => ∃ i j, xs = [.int i, .int j] ∧ Q (.int (if j > i then j else i)) H
abbrev rMn2 : List V → Hp → VK → Prop := fun xs H Q => ∃ i j, xs = [.int i, .int j] ∧ Q (.int (if j < i then j else i)) H
abbrev showI (i : Int) : Str := ((toString i : String) : Str)
section
variable {K : PySem.W.Frag}
def aI2 (C : Int → Int → Prop) (f : Int → Int → D) : R2D := fun a b S q => ∃ i j, a = .int i ∧ b = .int j ∧ C i j ∧ q (f i j) S
theorem vr_I2 {C : Int → Int → Prop} {g : Int → Int → V} {f : Int → Int → D} (hf : ∀ m N Hv i j, Rep K m N Hv (f i j) (g i j)) : VR2 K (rI C g) (aI2 C f) := fun w r1 r2 ⟨i, j, e1, e2, h1, h2⟩ k => by
  subst e1 e2
  rw [Rep] at r1 r2
  exact ⟨i, j, r1, r2, h1, k.now w (hf _ _ _ _ _) h2⟩
theorem vr_I20 {g : Int → Int → V} {f : Int → Int → D} (hf : ∀ m N Hv i j, Rep K m N Hv (f i j) (g i j)) : VR2 K (rI0 g) (aI2 (fun _ _ => True) f) := fun w r1 r2 ⟨i, j, e1, e2, h1, h2⟩ k => by
  subst e1 e2
  rw [Rep] at r1 r2
  exact ⟨i, j, r1, r2, k.now w (hf _ _ _ _ _) h2⟩
def listOf (S : Sto) : D → Option (List D)
  | .lst ds => some ds
  | .loc n => match S[n]? with
    | some (some (.lst ds)) => some ds
    | _ => none
  | _ => none
theorem listOf_rep {m : Nat → Addr} {S : Sto} {Z : Addr → Prop} {H : Hp} {d : D} {v : V} {ds : List D} (w : Wd K U m S Z H) (r : Rep K m S.length (vis m S Z H) d v) (h : listOf S d = some ds) :
    ∃ a vs, v = .ref a ∧ H a = some (.lst vs) ∧ Reps K m S.length (vis m S Z H) ds vs := by
  cases d with
  | lst ds' => cases h; rw [Rep] at r; obtain ⟨a, vs, e, h1, h2⟩ := r; exact ⟨a, vs, e, vis_sub h1, h2⟩
  | loc n =>
    rw [Rep] at r
    obtain ⟨vs, h1, h2⟩ := w.rep n _ (loc_lst h)
    exact ⟨m n, vs, r.1, h1, h2⟩
  | non => cases h
  | bl _ => cases h
  | int _ => cases h
  | str _ => cases h
  | tup _ => cases h
  | ksq _ => cases h
  | obj _ _ _ => cases h
  | dic _ _ => cases h
  | ref _ => cases h
  | ty _ => cases h
  | exc _ _ _ => cases h
def aAdd (fz : Bool) : R2D := fun a b S q => match a, b with
  | .int i, .int j => q (.int (i + j)) S
  | .str x, .str y => x.length + y.length ≤ sizeLine ∧ q (.str (x ++ y)) S
  | .tup xs, .tup ys => xs.length + ys.length ≤ sizeLine ∧ q (.tup (xs ++ ys)) S
  | a, b => ∃ xs ys, listOf S a = some xs ∧ listOf S b = some ys ∧ xs.length + ys.length ≤ sizeLine ∧ newL fz (xs ++ ys) S q
abbrev rAddA (K : PySem.W.Frag) : R2 := fun x y H Q => rI0 (fun i j => .int (i + j)) x y H Q ∨ (∃ i j, x = .str i ∧ y = .str j ∧ i.length + j.length ≤ sizeLine ∧ Q (.str (i ++ j)) H) ∨ rCatA K x y H Q ∨ rCat x y H Q
theorem or_add {X : Cx} : OpR X (binaryOp .Add) (rAddA X.K) := op_add.or (op_add_str.or (op_catA.or op_cat))
theorem vr_add {fz : Bool} : VR2 K (rAddA K) (aAdd fz) := fun {_ m S Z H a b v u q Q} w r1 r2 h k => by
  have lists : (∃ xs ys, listOf S a = some xs ∧ listOf S b = some ys ∧ xs.length + ys.length ≤ sizeLine ∧ newL fz (xs ++ ys) S q) → rAddA K v u H Q := fun ⟨xs, ys, h1, h2, h3, h4⟩ => by
    obtain ⟨a1, vs, e1, hh1, q1⟩ := listOf_rep w r1 h1
    obtain ⟨a2, us, e2, hh2, q2⟩ := listOf_rep w r2 h2
    exact .inr (.inr (.inr ⟨a1, a2, vs, us, e1, e2, hh1, hh2, by rw [Reps.len q1, Reps.len q2]; exact h3, fun p hp => out_newL w (q1.append q2) h4 k hp⟩))
  cases a <;> cases b <;> first
    | (rw [Rep] at r1 r2; exact .inl ⟨_, _, r1, r2, k.now w rep_int h⟩)
    | (rw [Rep] at r1 r2; exact .inr (.inl ⟨_, _, r1, r2, h.1, k.now w rep_str h.2⟩))
    | exact lists h
    | skip
  case tup.tup xs ys =>
    rw [Rep] at r1 r2
    obtain ⟨a1, vs, e1, s1, q1⟩ := r1
    obtain ⟨a2, us, e2, s2, q2⟩ := r2
    subst e1 e2
    have l1 := Reps.len q1
    have l2 := Reps.len q2
    refine .inr (.inr (.inl ⟨a1, a2, vs, us, rfl, rfl, SqT.sub vis_le s1, SqT.sub vis_le s2, by rw [l1, l2]; exact h.1, fun e => ?_, fun _ e => ?_, fun _ _ p hp => ?_⟩))
    · subst e
      have e' : xs = [] := List.eq_nil_of_length_eq_zero (by simpa using l1.symm)
      subst e'
      exact k.now w (rep_tup s2 q2) h.2
    · subst e
      have e' : ys = [] := List.eq_nil_of_length_eq_zero (by simpa using l2.symm)
      subst e'
      have h2 := h.2
      rw [List.append_nil] at h2
      exact k.now w (rep_tup s1 q1) h2
    · exact out_newT w (q1.append q2) h.2 k hp
def aSub : R2D := aI2 (fun _ _ => True) fun i j => .int (i - j)
theorem vr_sub : VR2 K (rI0 fun i j => .int (i - j)) aSub := vr_I20 fun _ _ _ _ _ => rep_int
def mulOk (i j : Int) : Prop := CMul i j ∨ CMulW i j
abbrev rMulA : R2 := fun x y H Q => rI CMul (fun i j => .int (i * j)) x y H Q ∨ rI CMulW (fun i j => .int (i * j)) x y H Q ∨ rRep x y H Q
theorem or_mul {X : Cx} : OpR X (binaryOp .Mult) rMulA := op_mul.or (op_mulW.or op_rep)
def aMul (fz : Bool) : R2D := fun a b S q => match a, b with
  | .int i, .int j => mulOk i j ∧ q (.int (i * j)) S
  | a, .int k => ∃ xs, listOf S a = some xs ∧ -(2 ^ 63) ≤ k ∧ k < 2 ^ 63 ∧ xs.length * k.toNat ≤ sizeLine ∧ newL fz (List.replicate k.toNat xs).flatten S q
  | _, _ => False
theorem reps_rep {m : Nat → Addr} {N : Nat} {Hv : Hp} {ds : List D} {vs : List V} (r : Reps K m N Hv ds vs) : ∀ n : Nat, Reps K m N Hv (List.replicate n ds).flatten (List.replicate n vs).flatten
  | 0 => reps_nil
  | n + 1 => by rw [List.replicate_succ, List.replicate_succ, List.flatten_cons, List.flatten_cons]; exact r.append (reps_rep r n)
theorem vr_mul {fz : Bool} : VR2 K rMulA (aMul fz) := fun {_ m S Z H a b v u q Q} w r1 r2 h k => by
  cases b with
  | int j =>
    rw [Rep] at r2
    have lists : (∃ xs, listOf S a = some xs ∧ -(2 ^ 63) ≤ j ∧ j < 2 ^ 63 ∧ xs.length * j.toNat ≤ sizeLine ∧ newL fz (List.replicate j.toNat xs).flatten S q) → rMulA v u H Q := fun ⟨xs, h1, h2, h3, h4, h5⟩ => by
      obtain ⟨a1, vs, e1, hh1, q1⟩ := listOf_rep w r1 h1
      exact .inr (.inr ⟨a1, j, vs, e1, r2, hh1, h2, h3, by rw [Reps.len q1]; exact h4, fun p hp => out_newL w (reps_rep q1 _) h5 k hp⟩)
    cases a <;> first
      | (rw [Rep] at r1
         rcases h.1 with h1 | h1
         · exact .inl ⟨_, _, r1, r2, h1, k.now w rep_int h.2⟩
         · exact .inr (.inl ⟨_, _, r1, r2, h1, k.now w rep_int h.2⟩))
      | exact lists h
  | non => cases a <;> exact False.elim h
  | bl _ => cases a <;> exact False.elim h
  | str _ => cases a <;> exact False.elim h
  | tup _ => cases a <;> exact False.elim h
  | lst _ => cases a <;> exact False.elim h
  | ksq _ => cases a <;> exact False.elim h
  | obj _ _ _ => cases a <;> exact False.elim h
  | dic _ _ => cases a <;> exact False.elim h
  | loc _ => cases a <;> exact False.elim h
  | ref _ => cases a <;> exact False.elim h
  | ty _ => cases a <;> exact False.elim h
  | exc _ _ _ => cases a <;> exact False.elim h
def divOk (i j : Int) : Prop := CDiv i j ∨ CDivW i j
def aFdiv : R2D := aI2 divOk fun i j => .int (i / j)
abbrev rDivA : R2 := fun x y H Q => rI CDiv (fun i j => .int (i / j)) x y H Q ∨ rI CDivW (fun i j => .int (i / j)) x y H Q
theorem or_fdiv {X : Cx} : OpR X (binaryOp .FloorDiv) rDivA := op_fdiv.or op_fdivW
theorem vr_fdiv : VR2 K rDivA aFdiv := fun w r1 r2 ⟨i, j, e1, e2, h1, h2⟩ k => by
  subst e1 e2
  rw [Rep] at r1 r2
  rcases h1 with h1 | h1
  · exact .inl ⟨i, j, r1, r2, h1, k.now w rep_int h2⟩
  · exact .inr ⟨i, j, r1, r2, h1, k.now w rep_int h2⟩
def aMod : R2D := aI2 (fun _ j => 0 < j) fun i j => .int (i % j)
theorem vr_mod : VR2 K (rI (fun _ j => 0 < j) fun i j => .int (i % j)) aMod := vr_I2 fun _ _ _ _ _ => rep_int
def aPow : R2D := aI2 CPow fun i j => .int (i ^ j.toNat)
theorem vr_pow : VR2 K (rI CPow fun i j => .int (i ^ j.toNat)) aPow := vr_I2 fun _ _ _ _ _ => rep_int
def aShr : R2D := aI2 (fun _ j => 0 ≤ j) fun i j => .int (i / 2 ^ j.toNat)
def aLt : R2D := aI2 (fun _ _ => True) fun i j => .bl (decide (i < j))
def aLe : R2D := aI2 (fun _ _ => True) fun i j => .bl (decide (i ≤ j))
def aGt : R2D := aI2 (fun _ _ => True) fun i j => .bl (decide (j < i))
def aGe : R2D := aI2 (fun _ _ => True) fun i j => .bl (decide (j ≤ i))
theorem vr_lt : VR2 K (rI0 fun i j => .bl (decide (i < j))) aLt := vr_I20 fun _ _ _ _ _ => rep_bl
theorem vr_le : VR2 K (rI0 fun i j => .bl (decide (i ≤ j))) aLe := vr_I20 fun _ _ _ _ _ => rep_bl
theorem vr_gt : VR2 K (rI0 fun i j => .bl (decide (j < i))) aGt := vr_I20 fun _ _ _ _ _ => rep_bl
theorem vr_ge : VR2 K (rI0 fun i j => .bl (decide (j ≤ i))) aGe := vr_I20 fun _ _ _ _ _ => rep_bl
/-- - of one int -/
def aNeg : R1D := fun a S q => ∃ i, a = .int i ∧ q (.int (-i)) S
theorem vr_neg : VR1 K (rU fun i => .int (-i)) aNeg := fun w r1 ⟨i, e1, h⟩ k => by
  subst e1
  rw [Rep] at r1
  exact ⟨i, r1, k.now w rep_int h⟩
end
mutual
def toPy : D → Option PyData
  | .non => some .none
  | .bl b => some (.bool b)
  | .int i => some (.int i)
  | .str x => some (.str x)
  | .tup ds => (toPys ds).map .tuple
  | .lst ds => (toPys ds).map .list
  | .ksq ds => (toPys ds).map .list
  | .obj _ _ _ => none
  | .dic _ _ => none
  | .loc _ => none
  | .ref _ => none
  | .ty _ => none
  | .exc _ _ _ => none
def toPys : List D → Option (List PyData)
  | [] => some []
  | d :: ds => match toPy d, toPys ds with
    | some p, some ps => some (p :: ps)
    | _, _ => none
end
def toPyS (S : Sto) : D → Option PyData
  | .loc n => match S[n]? with
    | some (some (.lst ds)) => (toPys ds).map .list
    | _ => none
  | d => toPy d
section
variable {K : PySem.W.Frag} {m : Nat → Addr} {N : Nat} {Hv : Hp}
mutual
theorem dp_of : ∀ {d : D} {v : V} {p : PyData}, Rep K m N Hv d v → toPy d = some p → Dp K Hv v p
  | .non, _, _, r, e => by rw [Rep] at r; rw [toPy] at e; cases e; rw [r]; exact .non
  | .bl _, _, _, r, e => by rw [Rep] at r; rw [toPy] at e; cases e; rw [r]; exact .bl _
  | .int _, _, _, r, e => by rw [Rep] at r; rw [toPy] at e; cases e; rw [r]; exact .int _
  | .str _, _, _, r, e => by rw [Rep] at r; rw [toPy] at e; cases e; rw [r]; exact .str _
  | .tup ds, _, _, r, e => by
    rw [Rep] at r
    rw [toPy] at e
    obtain ⟨a, vs, ev, h1, h2⟩ := r
    obtain ⟨ps, hp, rfl⟩ := Option.map_eq_some_iff.mp e
    rw [ev]
    exact .tup h1 (dps_of h2 hp)
  | .lst ds, _, _, r, e => by
    rw [Rep] at r
    rw [toPy] at e
    obtain ⟨a, vs, ev, h1, h2⟩ := r
    obtain ⟨ps, hp, rfl⟩ := Option.map_eq_some_iff.mp e
    rw [ev]
    exact .lst (SqL.of h1) (dps_of h2 hp)
  | .ksq ds, _, _, r, e => by
    rw [Rep] at r
    rw [toPy] at e
    obtain ⟨a, vs, ev, h1, h2⟩ := r
    obtain ⟨ps, hp, rfl⟩ := Option.map_eq_some_iff.mp e
    rw [ev]
    exact .lst h1 (dps_of h2 hp)
  | .obj _ _ _, _, _, _, e => by rw [toPy] at e; cases e
  | .dic _ _, _, _, _, e => by rw [toPy] at e; cases e
  | .loc _, _, _, _, e => by rw [toPy] at e; cases e
  | .ref _, _, _, _, e => by rw [toPy] at e; cases e
  | .ty _, _, _, _, e => by rw [toPy] at e; cases e
  | .exc _ _ _, _, _, _, e => by rw [toPy] at e; cases e
theorem dps_of : ∀ {ds : List D} {vs : List V} {ps : List PyData}, Reps K m N Hv ds vs → toPys ds = some ps → DpAll K Hv vs ps
  | [], _, _, r, e => by rw [Reps] at r; rw [toPys] at e; cases e; rw [r]; exact .nil
  | d :: ds, _, _, r, e => by
    rw [Reps] at r
    obtain ⟨v, q, ev, r1, r2⟩ := r
    rw [toPys] at e
    cases h1 : toPy d with
    | none => rw [h1] at e; cases e
    | some p =>
      cases h2 : toPys ds with
      | none => rw [h1, h2] at e; cases e
      | some ps =>
        rw [h1, h2] at e
        cases e
        rw [ev]
        exact .cons (dp_of r1 h1) (dps_of r2 h2)
end
mutual
theorem Dp.sub {H H' : Hp} (hh : ∀ a o, H a = some o → H' a = some o) : ∀ {v : V} {p : PyData}, Dp K H v p → Dp K H' v p
  | _, _, .non => .non
  | _, _, .bl b => .bl b
  | _, _, .int b => .int b
  | _, _, .str b => .str b
  | _, _, .lst h r => .lst (SqL.sub hh h) (DpAll.sub hh r)
  | _, _, .tup h r => .tup (SqT.sub hh h) (DpAll.sub hh r)
theorem DpAll.sub {H H' : Hp} (hh : ∀ a o, H a = some o → H' a = some o) : ∀ {v : List V} {p : List PyData}, DpAll K H v p → DpAll K H' v p
  | _, _, .nil => .nil
  | _, _, .cons h r => .cons (Dp.sub hh h) (DpAll.sub hh r)
end
theorem dpS_of {S : Sto} {Z : Addr → Prop} {H : Hp} {d : D} {v : V} {p : PyData} (w : Wd K U m S Z H) (r : Rep K m S.length (vis m S Z H) d v) (e : toPyS S d = some p) : Dp K H v p := by
  cases d with
  | loc n =>
    rw [toPyS] at e
    rw [Rep] at r
    cases hS : S[n]? with
    | none => rw [hS] at e; cases e
    | some o =>
      cases o with
      | none => rw [hS] at e; cases e
      | some o =>
        cases o with
        | lst ds =>
          rw [hS] at e
          obtain ⟨ps, hp, rfl⟩ := Option.map_eq_some_iff.mp e
          obtain ⟨vs, h1, h2⟩ := w.rep n _ hS
          rw [r.1]
          exact .lst (SqL.of h1) (DpAll.sub vis_le (dps_of h2 hp))
        | obj _ _ _ => rw [hS] at e; cases e
        | dic _ _ => rw [hS] at e; cases e
        | dicT _ _ => rw [hS] at e; cases e
  | non => exact Dp.sub vis_le (dp_of r e)
  | bl _ => exact Dp.sub vis_le (dp_of r e)
  | int _ => exact Dp.sub vis_le (dp_of r e)
  | str _ => exact Dp.sub vis_le (dp_of r e)
  | tup _ => exact Dp.sub vis_le (dp_of r e)
  | lst _ => exact Dp.sub vis_le (dp_of r e)
  | ksq _ => exact Dp.sub vis_le (dp_of r e)
  | obj _ _ _ => exact Dp.sub vis_le (dp_of r e)
  | dic _ _ => exact Dp.sub vis_le (dp_of r e)
  | ref _ => exact Dp.sub vis_le (dp_of r e)
  | ty _ => exact Dp.sub vis_le (dp_of r e)
  | exc _ _ _ => exact Dp.sub vis_le (dp_of r e)
end
def aEq : R2D := fun a b S q => ∃ p p', toPyS S a = some p ∧ toPyS S b = some p' ∧ SeqAt.shaped p = true ∧ SeqAt.shaped p' = true ∧ q (.bl (PyData.eqv p p')) S
def aNe : R2D := fun a b S q => ∃ p p', toPyS S a = some p ∧ toPyS S b = some p' ∧ SeqAt.shaped p = true ∧ SeqAt.shaped p' = true ∧ q (.bl (!PyData.eqv p p')) S
section
variable {K : PySem.W.Frag}
theorem vr_eq : VR2 K (rEqD K) aEq := fun w r1 r2 ⟨p, p', h1, h2, h3, h4, h5⟩ k => ⟨p, p', dpS_of w r1 h1, dpS_of w r2 h2, h3, h4, k.now w rep_bl h5⟩
theorem vr_ne : VR2 K (rNeD K) aNe := fun w r1 r2 ⟨p, p', h1, h2, h3, h4, h5⟩ k => ⟨p, p', dpS_of w r1 h1, dpS_of w r2 h2, h3, h4, k.now w rep_bl h5⟩
def aInS : R2D := fun a b S q => ∃ (c : Nat) (z : Str), a = .str ⟨#[c]⟩ ∧ b = .str z ∧ q (.bl (decide (c ∈ z.cps.toList))) S
theorem vrn_of1 {r : List V → Hp → VK → Prop} {g : RND} (P : D → Sto → (D → Sto → Prop) → Prop) (hg : ∀ as S q, g as S q → ∃ d, as = [d] ∧ P d S q)
    (h : ∀ {U : Wi} {m : Nat → Addr} {S : Sto} {Z : Addr → Prop} {H : Hp} {d : D} {v : V} {q : D → Sto → Prop} {Q : VK}, Wd K U m S Z H → Rep K m S.length (vis m S Z H) d v → P d S q → Outs m S Z H K U (rD K) q Q → r [v] H Q) : VRN K r g := fun w rs hh k => by
  obtain ⟨d, e, hp⟩ := hg _ _ _ hh
  subst e
  obtain ⟨v, ev, rv⟩ := reps1 rs
  rw [ev]
  exact h w rv hp k
def a1 (P : D → Sto → (D → Sto → Prop) → Prop) : RND := fun as S q => ∃ d, as = [d] ∧ P d S q
def a2 (P : D → D → Sto → (D → Sto → Prop) → Prop) : RND := fun as S q => ∃ d e, as = [d, e] ∧ P d e S q
theorem vrn1 {r : List V → Hp → VK → Prop} {P : R1D} (h : ∀ {U : Wi} {m : Nat → Addr} {S : Sto} {Z : Addr → Prop} {H : Hp} {d : D} {v : V} {q : D → Sto → Prop} {Q : VK}, Wd K U m S Z H → Rep K m S.length (vis m S Z H) d v → P d S q → Outs m S Z H K U (rD K) q Q → r [v] H Q) : VRN K r (a1 P) :=
  vrn_of1 P (fun _ _ _ h => h) h
theorem vrn2 {r : List V → Hp → VK → Prop} {P : R2D} (h : ∀ {U : Wi} {m : Nat → Addr} {S : Sto} {Z : Addr → Prop} {H : Hp} {d e : D} {v u : V} {q : D → Sto → Prop} {Q : VK}, Wd K U m S Z H → Rep K m S.length (vis m S Z H) d v → Rep K m S.length (vis m S Z H) e u → P d e S q → Outs m S Z H K U (rD K) q Q → r [v, u] H Q) : VRN K r (a2 P) := fun w rs ⟨d, e, ed, hh⟩ k => by
  subst ed
  obtain ⟨v, u, ev, rv, ru⟩ := reps2 rs
  rw [ev]
  exact h w rv ru hh k
def aLen : R1D := fun d S q => match d with
  | .str x => x.length ≤ sizeLine ∧ q (.int x.length) S
  | d => ∃ ds, seqOf S d = some ds ∧ q (.int ds.length) S
abbrev rLenA (K : PySem.W.Frag) : List V → Hp → VK → Prop := fun xs H Q => (∃ p ys, xs = [.ref p] ∧ (SqL K H p ys ∨ SqT K H p ys) ∧ Q (.int ys.length) H) ∨ (∃ z, xs = [.str z] ∧ z.length ≤ sizeLine ∧ Q (.int z.length) H)
theorem or_len {X : Cx} : CallR X (.builtin "len") (rLenA X.K) := call_len_seq.or call_len_str
theorem seq_any {m : Nat → Addr} {S : Sto} {Z : Addr → Prop} {H : Hp} {d : D} {v : V} {ds : List D} (w : Wd K U m S Z H) (r : Rep K m S.length (vis m S Z H) d v) (h : seqOf S d = some ds) :
    ∃ a vs, v = .ref a ∧ Reps K m S.length (vis m S Z H) ds vs ∧ (SqL K H a vs ∨ SqT K H a vs) := by
  obtain ⟨a, vs, e, hr, ht, hl⟩ := seqOf_rep w r h
  refine ⟨a, vs, e, hr, ?_⟩
  cases hd : d.isTup with
  | true => exact .inr (ht hd)
  | false => exact .inl (hl hd)
theorem vr_len : VRN K (rLenA K) (a1 aLen) := vrn1 fun {_ m S Z H d v q Q} w r h k => by
  have go : (∃ ds, seqOf S d = some ds ∧ q (.int ds.length) S) → rLenA K [v] H Q := fun ⟨ds, h1, h2⟩ => by
    obtain ⟨a, vs, e, hr, hs⟩ := seq_any w r h1
    exact .inl ⟨a, vs, by rw [e], hs, k.now w (by rw [Reps.len hr]; exact rep_int) h2⟩
  cases d <;> first
    | (rw [Rep] at r; exact .inr ⟨_, by rw [r], h.1, k.now w rep_int h.2⟩)
    | exact go h
/-- str(int), int(text), int(bool), abs -/
def aStr : R1D := fun d S q => ∃ i, d = .int i ∧ i.natAbs.log2 < 1920 ∧ q (.str (showI i)) S
def aInt : R1D := fun d S q => match d with
  | .str x => ∃ n, PySem.intText? x = some n ∧ x.length ≤ 640 ∧ q (.int n) S
  | .int i => q (.int i) S
  | .bl b => q (.int (if b then 1 else 0)) S
  | _ => False
/-- divmod -/
def aDivmod : R2D := fun a b S q => ∃ i j, a = .int i ∧ b = .int j ∧ CDiv i j ∧ q (.tup [.int (i / j), .int (i % j)]) S
/-- max, min of two ints; of a list of ints -/
def aMax2 : R2D := fun a b S q => ∃ i j, a = .int i ∧ b = .int j ∧ q (.int (max i j)) S
def aMin2 : R2D := fun a b S q => ∃ i j, a = .int i ∧ b = .int j ∧ q (.int (min i j)) S
theorem vr_max2 : VRN K rMx2 (a2 aMax2) := vrn2 fun w r1 r2 ⟨i, j, e1, e2, h2⟩ k => by
  subst e1 e2; rw [Rep] at r1 r2
  refine ⟨i, j, by rw [r1, r2], k.now w ?_ h2⟩
  have e : (if j > i then j else i) = max i j := by by_cases h : j > i <;> simp [h] <;> omega
  rw [e]; exact rep_int
theorem vr_min2 : VRN K rMn2 (a2 aMin2) := vrn2 fun w r1 r2 ⟨i, j, e1, e2, h2⟩ k => by
  subst e1 e2; rw [Rep] at r1 r2
  refine ⟨i, j, by rw [r1, r2], k.now w ?_ h2⟩
  have e : (if j < i then j else i) = min i j := by by_cases h : j < i <;> simp [h] <;> omega
  rw [e]; exact rep_int
theorem ints_seq {m : Nat → Addr} {S : Sto} {Z : Addr → Prop} {H : Hp} {d : D} {v : V} {ns : List Int} (w : Wd K U m S Z H) (r : Rep K m S.length (vis m S Z H) d v) (ht : d.isTup = false) (h : seqOf S d = some (ns.map D.int)) : ∃ a, v = .ref a ∧ SqL K H a (ns.map V.int) := by
  obtain ⟨a, vs, e, hr, _, hl⟩ := seqOf_rep w r h
  have q := hl ht
  rw [Reps.ints hr] at q
  exact ⟨a, e, q⟩
def aSum : R1D := fun d S q => ∃ ns : List Int, d.isTup = false ∧ seqOf S d = some (ns.map D.int) ∧ q (.int ns.sum) S
theorem vr_sum : VRN K (rSum K) (a1 aSum) := vrn1 fun w r ⟨ns, ht, h1, h2⟩ k => by
  obtain ⟨a, e, hs⟩ := ints_seq w r ht h1
  exact ⟨a, ns, by rw [e], hs, k.now w rep_int h2⟩
/-- isinstance of a built-in class -/
def tyN (S : Sto) : D → Option String
  | .non => some "NoneType"
  | .bl _ => some "bool"
  | .int _ => some "int"
  | .str _ => some "str"
  | .tup _ => some "tuple"
  | .lst _ => some "list"
  | .loc n => match S[n]? with
    | some (some (.lst _)) => some "list"
    | some (some (.dic _ _)) => some "dict"
    | some (some (.dicT _ _)) => some "dict"
    | _ => none
  | .dic _ _ => some "dict"
  | _ => none
def isiB (a b : String) : Bool := a == b || (a == "bool" && b == "int")
def basicT : List String := ["bool", "int", "str", "tuple", "list", "dict"]
def aIsi : R2D := fun d c S q => ∃ a b, tyN S d = some a ∧ c = .ty b ∧ basicT.contains b = true ∧ q (.bl (isiB a b)) S
theorem tyX_of {m : Nat → Addr} {S : Sto} {Z : Addr → Prop} {H : Hp} {d : D} {v : V} {a : String} (w : Wd K U m S Z H) (r : Rep K m S.length (vis m S Z H) d v) (h : tyN S d = some a) : TyX K H v (.type a) ∧ a ∈ "NoneType" :: basicT := by
  cases d with
  | non => cases h; rw [Rep] at r; rw [r]; exact ⟨.base .non, by decide⟩
  | bl _ => cases h; rw [Rep] at r; rw [r]; exact ⟨.base (.bl _), by decide⟩
  | int _ => cases h; rw [Rep] at r; rw [r]; exact ⟨.base (.int _), by decide⟩
  | str _ => cases h; rw [Rep] at r; rw [r]; exact ⟨.base (.str _), by decide⟩
  | tup _ =>
    cases h
    rw [Rep] at r
    obtain ⟨p, vs, e, h1, _⟩ := r
    rw [e]
    refine ⟨?_, by decide⟩
    rcases h1 with (h1 | ⟨o, h1⟩) | ⟨o, its, n, h1, h2, _⟩
    · exact .base (.tup (vis_sub h1))
    · exact .fTuple (vis_sub h1)
    · exact .kTuple h1 h2
  | lst _ =>
    cases h
    rw [Rep] at r
    obtain ⟨p, vs, e, h1, _⟩ := r
    rw [e]
    exact ⟨.base (.lst (vis_sub h1)), by decide⟩
  | dic _ _ =>
    cases h
    rw [Rep] at r
    obtain ⟨p, vs, e, h1, _⟩ := r
    rw [e]
    exact ⟨.base (.dK (vis_sub h1)), by decide⟩
  | loc n =>
    rw [Rep] at r
    rw [tyN] at h
    rw [r.1]
    cases hS : S[n]? with
    | none => rw [hS] at h; cases h
    | some o =>
      cases o with
      | none => rw [hS] at h; cases h
      | some o =>
        rw [hS] at h
        cases o with
        | lst ds => cases h; obtain ⟨vs, h1, _⟩ := w.rep n _ hS; exact ⟨.base (.lst h1), by decide⟩
        | obj _ _ _ => cases h
        | dic _ _ => cases h; obtain ⟨vs, h1, _⟩ := w.rep n _ hS; exact ⟨.base (.dK h1), by decide⟩
        | dicT _ _ => cases h; obtain ⟨vs, h1, _⟩ := w.rep n _ hS; exact ⟨.base (.dT h1), by decide⟩
  | ksq _ => cases h
  | obj _ _ _ => cases h
  | ref _ => cases h
  | ty _ => cases h
  | exc _ _ _ => cases h
def aIx : R2D := fun a b S q => ∃ i, b = .int i ∧ match a with
  | .str z => z.length ≤ sizeLine ∧ ∃ c, atI z.cps.toList i = some c ∧ q (.str ⟨#[c]⟩) S
  | a => ∃ ds d, seqOf S a = some ds ∧ atI ds i = some d ∧ q d S
theorem atI_reps {m : Nat → Addr} {N : Nat} {Hv : Hp} {ds : List D} {vs : List V} {i : Int} {d : D} (r : Reps K m N Hv ds vs) (h : atI ds i = some d) : ∃ v, atI vs i = some v ∧ Rep K m N Hv d v := by
  unfold atI at h ⊢
  rw [Reps.len r]
  cases hx : ixN ds.length i with
  | none => rw [hx] at h; cases h
  | some j =>
    rw [hx] at h
    exact Reps.get r h
theorem vr_ix : VR2 K (rIx K) aIx := fun {_ m S Z H a b v u q Q} w r1 r2 ⟨i, e2, h⟩ k => by
  subst e2
  rw [Rep] at r2
  have go : (∃ ds d, seqOf S a = some ds ∧ atI ds i = some d ∧ q d S) → rIx K v u H Q := fun ⟨ds, d, h1, h2, h3⟩ => by
    obtain ⟨p, vs, e, hr, hs⟩ := seq_any w r1 h1
    obtain ⟨x, hx, rx⟩ := atI_reps hr h2
    rcases hs with hs | hs
    · exact .inl ⟨p, vs, i, x, e, r2, hs, hx, k.now w rx h3⟩
    · exact .inr (.inl ⟨p, vs, i, x, e, r2, hs, hx, k.now w rx h3⟩)
  cases a <;> first
    | (rw [Rep] at r1; obtain ⟨h1, c, h2, h3⟩ := h; exact .inr (.inr ⟨_, i, c, r1, r2, h1, h2, k.now w rep_str h3⟩))
    | exact go h
def cutD (ds : List D) (lo hi : Option Int) : List D := (ds.drop (HT.sIx ds.length 0 lo)).take (HT.sIx ds.length ds.length hi - HT.sIx ds.length 0 lo)
def aSl (fz : Bool) (a : D) (lo hi : Option Int) (S : Sto) (q : D → Sto → Prop) : Prop := match a with
  | .str z => z.length ≤ sizeLine ∧ q (.str (cutS z lo hi)) S
  | .tup ds => q (.tup (cutD ds lo hi)) S
  | a => ∃ ds, seqOf S a = some ds ∧ newL fz (cutD ds lo hi) S q
abbrev rSlAll (K : PySem.W.Frag) : V → Option Int → Option Int → Hp → VK → Prop := fun x lo hi H Q => rSlL K x lo hi H Q ∨ rSlS x lo hi H Q ∨ rSlA K x lo hi H Q
theorem or_sl {X : Cx} : SlR X (rSlAll X.K) := sl_list.or (sl_str.or sl_tupA)
theorem reps_cut {m : Nat → Addr} {N : Nat} {Hv : Hp} {ds : List D} {vs : List V} {lo hi : Option Int} (r : Reps K m N Hv ds vs) : Reps K m N Hv (cutD ds lo hi) (cutV vs lo hi) := by
  unfold cutD cutV
  rw [← Reps.len r]
  exact (r.drop _).take _
theorem vr_sl {fz : Bool} {m : Nat → Addr} {S : Sto} {Z : Addr → Prop} {H : Hp} {a : D} {v : V} {lo hi : Option Int} {q : D → Sto → Prop} {Q : VK} (w : Wd K U m S Z H) (r1 : Rep K m S.length (vis m S Z H) a v) (h : aSl fz a lo hi S q) (k : Outs m S Z H K U (rD K) q Q) : rSlAll K v lo hi H Q := by
  have go : a.isTup = false → (∃ ds, seqOf S a = some ds ∧ newL fz (cutD ds lo hi) S q) → rSlAll K v lo hi H Q := fun ht ⟨ds, h1, h2⟩ => by
    obtain ⟨p, vs, e, hr, _, hl⟩ := seqOf_rep w r1 h1
    exact .inl ⟨p, vs, e, hl ht, fun p hp => out_newL w (reps_cut hr) h2 k hp⟩
  cases a with
  | str z => rw [Rep] at r1; exact .inr (.inl ⟨z, r1, h.1, k.now w rep_str h.2⟩)
  | tup ds =>
    obtain ⟨p, vs, e, hr, ht, _⟩ := seqOf_rep (ds := ds) w r1 rfl
    refine .inr (.inr ⟨p, vs, e, ht rfl, fun hw => ?_, fun _ p hp => out_newT w (reps_cut hr) h k hp⟩)
    have e2 : cutD ds lo hi = ds := by
      unfold cutD
      rw [← Reps.len hr, hw.1, hw.2, List.drop_zero, Nat.sub_zero, Reps.len hr, List.take_length]
    have h' : q (.tup (cutD ds lo hi)) S := h
    rw [e2] at h'
    rw [← e]
    exact k.now w r1 h'
  | lst _ => exact go rfl h
  | ksq _ => exact go rfl h
  | loc _ => exact go rfl h
  | non => exact go rfl h
  | bl _ => exact go rfl h
  | int _ => exact go rfl h
  | obj _ _ _ => exact go rfl h
  | dic _ _ => exact go rfl h
  | ref _ => exact go rfl h
  | ty _ => exact go rfl h
  | exc _ _ _ => exact go rfl h
end
abbrev GO := G (Option Int)
def gNoP : GO := fun _ S q => q none S
def gPart (ge : G D) : GO := fun ρ S q => ge ρ S fun d S1 => ∃ i, d = .int i ∧ q (some i) S1
def gIx (ga gb : G D) : G D := gB2 aIx ga gb
def gSl (fz : Bool) (ga : G D) (gl gh : GO) : G D := fun ρ S q => ga ρ S fun a S1 => gl ρ S1 fun lo S2 => gh ρ S2 fun hi S3 => aSl fz a lo hi S3 q
section
variable {X : Cx} {pos p2 : Pos} {a b e : Expr} {ga gb ge : G D} {gl gh : GO} {lo hi : Option Expr}
theorem d_ix (ha : PE X a (tofE X.K U ga)) (hb : PE X b (tofE X.K U gb)) (hs : PlainIx b := by intro _ _; rfl) : PE X (.Subscript a b pos) (tofE X.K U (gIx ga gb)) :=
  weakE (pe_ix ix_seq ha hb hs) fun _ _ _ h => two_in vr_ix h
theorem do_none : PO X none (tofO X.K U gNoP) := weakO po_none fun σ H Q ⟨m, S, Z, ρ, q, w, rs, h, k⟩ => k.now w rfl h
theorem do_some (h : PE X e (tofE X.K U ge)) : PO X (some e) (tofO X.K U (gPart ge)) := weakO (po_some h) fun σ H Q ⟨m, S, Z, ρ, q, w, rs, h, k⟩ => tof_in w rs h fun v1 H1 m1 d1 S1 e1 w1 r1 ⟨i, ed, h1⟩ => by
  subst ed
  have r1' : Rep X.K m1 S1.length (vis m1 S1 Z H1) (.int i) v1 := r1
  rw [Rep] at r1'
  exact ⟨i, r1', k.at e1 w1 rfl h1⟩
theorem d_sl (fz : Bool) (ha : PE X a (tofE X.K U ga)) (hl : PO X lo (tofO X.K U gl)) (hh : PO X hi (tofO X.K U gh)) : PE X (.Subscript a (.Slice lo hi none p2) pos) (tofE X.K U (gSl fz ga gl gh)) :=
  weakE (pe_slice or_sl ha hl hh) fun σ H Q ⟨m, S, Z, ρ, q, w, rs, h, k⟩ => tof_in w rs h fun v1 H1 m1 d1 S1 e1 w1 r1 h1 => tof_in w1 (rs.ext e1) h1 fun v2 H2 m2 d2 S2 e2 w2 r2 h2 => tof_in w2 (rs.ext (e1.trans e2)) h2 fun v3 H3 m3 d3 S3 e3 w3 r3 h3 => by
    cases (show d2 = v2 from r2)
    cases (show d3 = v3 from r3)
    exact vr_sl w3 (r1.ext (e2.trans e3)) h3 (k.ext ((e1.trans e2).trans e3))
end
def gFmt (ge : G D) : G D := fun ρ S q => ge ρ S fun d S1 => match d with
  | .str y => y.length ≤ sizeLine ∧ q (.str y) S1
  | .int i => i.natAbs.log2 < 1920 ∧ q (.str (showI i)) S1
  | _ => False
def gJs : List (G D) → Str → Env_ → Sto → (Str → Sto → Prop) → Prop
  | [], acc, _, S, q => q acc S
  | g :: gs, acc, ρ, S, q => g ρ S fun d S1 => ∃ y, d = .str y ∧ (acc ++ y).length ≤ sizeLine ∧ gJs gs (acc ++ y) ρ S1 q
def gJoined (gs : List (G D)) : G D := fun ρ S q => gJs gs Str.empty ρ S fun out S1 => q (.str out) S1
section
variable {K : PySem.W.Frag}
theorem tyV_of {m : Nat → Addr} {S : Sto} {Z : Addr → Prop} {H : Hp} {T : String} {d : D} {v : V} (w : Wd K U m S Z H) (r : Rep K m S.length (vis m S Z H) d v) (hT : T ≠ "tuple") (h : isTy T S d = true) : tyV K T v H := by
  cases d with
  | str _ => rw [Rep] at r; rw [r]; exact beq_iff_eq.mp h
  | int _ => rw [Rep] at r; rw [r]; exact beq_iff_eq.mp h
  | lst _ => rw [Rep] at r; obtain ⟨a, vs, e, h1, _⟩ := r; rw [e]; exact .inl ⟨beq_iff_eq.mp h, vs, SqL.of (vis_sub h1)⟩
  | ksq _ => rw [Rep] at r; obtain ⟨a, vs, e, h1, _⟩ := r; rw [e]; exact .inl ⟨beq_iff_eq.mp h, vs, SqL.sub vis_le h1⟩
  | dic _ _ => rw [Rep] at r; obtain ⟨a, vs, e, h1, _⟩ := r; rw [e]; exact .inr (.inr (.inl ⟨beq_iff_eq.mp h, .inl ⟨_, vis_sub h1⟩⟩))
  | tup _ => exact absurd (beq_iff_eq.mp h) hT
  | loc n =>
    rw [Rep] at r
    rw [isTy] at h
    rw [r.1]
    cases hS : S[n]? with
    | none => rw [hS] at h; cases h
    | some o =>
      cases o with
      | none => rw [hS] at h; cases h
      | some o =>
        rw [hS] at h
        cases o with
        | lst ds => obtain ⟨vs, h1, _⟩ := w.rep n _ hS; exact .inl ⟨beq_iff_eq.mp h, vs, SqL.of h1⟩
        | obj _ _ _ => cases h
        | dic _ _ => obtain ⟨vs, h1, _⟩ := w.rep n _ hS; exact .inr (.inr (.inl ⟨beq_iff_eq.mp h, .inl ⟨_, h1⟩⟩))
        | dicT _ _ => obtain ⟨vs, h1, _⟩ := w.rep n _ hS; exact .inr (.inr (.inl ⟨beq_iff_eq.mp h, .inr ⟨_, h1⟩⟩))
  | non => cases h
  | bl _ => cases h
  | obj _ _ _ => cases h
  | ref _ => cases h
  | ty _ => cases h
  | exc _ _ _ => cases h
end
def gMt (T : String) (r : D → RND) (go : G D) (gs : G (List D)) : G D := fun ρ S q => go ρ S fun o S1 => isTy T S1 o = true ∧ gs ρ S1 fun ds S2 => r o ds S2 q
section
variable {X : Cx} {o e : Expr} {es : List Expr} {go : G D} {gs : G (List D)} {name : Str} {apos cpos : Pos} {T id : String} {r : V → List V → Hp → VK → Prop} {g : D → RND}
theorem d_bm (hT : T ≠ "tuple") (pa : PlainAttrs T) (slot : Slot T name id) (hty : typeOf (.builtin id) = pure (.type "method_descriptor")) (hm : MtR X id r) (hv : VRM X.K T r g) (ho : PE X o (tofE X.K U go)) (ha : PA X (e :: es) (tofA X.K U gs))
    (hbase : attributeBase o name X.env (eval o X.env) = eval o X.env := by rfl)
    (hfew : ((backTo cpos (starEach (e :: es) X.env)).all (fun x => !x.1) && (backToKw cpos (keywordEach [] X.env)).all (fun x => x.1.isSome)
      && decide ((e :: es).length + ([] : List Keyword).length + (if ([] : List Keyword).isEmpty then 0 else 1) < 30)) = true := by rfl)
    (hline : (apos.endLine == cpos.line) = true := by rfl) (hs : starEach (e :: es) X.env = (false, eval e X.env) :: starEach es X.env := by rfl) (hplain : (backTo cpos (starEach es X.env)).any (·.1) = false := by rfl) :
    PE X (.Call (.Attribute o name apos) (e :: es) [] cpos) (tofE X.K U (gMt T g go gs)) :=
  weakE (pe_bm pa slot hty hm ho ha hbase hfew hline hs hplain) fun σ H Q ⟨m, S, Z, ρ, q, w, rs, h, k⟩ => tof_in w rs h fun v1 H1 m1 d1 S1 e1 w1 r1 h1 => ⟨tyV_of w1 r1 hT h1.1, tof_in w1 (rs.ext e1) h1.2 fun v2 H2 m2 d2 S2 e2 w2 r2 h2 => hv w2 (r1.ext e2) r2 h2 (k.ext (e1.trans e2))⟩
end
section
variable {K : PySem.W.Frag}
/-- xs.append(y) -/
def aAppend : D → RND := fun o as S q => ∃ n ds y, o = .loc n ∧ as = [y] ∧ S[n]? = some (some (.lst ds)) ∧ ds.length < sizeLine ∧ q .non (S.set n (some (.lst (ds ++ [y]))))
theorem vm_append : VRM K "list" rAppend aAppend := fun {_ m S Z H o u a v q Q} w r rs ⟨n, ds, y, e1, e2, hS, hl, h⟩ k => by
  subst e1 e2
  rw [Rep] at r
  obtain ⟨x, ex, rx⟩ := reps1 rs
  obtain ⟨vs, h1, h2⟩ := w.rep n _ hS
  obtain ⟨w3, e3, hv3⟩ := w.upd (o := .lst (vs ++ [x])) (mo := .lst (ds ++ [y])) ⟨_, hS⟩ ⟨_, upd_same, h2.append (Reps.one rx)⟩
  exact ⟨m n, vs, x, r.1, ex, h1, by rw [Reps.len h2]; exact hl, k.at e3 w3 rep_non h⟩
/-- text methods with a text or an int -/
def aS1 (C : Str → Str → Prop) (f : Str → Str → D) : D → RND := fun o as S q => ∃ x y, o = .str x ∧ as = [.str y] ∧ C x y ∧ q (f x y) S
def aS0 (C : Str → Prop) (f : Str → D) : D → RND := fun o as S q => ∃ x, o = .str x ∧ as = [] ∧ C x ∧ q (f x) S
def aSI (C : Str → Int → Prop) (f : Str → Int → D) : D → RND := fun o as S q => ∃ x y, o = .str x ∧ as = [.int y] ∧ C x y ∧ q (f x y) S
end
/-- xs[i] = v -/
def gSetIx (go gi gv : G D) : GS := fun E ρ S => gv ρ S fun v S1 => go ρ S1 fun o S2 => gi ρ S2 fun i S3 => ∃ n ds k j, o = .loc n ∧ i = .int k ∧ S3[n]? = some (some (.lst ds)) ∧ ixN ds.length k = some j ∧ E.nx ρ (S3.set n (some (.lst (ds.set j v))))
section
variable {X : Cx} {pos pos' : Pos} {o i value : Expr} {go gi gv : G D}
theorem d_setix (ho : PE X o (tofE X.K U go)) (hi : PE X i (tofE X.K U gi)) (hv : PE X value (tofE X.K U gv))
    (ha : ∀ v, assign (.Subscript o i pos') X.env v = (do
      let ov ← holding [v] (eval o X.env)
      let iv ← holding [v, ov] (eval i X.env)
      standAt pos'
      holding [v, ov, iv] (setItem ov iv v)
      release [v, ov, iv] []) := by intro _; rfl)
    (hs : swapsWithSole [.Subscript o i pos'] value pos.line X.env = pure false := by rfl) (hw : swappedStores [.Subscript o i pos'] value X.env = pure none := by rfl)
    (h1 : (assignEach [.Subscript o i pos'] X.env).map (·.2) = [assign (.Subscript o i pos') X.env] := by rfl) : PS X (.Assign [.Subscript o i pos'] value pos) (tofS X.K U (gSetIx go gi gv)) :=
  weakS (ps_asg hv (pg_sub ho hi set_list ha) hs hw h1) fun E σ H ⟨m, S, Z, ρ, D, w, rs, h, k⟩ => tof_in w rs h fun v1 H1 m1 d1 S1 e1 w1 r1 h1 => tof_in w1 (rs.ext e1) h1 fun v2 H2 m2 d2 S2 e2 w2 r2 h2 => tof_in w2 (rs.ext (e1.trans e2)) h2 fun v3 H3 m3 d3 S3 e3 w3 r3 ⟨n, ds, kk, j, eo, ei, hS, hj, h3⟩ => by
    subst eo ei
    have r2' := r2.ext e3
    rw [Rep] at r2'
    rw [rD, Rep] at r3
    obtain ⟨vs, hh, hr⟩ := w3.rep n _ hS
    obtain ⟨w4, e4, hv4⟩ := w3.upd (o := .lst (vs.set j v1)) (mo := .lst (ds.set j d1)) ⟨_, hS⟩ ⟨_, upd_same, hr.set j (r1.ext (e2.trans e3))⟩
    refine ⟨m3 n, vs, kk, j, r2'.1, r3, hh, by rw [Reps.len hr]; exact hj, k.nx.at (((e1.trans e2).trans e3).trans e4) w4 (rs.ext (((e1.trans e2).trans e3).trans e4)) h3⟩
end
end Dl
namespace Dl
open PySem L2
structure FnB (K : PySem.W.Frag) (mg : Str → Option Value) (x : Str) (st : Stmt) (dvs : List V) : Prop where
  ex : ∃ f fd, FunS K x x st dvs f fd ∧ mg x = some (.ref f)
structure MtB (K : PySem.W.Frag) (C : Addr) (m qual : Str) (st : Stmt) (dvs : List V) : Prop where
  ex : ∃ f fd, FunS K m qual st dvs f fd ∧ Meth K C m f
structure MkB (K : PySem.W.Frag) (C : Addr) (qual : Str) (st : Stmt) (dvs : List V) : Prop where
  ex : ∃ f fd, FunS K "__init__" qual st dvs f fd ∧ Mk K C f
section
variable {P : Program} {w : World} {K : PySem.W.Frag} {mg : Str → Option Value} {base : Heap} {x m qual : Str} {st : Stmt} {dvs : List V} {N ps : List Str} {k : Nat} {dsp : DSp} {C : Addr}
theorem fn_body0 {f : Addr} {fd : FuncData} (F : FunS K x qual st dvs f fd) (S : FnScope N ps (defScope st)) (len : ∀ ds S q, dsp ds S q → ds.length = ps.length) (g : GS)
    (hbody : ∀ (cdv : Value) (A : Around) (outer : List Env) (s : Shared) (H : Hp) (E : XK), RoomG k (A.deeper (PyProof.Rows.envOfC qual (defScope st) s.heap.objs.size f cdv)) →
      PSs (cxOf CX0 P w K mg base N qual (defScope st) f cdv A outer s H E).nox (defBody st) (tofS K U0 g))
    (hread : ∀ ds S q, D.unders S.length ds = true → Sto.under S.length S = true → dsp ds S q → g { nx := fun _ S' => q .non S', rt := q } (startD N ds) S) : FnG P w K mg base CX0 (k + 1) f fd ps (spOf K dsp) := by
  refine FnG.by_body F S (spOf_len len) fun cdv A outer s H vs Q E hr ⟨m, St', Z, ds, q, wd, rd, hd, kk⟩ => ?_
  refine ⟨_, (hbody cdv A outer s H E hr).nox, m, St', Z, startD N ds, _, wd, relS_start rd, hread ds St' q (Reps.below rd) wd.under hd, ⟨?_, kk, ?_, ?_⟩⟩
  · exact fun σ' H' m' ρ' S' e' w' _ h' => kk .non H' m' .non S' e' w' rep_non h'
  · exact fun _ _ _ _ _ _ _ _ h => h.elim
  · exact fun _ _ _ _ _ _ _ _ h => h.elim
theorem fnc_of (B : FnB K mg x st dvs) (S : FnScope N ps (defScope st)) (len : ∀ ds S q, dsp ds S q → ds.length = ps.length) (g : GS)
    (hbody : ∀ (f : Addr) (cdv : Value) (A : Around) (outer : List Env) (s : Shared) (H : Hp) (E : XK), RoomG k (A.deeper (PyProof.Rows.envOfC x (defScope st) s.heap.objs.size f cdv)) →
      PSs (cxOf CX0 P w K mg base N x (defScope st) f cdv A outer s H E).nox (defBody st) (tofS K U0 g))
    (hread : ∀ ds S q, D.unders S.length ds = true → Sto.under S.length S = true → dsp ds S q → g { nx := fun _ S' => fin S.length q .non S', rt := fin S.length q } (startD N ds) S) : Fnc P w K mg base x st dvs (k + 1) ps dsp := by
  obtain ⟨f, fd, F, hm⟩ := B.ex
  exact ⟨f, fd, F, hm, fn_body F S len g (hbody f) hread⟩
theorem fnc_of0 (B : FnB K mg x st dvs) (S : FnScope N ps (defScope st)) (len : ∀ ds S q, dsp ds S q → ds.length = ps.length) (g : GS)
    (hbody : ∀ (f : Addr) (cdv : Value) (A : Around) (outer : List Env) (s : Shared) (H : Hp) (E : XK), RoomG k (A.deeper (PyProof.Rows.envOfC x (defScope st) s.heap.objs.size f cdv)) →
      PSs (cxOf CX0 P w K mg base N x (defScope st) f cdv A outer s H E).nox (defBody st) (tofS K U0 g))
    (hread : ∀ ds S q, D.unders S.length ds = true → Sto.under S.length S = true → dsp ds S q → g { nx := fun _ S' => q .non S', rt := q } (startD N ds) S) : Fnc P w K mg base x st dvs (k + 1) ps dsp := by
  obtain ⟨f, fd, F, hm⟩ := B.ex
  exact ⟨f, fd, F, hm, fn_body0 F S len g (hbody f) hread⟩
theorem mfn_of0 (c : Cls K C) (B : MtB K C m qual st dvs) (S : FnScope N ps (defScope st)) (len : ∀ ds S q, dsp ds S q → ds.length = ps.length) (g : GS)
    (hbody : ∀ (f : Addr) (cdv : Value) (A : Around) (outer : List Env) (s : Shared) (H : Hp) (E : XK), RoomG k (A.deeper (PyProof.Rows.envOfC qual (defScope st) s.heap.objs.size f cdv)) →
      PSs (cxOf CX0 P w K mg base N qual (defScope st) f cdv A outer s H E).nox (defBody st) (tofS K U0 g))
    (hread : ∀ ds S q, D.unders S.length ds = true → Sto.under S.length S = true → dsp ds S q → g { nx := fun _ S' => q .non S', rt := q } (startD N ds) S) : MFn P w K mg base C m qual st dvs (k + 1) ps dsp := by
  obtain ⟨f, fd, F, hm⟩ := B.ex
  exact ⟨c, f, fd, F, hm, fn_body0 F S len g (hbody f) hread⟩
theorem cfn_of0 (mC : mg x = some (.ref C)) (B : MkB K C qual st dvs) (S : FnScope N ps (defScope st)) (len : ∀ ds S q, dsp ds S q → ds.length = ps.length) (g : GS)
    (hbody : ∀ (f : Addr) (cdv : Value) (A : Around) (outer : List Env) (s : Shared) (H : Hp) (E : XK), RoomG k (A.deeper (PyProof.Rows.envOfC qual (defScope st) s.heap.objs.size f cdv)) →
      PSs (cxOf CX0 P w K mg base N qual (defScope st) f cdv A outer s H E).nox (defBody st) (tofS K U0 g))
    (hread : ∀ ds S q, D.unders S.length ds = true → Sto.under S.length S = true → dsp ds S q → g { nx := fun _ S' => q .non S', rt := q } (startD N ds) S) : CFn P w K mg base x C qual st dvs (k + 1) ps dsp := by
  obtain ⟨f, fd, F, hm⟩ := B.ex
  exact ⟨mC, f, fd, F, hm, fn_body0 F S len g (hbody f) hread⟩
/-- a weaker promise -/
theorem Fnc.imp {dsp' : DSp} (F : Fnc P w K mg base x st dvs k ps dsp) (h : ∀ ds S q, dsp' ds S q → dsp ds S q) : Fnc P w K mg base x st dvs k ps dsp' := by
  obtain ⟨f, fd, F1, hm, FO⟩ := F.ex
  exact ⟨f, fd, F1, hm, FO.imp fun vs H Q E ⟨m, S, Z, ds, q, w, r, hh, kk⟩ => ⟨m, S, Z, ds, q, w, r, h _ _ _ hh, kk⟩⟩
end
def gPar (i j : Nat) (ga : G (List D)) : GS := fun E ρ S => ga ρ S fun as S1 => ∃ v u, as = [v, u] ∧ E.nx ((ρ.set i (some v)).set j (some u)) S1
def gPar3 (i j l : Nat) (ga : G (List D)) : GS := fun E ρ S => ga ρ S fun as S1 => ∃ v u z, as = [v, u, z] ∧ E.nx (((ρ.set i (some v)).set j (some u)).set l (some z)) S1
section
variable {X : Cx} {pos : Pos} {ga : G (List D)}
theorem d_par {i j : Nat} {x y : Str} {a b : Expr} {px py pt : Pos} {kt k2 pt2} (hN : X.N.Nodup) (ha : PA X [a, b] (tofA X.K U ga)) (hc : X.calm = true := by rfl) (hi : X.N[i]? = some x := by rfl) (hj : X.N[j]? = some y := by rfl) (hij : i ≠ j := by decide)
    (hx : X.env.scope.names.lookup x = some .local := by rfl) (hy : X.env.scope.names.lookup y = some .local := by rfl)
    (hw : swappedStores [.Tuple [.Name x px, .Name y py] kt pt] (.Tuple [a, b] k2 pt2) X.env = pure (some [x, y]) := by rfl)
    (hs : swapsWithSole [.Tuple [.Name x px, .Name y py] kt pt] (.Tuple [a, b] k2 pt2) pos.line X.env = pure false := by rfl) :
    PS X (.Assign [.Tuple [.Name x px, .Name y py] kt pt] (.Tuple [a, b] k2 pt2) pos) (tofS X.K U (gPar i j ga)) :=
  weakS (ps_par hc hN hi hj hij hx hy ha hw hs) fun E σ H ⟨m, S, Z, ρ, D, w, rs, h, k⟩ => tof_in w rs h fun v1 H1 m1 d1 S1 e1 w1 r1 ⟨v, u, ed, h1⟩ => by
    subst ed
    obtain ⟨v', u', ev, rv, ru⟩ := reps2 r1
    exact ⟨v', u', ev, k.nx.at e1 w1 (((rs.ext e1).set rv).set ru) h1⟩
end
section
variable {X : Cx}
def rpartS (x y : Str) : Str × Str × Str := match Builtin.Str.lastOccurrence x y 0 x.length with
  | some i => (Builtin.Str.strSub x 0 i, y, Builtin.Str.strSub x (i + y.length) x.length)
  | none => (Str.empty, Str.empty, x)
end
section
variable {K : PySem.W.Frag}
def aRpart : D → RND := fun o as S q => ∃ x y, o = .str x ∧ as = [.str y] ∧ (y.length == 0) = false ∧ x.length ≤ sizeLine ∧ q (.tup [.str (rpartS x y).1, .str (rpartS x y).2.1, .str (rpartS x y).2.2]) S
def aPart : D → RND := fun o as S q => ∃ x y, o = .str x ∧ as = [.str y] ∧ (y.length == 0) = false ∧ x.length ≤ sizeLine ∧ q (.tup [.str (Txt.partition x y).1, .str (Txt.partition x y).2.1, .str (Txt.partition x y).2.2]) S
def aIadd : R2D := fun a b S q => match a, b with
  | .int i, .int j => q (.int (i + j)) S
  | .str x, .str y => x.length + y.length ≤ sizeLine ∧ q (.str (x ++ y)) S
  | _, _ => False
theorem Reps.dropLast {m : Nat → Addr} {N : Nat} {Hv : Hp} {ds : List D} {vs : List V} (r : Reps K m N Hv ds vs) : Reps K m N Hv ds.dropLast vs.dropLast := by
  rw [List.dropLast_eq_take, List.dropLast_eq_take, Reps.len r]
  exact r.take _
structure IsC (K : PySem.W.Frag) (C : Addr) : Prop where
  cl : Cls K C
  ha : PySem.W.findIn K (.ref C) "__class__" = some (some (.builtin "object.__class__"))
  hn : PySem.W.specialIn K (.builtin "object.__class__") "__get__" = some (some (.builtin "getset_descriptor.__get__"))
  htk : PySem.W.takesIn K (.builtin "object.__class__") = some true
  hm : PySem.W.mroIn K C (.type "object") = some true
/-- which of two classes -/
structure KitC (K : PySem.W.Frag) (C C' : Addr) (b : Bool) : Prop where
  is : PySem.W.kitOne K (.ref C) (.ref C') = some b
structure KitB (K : PySem.W.Frag) (C' : Addr) : Prop where
  no : ∀ a ∈ "NoneType" :: basicT, PySem.W.kitOne K (.type a) (.ref C') = some false
def aIsiC (K : PySem.W.Frag) : R2D := fun d c S q => ∃ C', c = .ref C' ∧ ((∃ C ks ds b, objOf S d = some (C, ks, ds) ∧ IsC K C ∧ KitC K C C' b ∧ q (.bl b) S) ∨ (∃ a, tyN S d = some a ∧ KitB K C' ∧ q (.bl false) S))
theorem vr_isiC : VRN K (rIsi K) (a2 (aIsiC K)) := vrn2 fun {_ m S Z H d e v u q Q} w r1 r2 ⟨C', e2, h⟩ k => by
  subst e2
  rw [Rep] at r2
  subst r2
  rcases h with ⟨C, ks, ds, b, h1, ic, kc, h4⟩ | ⟨a, h1, kb, h4⟩
  · obtain ⟨x, dx, vs, ev, hx, _, _⟩ := objOf_rep w r1 h1
    subst ev
    exact ⟨.ref x, .ref C', .ref C, .ref C', b, rfl, .own C', .base (.ins hx ic.cl ic.ha ic.hn ic.htk ic.hm), kc.is, k.now w rep_bl h4⟩
  · obtain ⟨h5, h6⟩ := tyX_of w r1 h1
    exact ⟨v, .ref C', .type a, .ref C', false, rfl, .own C', h5, kb.no a h6, k.now w rep_bl h4⟩
end
def aOwn (C : Addr) (dsp : DSp) : R2D := fun a b S q => (∃ ks ds, objOf S a = some (C, ks, ds)) ∧ (∃ ks ds, objOf S b = some (C, ks, ds)) ∧ dsp [a, b] S fun d S' => (∃ k, d = .bl k) ∧ q d S'
end Dl
namespace Dl
open PySem L2
def aFmt : R1D := fun d S1 q => match d with
  | .str y => y.length ≤ sizeLine ∧ q (.str y) S1
  | .int i => i.natAbs.log2 < 1920 ∧ q (.str (showI i)) S1
  | _ => False
section
variable {S : Sto} {q : D → Sto → Prop} {fz : Bool} {i j : Int} {x y : Str} {C : Int → Int → Prop} {f : Int → Int → D} {ds : List D} {n : Nat} {d e : D} {bs : List Bool} {ns : List Int} {a b : Bool}
theorem x_i2 : aI2 C f (.int i) (.int j) S q ↔ C i j ∧ q (f i j) S := by
  unfold aI2
  constructor
  · rintro ⟨i', j', e1, e2, h⟩; cases e1; cases e2; exact h
  · exact fun h => ⟨i, j, rfl, rfl, h⟩
theorem x_addI : aAdd fz (.int i) (.int j) S q ↔ q (.int (i + j)) S := Iff.rfl
theorem x_addS : aAdd fz (.str x) (.str y) S q ↔ x.length + y.length ≤ sizeLine ∧ q (.str (x ++ y)) S := Iff.rfl
theorem x_mulI : aMul fz (.int i) (.int j) S q ↔ mulOk i j ∧ q (.int (i * j)) S := Iff.rfl
theorem x_iaddS : aIadd (.str x) (.str y) S q ↔ x.length + y.length ≤ sizeLine ∧ q (.str (x ++ y)) S := Iff.rfl
theorem x_iaddI : aIadd (.int i) (.int j) S q ↔ q (.int (i + j)) S := Iff.rfl
theorem x_neg : aNeg (.int i) S q ↔ q (.int (-i)) S := ⟨fun ⟨_, e, h⟩ => by cases e; exact h, fun h => ⟨_, rfl, h⟩⟩
theorem sh_int : SeqAt.shaped (.int i) = true := rfl
theorem sh_non : SeqAt.shaped .none = true := by decide
theorem sh_bool : SeqAt.shaped (.bool a) = true := by cases a <;> decide
theorem x_eq {p p' : PyData} (h1 : toPyS S d = some p) (h2 : toPyS S e = some p') : aEq d e S q ↔ SeqAt.shaped p = true ∧ SeqAt.shaped p' = true ∧ q (.bl (PyData.eqv p p')) S := by
  unfold aEq
  rw [h1, h2]
  constructor
  · rintro ⟨_, _, e1, e2, h⟩; cases e1; cases e2; exact h
  · exact fun h => ⟨_, _, rfl, rfl, h⟩
theorem x_ne {p p' : PyData} (h1 : toPyS S d = some p) (h2 : toPyS S e = some p') : aNe d e S q ↔ SeqAt.shaped p = true ∧ SeqAt.shaped p' = true ∧ q (.bl (!PyData.eqv p p')) S := by
  unfold aNe
  rw [h1, h2]
  constructor
  · rintro ⟨_, _, e1, e2, h⟩; cases e1; cases e2; exact h
  · exact fun h => ⟨_, _, rfl, rfl, h⟩
theorem x_eqI : aEq (.int i) (.int j) S q ↔ q (.bl (decide (i = j))) S := by
  rw [x_eq rfl rfl]
  simp only [sh_int, true_and, PyData.eqv]
  rw [show (i == j) = decide (i = j) from rfl]
theorem x_neI : aNe (.int i) (.int j) S q ↔ q (.bl (decide (i ≠ j))) S := by
  rw [x_ne rfl rfl]
  simp only [sh_int, true_and, PyData.eqv]
  rw [show (!(i == j)) = decide (i ≠ j) by rw [decide_not]; rfl]
theorem x_eqS : aEq (.str x) (.str y) S q ↔ PyData.strOk x = true ∧ PyData.strOk y = true ∧ q (.bl (decide (x = y))) S := by
  rw [x_eq rfl rfl]
  have h : ∀ z, SeqAt.shaped (.str z) = PyData.strOk z := fun z => by unfold SeqAt.shaped PyData.canLay0; exact Bool.and_true _
  rw [h, h, show PyData.eqv (.str x) (.str y) = decide (x = y) by unfold PyData.eqv; rfl]
theorem x_neS : aNe (.str x) (.str y) S q ↔ PyData.strOk x = true ∧ PyData.strOk y = true ∧ q (.bl (decide (x ≠ y))) S := by
  rw [x_ne rfl rfl]
  have h : ∀ z, SeqAt.shaped (.str z) = PyData.strOk z := fun z => by unfold SeqAt.shaped PyData.canLay0; exact Bool.and_true _
  rw [h, h, show (!PyData.eqv (.str x) (.str y)) = decide (x ≠ y) by unfold PyData.eqv; rw [decide_not]; rfl]
theorem x_eqB : aEq (.bl a) (.bl b) S q ↔ q (.bl (a == b)) S := by
  rw [x_eq rfl rfl]
  simp only [sh_bool, true_and, PyData.eqv]
theorem x_neB : aNe (.bl a) (.bl b) S q ↔ q (.bl (!(a == b))) S := by
  rw [x_ne rfl rfl]
  simp only [sh_bool, true_and, PyData.eqv]
theorem x_eqNI : aEq .non (.int j) S q ↔ q (.bl false) S := by
  rw [x_eq rfl rfl]; simp only [sh_non, sh_int, true_and, PyData.eqv]
theorem x_neNI : aNe .non (.int j) S q ↔ q (.bl true) S := by
  rw [x_ne rfl rfl]; simp only [sh_non, sh_int, true_and, PyData.eqv, Bool.not_false]
theorem x_lenS : aLen (.str x) S q ↔ x.length ≤ sizeLine ∧ q (.int x.length) S := Iff.rfl
theorem x_lenL (h : seqOf S d = some ds) : aLen d S q ↔ q (.int ds.length) S := by
  have go : (∃ es, seqOf S d = some es ∧ q (.int es.length) S) ↔ q (.int ds.length) S := by
    rw [h]
    exact ⟨fun ⟨_, e, k⟩ => by cases e; exact k, fun k => ⟨_, rfl, k⟩⟩
  cases d <;> first
    | exact go
    | (cases h; done)
theorem x_str : aStr (.int i) S q ↔ i.natAbs.log2 < 1920 ∧ q (.str (showI i)) S := ⟨fun ⟨_, e, h⟩ => by cases e; exact h, fun h => ⟨_, rfl, h⟩⟩
theorem x_intI : aInt (.int i) S q ↔ q (.int i) S := Iff.rfl
theorem x_intB : aInt (.bl a) S q ↔ q (.int (if a then 1 else 0)) S := Iff.rfl
theorem x_divmod : aDivmod (.int i) (.int j) S q ↔ CDiv i j ∧ q (.tup [.int (i / j), .int (i % j)]) S := ⟨fun ⟨_, _, e1, e2, h⟩ => by cases e1; cases e2; exact h, fun h => ⟨_, _, rfl, rfl, h⟩⟩
theorem x_max2 : aMax2 (.int i) (.int j) S q ↔ q (.int (max i j)) S := ⟨fun ⟨_, _, e1, e2, h⟩ => by cases e1; cases e2; exact h, fun h => ⟨_, _, rfl, rfl, h⟩⟩
theorem x_min2 : aMin2 (.int i) (.int j) S q ↔ q (.int (min i j)) S := ⟨fun ⟨_, _, e1, e2, h⟩ => by cases e1; cases e2; exact h, fun h => ⟨_, _, rfl, rfl, h⟩⟩
theorem x_sum (h0 : d.isTup = false) (h : seqOf S d = some (ns.map D.int)) : q (.int ns.sum) S → aSum d S q := fun k => ⟨ns, h0, h, k⟩
theorem x_isi {t u : String} (h : tyN S d = some t) (hb : basicT.contains u = true) : aIsi d (.ty u) S q ↔ q (.bl (isiB t u)) S := by
  constructor
  · rintro ⟨_, _, e1, e2, _, k⟩; rw [h] at e1; cases e1; cases e2; exact k
  · exact fun k => ⟨_, _, h, rfl, hb, k⟩
theorem x_ixS : aIx (.str x) (.int i) S q ↔ x.length ≤ sizeLine ∧ ∃ c, atI x.cps.toList i = some c ∧ q (.str ⟨#[c]⟩) S := by
  unfold aIx
  exact ⟨fun ⟨_, e, h⟩ => by cases e; exact h, fun h => ⟨_, rfl, h⟩⟩
theorem x_ix (h : seqOf S d = some ds) (h2 : atI ds i = some e) : aIx d (.int i) S q ↔ q e S := by
  have go : (∃ k, D.int i = D.int k ∧ ∃ xs z, seqOf S d = some xs ∧ atI xs k = some z ∧ q z S) ↔ q e S := by
    constructor
    · rintro ⟨_, e1, xs, z, e2, e3, k⟩; cases e1; rw [h] at e2; cases e2; rw [h2] at e3; cases e3; exact k
    · exact fun k => ⟨_, rfl, _, _, h, h2, k⟩
  unfold aIx
  cases d <;> first
    | exact go
    | (cases h; done)
theorem x_slS {lo hi : Option Int} : aSl fz (.str x) lo hi S q ↔ x.length ≤ sizeLine ∧ q (.str (cutS x lo hi)) S := Iff.rfl
theorem x_slT {lo hi : Option Int} : aSl fz (.tup ds) lo hi S q ↔ q (.tup (cutD ds lo hi)) S := Iff.rfl
theorem x_slL {lo hi : Option Int} (h0 : d.isTup = false) (h : seqOf S d = some ds) : aSl fz d lo hi S q ↔ newL fz (cutD ds lo hi) S q := by
  have go : (∃ es, seqOf S d = some es ∧ newL fz (cutD es lo hi) S q) ↔ newL fz (cutD ds lo hi) S q := by
    rw [h]
    exact ⟨fun ⟨_, e, k⟩ => by cases e; exact k, fun k => ⟨_, rfl, k⟩⟩
  unfold aSl
  cases d <;> first
    | exact go
    | (cases h0; done)
    | (cases h; done)
theorem x_inS {c : Nat} : aInS (.str ⟨#[c]⟩) (.str y) S q ↔ q (.bl (decide (c ∈ y.cps.toList))) S := by
  unfold aInS
  constructor
  · rintro ⟨_, _, e1, e2, k⟩; cases e1; cases e2; exact k
  · exact fun k => ⟨_, _, rfl, rfl, k⟩
theorem x_newT : newL true ds S q ↔ q (.lst ds) S := Iff.rfl
theorem x_newF : newL false ds S q ↔ q (.loc S.length) (S ++ [some (.lst ds)]) := Iff.rfl
theorem x_si {P : Str → Int → Prop} {g : Str → Int → D} : aSI P g (.str x) [.int i] S q ↔ P x i ∧ q (g x i) S := by
  unfold aSI
  constructor
  · rintro ⟨_, _, e1, e2, k⟩; cases e1; cases e2; exact k
  · exact fun k => ⟨_, _, rfl, rfl, k⟩
theorem x_s1 {P : Str → Str → Prop} {g : Str → Str → D} : aS1 P g (.str x) [.str y] S q ↔ P x y ∧ q (g x y) S := by
  unfold aS1
  constructor
  · rintro ⟨_, _, e1, e2, k⟩; cases e1; cases e2; exact k
  · exact fun k => ⟨_, _, rfl, rfl, k⟩
theorem x_s0 {P : Str → Prop} {g : Str → D} : aS0 P g (.str x) [] S q ↔ P x ∧ q (g x) S := by
  unfold aS0
  constructor
  · rintro ⟨_, e1, e2, k⟩; cases e1; exact k
  · exact fun k => ⟨_, rfl, rfl, k⟩
theorem x_rpart : aRpart (.str x) [.str y] S q ↔ (y.length == 0) = false ∧ x.length ≤ sizeLine ∧ q (.tup [.str (rpartS x y).1, .str (rpartS x y).2.1, .str (rpartS x y).2.2]) S := by
  unfold aRpart
  constructor
  · rintro ⟨_, _, e1, e2, k⟩; cases e1; cases e2; exact k
  · exact fun k => ⟨_, _, rfl, rfl, k⟩
theorem x_part : aPart (.str x) [.str y] S q ↔ (y.length == 0) = false ∧ x.length ≤ sizeLine ∧ q (.tup [.str (Txt.partition x y).1, .str (Txt.partition x y).2.1, .str (Txt.partition x y).2.2]) S := by
  unfold aPart
  constructor
  · rintro ⟨_, _, e1, e2, k⟩; cases e1; cases e2; exact k
  · exact fun k => ⟨_, _, rfl, rfl, k⟩
theorem x_a1 {P : D → Sto → (D → Sto → Prop) → Prop} : a1 P [d] S q ↔ P d S q := by
  unfold a1
  exact ⟨fun ⟨_, e, k⟩ => by cases e; exact k, fun k => ⟨_, rfl, k⟩⟩
theorem x_a2 {P : D → D → Sto → (D → Sto → Prop) → Prop} : a2 P [d, e] S q ↔ P d e S q := by
  unfold a2
  exact ⟨fun ⟨_, _, e, k⟩ => by cases e; exact k, fun k => ⟨_, _, rfl, k⟩⟩
theorem x_app (h : S[n]? = some (some (.lst ds))) : aAppend (.loc n) [d] S q ↔ ds.length < sizeLine ∧ q .non (S.set n (some (.lst (ds ++ [d])))) := by
  unfold aAppend
  constructor
  · rintro ⟨_, _, _, e1, e2, e3, k⟩; cases e1; cases e2; rw [h] at e3; cases e3; exact k
  · exact fun k => ⟨_, _, _, rfl, rfl, h, k⟩
theorem x_slL_l {lo hi : Option Int} : aSl fz (.lst ds) lo hi S q ↔ newL fz (cutD ds lo hi) S q := x_slL rfl rfl
theorem x_slL_k {lo hi : Option Int} : aSl fz (.ksq ds) lo hi S q ↔ newL fz (cutD ds lo hi) S q := x_slL rfl rfl
theorem x_lenL_l : aLen (.lst ds) S q ↔ q (.int ds.length) S := x_lenL rfl
theorem x_lenL_k : aLen (.ksq ds) S q ↔ q (.int ds.length) S := x_lenL rfl
theorem x_lenL_t : aLen (.tup ds) S q ↔ q (.int ds.length) S := x_lenL rfl
theorem x_isiStr : aIsi (.str x) (.ty "str") S q ↔ q (.bl true) S := x_isi (t := "str") rfl (by decide)
theorem x_isiInt : aIsi (.int i) (.ty "int") S q ↔ q (.bl true) S := x_isi (t := "int") rfl (by decide)
theorem x_isiIntB : aIsi (.int i) (.ty "bool") S q ↔ q (.bl false) S := x_isi (t := "int") rfl (by decide)
theorem x_isiIntS : aIsi (.int i) (.ty "str") S q ↔ q (.bl false) S := x_isi (t := "int") rfl (by decide)
theorem x_isiBB : aIsi (.bl a) (.ty "bool") S q ↔ q (.bl true) S := x_isi (t := "bool") rfl (by decide)
theorem x_isiBI : aIsi (.bl a) (.ty "int") S q ↔ q (.bl true) S := x_isi (t := "bool") rfl (by decide)
theorem x_isiStrI : aIsi (.str x) (.ty "int") S q ↔ q (.bl false) S := x_isi (t := "str") rfl (by decide)
theorem x_isiNonI : aIsi .non (.ty "int") S q ↔ q (.bl false) S := x_isi (t := "NoneType") rfl (by decide)
theorem x_isiNonS : aIsi .non (.ty "str") S q ↔ q (.bl false) S := x_isi (t := "NoneType") rfl (by decide)
theorem x_isiT : aIsi (.tup ds) (.ty "tuple") S q ↔ q (.bl true) S := x_isi (t := "tuple") rfl (by decide)
theorem x_isiL : aIsi (.lst ds) (.ty "list") S q ↔ q (.bl true) S := x_isi (t := "list") rfl (by decide)
theorem x_ex {A : Type} {a : A} {P : A → Prop} : (∃ z, a = z ∧ P z) ↔ P a := ⟨fun ⟨_, e, h⟩ => by cases e; exact h, fun h => ⟨_, rfl, h⟩⟩
theorem x_var0 {ρ : Env_} {S : Sto} {q : D → Sto → Prop} {d : D} : gVar 0 (some d :: ρ) S q ↔ q d S := by
  unfold gVar
  simp only [List.getElem?_cons_zero, Option.some.injEq, x_ex]
theorem x_varS {ρ : Env_} {S : Sto} {q : D → Sto → Prop} {o : Option D} {i : Nat} : gVar (i + 1) (o :: ρ) S q ↔ gVar i ρ S q := by
  unfold gVar
  simp only [List.getElem?_cons_succ]
theorem x_bnm {ρ : Env_} {i : Nat} {d : D} : Tgt.bind (.nm i) d ρ = some (ρ.set i (some d)) := by rw [Tgt.bind]
theorem x_btp {ρ : Env_} {ts : List Tgt} {ds : List D} : Tgt.bind (.tp ts) (.tup ds) ρ = Tgt.binds ts ds ρ := by rw [Tgt.bind]
theorem x_bn {ρ : Env_} : Tgt.binds [] [] ρ = some ρ := by rw [Tgt.binds]
theorem x_bc {ρ : Env_} {t : Tgt} {ts : List Tgt} {d : D} {ds : List D} : Tgt.binds (t :: ts) (d :: ds) ρ = (Tgt.bind t d ρ).bind fun ρ' => Tgt.binds ts ds ρ' := by rw [Tgt.binds]
theorem x_tyS {S : Sto} {x : Str} : isTy "str" S (.str x) = true := rfl
theorem x_tyL {S : Sto} {x : List D} : isTy "list" S (.lst x) = true := rfl
theorem x_tyO {S : Sto} {n : Nat} {ds : List D} (h : S[n]? = some (some (.lst ds))) : isTy "list" S (.loc n) = true := by simp only [isTy, h]; rfl
theorem x_nnN : D.isNon .non = true := rfl
theorem x_nnI {i : Int} : D.isNon (.int i) = false := rfl
theorem x_nnS {x : Str} : D.isNon (.str x) = false := rfl
theorem x_nnB {x : Bool} : D.isNon (.bl x) = false := rfl
theorem x_nnT {x : List D} : D.isNon (.tup x) = false := rfl
theorem x_nnL {x : List D} : D.isNon (.lst x) = false := rfl
theorem x_nnO {C : Addr} {ks : List Str} {x : List D} : D.isNon (.obj C ks x) = false := rfl
theorem x_nnl {n : Nat} : D.isNon (.loc n) = false := rfl
theorem x_fmtS {ge : G D} {ρ : Env_} {S : Sto} {q : D → Sto → Prop} : gFmt ge ρ S q = ge ρ S fun d S1 => aFmt d S1 q := rfl
theorem x_afS {x : Str} {S : Sto} {q : D → Sto → Prop} : aFmt (.str x) S q ↔ x.length ≤ sizeLine ∧ q (.str x) S := Iff.rfl
theorem x_afI {i : Int} {S : Sto} {q : D → Sto → Prop} : aFmt (.int i) S q ↔ i.natAbs.log2 < 1920 ∧ q (.str (showI i)) S := Iff.rfl
theorem x_aug0 {ρ : Env_} {S : Sto} {d : D} {r : R2D} {ge : G D} {E : DE} : gAug 0 r ge E (some d :: ρ) S ↔ ge (some d :: ρ) S fun y S1 => r d y S1 fun z S2 => E.nx (some z :: ρ) S2 := by
  unfold gAug
  simp only [List.getElem?_cons_zero, Option.some.injEq, x_ex, List.set_cons_zero]
theorem x_aug {i : Nat} {ρ : Env_} {S : Sto} {d : D} {r : R2D} {ge : G D} {E : DE} (h : ρ[i]? = some (some d)) : gAug i r ge E ρ S ↔ ge ρ S fun y S1 => r d y S1 fun z S2 => E.nx (ρ.set i (some z)) S2 := by
  unfold gAug
  rw [h]
  simp only [Option.some.injEq, x_ex]
theorem x_js0 {acc : Str} {ρ : Env_} {S : Sto} {q : Str → Sto → Prop} : gJs [] acc ρ S q ↔ q acc S := by rw [gJs]
theorem x_jsc {g : G D} {gs : List (G D)} {acc : Str} {ρ : Env_} {S : Sto} {q : Str → Sto → Prop} : gJs (g :: gs) acc ρ S q ↔ g ρ S fun d S1 => ∃ y, d = .str y ∧ (acc ++ y).length ≤ sizeLine ∧ gJs gs (acc ++ y) ρ S1 q := by rw [gJs]
theorem x_rngL (k : Nat) (lo : Int) : (rngD lo k).length = k := by unfold rngD; simp
end
def aSetIx (o i v : D) (S3 : Sto) (c : Sto → Prop) : Prop := ∃ n ds k j, o = .loc n ∧ i = .int k ∧ S3[n]? = some (some (.lst ds)) ∧ ixN ds.length k = some j ∧ c (S3.set n (some (.lst (ds.set j v))))
abbrev QI := List D → (Sto → Prop) → Sto → Prop
def aIt (d : D) (S1 : Sto) (q : QI) : Prop := match d with
  | .str x => q (signsD x) (fun _ => True) S1
  | d => ∃ ds, seqOf S1 d = some ds ∧ q ds (fun S' => seqOf S' d = some ds) S1
def aRng1 (as : List D) (S1 : Sto) (q : QI) : Prop := ∃ j : Int, as = [.int j] ∧ -(2 ^ 62) ≤ j ∧ j < 2 ^ 62 ∧ q (rngD 0 j.toNat) (fun _ => True) S1
def aRng2 (as : List D) (S1 : Sto) (q : QI) : Prop := ∃ i j : Int, as = [.int i, .int j] ∧ (-(2 ^ 62) ≤ i ∧ i < 2 ^ 62 ∧ -(2 ^ 62) ≤ j ∧ j < 2 ^ 62) ∧ q (rngD i (j - i).toNat) (fun _ => True) S1
def aEnum (as : List D) (S1 : Sto) (q : QI) : Prop := ∃ d ds, as = [d] ∧ d.isTup = false ∧ seqOf S1 d = some ds ∧ q (enumD ds) (fun S' => seqOf S' d = some ds) S1
def aZip (as : List D) (S1 : Sto) (q : QI) : Prop := ∃ d e ds es, as = [d, e] ∧ d.isTup = false ∧ e.isTup = false ∧ seqOf S1 d = some ds ∧ seqOf S1 e = some es ∧ q (zipD ds es) (fun S' => seqOf S' d = some ds ∧ seqOf S' e = some es) S1
def aLc (fz : Bool) (t : Tgt) (gt : G Bool) (ge : G D) (vs : List Nat) (ρ : Env_) (ds : List D) (chk : Sto → Prop) (S1 : Sto) (q : D → Sto → Prop) : Prop := ∃ I : Nat → List D → Sto → Prop, I 0 [] S1 ∧
  (∀ i d acc S, ds[i]? = some d → I i acc S → chk S ∧ ∃ ρ', t.bind d (wipeD ρ vs) = some ρ' ∧ gt ρ' S fun b S2 => if b = true then ge ρ' S2 fun y S3 => acc.length < sizeLine ∧ I (i + 1) (acc ++ [y]) S3 else I (i + 1) acc S2) ∧
  ∀ acc S, I ds.length acc S → chk S ∧ newL fz acc S q
def aFor (t : Tgt) (gb : GS) (E : DE) (ρ : Env_) (ds : List D) (chk : Sto → Prop) (S1 : Sto) : Prop := ∃ I : Nat → Env_ → Sto → Prop, I 0 ρ S1 ∧
  (∀ i d ρ S, ds[i]? = some d → I i ρ S → chk S ∧ ∃ ρ', t.bind d ρ = some ρ' ∧ gb { nx := I (i + 1), rt := E.rt, ct := I (i + 1), bk := E.nx } ρ' S) ∧ ∀ ρ S, I ds.length ρ S → chk S ∧ E.nx ρ S
section
variable {S R : Sto} {q : D → Sto → Prop} {ρ : Env_} {go gi' gv ge : G D} {ga : G (List D)} {gi : GI} {E : DE} {t : Tgt} {gt : G Bool} {gb : GS} {vs : List Nat} {fz : Bool} {ds es : List D} {d e a b c : D} {i j : Int} {k : QI} {cc : Sto → Prop} {x : Str}
theorem x_gset : gSetIx go gi' gv E ρ S = gv ρ S fun v S1 => go ρ S1 fun o S2 => gi' ρ S2 fun i S3 => aSetIx o i v S3 (E.nx ρ) := rfl
theorem x_lc : gLc fz gi t gt ge vs ρ S q = gi ρ S fun ds chk S1 => aLc fz t gt ge vs ρ ds chk S1 q := rfl
theorem x_for : gFor gi t gb E ρ S = gi ρ S fun ds chk S1 => aFor t gb E ρ ds chk S1 := rfl
theorem x_it : gIt ge ρ S k = ge ρ S fun d S1 => aIt d S1 k := rfl
theorem x_rn1 : gRng1 ga ρ S k = ga ρ S fun as S1 => aRng1 as S1 k := rfl
theorem x_rn2 : gRng2 ga ρ S k = ga ρ S fun as S1 => aRng2 as S1 k := rfl
theorem x_enu : gEnum ga ρ S k = ga ρ S fun as S1 => aEnum as S1 k := rfl
theorem x_zip : gZip ga ρ S k = ga ρ S fun as S1 => aZip as S1 k := rfl
theorem x_itS : aIt (.str x) S k ↔ k (signsD x) (fun _ => True) S := Iff.rfl
theorem x_itL : aIt (.lst ds) S k ↔ k ds (fun _ => True) S := by
  have h : (fun S' : Sto => seqOf S' (.lst ds) = some ds) = fun _ => True := funext fun S' => propext ⟨fun _ => trivial, fun _ => rfl⟩
  show (∃ es, seqOf S (.lst ds) = some es ∧ k es (fun S' => seqOf S' (.lst ds) = some es) S) ↔ _
  constructor
  · rintro ⟨es, e, h1⟩; cases e; rw [h] at h1; exact h1
  · exact fun h1 => ⟨ds, rfl, by rw [h]; exact h1⟩
theorem x_itK : aIt (.ksq ds) S k ↔ k ds (fun _ => True) S := by
  have h : (fun S' : Sto => seqOf S' (.ksq ds) = some ds) = fun _ => True := funext fun S' => propext ⟨fun _ => trivial, fun _ => rfl⟩
  show (∃ es, seqOf S (.ksq ds) = some es ∧ k es (fun S' => seqOf S' (.ksq ds) = some es) S) ↔ _
  constructor
  · rintro ⟨es, e, h1⟩; cases e; rw [h] at h1; exact h1
  · exact fun h1 => ⟨ds, rfl, by rw [h]; exact h1⟩
theorem x_itT : aIt (.tup ds) S k ↔ k ds (fun _ => True) S := by
  have h : (fun S' : Sto => seqOf S' (.tup ds) = some ds) = fun _ => True := funext fun S' => propext ⟨fun _ => trivial, fun _ => rfl⟩
  show (∃ es, seqOf S (.tup ds) = some es ∧ k es (fun S' => seqOf S' (.tup ds) = some es) S) ↔ _
  constructor
  · rintro ⟨es, e, h1⟩; cases e; rw [h] at h1; exact h1
  · exact fun h1 => ⟨ds, rfl, by rw [h]; exact h1⟩
theorem x_itO {n : Nat} (h : seqOf S (.loc n) = some ds) : aIt (.loc n) S k ↔ k ds (fun S' => seqOf S' (.loc n) = some ds) S := by
  show (∃ es, seqOf S (.loc n) = some es ∧ k es (fun S' => seqOf S' (.loc n) = some es) S) ↔ _
  constructor
  · rintro ⟨es, e, h1⟩; rw [h] at e; cases e; exact h1
  · exact fun h1 => ⟨ds, h, h1⟩
theorem x_rn1I : aRng1 [.int j] S k ↔ -(2 ^ 62) ≤ j ∧ j < 2 ^ 62 ∧ k (rngD 0 j.toNat) (fun _ => True) S := by
  constructor
  · rintro ⟨_, e, h⟩; cases e; exact h
  · exact fun h => ⟨j, rfl, h⟩
theorem x_rn2I : aRng2 [.int i, .int j] S k ↔ (-(2 ^ 62) ≤ i ∧ i < 2 ^ 62 ∧ -(2 ^ 62) ≤ j ∧ j < 2 ^ 62) ∧ k (rngD i (j - i).toNat) (fun _ => True) S := by
  constructor
  · rintro ⟨_, _, e, h⟩; cases e; exact h
  · exact fun h => ⟨i, j, rfl, h⟩
theorem x_enuL : aEnum [.lst ds] S k ↔ k (enumD ds) (fun _ => True) S := by
  have h : (fun S' : Sto => seqOf S' (.lst ds) = some ds) = fun _ => True := funext fun S' => propext ⟨fun _ => trivial, fun _ => rfl⟩
  constructor
  · rintro ⟨d, es, e1, _, e2, h1⟩; cases e1; cases e2; rw [h] at h1; exact h1
  · exact fun h1 => ⟨_, ds, rfl, rfl, rfl, by rw [h]; exact h1⟩
theorem x_enuK : aEnum [.ksq ds] S k ↔ k (enumD ds) (fun _ => True) S := by
  have h : (fun S' : Sto => seqOf S' (.ksq ds) = some ds) = fun _ => True := funext fun S' => propext ⟨fun _ => trivial, fun _ => rfl⟩
  constructor
  · rintro ⟨d, es, e1, _, e2, h1⟩; cases e1; cases e2; rw [h] at h1; exact h1
  · exact fun h1 => ⟨_, ds, rfl, rfl, rfl, by rw [h]; exact h1⟩
theorem x_zipL : aZip [.lst ds, .lst es] S k ↔ k (zipD ds es) (fun _ => True) S := by
  have h : (fun S' : Sto => seqOf S' (.lst ds) = some ds ∧ seqOf S' (.lst es) = some es) = fun _ => True := funext fun S' => propext ⟨fun _ => trivial, fun _ => ⟨rfl, rfl⟩⟩
  constructor
  · rintro ⟨_, _, _, _, e1, _, _, e2, e3, h1⟩; cases e1; cases e2; cases e3; rw [h] at h1; exact h1
  · exact fun h1 => ⟨_, _, ds, es, rfl, rfl, rfl, rfl, rfl, by rw [h]; exact h1⟩
theorem x_ixS0 : aIx (.loc 0) (.int i) (some (.lst ds) :: R) q ↔ ∃ e, atI ds i = some e ∧ q e (some (.lst ds) :: R) := by
  unfold aIx
  constructor
  · rintro ⟨_, e1, xs, z, e2, e3, h⟩; cases e1; cases e2; exact ⟨z, e3, h⟩
  · rintro ⟨z, e3, h⟩; exact ⟨_, rfl, ds, z, rfl, e3, h⟩
theorem x_ixL : aIx (.lst ds) (.int i) S q ↔ ∃ e, atI ds i = some e ∧ q e S := by
  unfold aIx
  constructor
  · rintro ⟨_, e1, xs, z, e2, e3, h⟩; cases e1; cases e2; exact ⟨z, e3, h⟩
  · rintro ⟨z, e3, h⟩; exact ⟨_, rfl, ds, z, rfl, e3, h⟩
theorem x_ixT : aIx (.tup ds) (.int i) S q ↔ ∃ e, atI ds i = some e ∧ q e S := by
  unfold aIx
  constructor
  · rintro ⟨_, e1, xs, z, e2, e3, h⟩; cases e1; cases e2; exact ⟨z, e3, h⟩
  · rintro ⟨z, e3, h⟩; exact ⟨_, rfl, ds, z, rfl, e3, h⟩
theorem x_ixK : aIx (.ksq ds) (.int i) S q ↔ ∃ e, atI ds i = some e ∧ q e S := by
  unfold aIx
  constructor
  · rintro ⟨_, e1, xs, z, e2, e3, h⟩; cases e1; cases e2; exact ⟨z, e3, h⟩
  · rintro ⟨z, e3, h⟩; exact ⟨_, rfl, ds, z, rfl, e3, h⟩
theorem ixN_lit {n k : Nat} (h : k < n) : ixN n (k : Int) = some k := by
  unfold ixN
  rw [if_pos (by omega), if_pos (by omega)]
  rfl
theorem atI_lit {A : Type} {xs : List A} {k : Nat} {v : A} (h : xs[k]? = some v) : atI xs (k : Int) = some v := by
  unfold atI
  rw [ixN_lit (List.getElem?_eq_some_iff.mp h).1]
  exact h
theorem x_at0 {A : Type} {a : A} {l : List A} : atI (a :: l) 0 = some a := atI_lit (k := 0) rfl
theorem x_at1 {A : Type} {a b : A} {l : List A} : atI (a :: b :: l) 1 = some b := atI_lit (k := 1) rfl
theorem x_at2 {A : Type} {a b c : A} {l : List A} : atI (a :: b :: c :: l) 2 = some c := atI_lit (k := 2) rfl
theorem x_at3 {A : Type} {a b c d : A} {l : List A} : atI (a :: b :: c :: d :: l) 3 = some d := atI_lit (k := 3) rfl
theorem x_at4 {A : Type} {a b c d e : A} {l : List A} : atI (a :: b :: c :: d :: e :: l) 4 = some e := atI_lit (k := 4) rfl
theorem x_set0 {k : Nat} {v : D} (h : k < ds.length) : aSetIx (.loc 0) (.int (k : Int)) v (some (.lst ds) :: R) cc ↔ cc (some (.lst (ds.set k v)) :: R) := by
  constructor
  · rintro ⟨n, xs, kk, j, e1, e2, e3, e4, h1⟩
    cases e1; cases e2; cases e3
    rw [ixN_lit h] at e4; cases e4
    exact h1
  · exact fun h1 => ⟨0, ds, k, k, rfl, rfl, rfl, ixN_lit h, h1⟩
theorem x_set00 {v : D} : aSetIx (.loc 0) (.int 0) v (some (.lst (a :: es)) :: R) cc ↔ cc (some (.lst (v :: es)) :: R) := x_set0 (k := 0) (by simp)
theorem x_set01 {v : D} : aSetIx (.loc 0) (.int 1) v (some (.lst (a :: b :: es)) :: R) cc ↔ cc (some (.lst (a :: v :: es)) :: R) := x_set0 (k := 1) (by simp)
theorem x_set02 {v : D} : aSetIx (.loc 0) (.int 2) v (some (.lst (a :: b :: c :: es)) :: R) cc ↔ cc (some (.lst (a :: b :: v :: es)) :: R) := x_set0 (k := 2) (by simp)
end
def aPar (i j : Nat) (ρ : Env_) (k : Env_ → Sto → Prop) (as : List D) (S1 : Sto) : Prop := ∃ v u, as = [v, u] ∧ k ((ρ.set i (some v)).set j (some u)) S1
theorem x_par {i j : Nat} {ga : G (List D)} {E : DE} {ρ : Env_} {S : Sto} : gPar i j ga E ρ S = ga ρ S fun as S1 => aPar i j ρ E.nx as S1 := rfl
theorem x_par2 {i j : Nat} {k : Env_ → Sto → Prop} {ρ : Env_} {S : Sto} {v u : D} : aPar i j ρ k [v, u] S ↔ k ((ρ.set i (some v)).set j (some u)) S := by
  constructor
  · rintro ⟨_, _, e, h⟩; cases e; exact h
  · exact fun h => ⟨v, u, rfl, h⟩
theorem toPys_int : ∀ ns : List Int, toPys (ns.map D.int) = some (ns.map PyData.int)
  | [] => by simp [toPys]
  | n :: ns => by simp [toPys, toPy, toPys_int ns]
theorem can_int : ∀ ns : List Int, PyData.canLayAll0 (ns.map PyData.int) = true
  | [] => by simp [PyData.canLayAll0]
  | n :: ns => by simp [PyData.canLayAll0, PyData.canLay0, can_int ns]
theorem dep_int : ∀ ns : List Int, PyData.depthAll (ns.map PyData.int) = 0
  | [] => by simp [PyData.depthAll]
  | n :: ns => by simp [PyData.depthAll, PyData.depth, dep_int ns]
theorem sh_ints (ns : List Int) : SeqAt.shaped (.list (ns.map PyData.int)) = true := by
  simp [SeqAt.shaped, PyData.canLay0, PyData.depth, can_int, dep_int]
theorem x_neNil {ns : List Int} {S : Sto} {q : D → Sto → Prop} : aNe (.lst (ns.map D.int)) (.lst []) S q ↔ q (.bl (decide (ns ≠ []))) S := by
  rw [x_ne (p := .list (ns.map PyData.int)) (p' := .list ([].map PyData.int)) (by simp [toPyS, toPy, toPys_int]) (by simp [toPyS, toPy, toPys])]
  simp only [sh_ints, true_and]
  cases ns with
  | nil => simp [PyData.eqv, PyData.eqvAll]
  | cons n ns => simp [PyData.eqv, PyData.eqvAll]
section
variable {S : Sto} {r : R2D} {ge : G D} {E : DE} {d : D} {ρ : Env_}
theorem x_aug1 {o0 : Option D} : gAug 1 r ge E (o0 :: some d :: ρ) S ↔ ge (o0 :: some d :: ρ) S fun y S1 => r d y S1 fun z S2 => E.nx (o0 :: some z :: ρ) S2 := x_aug rfl
theorem x_aug2 {o0 o1 : Option D} : gAug 2 r ge E (o0 :: o1 :: some d :: ρ) S ↔ ge (o0 :: o1 :: some d :: ρ) S fun y S1 => r d y S1 fun z S2 => E.nx (o0 :: o1 :: some z :: ρ) S2 := x_aug rfl
theorem x_aug3 {o0 o1 o2 : Option D} : gAug 3 r ge E (o0 :: o1 :: o2 :: some d :: ρ) S ↔ ge (o0 :: o1 :: o2 :: some d :: ρ) S fun y S1 => r d y S1 fun z S2 => E.nx (o0 :: o1 :: o2 :: some z :: ρ) S2 := x_aug rfl
theorem x_aug4 {o0 o1 o2 o3 : Option D} : gAug 4 r ge E (o0 :: o1 :: o2 :: o3 :: some d :: ρ) S ↔ ge (o0 :: o1 :: o2 :: o3 :: some d :: ρ) S fun y S1 => r d y S1 fun z S2 => E.nx (o0 :: o1 :: o2 :: o3 :: some z :: ρ) S2 := x_aug rfl
theorem x_aug5 {o0 o1 o2 o3 o4 : Option D} : gAug 5 r ge E (o0 :: o1 :: o2 :: o3 :: o4 :: some d :: ρ) S ↔ ge (o0 :: o1 :: o2 :: o3 :: o4 :: some d :: ρ) S fun y S1 => r d y S1 fun z S2 => E.nx (o0 :: o1 :: o2 :: o3 :: o4 :: some z :: ρ) S2 := x_aug rfl
theorem x_aug6 {o0 o1 o2 o3 o4 o5 : Option D} : gAug 6 r ge E (o0 :: o1 :: o2 :: o3 :: o4 :: o5 :: some d :: ρ) S ↔ ge (o0 :: o1 :: o2 :: o3 :: o4 :: o5 :: some d :: ρ) S fun y S1 => r d y S1 fun z S2 => E.nx (o0 :: o1 :: o2 :: o3 :: o4 :: o5 :: some z :: ρ) S2 := x_aug rfl
theorem x_aug7 {o0 o1 o2 o3 o4 o5 o6 : Option D} : gAug 7 r ge E (o0 :: o1 :: o2 :: o3 :: o4 :: o5 :: o6 :: some d :: ρ) S ↔ ge (o0 :: o1 :: o2 :: o3 :: o4 :: o5 :: o6 :: some d :: ρ) S fun y S1 => r d y S1 fun z S2 => E.nx (o0 :: o1 :: o2 :: o3 :: o4 :: o5 :: o6 :: some z :: ρ) S2 := x_aug rfl
theorem x_aug8 {o0 o1 o2 o3 o4 o5 o6 o7 : Option D} : gAug 8 r ge E (o0 :: o1 :: o2 :: o3 :: o4 :: o5 :: o6 :: o7 :: some d :: ρ) S ↔ ge (o0 :: o1 :: o2 :: o3 :: o4 :: o5 :: o6 :: o7 :: some d :: ρ) S fun y S1 => r d y S1 fun z S2 => E.nx (o0 :: o1 :: o2 :: o3 :: o4 :: o5 :: o6 :: o7 :: some z :: ρ) S2 := x_aug rfl
theorem x_aug9 {o0 o1 o2 o3 o4 o5 o6 o7 o8 : Option D} : gAug 9 r ge E (o0 :: o1 :: o2 :: o3 :: o4 :: o5 :: o6 :: o7 :: o8 :: some d :: ρ) S ↔ ge (o0 :: o1 :: o2 :: o3 :: o4 :: o5 :: o6 :: o7 :: o8 :: some d :: ρ) S fun y S1 => r d y S1 fun z S2 => E.nx (o0 :: o1 :: o2 :: o3 :: o4 :: o5 :: o6 :: o7 :: o8 :: some z :: ρ) S2 := x_aug rfl
theorem x_aug10 {o0 o1 o2 o3 o4 o5 o6 o7 o8 o9 : Option D} : gAug 10 r ge E (o0 :: o1 :: o2 :: o3 :: o4 :: o5 :: o6 :: o7 :: o8 :: o9 :: some d :: ρ) S ↔ ge (o0 :: o1 :: o2 :: o3 :: o4 :: o5 :: o6 :: o7 :: o8 :: o9 :: some d :: ρ) S fun y S1 => r d y S1 fun z S2 => E.nx (o0 :: o1 :: o2 :: o3 :: o4 :: o5 :: o6 :: o7 :: o8 :: o9 :: some z :: ρ) S2 := x_aug rfl
theorem x_aug11 {o0 o1 o2 o3 o4 o5 o6 o7 o8 o9 o10 : Option D} : gAug 11 r ge E (o0 :: o1 :: o2 :: o3 :: o4 :: o5 :: o6 :: o7 :: o8 :: o9 :: o10 :: some d :: ρ) S ↔ ge (o0 :: o1 :: o2 :: o3 :: o4 :: o5 :: o6 :: o7 :: o8 :: o9 :: o10 :: some d :: ρ) S fun y S1 => r d y S1 fun z S2 => E.nx (o0 :: o1 :: o2 :: o3 :: o4 :: o5 :: o6 :: o7 :: o8 :: o9 :: o10 :: some z :: ρ) S2 := x_aug rfl
theorem x_aug12 {o0 o1 o2 o3 o4 o5 o6 o7 o8 o9 o10 o11 : Option D} : gAug 12 r ge E (o0 :: o1 :: o2 :: o3 :: o4 :: o5 :: o6 :: o7 :: o8 :: o9 :: o10 :: o11 :: some d :: ρ) S ↔ ge (o0 :: o1 :: o2 :: o3 :: o4 :: o5 :: o6 :: o7 :: o8 :: o9 :: o10 :: o11 :: some d :: ρ) S fun y S1 => r d y S1 fun z S2 => E.nx (o0 :: o1 :: o2 :: o3 :: o4 :: o5 :: o6 :: o7 :: o8 :: o9 :: o10 :: o11 :: some z :: ρ) S2 := x_aug rfl
theorem x_aug13 {o0 o1 o2 o3 o4 o5 o6 o7 o8 o9 o10 o11 o12 : Option D} : gAug 13 r ge E (o0 :: o1 :: o2 :: o3 :: o4 :: o5 :: o6 :: o7 :: o8 :: o9 :: o10 :: o11 :: o12 :: some d :: ρ) S ↔ ge (o0 :: o1 :: o2 :: o3 :: o4 :: o5 :: o6 :: o7 :: o8 :: o9 :: o10 :: o11 :: o12 :: some d :: ρ) S fun y S1 => r d y S1 fun z S2 => E.nx (o0 :: o1 :: o2 :: o3 :: o4 :: o5 :: o6 :: o7 :: o8 :: o9 :: o10 :: o11 :: o12 :: some z :: ρ) S2 := x_aug rfl
theorem x_aug14 {o0 o1 o2 o3 o4 o5 o6 o7 o8 o9 o10 o11 o12 o13 : Option D} : gAug 14 r ge E (o0 :: o1 :: o2 :: o3 :: o4 :: o5 :: o6 :: o7 :: o8 :: o9 :: o10 :: o11 :: o12 :: o13 :: some d :: ρ) S ↔ ge (o0 :: o1 :: o2 :: o3 :: o4 :: o5 :: o6 :: o7 :: o8 :: o9 :: o10 :: o11 :: o12 :: o13 :: some d :: ρ) S fun y S1 => r d y S1 fun z S2 => E.nx (o0 :: o1 :: o2 :: o3 :: o4 :: o5 :: o6 :: o7 :: o8 :: o9 :: o10 :: o11 :: o12 :: o13 :: some z :: ρ) S2 := x_aug rfl
theorem x_aug15 {o0 o1 o2 o3 o4 o5 o6 o7 o8 o9 o10 o11 o12 o13 o14 : Option D} : gAug 15 r ge E (o0 :: o1 :: o2 :: o3 :: o4 :: o5 :: o6 :: o7 :: o8 :: o9 :: o10 :: o11 :: o12 :: o13 :: o14 :: some d :: ρ) S ↔ ge (o0 :: o1 :: o2 :: o3 :: o4 :: o5 :: o6 :: o7 :: o8 :: o9 :: o10 :: o11 :: o12 :: o13 :: o14 :: some d :: ρ) S fun y S1 => r d y S1 fun z S2 => E.nx (o0 :: o1 :: o2 :: o3 :: o4 :: o5 :: o6 :: o7 :: o8 :: o9 :: o10 :: o11 :: o12 :: o13 :: o14 :: some z :: ρ) S2 := x_aug rfl
theorem x_aug16 {o0 o1 o2 o3 o4 o5 o6 o7 o8 o9 o10 o11 o12 o13 o14 o15 : Option D} : gAug 16 r ge E (o0 :: o1 :: o2 :: o3 :: o4 :: o5 :: o6 :: o7 :: o8 :: o9 :: o10 :: o11 :: o12 :: o13 :: o14 :: o15 :: some d :: ρ) S ↔ ge (o0 :: o1 :: o2 :: o3 :: o4 :: o5 :: o6 :: o7 :: o8 :: o9 :: o10 :: o11 :: o12 :: o13 :: o14 :: o15 :: some d :: ρ) S fun y S1 => r d y S1 fun z S2 => E.nx (o0 :: o1 :: o2 :: o3 :: o4 :: o5 :: o6 :: o7 :: o8 :: o9 :: o10 :: o11 :: o12 :: o13 :: o14 :: o15 :: some z :: ρ) S2 := x_aug rfl
theorem x_aug17 {o0 o1 o2 o3 o4 o5 o6 o7 o8 o9 o10 o11 o12 o13 o14 o15 o16 : Option D} : gAug 17 r ge E (o0 :: o1 :: o2 :: o3 :: o4 :: o5 :: o6 :: o7 :: o8 :: o9 :: o10 :: o11 :: o12 :: o13 :: o14 :: o15 :: o16 :: some d :: ρ) S ↔ ge (o0 :: o1 :: o2 :: o3 :: o4 :: o5 :: o6 :: o7 :: o8 :: o9 :: o10 :: o11 :: o12 :: o13 :: o14 :: o15 :: o16 :: some d :: ρ) S fun y S1 => r d y S1 fun z S2 => E.nx (o0 :: o1 :: o2 :: o3 :: o4 :: o5 :: o6 :: o7 :: o8 :: o9 :: o10 :: o11 :: o12 :: o13 :: o14 :: o15 :: o16 :: some z :: ρ) S2 := x_aug rfl
theorem x_aug18 {o0 o1 o2 o3 o4 o5 o6 o7 o8 o9 o10 o11 o12 o13 o14 o15 o16 o17 : Option D} : gAug 18 r ge E (o0 :: o1 :: o2 :: o3 :: o4 :: o5 :: o6 :: o7 :: o8 :: o9 :: o10 :: o11 :: o12 :: o13 :: o14 :: o15 :: o16 :: o17 :: some d :: ρ) S ↔ ge (o0 :: o1 :: o2 :: o3 :: o4 :: o5 :: o6 :: o7 :: o8 :: o9 :: o10 :: o11 :: o12 :: o13 :: o14 :: o15 :: o16 :: o17 :: some d :: ρ) S fun y S1 => r d y S1 fun z S2 => E.nx (o0 :: o1 :: o2 :: o3 :: o4 :: o5 :: o6 :: o7 :: o8 :: o9 :: o10 :: o11 :: o12 :: o13 :: o14 :: o15 :: o16 :: o17 :: some z :: ρ) S2 := x_aug rfl
theorem x_aug19 {o0 o1 o2 o3 o4 o5 o6 o7 o8 o9 o10 o11 o12 o13 o14 o15 o16 o17 o18 : Option D} : gAug 19 r ge E (o0 :: o1 :: o2 :: o3 :: o4 :: o5 :: o6 :: o7 :: o8 :: o9 :: o10 :: o11 :: o12 :: o13 :: o14 :: o15 :: o16 :: o17 :: o18 :: some d :: ρ) S ↔ ge (o0 :: o1 :: o2 :: o3 :: o4 :: o5 :: o6 :: o7 :: o8 :: o9 :: o10 :: o11 :: o12 :: o13 :: o14 :: o15 :: o16 :: o17 :: o18 :: some d :: ρ) S fun y S1 => r d y S1 fun z S2 => E.nx (o0 :: o1 :: o2 :: o3 :: o4 :: o5 :: o6 :: o7 :: o8 :: o9 :: o10 :: o11 :: o12 :: o13 :: o14 :: o15 :: o16 :: o17 :: o18 :: some z :: ρ) S2 := x_aug rfl
theorem x_aug20 {o0 o1 o2 o3 o4 o5 o6 o7 o8 o9 o10 o11 o12 o13 o14 o15 o16 o17 o18 o19 : Option D} : gAug 20 r ge E (o0 :: o1 :: o2 :: o3 :: o4 :: o5 :: o6 :: o7 :: o8 :: o9 :: o10 :: o11 :: o12 :: o13 :: o14 :: o15 :: o16 :: o17 :: o18 :: o19 :: some d :: ρ) S ↔ ge (o0 :: o1 :: o2 :: o3 :: o4 :: o5 :: o6 :: o7 :: o8 :: o9 :: o10 :: o11 :: o12 :: o13 :: o14 :: o15 :: o16 :: o17 :: o18 :: o19 :: some d :: ρ) S fun y S1 => r d y S1 fun z S2 => E.nx (o0 :: o1 :: o2 :: o3 :: o4 :: o5 :: o6 :: o7 :: o8 :: o9 :: o10 :: o11 :: o12 :: o13 :: o14 :: o15 :: o16 :: o17 :: o18 :: o19 :: some z :: ρ) S2 := x_aug rfl
theorem x_aug21 {o0 o1 o2 o3 o4 o5 o6 o7 o8 o9 o10 o11 o12 o13 o14 o15 o16 o17 o18 o19 o20 : Option D} : gAug 21 r ge E (o0 :: o1 :: o2 :: o3 :: o4 :: o5 :: o6 :: o7 :: o8 :: o9 :: o10 :: o11 :: o12 :: o13 :: o14 :: o15 :: o16 :: o17 :: o18 :: o19 :: o20 :: some d :: ρ) S ↔ ge (o0 :: o1 :: o2 :: o3 :: o4 :: o5 :: o6 :: o7 :: o8 :: o9 :: o10 :: o11 :: o12 :: o13 :: o14 :: o15 :: o16 :: o17 :: o18 :: o19 :: o20 :: some d :: ρ) S fun y S1 => r d y S1 fun z S2 => E.nx (o0 :: o1 :: o2 :: o3 :: o4 :: o5 :: o6 :: o7 :: o8 :: o9 :: o10 :: o11 :: o12 :: o13 :: o14 :: o15 :: o16 :: o17 :: o18 :: o19 :: o20 :: some z :: ρ) S2 := x_aug rfl
theorem x_aug22 {o0 o1 o2 o3 o4 o5 o6 o7 o8 o9 o10 o11 o12 o13 o14 o15 o16 o17 o18 o19 o20 o21 : Option D} : gAug 22 r ge E (o0 :: o1 :: o2 :: o3 :: o4 :: o5 :: o6 :: o7 :: o8 :: o9 :: o10 :: o11 :: o12 :: o13 :: o14 :: o15 :: o16 :: o17 :: o18 :: o19 :: o20 :: o21 :: some d :: ρ) S ↔ ge (o0 :: o1 :: o2 :: o3 :: o4 :: o5 :: o6 :: o7 :: o8 :: o9 :: o10 :: o11 :: o12 :: o13 :: o14 :: o15 :: o16 :: o17 :: o18 :: o19 :: o20 :: o21 :: some d :: ρ) S fun y S1 => r d y S1 fun z S2 => E.nx (o0 :: o1 :: o2 :: o3 :: o4 :: o5 :: o6 :: o7 :: o8 :: o9 :: o10 :: o11 :: o12 :: o13 :: o14 :: o15 :: o16 :: o17 :: o18 :: o19 :: o20 :: o21 :: some z :: ρ) S2 := x_aug rfl
theorem x_aug23 {o0 o1 o2 o3 o4 o5 o6 o7 o8 o9 o10 o11 o12 o13 o14 o15 o16 o17 o18 o19 o20 o21 o22 : Option D} : gAug 23 r ge E (o0 :: o1 :: o2 :: o3 :: o4 :: o5 :: o6 :: o7 :: o8 :: o9 :: o10 :: o11 :: o12 :: o13 :: o14 :: o15 :: o16 :: o17 :: o18 :: o19 :: o20 :: o21 :: o22 :: some d :: ρ) S ↔ ge (o0 :: o1 :: o2 :: o3 :: o4 :: o5 :: o6 :: o7 :: o8 :: o9 :: o10 :: o11 :: o12 :: o13 :: o14 :: o15 :: o16 :: o17 :: o18 :: o19 :: o20 :: o21 :: o22 :: some d :: ρ) S fun y S1 => r d y S1 fun z S2 => E.nx (o0 :: o1 :: o2 :: o3 :: o4 :: o5 :: o6 :: o7 :: o8 :: o9 :: o10 :: o11 :: o12 :: o13 :: o14 :: o15 :: o16 :: o17 :: o18 :: o19 :: o20 :: o21 :: o22 :: some z :: ρ) S2 := x_aug rfl
end
def aFld (K : PySem.W.Frag) (f : Str) (o : D) (S1 : Sto) (q : D → Sto → Prop) : Prop := ∃ C ks ds d, objOf S1 o = some (C, ks, ds) ∧ FldOk K C f ∧ fget f ks ds = some d ∧ q d S1
def aFset (K : PySem.W.Frag) (f : Str) (o y : D) (S2 : Sto) (c : Sto → Prop) : Prop := ∃ n C ks ds, o = .loc n ∧ S2[n]? = some (some (.obj C ks ds)) ∧ FldOk K C f ∧ ks.length < 1000 ∧ c (S2.set n (some (.obj C (putK f ks) (putX f y ks ds))))
def aMakeF (C : Addr) (n nk : Nat) (src : List Src) (dds : List D) (dsp : DSp) (as zs : List D) (S1 : Sto) (q : D → Sto → Prop) : Prop := as.length = n ∧ zs.length = nk ∧ (D.unders S1.length as = true → D.unders S1.length zs = true →
  dsp (gat src (.loc S1.length :: as) dds zs) (S1 ++ [some (.obj C [] [])]) fun v S2 => v = .non ∧ ∃ ks ds, S2 = S1 ++ [some (.obj C ks ds)] ∧ D.unders S1.length ds = true ∧ q (.obj C ks ds) S1)
def aMake (C : Addr) (n nk : Nat) (src : List Src) (dds : List D) (dsp : DSp) (as zs : List D) (S1 : Sto) (q : D → Sto → Prop) : Prop := as.length = n ∧ zs.length = nk ∧
  dsp (gat src (.loc S1.length :: as) dds zs) (S1 ++ [some (.obj C [] [])]) fun v S2 => v = .non ∧ q (.loc S1.length) S2
def aMeth (C : Addr) (m : Str) (o : D) (S1 : Sto) (c : Prop) : Prop := ∃ ks ds, objOf S1 o = some (C, ks, ds) ∧ ks.contains m = false ∧ c
section
variable {K : PySem.W.Frag} {f m : Str} {C C' : Addr} {go gv : G D} {ga : GA} {ρ : Env_} {S S0 : Sto} {q : D → Sto → Prop} {E : DE} {n nk : Nat} {src : List Src} {dds ds as zs : List D} {dsp : DSp} {ks : List Str} {d y : D} {cc : Sto → Prop} {c : Prop} {b : Bool}
theorem x_fld : gFld K f go ρ S q = go ρ S fun o S1 => aFld K f o S1 q := rfl
theorem x_fset : gFldSet K f go gv E ρ S = gv ρ S fun y S1 => go ρ S1 fun o S2 => aFset K f o y S2 (E.nx ρ) := rfl
theorem x_mkF : gMakeF C n nk src dds dsp ga ρ S q = ga ρ S fun as zs S1 => aMakeF C n nk src dds dsp as zs S1 q := rfl
theorem x_mk : gMake C n nk src dds dsp ga ρ S q = ga ρ S fun as zs S1 => aMake C n nk src dds dsp as zs S1 q := rfl
theorem x_meth : gMeth C m n nk src dds dsp go ga ρ S q = go ρ S fun o S1 => aMeth C m o S1 (ga ρ S1 fun as zs S2 => as.length = n ∧ zs.length = nk ∧ dsp (gat src (o :: as) dds zs) S2 q) := by
  unfold gMeth aMeth
  refine congrArg _ (funext fun o => funext fun S1 => propext ⟨fun ⟨ks, ds, h1, h2, h3⟩ => ⟨ks, ds, h1, h2, h3⟩, fun ⟨ks, ds, h1, h2, h3⟩ => ⟨ks, ds, h1, h2, h3⟩⟩)
theorem x_fldO (hf : FldOk K C f) : aFld K f (.obj C ks ds) S q ↔ ∃ d, fget f ks ds = some d ∧ q d S := by
  constructor
  · rintro ⟨_, _, _, d, e, _, h1, h2⟩; cases e; exact ⟨d, h1, h2⟩
  · rintro ⟨d, h1, h2⟩; exact ⟨C, ks, ds, d, rfl, hf, h1, h2⟩
theorem x_fldL {k : Nat} (hf : FldOk K C f) (hS : S[k]? = some (some (.obj C ks ds))) : aFld K f (.loc k) S q ↔ ∃ d, fget f ks ds = some d ∧ q d S := by
  have e0 : objOf S (.loc k) = some (C, ks, ds) := by simp only [objOf, hS]
  constructor
  · rintro ⟨_, _, _, d, e, _, h1, h2⟩; rw [e0] at e; cases e; exact ⟨d, h1, h2⟩
  · rintro ⟨d, h1, h2⟩; exact ⟨C, ks, ds, d, e0, hf, h1, h2⟩
theorem snoc_get {o : Option MO} : (S0 ++ [o])[S0.length]? = some o := by simp
theorem snoc_set {o p : Option MO} : (S0 ++ [o]).set S0.length p = S0 ++ [p] := by simp
theorem x_fsetE (hf : FldOk K C f) : aFset K f (.loc S0.length) y (S0 ++ [some (.obj C ks ds)]) cc ↔ ks.length < 1000 ∧ cc (S0 ++ [some (.obj C (putK f ks) (putX f y ks ds))]) := by
  constructor
  · rintro ⟨_, _, _, _, e, e1, _, hl, h2⟩; cases e; rw [snoc_get] at e1; cases e1; rw [snoc_set] at h2; exact ⟨hl, h2⟩
  · rintro ⟨hl, h2⟩; exact ⟨S0.length, C, ks, ds, rfl, snoc_get, hf, hl, by rw [snoc_set]; exact h2⟩
theorem x_fldE (hf : FldOk K C f) : aFld K f (.loc S0.length) (S0 ++ [some (.obj C ks ds)]) q ↔ ∃ d, fget f ks ds = some d ∧ q d (S0 ++ [some (.obj C ks ds)]) := x_fldL hf snoc_get
theorem x_methO (h : ks.contains m = false) : aMeth C m (.obj C ks ds) S c ↔ c := by
  constructor
  · rintro ⟨_, _, _, _, h1⟩; exact h1
  · exact fun h1 => ⟨ks, ds, rfl, h, h1⟩
theorem x_isiCO (hi : IsC K C) (hk : KitC K C C' b) : aIsiC K (.obj C ks ds) (.ref C') S q ↔ q (.bl b) S := by
  constructor
  · rintro ⟨_, e, ⟨_, _, _, b', e1, _, hk', h1⟩ | ⟨_, e1, _⟩⟩
    · cases e; cases e1
      have := hk.is.symm.trans hk'.is
      cases this
      exact h1
    · cases e1
  · exact fun h1 => ⟨C', rfl, .inl ⟨C, ks, ds, b, rfl, hi, hk, h1⟩⟩
theorem x_isiCt {t : String} (h : tyN S d = some t) (hk : KitB K C') (hn : objOf S d = none) : aIsiC K d (.ref C') S q ↔ q (.bl false) S := by
  constructor
  · rintro ⟨_, e, ⟨_, _, _, _, e1, _⟩ | ⟨_, _, _, h1⟩⟩
    · rw [hn] at e1; cases e1
    · exact h1
  · exact fun h1 => ⟨C', rfl, .inr ⟨t, h, hk, h1⟩⟩
theorem x_isiCN (hk : KitB K C') : aIsiC K .non (.ref C') S q ↔ q (.bl false) S := x_isiCt (t := "NoneType") rfl hk rfl
theorem x_isiCT (hk : KitB K C') : aIsiC K (.tup ds) (.ref C') S q ↔ q (.bl false) S := x_isiCt (t := "tuple") rfl hk rfl
theorem x_isiCLi (hk : KitB K C') : aIsiC K (.lst ds) (.ref C') S q ↔ q (.bl false) S := x_isiCt (t := "list") rfl hk rfl
theorem x_isiCS {x : Str} (hk : KitB K C') : aIsiC K (.str x) (.ref C') S q ↔ q (.bl false) S := x_isiCt (t := "str") rfl hk rfl
theorem x_isiCI {i : Int} (hk : KitB K C') : aIsiC K (.int i) (.ref C') S q ↔ q (.bl false) S := x_isiCt (t := "int") rfl hk rfl
theorem x_own {ks' : List Str} {es : List D} : aOwn C dsp (.obj C ks ds) (.obj C ks' es) S q ↔ dsp [.obj C ks ds, .obj C ks' es] S fun d S' => (∃ k, d = .bl k) ∧ q d S' := by
  unfold aOwn
  exact ⟨fun ⟨_, _, h⟩ => h, fun h => ⟨⟨_, _, rfl⟩, ⟨_, _, rfl⟩, h⟩⟩
end
theorem eqv_ints : ∀ ns ms : List Int, PyData.eqvAll (ns.map PyData.int) (ms.map PyData.int) = decide (ns = ms)
  | [], [] => by simp [PyData.eqvAll]
  | [], m :: ms => by simp [PyData.eqvAll]
  | n :: ns, [] => by simp [PyData.eqvAll]
  | n :: ns, m :: ms => by
    simp only [List.map_cons, PyData.eqvAll, PyData.eqv, eqv_ints ns ms, List.cons.injEq]
    rw [show (n == m) = decide (n = m) from rfl, Bool.decide_and]
theorem sh_intT (ns : List Int) : SeqAt.shaped (.tuple (ns.map PyData.int)) = true := by
  simp [SeqAt.shaped, PyData.canLay0, PyData.depth, can_int, dep_int]
section
variable {S : Sto} {q : D → Sto → Prop} {ns ms : List Int} {a b c d e f g h : Int}
theorem x_eqLi : aEq (.lst (ns.map D.int)) (.lst (ms.map D.int)) S q ↔ q (.bl (decide (ns = ms))) S := by
  rw [x_eq (p := .list (ns.map PyData.int)) (p' := .list (ms.map PyData.int)) (by simp [toPyS, toPy, toPys_int]) (by simp [toPyS, toPy, toPys_int])]
  simp only [sh_ints, true_and, PyData.eqv, eqv_ints]
theorem x_neLi : aNe (.lst (ns.map D.int)) (.lst (ms.map D.int)) S q ↔ q (.bl (decide (ns ≠ ms))) S := by
  rw [x_ne (p := .list (ns.map PyData.int)) (p' := .list (ms.map PyData.int)) (by simp [toPyS, toPy, toPys_int]) (by simp [toPyS, toPy, toPys_int])]
  simp only [sh_ints, true_and, PyData.eqv, eqv_ints, ← decide_not, ne_eq]
theorem x_eqTi : aEq (.tup (ns.map D.int)) (.tup (ms.map D.int)) S q ↔ q (.bl (decide (ns = ms))) S := by
  rw [x_eq (p := .tuple (ns.map PyData.int)) (p' := .tuple (ms.map PyData.int)) (by simp [toPyS, toPy, toPys_int]) (by simp [toPyS, toPy, toPys_int])]
  simp only [sh_intT, true_and, PyData.eqv, eqv_ints]
theorem x_neTi : aNe (.tup (ns.map D.int)) (.tup (ms.map D.int)) S q ↔ q (.bl (decide (ns ≠ ms))) S := by
  rw [x_ne (p := .tuple (ns.map PyData.int)) (p' := .tuple (ms.map PyData.int)) (by simp [toPyS, toPy, toPys_int]) (by simp [toPyS, toPy, toPys_int])]
  simp only [sh_intT, true_and, PyData.eqv, eqv_ints, ← decide_not, ne_eq]
theorem x_eqT2 : aEq (.tup [.int a, .int b]) (.tup [.int c, .int d]) S q ↔ q (.bl (decide ([a, b] = [c, d]))) S := x_eqTi (ns := [a, b]) (ms := [c, d])
theorem x_neT2 : aNe (.tup [.int a, .int b]) (.tup [.int c, .int d]) S q ↔ q (.bl (decide ([a, b] ≠ [c, d]))) S := x_neTi (ns := [a, b]) (ms := [c, d])
theorem x_neL4 : aNe (.lst [.int a, .int b, .int c, .int d]) (.lst [.int e, .int f, .int g, .int h]) S q ↔ q (.bl (decide ([a, b, c, d] ≠ [e, f, g, h]))) S := x_neLi (ns := [a, b, c, d]) (ms := [e, f, g, h])
theorem x_eqLN : aEq (.lst (ns.map D.int)) (.lst []) S q ↔ q (.bl (decide (ns = []))) S := x_eqLi (ms := [])
end
theorem kit_same {K : PySem.W.Frag} {C : Addr} : PySem.W.kitOne K (.ref C) (.ref C) = some true := by
  unfold PySem.W.kitOne
  rw [if_pos]
  simp
theorem kit_mk {K : PySem.W.Frag} {C : Addr} {t : Value} {b : Bool} (h1 : PySem.W.isClsIn K C = true) (h2 : PySem.W.typeIn K (.ref C) = some (.type "type")) (h3 : PySem.W.subIn K t (.ref C) = some b) (h4 : (t == Value.ref C) = false) : PySem.W.kitOne K t (.ref C) = some b := by
  unfold PySem.W.kitOne PySem.W.kitCls
  rw [h4, if_neg Bool.false_ne_true]
  unfold PySem.W.isClsIn at h1
  dsimp only
  rw [h1, h2, if_pos, h3]
  decide
end Dl
namespace Dl
open PySem L2
def rSortedD (K : PySem.W.Frag) : List V → Hp → VK → Prop := fun vs H Q => ∃ (a : Addr) (xs : List V) (ps : List PyData), vs = [.ref a] ∧ SqL K H a xs ∧ DpAll K H xs ps ∧ PySem.W.AllAlike ps ∧ PySem.W.Sortable ps ∧ (∀ p ∈ ps, p.depth ≤ 60) ∧
  ∀ (zs : List (V × PyData)) (p : Addr), zs = (xs.zip ps).mergeSort (PySem.W.dataLe false Prod.snd) → H p = none → Q (.ref p) (upd H p (.lst (zs.map Prod.fst)))
theorem dpAll_len {K : PySem.W.Frag} {H : Hp} : ∀ {xs : List V} {ps : List PyData}, DpAll K H xs ps → xs.length = ps.length
  | _, _, .nil => rfl
  | _, _, .cons _ h => by rw [List.length_cons, List.length_cons, dpAll_len h]
theorem readsAll_each {h : Heap} : ∀ {us : List Value} {ps : List PyData} {as : List Addr}, ReadsAll h us ps as → ∀ (i : Nat) (u : Value) (p : PyData), us[i]? = some u → ps[i]? = some p → ∃ as, Reads h u p as
  | _, _, _, .nil, i, u, p, h1, _ => by simp at h1
  | _, _, _, .cons r rs, 0, u, p, h1, h2 => by
    rw [List.getElem?_cons_zero] at h1 h2
    cases h1; cases h2
    exact ⟨_, r⟩
  | _, _, _, .cons r rs, i + 1, u, p, h1, h2 => by
    rw [List.getElem?_cons_succ] at h1 h2
    exact readsAll_each rs i u p h1 h2
theorem vals_each : ∀ {xs : List V} {us : List Value}, Vals xs us → ∀ (i : Nat) (x : V) (u : Value), xs[i]? = some x → us[i]? = some u → RelV x u
  | _, _, .nil, i, x, u, h1, _ => by simp at h1
  | _, _, .cons r rs, 0, x, u, h1, h2 => by
    rw [List.getElem?_cons_zero] at h1 h2
    cases h1; cases h2
    exact r
  | _, _, .cons r rs, i + 1, x, u, h1, h2 => by
    rw [List.getElem?_cons_succ] at h1 h2
    exact vals_each rs i x u h1 h2
theorem each_of {A B : Type} {R : A → B → Prop} : ∀ {as : List A} {bs : List B}, as.length = bs.length → (∀ (i : Nat) a b, as[i]? = some a → bs[i]? = some b → R a b) → PySem.W.EachIs R as bs
  | [], [], _, _ => .nil
  | [], _ :: _, h, _ => by simp at h
  | _ :: _, [], h, _ => by simp at h
  | a :: as, b :: bs, h, k => .cons (k 0 a b rfl rfl) (each_of (by simpa using h) fun i x y h1 h2 => k (i + 1) x y (by rw [List.getElem?_cons_succ]; exact h1) (by rw [List.getElem?_cons_succ]; exact h2))
theorem each_vals {bs : List ((Value × V) × PyData)} : ∀ {out : List Value} {bs : List ((Value × V) × PyData)}, PySem.W.EachIs (fun v b => v = b.1.1 ∧ RelV b.1.2 v) out bs → Vals (bs.map fun b => b.1.2) out
  | _, _, .nil => .nil
  | _, _, .cons h t => .cons h.2 (each_vals (bs := bs) t)
theorem zip3_get {A B C : Type} {as : List A} {bs : List B} {cs : List C} {i : Nat} {z : (A × B) × C} (h : ((as.zip bs).zip cs)[i]? = some z) : as[i]? = some z.1.1 ∧ bs[i]? = some z.1.2 ∧ cs[i]? = some z.2 := by
  rw [List.getElem?_zip_eq_some, List.getElem?_zip_eq_some] at h
  exact ⟨h.1.1, h.1.2, h.2⟩
theorem ms_map {A B : Type} {f : A → B} {r : A → A → Bool} {s : B → B → Bool} (h : ∀ a b, r a b = s (f a) (f b)) (l : List A) : (l.mergeSort r).map f = (l.map f).mergeSort s := List.map_mergeSort fun a _ b _ => h a b
theorem cr_sortedD {X : Cx} (hu : X.A.units + 64 < cLine) : CallR X (.builtin "sorted") (rSortedD X.K) := by
  intro pins s σ H vs us Q I r h
  obtain ⟨a, xs, ps, rfl, hs, hp, hal, hso, hdep, q⟩ := h
  obtain ⟨its, rv, hl, hz⟩ := I.list hs
  obtain ⟨u, rfl, ru⟩ := vals1 r
  obtain rfl : u = Value.ref a := ru
  obtain ⟨as, rd⟩ := Dp.readsAll I ps xs its hp rv
  have l1 : its.length = xs.length := rv.length.symm
  have l2 : xs.length = ps.length := dpAll_len hp
  let bs : List ((Value × V) × PyData) := (its.zip xs).zip ps
  have hbl : bs.length = ps.length := by show ((its.zip xs).zip ps).length = _; simp; omega
  have hmap : bs.map Prod.snd = ps := by
    show ((its.zip xs).zip ps).map Prod.snd = ps
    exact List.map_snd_zip (by simp; omega)
  refine PySem.W.sorted_data (β := (Value × V) × PyData) (R := fun v b => v = b.1.1 ∧ RelV b.1.2 v) (bs := bs) (enc := Prod.snd) hl.isList ?_ ?_ (by rw [hmap]; exact hal) (by rw [hmap]; exact hso) (by rw [hbl, ← l2]; exact hz) ?_ fun out ho he => ?_
  · refine each_of (by omega) fun i v b h1 h2 => ?_
    obtain ⟨g1, g2, g3⟩ := zip3_get h2
    rw [h1] at g1
    have e := Option.some.inj g1
    exact ⟨e, vals_each rv i _ _ g2 h1⟩
  · refine each_of (by omega) fun i v b h1 h2 => ?_
    obtain ⟨g1, g2, g3⟩ := zip3_get h2
    exact readsAll_each rd i v b.2 h1 g3
  · intro b hb
    have : b.2 ∈ ps := by rw [← hmap]; exact List.mem_map_of_mem hb
    have := hdep _ this
    omega
  · obtain ⟨n, hn⟩ := PyProof.Rows.sortedAll_at s.heap its out.toArray
    have kp : ∀ b o, s.heap.get? b = some o → (PyProof.Rows.sortedAll s.heap its out.toArray).get? b = some o := fun b o e => PyProof.Rows.sortedAll_old e
    have hd : s.heap.objs.size ≤ s.heap.objs.size + 1 := Nat.le_succ _
    have hvals := each_vals (bs := bs) he
    have hzs : (bs.mergeSort (PySem.W.dataLe false Prod.snd)).map (fun b => (b.1.2, b.2)) = (xs.zip ps).mergeSort (PySem.W.dataLe false Prod.snd) := by
      refine Eq.trans (ms_map (f := fun b : (Value × V) × PyData => (b.1.2, b.2)) (r := PySem.W.dataLe false Prod.snd) (s := PySem.W.dataLe false Prod.snd) (fun a b => rfl) bs) ?_
      congr 1
      apply List.ext_getElem?
      intro i
      rw [List.getElem?_map]
      cases hx : bs[i]? with
      | none =>
        have : bs.length ≤ i := List.getElem?_eq_none_iff.mp hx
        exact (List.getElem?_eq_none_iff.mpr (by simp; omega)).symm
      | some z =>
        obtain ⟨g1, g2, g3⟩ := zip3_get hx
        exact (List.getElem?_zip_eq_some (z := (z.1.2, z.2)).mpr ⟨g2, g3⟩).symm
    have hfst : ((xs.zip ps).mergeSort (PySem.W.dataLe false Prod.snd)).map Prod.fst = (bs.mergeSort (PySem.W.dataLe false Prod.snd)).map fun b => b.1.2 := by
      rw [← hzs, List.map_map]; rfl
    have q' := q _ (s.heap.objs.size + 1) rfl (I.hok.fresh hd)
    rw [hfst] at q'
    refine ⟨.ref (s.heap.objs.size + 1), upd H (s.heap.objs.size + 1) (.lst ((bs.mergeSort (PySem.W.dataLe false Prod.snd)).map fun b => b.1.2)), I.laid (t' := s.toks) kp hd ⟨?_, out, n, hvals, hn⟩, rfl, q'⟩
    rw [List.length_map, List.length_mergeSort, hbl, ← l2]
    exact hz
def aSorted (fz : Bool) : R1D := fun d S q => ∃ ds ps, seqOf S d = some ds ∧ d.isTup = false ∧ toPys ds = some ps ∧ PySem.W.AllAlike ps ∧ PySem.W.Sortable ps ∧ (∀ p ∈ ps, p.depth ≤ 60) ∧ newL fz (((ds.zip ps).mergeSort (PySem.W.dataLe false Prod.snd)).map Prod.fst) S q
theorem reps_all {K : PySem.W.Frag} {m : Nat → Addr} {N : Nat} {Hv : Hp} {A : Type} {f : A → D} {g : A → V} : ∀ {l : List A}, (∀ t ∈ l, Rep K m N Hv (f t) (g t)) → Reps K m N Hv (l.map f) (l.map g)
  | [], _ => rfl
  | t :: l, h => Reps.cons (h t (List.mem_cons_self ..)) (reps_all fun u hu => h u (List.mem_cons_of_mem _ hu))
theorem toPys_len : ∀ {ds : List D} {ps : List PyData}, toPys ds = some ps → ps.length = ds.length
  | [], ps, h => by simp [toPys] at h; subst h; rfl
  | d :: ds, ps, h => by
    rw [toPys] at h
    cases h1 : toPy d with
    | none => rw [h1] at h; cases h
    | some p =>
      cases h2 : toPys ds with
      | none => rw [h1, h2] at h; cases h
      | some qs =>
        rw [h1, h2] at h
        cases h
        rw [List.length_cons, List.length_cons, toPys_len h2]
theorem vr_sorted {K : PySem.W.Frag} {fz : Bool} : VRN K (rSortedD K) (a1 (aSorted fz)) := vrn1 fun {_ m S Z H d v q Q} w r ⟨ds, ps, h1, h2, h3, h4, h5, h6, h7⟩ k => by
  obtain ⟨a, xs, e, hr, ht, hl⟩ := seqOf_rep w r h1
  refine ⟨a, xs, ps, by rw [e], hl h2, DpAll.sub vis_le (dps_of hr h3), h4, h5, h6, fun zs p hz hp => ?_⟩
  have l1 := Reps.len hr
  have l2 := toPys_len h3
  let ts : List ((D × V) × PyData) := (ds.zip xs).zip ps
  have m1 : ts.map (fun t => (t.1.1, t.2)) = ds.zip ps := by
    apply List.ext_getElem?
    intro i
    rw [List.getElem?_map]
    cases hx : ts[i]? with
    | none =>
      have : ts.length ≤ i := List.getElem?_eq_none_iff.mp hx
      have hlen : ts.length = ds.length := by show ((ds.zip xs).zip ps).length = _; simp; omega
      exact (List.getElem?_eq_none_iff.mpr (by simp; omega)).symm
    | some z =>
      obtain ⟨g1, g2, g3⟩ := zip3_get hx
      exact (List.getElem?_zip_eq_some (z := (z.1.1, z.2)).mpr ⟨g1, g3⟩).symm
  have m2 : ts.map (fun t => (t.1.2, t.2)) = xs.zip ps := by
    apply List.ext_getElem?
    intro i
    rw [List.getElem?_map]
    cases hx : ts[i]? with
    | none =>
      have : ts.length ≤ i := List.getElem?_eq_none_iff.mp hx
      have hlen : ts.length = ds.length := by show ((ds.zip xs).zip ps).length = _; simp; omega
      exact (List.getElem?_eq_none_iff.mpr (by simp; omega)).symm
    | some z =>
      obtain ⟨g1, g2, g3⟩ := zip3_get hx
      exact (List.getElem?_zip_eq_some (z := (z.1.2, z.2)).mpr ⟨g2, g3⟩).symm
  have s1 : (ts.mergeSort (PySem.W.dataLe false Prod.snd)).map (fun t => (t.1.1, t.2)) = (ds.zip ps).mergeSort (PySem.W.dataLe false Prod.snd) := by
    refine Eq.trans (ms_map (f := fun t : (D × V) × PyData => (t.1.1, t.2)) (r := PySem.W.dataLe false Prod.snd) (s := PySem.W.dataLe false Prod.snd) (fun a b => rfl) ts) ?_
    rw [m1]
  have s2 : (ts.mergeSort (PySem.W.dataLe false Prod.snd)).map (fun t => (t.1.2, t.2)) = (xs.zip ps).mergeSort (PySem.W.dataLe false Prod.snd) := by
    refine Eq.trans (ms_map (f := fun t : (D × V) × PyData => (t.1.2, t.2)) (r := PySem.W.dataLe false Prod.snd) (s := PySem.W.dataLe false Prod.snd) (fun a b => rfl) ts) ?_
    rw [m2]
  have hrep : Reps K m S.length (vis m S Z H) (((ds.zip ps).mergeSort (PySem.W.dataLe false Prod.snd)).map Prod.fst) (zs.map Prod.fst) := by
    rw [hz, ← s1, ← s2, List.map_map, List.map_map]
    refine reps_all fun t ht => ?_
    have ht' : t ∈ ts := (List.mergeSort_perm ts _).mem_iff.mp ht
    obtain ⟨i, hi⟩ := List.getElem?_of_mem ht'
    obtain ⟨g1, g2, g3⟩ := zip3_get hi
    obtain ⟨v', hv', rv'⟩ := Reps.get hr g1
    rw [g2] at hv'
    cases hv'
    exact rv'
  exact out_newL w hrep h7 k hp
end Dl
namespace Dl
open PySem L2 PySem.W
section
variable {X : Cx} {C : Addr} {m qual : Str} {st : Stmt} {dvs : List V} {k : Nat} {ps : List Str} {dsp : DSp} {sp : Sp}
/-- a def run somewhere below the running body -/
theorem run_at {A : Around} {f : Addr} {fd : FuncData} {n : Nat} {g : List Value → List Value → List Value} {gV : List V → List V → List V} {pins : List (Addr × Obj)} {σ : L2.St} {H : Hp} {s : Shared} {Q : VK} {us : List Value} {vs : List V} (F : FnG X.prog X.w X.K X.mg X.base CX0 k f fd ps sp) (sb : SubG X k A) (hb : KBn X.K fd ps n [] g gV)
    (I : L2.Inv X pins σ H s) (r : Vals vs us) (l1 : vs.length = n) (h : sp (gV vs []) H Q fun _ _ _ => False) : wpAny (model X.prog X.w) A (call (.ref f) us) (EP X pins σ Q) X.xe s := by
  have e0 : Env0 X.prog X.w X.K X.mg X.base A X.stack s H := by
    have e := I.env0
    exact ⟨by rw [sb.fr]; exact e.frames, e.mod, e.bs, e.bsz, e.funs, e.frf, e.hok, e.bare⟩
  have r2 := hb.rel r .nil
  refine wpAny_call (codeAny_mono (F.run A X.stack s H ⟨us, []⟩ (g us []) (gV vs []) Q _ sb.room e0 (hb.to s us [] I.kIn (r.length.symm.trans l1) rfl) r2 h) fun r s' hq => ?_)
  cases r with
  | error e => exact pass0 pins σ H s e s' I hq
  | ok fl =>
    cases fl with
    | ret u => exact I.after hq
    | next => exact False.elim hq
    | brk => exact False.elim hq
    | cont => exact False.elim hq
def rLenO (C : Addr) (sp : Sp) : List V → Hp → VK → Prop := fun vs H Q => ∃ a dx fs, vs = [.ref a] ∧ H a = some (.ins C dx fs) ∧ sp [.ref a] H (fun v H' => ∃ n : Int, v = .int n ∧ 0 ≤ n ∧ n < 2 ^ 63 ∧ Q (.int n) H') fun _ _ _ => False
def aLenO (C : Addr) (dsp : DSp) : R1D := fun a S q => (∃ ks ds, objOf S a = some (C, ks, ds)) ∧ dsp [a] S fun d S' => ∃ n : Int, d = .int n ∧ 0 ≤ n ∧ n < 2 ^ 63 ∧ q (.int n) S'
theorem or_lenO (F : MFn X.prog X.w X.K X.mg X.base C "__len__" qual st dvs k ps dsp) (hr : RoomG (k + 1) X.A) (b : Bnd "__len__" qual st ps 1 [] [.p 0] dvs.length) : CallR X (.builtin "len") (rLenO C (spOf X.K dsp)) := by
  intro pins s σ H vs us Q I r h
  obtain ⟨a, dx, fs, rfl, ha, hsp⟩ := h
  obtain ⟨u, rfl, ru⟩ := vals1 r
  obtain rfl : u = Value.ref a := ru
  obtain ⟨f, fd, FS, hm, FO⟩ := F.ex
  obtain ⟨its, KB⟩ := kbn_of FS b
  obtain ⟨mA, J, _⟩ := ins_get I.hok ha
  obtain ⟨od, J, _⟩ := J.look
  obtain ⟨mm, hF⟩ := I.fr
  refine PySem.W.len_K hF I.ok.mod.kin J hm.at_ hm.fn ?_
  have r2 : Vals [V.ref a] [Value.ref a] := .cons rfl .nil
  refine wpAny_mono (run_at FO ⟨hr.in1, rfl⟩ KB I r2 rfl (Q := fun v H' => ∃ n : Int, v = .int n ∧ 0 ≤ n ∧ n < 2 ^ 63 ∧ Q (.int n) H') (by simpa [gat, pick] using hsp)) (fun w' s' hq => ?_) fun _ _ z => z
  obtain ⟨z, H', I', rz, n, ez, h0, h1, q⟩ := hq
  subst ez
  obtain ⟨t, rfl⟩ := rz
  exact ⟨⟨h0, h1⟩, .int n, H', I'.tok _, ⟨_, rfl⟩, q⟩
theorem vr_lenO {K : PySem.W.Frag} : VRN K (rLenO C (spOf K dsp)) (a1 (aLenO C dsp)) := vrn1 fun {_ m S Z H d v q Q} w r ⟨⟨ks, ds, h1⟩, h2⟩ kk => by
  obtain ⟨x, dx, vs, ev, hx, _, _⟩ := objOf_rep w r h1
  subst ev
  refine ⟨x, dx, _, rfl, hx, m, S, Z, [d], _, w.w0, Reps.one r, h2, fun v1 H1 m1 d1 S1 e1 w1 rr ⟨n, en, h3, h4, hq⟩ => ?_⟩
  subst en
  have rr' := rr
  rw [rD, Rep] at rr'
  exact ⟨n, rr', h3, h4, kk.at e1 (w.on e1 w1.toWd0) rep_int hq⟩
structure NoNe (K : PySem.W.Frag) (C : Addr) : Prop where
  ne : findIn K (.ref C) "__ne__" = some (some (.builtin "object.__ne__"))
  ob : mroIn K C (.type "object") = some true
end
end Dl
namespace GB
open PySem PySem.Calls PySem.Spec PyProof.Rows GQ
open PySem.SeqAt
open AutoSeq1 (wpAny_loadPart')
open MeetsSeq MeetsSeq2 MeetsSeq3 SeqRoads2
section
variable {prog : Program} {w : World} {A : Around} {R : Result → Shared → Prop}
/-- at each turn the two lists are read anew: N items each, the i-th two compared say rs i -/
def ListB (prog : Program) (w : World) (A : Around) (E : Value → Shared → Prop) (l b : Addr) (N : Nat) (rs : Nat → Bool) (I : Nat → Shared → Prop) : Prop :=
  ∀ i s, I i s → ∃ (items items2 : Array Value) (n n2 : Nat), s.heap.get? l = some { cls := .type "list", data := .seq items n } ∧ s.heap.get? b = some { cls := .type "list", data := .seq items2 n2 } ∧ items.size = N ∧ items2.size = N ∧
    ∀ (h1 : i < items.size) (h2 : i < items2.size), wpAny (model prog w) A.in1 (eqBool items[i] items2[i]) (fun r s' => r = rs i ∧ I (i + 1) s') E s
/-- code 2: ==; code 3: != -/
def okOf (c : Int) : Bool := c == 2
theorem loopB (c : Int) (hc : c = 2 ∨ c = 3) (l b : Addr) (N : Nat) (rs : Nat → Bool) (out : Bool) (h1 : (∀ j, j < N → rs j = true) → out = okOf c) (h2 : ∀ j, j < N → rs j = false → out = !okOf c) (I : Nat → Shared → Prop) (hl : ListB prog w A (fun e s' => R (.error e) s') l b N rs I)
    (fin : ∀ j s, I j s → R (.ok (.ret (.bool out))) s) (k : Nat) :
    ∀ i : Nat, N - i = k → i ≤ N → (∀ j, j < i → rs j = true) → ∀ s, I i s →
      wpAny (model prog w) A.in1 (Builtin.«list.__eq__.loop» ⟨[.ref l, .ref b, rawInt i, rawInt c], []⟩) (FinOf prog w A R) (fun e s' => R (.error e) s') s := by
  induction k with
  | zero =>
    intro i hk hi hall s h
    obtain ⟨items, items2, n, n2, hl1, hb1, hs1, hs2, _⟩ := hl _ _ h
    have hi' : i = N := by omega
    have hR : R (.ok (.ret (.bool out))) s := fin i s h
    rw [h1 (fun j hj => hall j (by omega))] at hR
    obtain ⟨hp, g, d, tk, os⟩ := s
    rcases hc with rfl | rfl
    · wp_walk using wpAny_loadPart' hl1, wpAny_loadPart' hb1
      have hi1 : items[((i : Nat) : Int).toNat]? = none := by simp; omega
      have hi2 : items2[((i : Nat) : Int).toNat]? = none := by simp; omega
      rw [hi1, hi2]
      wp_walk using wpAny_loadPart' hl1, wpAny_loadPart' hb1
      show R (.ok (.ret (.bool (items.size == items2.size)))) _
      rw [hs1, hs2]
      simpa [okOf] using hR
    · wp_walk using wpAny_loadPart' hl1, wpAny_loadPart' hb1
      have hi1 : items[((i : Nat) : Int).toNat]? = none := by simp; omega
      have hi2 : items2[((i : Nat) : Int).toNat]? = none := by simp; omega
      rw [hi1, hi2]
      wp_walk using wpAny_loadPart' hl1, wpAny_loadPart' hb1
      show R (.ok (.ret (.bool (items.size != items2.size)))) _
      rw [hs1, hs2]
      simpa [okOf] using hR
  | succ k ih =>
    intro i hk hi hall s h
    obtain ⟨items, items2, n, n2, hl1, hb1, hs1, hs2, turn⟩ := hl _ _ h
    have hlt : i < items.size := by omega
    have hlt2 : i < items2.size := by omega
    have ht := turn hlt hlt2
    have hi1 : items[((i : Nat) : Int).toNat]? = some items[i] := by simp [hlt]
    have hi2 : items2[((i : Nat) : Int).toNat]? = some items2[i] := by simp [hlt2]
    have hcc : ((i : Int) + 1) = ((i + 1 : Nat) : Int) := by omega
    cases hr : rs i with
    | true =>
      have step : ∀ s2, I (i + 1) s2 → wpAny (model prog w) A.in1 (Builtin.«list.__eq__.loop» ⟨[.ref l, .ref b, rawInt ((i + 1 : Nat) : Int), rawInt c], []⟩) (FinOf prog w A R) (fun e s' => R (.error e) s') s2 := fun s2 h2' => ih (i + 1) (by omega) (by omega) (fun j hj => by
        rcases Nat.lt_or_ge j i with q | q
        · exact hall j q
        · rw [show j = i by omega]; exact hr) s2 h2'
      obtain ⟨hp, g, d, tk, os⟩ := s
      rcases hc with rfl | rfl
      all_goals
        wp_walk using wpAny_loadPart' hl1, wpAny_loadPart' hb1
        rw [hi1, hi2]
        refine wpAny_bind (wpAny_mono ht (fun r s2 h2' => ?_) fun _ _ x => x)
        obtain ⟨hr', h2'⟩ := h2'
        rw [hr] at hr'
        subst hr'
        have hrec := step s2 h2'
        obtain ⟨hp2, g2, d2, tk2, os2⟩ := s2
        wp_walk
        rw [hcc]
        exact ⟨plainId_quiet plain_eq_loop _, codeAny_builtin entry_eq_loop (by
          rw [Around.under_plainId plain_eq_loop _]
          exact hrec)⟩
    | false =>
      have ho := h2 i (by omega) hr
      have last : ∀ s2, I (i + 1) s2 → ∃ (items items2 : Array Value) (n n2 : Nat), s2.heap.get? l = some { cls := .type "list", data := .seq items n } ∧ s2.heap.get? b = some { cls := .type "list", data := .seq items2 n2 } ∧ i < items.size ∧ i < items2.size ∧ R (.ok (.ret (.bool (!okOf c)))) s2 := fun s2 q => by
        obtain ⟨x1, x2, y1, y2, e1, e2, e3, e4, _⟩ := hl _ _ q
        exact ⟨x1, x2, y1, y2, e1, e2, by omega, by omega, ho ▸ fin _ s2 q⟩
      obtain ⟨hp, g, d, tk, os⟩ := s
      rcases hc with rfl | rfl
      all_goals
        wp_walk using wpAny_loadPart' hl1, wpAny_loadPart' hb1
        rw [hi1, hi2]
        refine wpAny_bind (wpAny_mono ht (fun r s2 h2' => ?_) fun _ _ x => x)
        obtain ⟨hr', h2'⟩ := h2'
        rw [hr] at hr'
        subst hr'
        obtain ⟨x1, x2, y1, y2, e1, e2, e3, e4, hR⟩ := last s2 h2'
        obtain ⟨hp2, g2, d2, tk2, os2⟩ := s2
        wp_walk using wpAny_loadPart' e1, wpAny_loadPart' e2
        have hj1 : x1[((i : Nat) : Int).toNat]? = some x1[i] := by simp [e3]
        have hj2 : x2[((i : Nat) : Int).toNat]? = some x2[i] := by simp [e4]
        rw [hj1, hj2]
        wp_walk
        simpa [okOf] using hR
theorem list_eqB (l b : Addr) (N : Nat) (rs : Nat → Bool) (out : Bool) (h1 : (∀ j, j < N → rs j = true) → out = true) (h2 : ∀ j, j < N → rs j = false → out = false) (I : Nat → Shared → Prop) (hl : ListB prog w A (fun e s' => R (.error e) s') l b N rs I)
    (fin : ∀ j s, I j s → R (.ok (.ret (.bool out))) s) {s : Shared} (h : I 0 s) :
    wpAny (model prog w) A.in1 (Builtin.«list.__eq__» ⟨[.ref l, .ref b], []⟩) (FinOf prog w A R) (fun e s' => R (.error e) s') s := by
  obtain ⟨items, items2, n, n2, hl1, hb1, hs1, hs2, _⟩ := hl _ _ h
  have hrec := loopB (A := A) (R := R) 2 (.inl rfl) l b N rs out h1 h2 I hl fin _ 0 rfl (Nat.zero_le _) (fun j hj => absurd hj (by omega)) s h
  obtain ⟨hp, g, d, tk, os⟩ := s
  have f3 := AutoSeq1.sub_list_list
  have hne : ¬ (items.size != items2.size) = true := by simp [hs1, hs2]
  wp_walk using wpAny_loadPart' hl1, wpAny_loadPart' hb1
  exact ⟨plainId_quiet plain_eq_loop _, codeAny_builtin entry_eq_loop (by
    rw [Around.under_plainId plain_eq_loop _]
    exact hrec)⟩
theorem list_neB (l b : Addr) (N : Nat) (rs : Nat → Bool) (out : Bool) (h1 : (∀ j, j < N → rs j = true) → out = false) (h2 : ∀ j, j < N → rs j = false → out = true) (I : Nat → Shared → Prop) (hl : ListB prog w A (fun e s' => R (.error e) s') l b N rs I)
    (fin : ∀ j s, I j s → R (.ok (.ret (.bool out))) s) {s : Shared} (h : I 0 s) :
    wpAny (model prog w) A.in1 (Builtin.«list.__ne__» ⟨[.ref l, .ref b], []⟩) (FinOf prog w A R) (fun e s' => R (.error e) s') s := by
  obtain ⟨items, items2, n, n2, hl1, hb1, hs1, hs2, _⟩ := hl _ _ h
  have hrec := loopB (A := A) (R := R) 3 (.inr rfl) l b N rs out h1 h2 I hl fin _ 0 rfl (Nat.zero_le _) (fun j hj => absurd hj (by omega)) s h
  obtain ⟨hp, g, d, tk, os⟩ := s
  have f3 := AutoSeq1.sub_list_list
  have hne : ¬ (items.size != items2.size) = true := by simp [hs1, hs2]
  wp_walk using wpAny_loadPart' hl1, wpAny_loadPart' hb1
  exact ⟨plainId_quiet plain_eq_loop _, codeAny_builtin entry_eq_loop (by
    rw [Around.under_plainId plain_eq_loop _]
    exact hrec)⟩
theorem list_eqD (l b : Addr) {items items2 : Array Value} {n n2 : Nat} {s : Shared} (hl1 : s.heap.get? l = some { cls := .type "list", data := .seq items n }) (hb1 : s.heap.get? b = some { cls := .type "list", data := .seq items2 n2 }) (hsz : items.size ≠ items2.size) (fin : R (.ok (.ret (.bool false))) s) :
    wpAny (model prog w) A.in1 (Builtin.«list.__eq__» ⟨[.ref l, .ref b], []⟩) (FinOf prog w A R) (fun e s' => R (.error e) s') s := by
  obtain ⟨hp, g, d, tk, os⟩ := s
  have f3 := AutoSeq1.sub_list_list
  have hne : (items.size != items2.size) = true := by simp [hsz]
  wp_walk using wpAny_loadPart' hl1, wpAny_loadPart' hb1
  exact fin
theorem list_neD (l b : Addr) {items items2 : Array Value} {n n2 : Nat} {s : Shared} (hl1 : s.heap.get? l = some { cls := .type "list", data := .seq items n }) (hb1 : s.heap.get? b = some { cls := .type "list", data := .seq items2 n2 }) (hsz : items.size ≠ items2.size) (fin : R (.ok (.ret (.bool true))) s) :
    wpAny (model prog w) A.in1 (Builtin.«list.__ne__» ⟨[.ref l, .ref b], []⟩) (FinOf prog w A R) (fun e s' => R (.error e) s') s := by
  obtain ⟨hp, g, d, tk, os⟩ := s
  have f3 := AutoSeq1.sub_list_list
  have hne : (items.size != items2.size) = true := by simp [hsz]
  wp_walk using wpAny_loadPart' hl1, wpAny_loadPart' hb1
  exact fin
end
section
variable {prog : Program} {w : World} {A : Around} {E : Value → Shared → Prop} {s : Shared}
theorem rc_eqB {l b : Addr} {N : Nat} {rs : Nat → Bool} {out : Bool} {Q : Value → Shared → Prop} (hu : A.units < cLine) (h1 : (∀ j, j < N → rs j = true) → out = true) (h2 : ∀ j, j < N → rs j = false → out = false) (I : Nat → Shared → Prop) (hl : ListB prog w A E l b N rs I)
    (fin : ∀ j s, I j s → Q (.bool out) s) (h : I 0 s) : wpAny (model prog w) A (richCompare .Eq (.ref l) (.ref b)) Q E s := by
  obtain ⟨items, items2, n, n2, hl1, hb1, _, _, _⟩ := hl _ _ h
  refine wpAny_richCompare_same_room (op := .Eq) ⟨_, hl1, rfl⟩ ⟨_, hb1, rfl⟩ F.slot_list_eq (call_here F.slot_list_eq ⟨_, hl1, rfl⟩ F.entry_list_eq (F.args_list_eq_2 _ _) ?_) hu
  exact list_eqB (R := wants (fun v s' => v ≠ .notImplemented ∧ Q v s') E) l b N rs out h1 h2 I hl (fun j s' q => ⟨(fun x => nomatch x), fin j s' q⟩) h
theorem rc_neB {l b : Addr} {N : Nat} {rs : Nat → Bool} {out : Bool} {Q : Value → Shared → Prop} (hu : A.units < cLine) (h1 : (∀ j, j < N → rs j = true) → out = false) (h2 : ∀ j, j < N → rs j = false → out = true) (I : Nat → Shared → Prop) (hl : ListB prog w A E l b N rs I)
    (fin : ∀ j s, I j s → Q (.bool out) s) (h : I 0 s) : wpAny (model prog w) A (richCompare .NotEq (.ref l) (.ref b)) Q E s := by
  obtain ⟨items, items2, n, n2, hl1, hb1, _, _, _⟩ := hl _ _ h
  refine wpAny_richCompare_same_room (op := .NotEq) ⟨_, hl1, rfl⟩ ⟨_, hb1, rfl⟩ F.slot_list_ne (call_here F.slot_list_ne ⟨_, hl1, rfl⟩ F.entry_list_ne (F.args_list_ne_2 _ _) ?_) hu
  exact list_neB (R := wants (fun v s' => v ≠ .notImplemented ∧ Q v s') E) l b N rs out h1 h2 I hl (fun j s' q => ⟨(fun x => nomatch x), fin j s' q⟩) h
theorem rc_eqD {l b : Addr} {items items2 : Array Value} {n n2 : Nat} {Q : Value → Shared → Prop} (hu : A.units < cLine) (hl1 : s.heap.get? l = some { cls := .type "list", data := .seq items n }) (hb1 : s.heap.get? b = some { cls := .type "list", data := .seq items2 n2 }) (hsz : items.size ≠ items2.size) (fin : Q (.bool false) s) :
    wpAny (model prog w) A (richCompare .Eq (.ref l) (.ref b)) Q E s := by
  refine wpAny_richCompare_same_room (op := .Eq) ⟨_, hl1, rfl⟩ ⟨_, hb1, rfl⟩ F.slot_list_eq (call_here F.slot_list_eq ⟨_, hl1, rfl⟩ F.entry_list_eq (F.args_list_eq_2 _ _) ?_) hu
  exact list_eqD (R := wants (fun v s' => v ≠ .notImplemented ∧ Q v s') E) l b hl1 hb1 hsz ⟨(fun x => nomatch x), fin⟩
theorem rc_neD {l b : Addr} {items items2 : Array Value} {n n2 : Nat} {Q : Value → Shared → Prop} (hu : A.units < cLine) (hl1 : s.heap.get? l = some { cls := .type "list", data := .seq items n }) (hb1 : s.heap.get? b = some { cls := .type "list", data := .seq items2 n2 }) (hsz : items.size ≠ items2.size) (fin : Q (.bool true) s) :
    wpAny (model prog w) A (richCompare .NotEq (.ref l) (.ref b)) Q E s := by
  refine wpAny_richCompare_same_room (op := .NotEq) ⟨_, hl1, rfl⟩ ⟨_, hb1, rfl⟩ F.slot_list_ne (call_here F.slot_list_ne ⟨_, hl1, rfl⟩ F.entry_list_ne (F.args_list_ne_2 _ _) ?_) hu
  exact list_neD (R := wants (fun v s' => v ≠ .notImplemented ∧ Q v s') E) l b hl1 hb1 hsz ⟨(fun x => nomatch x), fin⟩
end
end GB
namespace Dl
open PySem L2
section
variable {K : PySem.W.Frag} {m : Nat → Addr} {S : Sto} {Z : Addr → Prop} {H H' : Hp}
/-- all but the tables stay -/
structure ExtT (K : PySem.W.Frag) (H H' : Hp) : Prop where
  keep : ∀ a o, H a = some o → (∀ ps, o ≠ .tbl ps) → H' a = some o
  t : ∀ c P q, (c, P, q) ∈ tabsOf K → LamX.TabS H' P q
  n : ∀ P ps, H' P = some (.tbl ps) → Marked K P
theorem vis_grow (w : Wd0 K m S Z H) (e : ExtT K H H') : ∀ a o, vis m S Z H a = some o → vis m S Z H' a = some o := fun a o h => by
  obtain ⟨h1, h2⟩ := vis_not h
  exact vis_of (e.keep _ _ (vis_sub h) fun ps z => h1 (w.tb.z a (w.tb.n a ps (z ▸ vis_sub h)))) h1 h2
theorem ExtT.refl (w : Wd0 K m S Z H) : ExtT K H H := ⟨fun _ _ h _ => h, w.tb.t, w.tb.n⟩
theorem ExtT.trans {H1 H2 H3 : Hp} (a : ExtT K H1 H2) (b : ExtT K H2 H3) : ExtT K H1 H3 := ⟨fun x o h n => b.keep x o (a.keep x o h n) n, b.t, b.n⟩
theorem Wd0.grow (w : Wd0 K m S Z H) (e : ExtT K H H') : Wd0 K m S Z H' ∧ Ext m S Z H m S H' := by
  have hz : ∀ a, Z a → (∀ ps, H a ≠ some (.tbl ps)) → H' a = H a := fun a z n => by
    obtain ⟨o, h⟩ := w.zh a z
    rw [h, e.keep a o h fun ps q => n ps (by rw [h, q])]
  refine ⟨⟨w.inj, w.zz, fun a z => ?_, fun i o h => ?_, ⟨w.tb.z, e.t, e.n⟩⟩, ⟨Nat.le_refl _, fun _ _ => rfl, vis_grow w e, hz⟩⟩
  · obtain ⟨o, h⟩ := w.zh a z
    by_cases ht : ∃ ps, o = .tbl ps
    · obtain ⟨ps, rfl⟩ := ht
      obtain ⟨c, q, mm⟩ := w.tb.n a ps h
      obtain ⟨ps', h', _⟩ := e.t c a q mm
      exact ⟨_, h'⟩
    · exact ⟨o, e.keep a o h fun ps q => ht ⟨ps, q⟩⟩
  · obtain ⟨u, hu⟩ := w.live ⟨o, h⟩
    exact (w.rep i o h).mono (fun _ _ => rfl) (Nat.le_refl _) (vis_grow w e) (by rw [hu, e.keep _ _ hu fun ps q => (w.rep i o h).noTb.1 ps (by rw [hu, q])])
theorem Wd.grow (w : Wd K U m S Z H) (e : ExtT K H H') : Wd K U m S Z H' ∧ Ext m S Z H m S H' := by
  obtain ⟨a, b⟩ := w.toWd0.grow e
  exact ⟨w.on b a, b⟩
/-- the whole store put out of sight -/
theorem Wd0.dark (w : Wd0 K m S Z H) : Wd0 K m (List.replicate S.length none) (fun a => Z a ∨ ∃ n, Live S n ∧ m n = a) H ∧ vis m (List.replicate S.length none) (fun a => Z a ∨ ∃ n, Live S n ∧ m n = a) H = vis m S Z H := by
  have nl : ∀ i, ¬ Live (List.replicate S.length none) i := fun i ⟨o, h⟩ => by
    rw [List.getElem?_replicate] at h
    split at h <;> cases h
  refine ⟨⟨fun i j l => absurd l (nl i), fun i l => absurd l (nl i), fun a z => ?_, fun i o h => absurd ⟨o, h⟩ (nl i), w.tb.hide fun _ _ z => .inl z⟩, ?_⟩
  · rcases z with z | ⟨n, l, rfl⟩
    · exact w.zh a z
    · exact w.live l
  · funext a
    unfold vis
    by_cases q : Z a ∨ ∃ n, Live S n ∧ m n = a
    · rw [if_pos q, if_pos (.inl q)]
    · rw [if_neg q, if_neg]
      rintro (z | ⟨n, l, _⟩)
      · exact q z
      · exact nl n l
theorem Ext.all {m' : Nat → Addr} {n : Nat} {Zd : Addr → Prop} {S1 : Sto} (hS : S1 = List.replicate n none) (w : Wd0 K m' S1 Zd H') (e : Ext m (List.replicate n none) Zd H m' S1 H') : ExtT K H H' := by
  refine ⟨fun a o h nt => ?_, w.tb.t, w.tb.n⟩
  by_cases z : Zd a
  · rw [e.zed a z (fun ps q => nt ps (Option.some.inj (h.symm.trans q)))]; exact h
  · refine vis_sub (e.vis a o (vis_of h z fun i l => ?_))
    obtain ⟨u, hu⟩ := l
    rw [List.getElem?_replicate] at hu
    split at hu <;> cases hu
end
def D.flat : D → Bool
  | .non | .bl _ | .int _ | .str _ => true
  | _ => false
theorem flat_inj {K : PySem.W.Frag} {m : Nat → Addr} {N : Nat} {Hv : Hp} {d e : D} {v : V} (r : Rep K m N Hv d v) (r' : Rep K m N Hv e v) (hd : d.flat = true) (he : e.flat = true) : d = e := by
  cases d <;> cases e <;> first
    | (cases hd; done)
    | (cases he; done)
    | rfl
    | (simp only [Rep] at r r'; rw [r] at r'; cases r'; rfl)
    | (simp only [Rep] at r r'; rw [r] at r'; cases r'; done)
theorem flats_inj {K : PySem.W.Frag} {m : Nat → Addr} {N : Nat} {Hv : Hp} : ∀ {ds es : List D} {vs : List V}, Reps K m N Hv ds vs → Reps K m N Hv es vs → ds.all D.flat = true → es.all D.flat = true → ds = es
  | [], [], _, _, _, _, _ => rfl
  | [], e :: es, _, r, r', _, _ => by obtain ⟨v, q, h, _⟩ := r'; rw [show _ = [] from r] at h; cases h
  | d :: ds, [], _, r, r', _, _ => by obtain ⟨v, q, h, _⟩ := r; rw [show _ = [] from r'] at h; cases h
  | d :: ds, e :: es, _, r, r', hd, he => by
    obtain ⟨v, q, h, r1, r2⟩ := r
    obtain ⟨v', q', h', r1', r2'⟩ := r'
    rw [h] at h'
    cases h'
    rw [List.all_cons, Bool.and_eq_true] at hd he
    rw [flat_inj r1 r1' hd.1 he.1, flats_inj r2 r2' hd.2 he.2]
section
variable {X : Cx} {C : Addr} {qual : Str} {st : Stmt} {dvs : List V} {k : Nat} {ps : List Str} {dsp : DSp}
/-- what two items say -/
structure ItO (C : Addr) (dsp : DSp) (d e : D) (r : Bool) : Prop where
  ob : ∃ ks xs, d = .obj C ks xs ∧ xs.all D.flat = true
  ob' : ∃ ks xs, e = .obj C ks xs ∧ xs.all D.flat = true
  same : d = e → r = true
  say : ∀ S', dsp [d, e] S' fun u S'' => u = .bl r ∧ S'' = S'
theorem zip_inj {ks ks' : List Str} {vs vs' : List V} (h : ks.zip vs = ks'.zip vs') (h1 : ks.length = vs.length) (h2 : ks'.length = vs'.length) : ks = ks' ∧ vs = vs' := by
  have a := congrArg (List.map Prod.fst) h
  have b := congrArg (List.map Prod.snd) h
  rw [List.map_fst_zip (by omega), List.map_fst_zip (by omega)] at a
  rw [List.map_snd_zip (by omega), List.map_snd_zip (by omega)] at b
  exact ⟨a, b⟩
theorem ecmp_own (F : MFn X.prog X.w X.K X.mg X.base C "__eq__" qual st dvs k ps dsp) (b : Bnd "__eq__" qual st ps 2 [] [.p 0, .p 1] dvs.length) {A : Around} (sb : SubG X k A) {pins : List (Addr × Obj)} {σ : L2.St} {H : Hp} {s : Shared} {m : Nat → Addr} {S : Sto} {Z : Addr → Prop} {d e : D} {x y : V} {u v : Value} {r : Bool}
    (I : L2.Inv X pins σ H s) (w : Wd X.K U m S Z H) (r1 : Rep X.K m S.length (vis m S Z H) d x) (r2 : Rep X.K m S.length (vis m S Z H) e y) (rx : RelV x u) (ry : RelV y v) (hi : ItO C dsp d e r) :
    wpAny (model X.prog X.w) A (eqBool u v) (fun c s' => c = r ∧ ∃ H', L2.Inv X pins σ H' s' ∧ ExtT X.K H H') X.xe s := by
  obtain ⟨ks, xs, ed, fx⟩ := hi.ob
  obtain ⟨ks', xs', ee, fx'⟩ := hi.ob'
  subst ed ee
  rw [Rep] at r1 r2
  obtain ⟨a, dx, vs, ex, hh1, l1, q1⟩ := r1
  obtain ⟨a', dx', vs', ey, hh2, l2, q2⟩ := r2
  subst ex ey
  cases rx
  cases ry
  by_cases hab : a = a'
  · subst hab
    rw [hh1] at hh2
    have ez := HO.ins.inj (Option.some.inj hh2)
    obtain ⟨ek, ev⟩ := zip_inj ez.2.2 l1 l2
    subst ek ev
    have := flats_inj q1 q2 fx fx'
    subst this
    rw [hi.same rfl]
    exact SeqAt.EqAt.same (A := A) (s := s) (.ref a) X.prog X.w X.xe _ ⟨rfl, H, I, ExtT.refl w.toWd0⟩
  · refine GQ.eqBool_refG hab ?_
    obtain ⟨f, fd, FS, hm, FO⟩ := F.ex
    obtain ⟨its, KB⟩ := kbn_of FS b
    obtain ⟨mA, J, _⟩ := ins_get I.hok (vis_sub hh1)
    obtain ⟨mB, J', _⟩ := ins_get I.hok (vis_sub hh2)
    obtain ⟨od, J, _⟩ := J.look
    obtain ⟨od', J', _⟩ := J'.look
    obtain ⟨mm, hF⟩ := I.fr
    refine PySem.W.cmp_K (op := .Eq) (tb := .ref C) sb.room.units0 hF I.ok.mod.kin J J'.type (by simp [PySem.W.notFirst]) hm.at_ hm.fn ?_
    have rr : Vals [V.ref a, V.ref a'] [Value.ref a, Value.ref a'] := .cons rfl (.cons rfl .nil)
    obtain ⟨wd, hv⟩ := w.toWd0.dark
    have hlen : (List.replicate S.length (none : Option MO)).length = S.length := by simp
    have p1 : Rep X.K m (List.replicate S.length (none : Option MO)).length (vis m (List.replicate S.length none) (fun a => Z a ∨ ∃ n, Live S n ∧ m n = a) H) (.obj C ks xs) (.ref a) := by
      rw [hv, hlen, Rep]; exact ⟨a, dx, vs, rfl, hh1, l1, q1⟩
    have p2 : Rep X.K m (List.replicate S.length (none : Option MO)).length (vis m (List.replicate S.length none) (fun a => Z a ∨ ∃ n, Live S n ∧ m n = a) H) (.obj C ks' xs') (.ref a') := by
      rw [hv, hlen, Rep]; exact ⟨a', dx', vs', rfl, hh2, l2, q2⟩
    have hsp : spOf X.K dsp [.ref a, .ref a'] H (fun v H' => v = .bl r ∧ ExtT X.K H H') fun _ _ _ => False := by
      refine ⟨m, List.replicate S.length none, _, [.obj C ks xs, .obj C ks' xs'], _, wd.u0, Reps.cons p1 (Reps.one p2), hi.say _, fun v1 H1 m1 d1 S1 e1 w1 rr1 ⟨h1, h2⟩ => ?_⟩
      subst h1
      have rr1' := rr1
      rw [rD, Rep] at rr1'
      exact ⟨rr1', Ext.all h2 w1.toWd0 e1⟩
    refine wpAny_mono (run_at FO sb KB I rr rfl (by simpa [gat, pick] using hsp)) (fun w' s' hq => ?_) fun _ _ z => z
    obtain ⟨z, H', I', rz, ez, hE⟩ := hq
    subst ez
    cases rz
    exact ⟨r, rfl, rfl, H', I', hE⟩
def lstOf (S : Sto) : D → Option (List D)
  | .lst ds => some ds
  | .loc n => match S[n]? with
    | some (some (.lst ds)) => some ds
    | _ => none
  | _ => none
theorem lstOf_rep {K : PySem.W.Frag} {m : Nat → Addr} {S : Sto} {Z : Addr → Prop} {H : Hp} {d : D} {v : V} {ds : List D} (w : Wd K U m S Z H) (r : Rep K m S.length (vis m S Z H) d v) (h : lstOf S d = some ds) : ∃ a vs, v = .ref a ∧ H a = some (.lst vs) ∧ Reps K m S.length (vis m S Z H) ds vs := by
  cases d with
  | lst ds' => cases h; rw [Rep] at r; obtain ⟨a, vs, e, h1, h2⟩ := r; exact ⟨a, vs, e, vis_sub h1, h2⟩
  | loc n =>
    rw [Rep] at r
    rw [lstOf] at h
    split at h
    · rename_i q; cases h; obtain ⟨vs, h1, h2⟩ := w.rep n _ q; exact ⟨m n, vs, r.1, h1, h2⟩
    · cases h
  | non => cases h
  | bl _ => cases h
  | int _ => cases h
  | str _ => cases h
  | tup _ => cases h
  | ksq _ => cases h
  | obj _ _ _ => cases h
  | dic _ _ => cases h
  | ref _ => cases h
  | ty _ => cases h
  | exc _ _ _ => cases h
/-- xs == ys (neg: xs != ys), their items all own instances of C -/
def aEqLO (neg : Bool) (C : Addr) (dsp : DSp) : R2D := fun x y S q => ∃ ds es, lstOf S x = some ds ∧ lstOf S y = some es ∧
  ((ds.length ≠ es.length ∧ q (.bl neg) S) ∨ (ds.length = es.length ∧ ∃ rs : Nat → Bool, (∀ i d e, ds[i]? = some d → es[i]? = some e → ItO C dsp d e (rs i)) ∧ q (.bl (xor neg ((List.range ds.length).all rs))) S))
def rEqLO (X : Cx) (neg : Bool) (C : Addr) (dsp : DSp) : R2 := fun x y H Q => ∃ m S Z a b ds es vs us, Wd X.K U0 m S Z H ∧ x = .ref a ∧ y = .ref b ∧ H a = some (.lst vs) ∧ H b = some (.lst us) ∧ Reps X.K m S.length (vis m S Z H) ds vs ∧ Reps X.K m S.length (vis m S Z H) es us ∧
  ((ds.length ≠ es.length ∧ Q (.bl neg) H) ∨ (ds.length = es.length ∧ ∃ rs : Nat → Bool, (∀ i d e, ds[i]? = some d → es[i]? = some e → ItO C dsp d e (rs i)) ∧ ∀ H', ExtT X.K H H' → Q (.bl (xor neg ((List.range ds.length).all rs))) H'))
theorem vr_eqLO {neg : Bool} : VR2 X.K (rEqLO X neg C dsp) (aEqLO neg C dsp) := fun {_ m S Z H a b v u q Q} w r1 r2 ⟨ds, es, h1, h2, h3⟩ kk => by
  obtain ⟨a1, vs, e1, hh1, q1⟩ := lstOf_rep w r1 h1
  obtain ⟨b1, us, e2, hh2, q2⟩ := lstOf_rep w r2 h2
  refine ⟨m, S, Z, a1, b1, ds, es, vs, us, w.w0, e1, e2, hh1, hh2, q1, q2, ?_⟩
  rcases h3 with ⟨h3, h4⟩ | ⟨h3, rs, h4, h5⟩
  · exact .inl ⟨h3, kk.now w rep_bl h4⟩
  · exact .inr ⟨h3, rs, h4, fun H' e => by
      obtain ⟨w', e'⟩ := w.grow e
      exact kk.at e' w' rep_bl h5⟩
theorem listB_own (F : MFn X.prog X.w X.K X.mg X.base C "__eq__" qual st dvs k ps dsp) (hr : RoomG (k + 1) X.A) (bn : Bnd "__eq__" qual st ps 2 [] [.p 0, .p 1] dvs.length) {pins : List (Addr × Obj)} {σ : L2.St} {H : Hp} {m : Nat → Addr} {S : Sto} {Z : Addr → Prop} {a b : Addr} {ds es : List D} {vs us : List V} {rs : Nat → Bool}
    (w : Wd X.K U m S Z H) (hh1 : H a = some (.lst vs)) (hh2 : H b = some (.lst us)) (q1 : Reps X.K m S.length (vis m S Z H) ds vs) (q2 : Reps X.K m S.length (vis m S Z H) es us) (hl : ds.length = es.length) (hi : ∀ i d e, ds[i]? = some d → es[i]? = some e → ItO C dsp d e (rs i)) :
    GB.ListB X.prog X.w X.A X.xe a b ds.length rs fun _ s => ∃ H', L2.Inv X pins σ H' s ∧ ExtT X.K H H' := by
  rintro i s ⟨H', I', e'⟩
  obtain ⟨z1, its, n, rv, ra, hla⟩ := I'.lstM (e'.keep _ _ hh1 (by intro ps z; cases z))
  obtain ⟨z2, its2, n2, rv2, rb, hlb⟩ := I'.lstM (e'.keep _ _ hh2 (by intro ps z; cases z))
  have la := Reps.len q1
  have lb := Reps.len q2
  refine ⟨its.toArray, its2.toArray, n, n2, hla, hlb, by rw [List.size_toArray]; omega, by rw [List.size_toArray]; omega, fun h1 h2 => ?_⟩
  rw [List.size_toArray] at h1 h2
  obtain ⟨w', _⟩ := w.grow e'
  obtain ⟨d, hd⟩ : ∃ d, ds[i]? = some d := ⟨ds[i]'(by omega), by simp⟩
  obtain ⟨e, he⟩ : ∃ e, es[i]? = some e := ⟨es[i]'(by omega), by simp⟩
  obtain ⟨x, hx, rx⟩ := Reps.get q1 hd
  obtain ⟨y, hy, ry⟩ := Reps.get q2 he
  have gx : its[i]? = some its[i] := by simp
  have gy : its2[i]? = some its2[i] := by simp
  have rx' := Rep.mono (fun _ _ => rfl) (Nat.le_refl _) (vis_grow w.toWd0 e') rx
  have ry' := Rep.mono (fun _ _ => rfl) (Nat.le_refl _) (vis_grow w.toWd0 e') ry
  have key := ecmp_own F bn (A := X.A.in1) ⟨hr.in1, rfl⟩ I' w' rx' ry' (vals_each rv i _ _ hx gx) (vals_each rv2 i _ _ hy gy) (hi i d e hd he)
  refine wpAny_mono (by simpa using key) (fun r s' hq => ?_) fun _ _ z => z
  obtain ⟨h3, H'', I'', e''⟩ := hq
  exact ⟨h3, H'', I'', e'.trans e''⟩
theorem or_neLO (F : MFn X.prog X.w X.K X.mg X.base C "__eq__" qual st dvs k ps dsp) (hr : RoomG (k + 1) X.A) (bn : Bnd "__eq__" qual st ps 2 [] [.p 0, .p 1] dvs.length) : OpR X (compareOp .NotEq) (rEqLO X true C dsp) := by
  intro pins s σ H x y v u Q I rx ry ⟨m, S, Z, a, b, ds, es, vs, us, w, ex, ey, hh1, hh2, q1, q2, h⟩
  subst ex ey
  cases rx
  cases ry
  show wpAny (model X.prog X.w) X.A (richCompare .NotEq (.ref a) (.ref b)) (EP X pins σ Q) X.xe s
  have la := Reps.len q1
  have lb := Reps.len q2
  rcases h with ⟨h1, h2⟩ | ⟨h1, rs, hi, h2⟩
  · obtain ⟨z1, its, n, rv, ra, hla⟩ := I.lstM hh1
    obtain ⟨z2, its2, n2, rv2, rb, hlb⟩ := I.lstM hh2
    exact GB.rc_neD hr.units0 hla hlb (by rw [List.size_toArray, List.size_toArray]; omega) ⟨.bl true, H, I, rfl, h2⟩
  · refine GB.rc_neB (N := ds.length) (rs := rs) (out := xor true ((List.range ds.length).all rs)) hr.units0 (fun hall => ?_) (fun j hj hf => ?_) _ (listB_own (pins := pins) (σ := σ) F hr bn w hh1 hh2 q1 q2 h1 hi) (fun j s' ⟨H', I', e'⟩ => ⟨.bl _, H', I', rfl, h2 H' e'⟩) ⟨H, I, ExtT.refl w.toWd0⟩
    · rw [Bool.true_xor, Bool.not_eq_false', List.all_eq_true]
      exact fun j hj => hall j (List.mem_range.mp hj)
    · rw [Bool.true_xor, Bool.not_eq_true', List.all_eq_false]
      exact ⟨j, List.mem_range.mpr hj, by rw [hf]; decide⟩
end
def aRev (fz : Bool) : R1D := fun d S q => ∃ ds, seqOf S d = some ds ∧ d.isTup = false ∧ newL fz ds.reverse S q
def gRev (fz : Bool) (ge : G D) : G D := fun ρ S q => ge ρ S fun d S1 => aRev fz d S1 q
def aPar3 (i j l : Nat) (ρ : Env_) (k : Env_ → Sto → Prop) (as : List D) (S1 : Sto) : Prop := ∃ v u z, as = [v, u, z] ∧ k (((ρ.set i (some v)).set j (some u)).set l (some z)) S1
theorem x_par3 {i j l : Nat} {ga : G (List D)} {E : DE} {ρ : Env_} {S : Sto} : gPar3 i j l ga E ρ S = ga ρ S fun as S1 => aPar3 i j l ρ E.nx as S1 := rfl
theorem x_par33 {i j l : Nat} {k : Env_ → Sto → Prop} {ρ : Env_} {S : Sto} {v u z : D} : aPar3 i j l ρ k [v, u, z] S ↔ k (((ρ.set i (some v)).set j (some u)).set l (some z)) S := by
  constructor
  · rintro ⟨_, _, _, e, h⟩; cases e; exact h
  · exact fun h => ⟨v, u, z, rfl, h⟩
theorem rng_size (i j : Int) : Builtin.Range.rangeSize i j 1 = max 0 (j - i) := by
  unfold Builtin.Range.rangeSize
  rw [if_pos (by decide)]
  split
  · rw [Int.ediv_one]; omega
  · omega
section
variable {X : Cx} {ga : G (List D)} {a b : Expr}
theorem call_len_rng : CallR X (.builtin "len") (fun xs H Q => ∃ (p : Addr) (i j : Int), xs = [.ref p] ∧ H p = some (.rng i j) ∧ j - i < 2 ^ 62 ∧ Q (.int (max 0 (j - i))) H) := by
  intro pins s σ H xs us Q I r h
  obtain ⟨p, i, j, rfl, hp, hb, q⟩ := h
  obtain ⟨u, rfl, ru⟩ := vals1 r
  obtain rfl : u = Value.ref p := ru
  obtain ⟨t, u, v, ho⟩ := I.hok _ _ hp
  have hn : Builtin.Range.rangeSize i j 1 = (((max 0 (j - i)).toNat : Nat) : Int) := by rw [rng_size]; omega
  refine call_len_range (s := s) ho hn (by omega) ⟨.int (max 0 (j - i)), H, I.tok _, ⟨s.toks + 1, ?_⟩, q⟩
  rw [show (((max 0 (j - i)).toNat : Nat) : Int) = max 0 (j - i) by omega]
def aLenR : RND := fun as S1 q => ∃ i j : Int, as = [.int i, .int j] ∧ j - i < 2 ^ 62 ∧ q (.int (max 0 (j - i))) S1
def gLenR (ga : G (List D)) : G D := fun ρ S q => ga ρ S fun as S1 => ∃ i j : Int, as = [.int i, .int j] ∧ j - i < 2 ^ 62 ∧ q (.int (max 0 (j - i))) S1
theorem d_lenrng {p p2 pos pos2 : Pos} (hg : Gl X "len") (hm : X.mg "len" = none) (hg2 : Gl X "range") (hm2 : X.mg "range" = none) (ha : PA X [a, b] (tofA X.K U ga))
    (hs2 : starEach [a, b] X.env = (false, eval a X.env) :: starEach [b] X.env := by rfl) (hpl2 : (backTo pos2 (starEach [b] X.env)).any (·.1) = false := by rfl)
    (hs : starEach [.Call (.Name "range" p2) [a, b] [] pos2] X.env = (false, eval (.Call (.Name "range" p2) [a, b] [] pos2) X.env) :: starEach [] X.env := by rfl) (hpl : (backTo pos (starEach [] X.env)).any (·.1) = false := by rfl) :
    PE X (.Call (.Name "len" p) [.Call (.Name "range" p2) [a, b] [] pos2] [] pos) (tofE X.K U (gLenR ga)) :=
  weakE (pe_callB call_len_rng hg hm (by decide +kernel) (pa_cons (pe_callTy cr_range2 hg2 hm2 (by decide +kernel) ha (by decide) (by decide) hs2 hpl2) pa_nil hs) (by decide) (by decide) hs hpl) fun σ H Q ⟨m, S, Z, ρ, q, w, rs, h, k⟩ =>
    tof_in w rs h fun v1 H1 m1 d1 S1 e1 w1 r1 ⟨i, j, ed, hb, h1⟩ => by
      subst ed
      obtain ⟨x, y, ev, rx, ry⟩ := reps2 r1
      rw [Rep] at rx ry
      refine ⟨i, j, by rw [ev, rx, ry], fun pp hp => ?_⟩
      obtain ⟨w2, e2, _⟩ := w1.new (o := .rng i j) hp
      exact ⟨pp, i, j, rfl, upd_same, hb, k.at (e1.trans e2) w2 rep_int h1⟩
theorem x_lenrI {S : Sto} {q : D → Sto → Prop} {i j : Int} : aLenR [.int i, .int j] S q ↔ j - i < 2 ^ 62 ∧ q (.int (max 0 (j - i))) S := by
  constructor
  · rintro ⟨_, _, e, h⟩; cases e; exact h
  · exact fun h => ⟨i, j, rfl, h⟩
theorem x_lenr {ρ : Env_} {S : Sto} {q : D → Sto → Prop} : gLenR ga ρ S q = ga ρ S fun as S1 => aLenR as S1 q := rfl
end
end Dl
namespace Dl
open PySem L2
section
variable {S0 S T : Sto} {ds : List D} {q : D → Sto → Prop} {c : Sto → Prop} {d v : D} {k : QI} {i : Int} {n : Nat}
theorem x_ixE : aIx (.loc S0.length) (.int i) (S0 ++ [some (.lst ds)]) q ↔ ∃ e, atI ds i = some e ∧ q e (S0 ++ [some (.lst ds)]) := by
  unfold aIx
  have e0 : seqOf (S0 ++ [some (.lst ds)]) (.loc S0.length) = some ds := by simp [seqOf]
  constructor
  · rintro ⟨_, e1, xs, z, e2, e3, h⟩; cases e1; rw [e0] at e2; cases e2; exact ⟨z, e3, h⟩
  · rintro ⟨z, e3, h⟩; exact ⟨_, rfl, ds, z, e0, e3, h⟩
theorem ixN_last {n : Nat} (h : 0 < n) : ixN n (-1) = some (n - 1) := by
  unfold ixN
  rw [if_neg (by omega), if_pos (by omega)]
  exact congrArg some (by omega)
theorem at_last {A : Type} {xs : List A} : atI xs (-1) = xs.getLast? := by
  unfold atI
  rw [List.getLast?_eq_getElem?]
  by_cases h : 0 < xs.length
  · rw [ixN_last h]; rfl
  · have : xs = [] := List.eq_nil_of_length_eq_zero (by omega)
    subst this
    rfl
theorem x_setE (h : ixN ds.length i = some n) : aSetIx (.loc S0.length) (.int i) v (S0 ++ [some (.lst ds)]) c ↔ c (S0 ++ [some (.lst (ds.set n v))]) := by
  constructor
  · rintro ⟨_, _, _, _, e1, e2, e3, e4, h1⟩
    cases e1; cases e2
    rw [snoc_get] at e3
    cases e3
    rw [h] at e4
    cases e4
    rw [snoc_set] at h1
    exact h1
  · exact fun h1 => ⟨_, ds, i, n, rfl, rfl, snoc_get, h, by rw [snoc_set]; exact h1⟩
theorem x_setLE {l : D} (h : ds.getLast? = some l) : aSetIx (.loc S0.length) (.int (-1)) v (S0 ++ [some (.lst ds)]) c ↔ c (S0 ++ [some (.lst (ds.dropLast ++ [v]))]) := by
  obtain ⟨ys, rfl⟩ := List.getLast?_eq_some_iff.mp h
  rw [x_setE (n := ys.length) (by rw [ixN_last (by simp)]; simp), List.dropLast_concat]
  simp
theorem x_appE : aAppend (.loc S0.length) [d] (S0 ++ [some (.lst ds)]) q ↔ ds.length < sizeLine ∧ q .non (S0 ++ [some (.lst (ds ++ [d]))]) := by
  rw [x_app snoc_get, snoc_set]
theorem x_tyE : isTy "list" (S0 ++ [some (.lst ds)]) (.loc S0.length) = true := x_tyO snoc_get
theorem x_itE : aIt (.loc S0.length) (S0 ++ [some (.lst ds)]) k ↔ k ds (fun S' => seqOf S' (.loc S0.length) = some ds) (S0 ++ [some (.lst ds)]) := x_itO (by simp [seqOf])
theorem x_lenE : aLen (.loc S0.length) (S0 ++ [some (.lst ds)]) q ↔ q (.int ds.length) (S0 ++ [some (.lst ds)]) := x_lenL (by simp [seqOf])
theorem take_snoc : (S0 ++ T).take S0.length = S0 := by simp
/-- what a def gives back -/
theorem x_finE (hS : Sto.under S0.length S0 = true) : fin S0.length q (.loc S0.length) (S0 ++ [some (.lst ds)]) ↔ D.unders S0.length ds = true ∧ q (.lst ds) S0 := by
  unfold fin
  rw [take_snoc]
  simp [hS]
theorem x_finL (hS : Sto.under S0.length S0 = true) : fin S0.length q (.lst ds) (S0 ++ T) ↔ D.unders S0.length ds = true ∧ q (.lst ds) S0 := by
  unfold fin
  rw [take_snoc]
  simp [hS, D.under]
end
abbrev Pr := Int × Int
abbrev pD (p : Pr) : D := .tup [.int p.1, .int p.2]
abbrev pY (p : Pr) : PyData := .tuple [.int p.1, .int p.2]
theorem toPys_pr : ∀ P : List Pr, toPys (P.map pD) = some (P.map pY)
  | [] => by simp [toPys]
  | p :: P => by simp [toPys, toPy, toPys_pr P]
theorem toPy_pr (P : List Pr) : toPy (.lst (P.map pD)) = some (.list (P.map pY)) := by rw [toPy, toPys_pr]; rfl
theorem can_pr : ∀ P : List Pr, PyData.canLayAll0 (P.map pY) = true
  | [] => by simp [PyData.canLayAll0]
  | p :: P => by simp [PyData.canLayAll0, PyData.canLay0, can_pr P]
theorem dep_pr : ∀ P : List Pr, PyData.depthAll (P.map pY) ≤ 1
  | [] => by simp [PyData.depthAll]
  | p :: P => by
    have := dep_pr P
    simp [PyData.depthAll, PyData.depth]
    omega
theorem sh_pr (P : List Pr) : SeqAt.shaped (.list (P.map pY)) = true := by
  have := dep_pr P
  simp [SeqAt.shaped, PyData.canLay0, PyData.depth, can_pr]
  omega
theorem eqv_pr : ∀ P R : List Pr, PyData.eqvAll (P.map pY) (R.map pY) = decide (P = R)
  | [], [] => by simp [PyData.eqvAll]
  | [], m :: ms => by simp [PyData.eqvAll]
  | n :: ns, [] => by simp [PyData.eqvAll]
  | n :: ns, m :: ms => by
    obtain ⟨a, b⟩ := n
    obtain ⟨c, d⟩ := m
    simp only [List.map_cons, PyData.eqvAll, PyData.eqv, eqv_pr ns ms, List.cons.injEq, Prod.mk.injEq, Bool.and_true]
    rw [show (a == c) = decide (a = c) from rfl, show (b == d) = decide (b = d) from rfl, ← Bool.decide_and, ← Bool.decide_and]
section
variable {S S0 : Sto} {q : D → Sto → Prop} {P R : List Pr}
theorem x_nePr : aNe (.lst (P.map pD)) (.lst (R.map pD)) S q ↔ q (.bl (decide (P ≠ R))) S := by
  rw [x_ne (p := .list (P.map pY)) (p' := .list (R.map pY)) (show toPyS S (.lst (P.map pD)) = _ from toPy_pr P) (show toPyS S (.lst (R.map pD)) = _ from toPy_pr R)]
  simp only [sh_pr, true_and, PyData.eqv, eqv_pr, ← decide_not, ne_eq]
theorem x_eqPr : aEq (.lst (P.map pD)) (.lst (R.map pD)) S q ↔ q (.bl (decide (P = R))) S := by
  rw [x_eq (p := .list (P.map pY)) (p' := .list (R.map pY)) (show toPyS S (.lst (P.map pD)) = _ from toPy_pr P) (show toPyS S (.lst (R.map pD)) = _ from toPy_pr R)]
  simp only [sh_pr, true_and, PyData.eqv, eqv_pr]
theorem x_neE : aNe (.loc S0.length) (.lst []) (S0 ++ [some (.lst (P.map pD))]) q ↔ q (.bl (decide (P ≠ []))) (S0 ++ [some (.lst (P.map pD))]) := by
  rw [x_ne (p := .list (P.map pY)) (p' := .list (([] : List Pr).map pY)) (by simp [toPyS, toPys_pr]) (by simp [toPyS, toPy, toPys])]
  simp only [sh_pr, true_and, PyData.eqv, eqv_pr, ← decide_not, ne_eq]
/-- sorted pairs -/
def leP (p q : Pr) : Bool := decide (p.1 < q.1 ∨ (p.1 = q.1 ∧ p.2 ≤ q.2))
def sortP (P : List Pr) : List Pr := P.mergeSort leP
theorem x_sortedP {fz : Bool} (h : newL fz ((sortP P).map pD) S q) : aSorted fz (.lst (P.map pD)) S q := by
  refine ⟨P.map pD, P.map pY, rfl, rfl, toPys_pr P, PySem.W.AllAlike.of fun b b' => rfl, .inl fun d hd => ?_, fun p hp => ?_, ?_⟩
  · obtain ⟨p, _, rfl⟩ := List.mem_map.mp hd
    exact ⟨_, _, rfl⟩
  · obtain ⟨p, _, rfl⟩ := List.mem_map.mp hp
    exact (by decide : (1 : Nat) ≤ 60)
  · have e1 : (P.map pD).zip (P.map pY) = P.map fun p => (pD p, pY p) := by
      rw [List.zip_map']
    have e2 : (P.mergeSort leP).map (fun p => (pD p, pY p)) = (P.map fun p => (pD p, pY p)).mergeSort (PySem.W.dataLe false Prod.snd) := by
      refine ms_map (f := fun p : Pr => (pD p, pY p)) (r := leP) (s := PySem.W.dataLe false Prod.snd) (fun a b => ?_) P
      have := congrFun (congrFun (PySem.W.dataLe_ii (β := Pr) Prod.fst Prod.snd) a) b
      exact this.symm
    rw [e1, ← e2, List.map_map]
    exact h
end
/-- a comprehension over a list known as a map -/
theorem lc_on {A : Type} {F : A → D} (g1 : A → Option D) {L : List A} {S : Sto} {chk : Sto → Prop} {ρ : Env_} {t : Tgt} {gt : G Bool} {ge : G D} {vs : List Nat} {fz : Bool} {q : D → Sto → Prop} (hchk : chk S) (hlen : L.length ≤ sizeLine)
    (step : ∀ x ∈ L, ∀ (acc : List D) (R : List D → Sto → Prop), acc.length < sizeLine → R (acc ++ (g1 x).toList) S →
      ∃ ρ', t.bind (F x) (wipeD ρ vs) = some ρ' ∧ gt ρ' S fun b S2 => if b = true then ge ρ' S2 fun y S3 => acc.length < sizeLine ∧ R (acc ++ [y]) S3 else R acc S2)
    (h : newL fz (L.filterMap g1) S q) : aLc fz t gt ge vs ρ (L.map F) chk S q := by
  refine ⟨fun i acc S' => S' = S ∧ acc = (L.take i).filterMap g1, ⟨rfl, by simp⟩, ?_, ?_⟩
  · rintro i d acc S' hd ⟨rfl, rfl⟩
    rw [List.getElem?_map] at hd
    obtain ⟨x, hx, rfl⟩ := Option.map_eq_some_iff.mp hd
    have hi : i < L.length := (List.getElem?_eq_some_iff.mp hx).1
    have htake : L.take (i + 1) = L.take i ++ [x] := by rw [List.take_add_one, hx]; rfl
    refine ⟨hchk, step x (List.mem_of_getElem? hx) _ (fun acc S'' => S'' = S' ∧ acc = (L.take (i + 1)).filterMap g1) ?_ ⟨rfl, ?_⟩⟩
    · have := List.length_filterMap_le g1 (L.take i)
      rw [List.length_take] at this
      omega
    · rw [htake, List.filterMap_append, List.filterMap_cons]
      cases g1 x <;> simp
  · rintro acc S' ⟨rfl, rfl⟩
    rw [List.length_map, List.take_length]
    exact ⟨hchk, h⟩
theorem fm_some {A B : Type} {g : A → B} {L : List A} : L.filterMap (fun a => some (g a)) = L.map g := by rw [List.filterMap_eq_map']
theorem fm_none {A B : Type} {L : List A} : L.filterMap (fun _ : A => (none : Option B)) = [] := by simp
theorem fm_if {A B : Type} {g : A → B} {p : A → Prop} [DecidablePred p] : ∀ {L : List A}, L.filterMap (fun a => if p a then some (g a) else none) = (L.filter fun a => decide (p a)).map g
  | [] => rfl
  | a :: L => by
    rw [List.filterMap_cons, fm_if (L := L)]
    by_cases h : p a
    · rw [if_pos h, List.filter_cons_of_pos (by simpa using h)]; rfl
    · rw [if_neg h, List.filter_cons_of_neg (by simpa using h)]
theorem und_ob {n : Nat} {C : Addr} {ks : List Str} {f g : Pr → Int} : ∀ {P : List Pr}, D.unders n (P.map fun p => .obj C ks [.int (f p), .int (g p)]) = true
  | [] => rfl
  | p :: P => by
    rw [List.map_cons, D.unders, und_ob (P := P)]
    rfl
theorem x_b2 {ρ : Env_} {i j : Nat} {d e : D} : Tgt.bind (.tp [.nm i, .nm j]) (.tup [d, e]) ρ = some ((ρ.set i (some d)).set j (some e)) := by
  rw [x_btp, x_bc, x_bnm]
  show Tgt.binds [.nm j] [e] _ = _
  rw [x_bc, x_bnm]
  show Tgt.binds [] [] _ = _
  rw [x_bn]
theorem x_addLL {fz : Bool} {S : Sto} {q : D → Sto → Prop} {xs ys : List D} : aAdd fz (.lst xs) (.lst ys) S q ↔ xs.length + ys.length ≤ sizeLine ∧ newL fz (xs ++ ys) S q := by
  constructor
  · rintro ⟨_, _, e1, e2, h⟩; cases e1; cases e2; exact h
  · exact fun h => ⟨xs, ys, rfl, rfl, h⟩
end Dl
namespace Dl
open PySem L2 PyProof.Rows
theorem roomCaller {k : Nat} (h : Room k callerA) : RoomG k callerA := ⟨h, rfl⟩
end Dl
namespace Dl
open PySem L2
end Dl
namespace Dl
open PySem L2
def kget : List (Str × Str) → Str → D
  | [], _ => .non
  | p :: r, z => if z = p.1 then .str p.2 else kget r z
def aKGet (a : Addr) (kvs : List (Str × Str)) : D → RND := fun o as S q => ∃ z, o = .ref a ∧ as = [.str z] ∧ q (kget kvs z) S
def gKGet (a : Addr) (kvs : List (Str × Str)) (gs : G (List D)) : G D := fun ρ S q => gs ρ S fun as S1 => aKGet a kvs (.ref a) as S1 q
theorem x_kget {a : Addr} {kvs : List (Str × Str)} {z : Str} {S : Sto} {q : D → Sto → Prop} : aKGet a kvs (.ref a) [.str z] S q ↔ q (kget kvs z) S := ⟨fun ⟨_, _, e, h⟩ => by cases e; exact h, fun h => ⟨z, rfl, rfl, h⟩⟩
def aEqS : R2D := fun a b S q => ∃ x y, a = .str x ∧ b = .str y ∧ q (.bl (decide (x = y))) S
def aNeS : R2D := fun a b S q => ∃ x y, a = .str x ∧ b = .str y ∧ q (.bl (decide (x ≠ y))) S
theorem x_eqSS {x y : Str} {S : Sto} {q : D → Sto → Prop} : aEqS (.str x) (.str y) S q ↔ q (.bl (decide (x = y))) S := ⟨fun ⟨_, _, e1, e2, h⟩ => by cases e1; cases e2; exact h, fun h => ⟨_, _, rfl, rfl, h⟩⟩
theorem x_neSS {x y : Str} {S : Sto} {q : D → Sto → Prop} : aNeS (.str x) (.str y) S q ↔ q (.bl (decide (x ≠ y))) S := ⟨fun ⟨_, _, e1, e2, h⟩ => by cases e1; cases e2; exact h, fun h => ⟨_, _, rfl, rfl, h⟩⟩
end Dl
namespace Dl
open PySem L2 PyProof.Rows
def toKey : D → Option Key
  | .int i => some (.inl i)
  | .str x => some (.inr x)
  | _ => none
def kD : Key → D
  | .inl i => .int i
  | .inr x => .str x
/-- keys and values, one put -/
def kput (k : Key) (ks : List Key) : List Key := if (ks.any fun j => decide (j = k)) = true then ks else ks ++ [k]
def dput {A : Type} (k : Key) (y : A) (ks : List Key) (ds : List A) : List A := if (ks.any fun j => decide (j = k)) = true then List.zipWith (fun j d => if j = k then y else d) ks ds else ds ++ [y]
def dicOf (S : Sto) : D → Option (List Key × List D)
  | .dic ks ds => some (ks, ds)
  | .loc n => match S[n]? with
    | some (some (.dic ks ds)) => some (ks, ds)
    | _ => none
  | _ => none
section
variable {X : Cx} {pos p' : Pos} {U : Wi}
/-- {} -/
def gDNew (fz : Bool) : G D := fun _ S q => if fz = true then q (.dic [] []) S else q (.loc S.length) (S ++ [some (.dic [] [])])
/-- o[k] = v -/
def gDSet (go gi gv : G D) : GS := fun E ρ S => gv ρ S fun y S1 => go ρ S1 fun o S2 => gi ρ S2 fun x S3 => ∃ n ks ds k, o = .loc n ∧ S3[n]? = some (some (.dic ks ds)) ∧ toKey x = some k ∧ ks.length < sizeLine ∧ E.nx ρ (S3.set n (some (.dic (kput k ks) (dput k y ks ds))))
end
section
open PyProof.Rows
variable {X : Cx} {e : Expr} {te : TE} {p apos cpos pos : Pos} {U : Wi}
/-- sorted(o.items()) -/
def gSItems (go : G D) : G D := fun ρ S q => go ρ S fun o S1 => ∃ ks ds, dicOf S1 o = some (ks, ds) ∧ aSorted true (.lst (List.zipWith (fun k d => D.tup [kD k, d]) ks ds)) S1 q
theorem reps_sorted {K : PySem.W.Frag} {m : Nat → Addr} {N : Nat} {Hv : Hp} {ds : List D} {xs : List V} {ps : List PyData} (hr : Reps K m N Hv ds xs) (l2 : ps.length = ds.length) :
    Reps K m N Hv (((ds.zip ps).mergeSort (PySem.W.dataLe false Prod.snd)).map Prod.fst) (((xs.zip ps).mergeSort (PySem.W.dataLe false Prod.snd)).map Prod.fst) := by
  have l1 := Reps.len hr
  let ts : List ((D × V) × PyData) := (ds.zip xs).zip ps
  have m1 : ts.map (fun t => (t.1.1, t.2)) = ds.zip ps := by
    apply List.ext_getElem?
    intro i
    rw [List.getElem?_map]
    cases hx : ts[i]? with
    | none =>
      have : ts.length ≤ i := List.getElem?_eq_none_iff.mp hx
      have hlen : ts.length = ds.length := by show ((ds.zip xs).zip ps).length = _; simp; omega
      exact (List.getElem?_eq_none_iff.mpr (by simp; omega)).symm
    | some z =>
      obtain ⟨g1, g2, g3⟩ := zip3_get hx
      exact (List.getElem?_zip_eq_some (z := (z.1.1, z.2)).mpr ⟨g1, g3⟩).symm
  have m2 : ts.map (fun t => (t.1.2, t.2)) = xs.zip ps := by
    apply List.ext_getElem?
    intro i
    rw [List.getElem?_map]
    cases hx : ts[i]? with
    | none =>
      have : ts.length ≤ i := List.getElem?_eq_none_iff.mp hx
      have hlen : ts.length = ds.length := by show ((ds.zip xs).zip ps).length = _; simp; omega
      exact (List.getElem?_eq_none_iff.mpr (by simp; omega)).symm
    | some z =>
      obtain ⟨g1, g2, g3⟩ := zip3_get hx
      exact (List.getElem?_zip_eq_some (z := (z.1.2, z.2)).mpr ⟨g2, g3⟩).symm
  have s1 : (ts.mergeSort (PySem.W.dataLe false Prod.snd)).map (fun t => (t.1.1, t.2)) = (ds.zip ps).mergeSort (PySem.W.dataLe false Prod.snd) := by
    refine Eq.trans (ms_map (f := fun t : (D × V) × PyData => (t.1.1, t.2)) (r := PySem.W.dataLe false Prod.snd) (s := PySem.W.dataLe false Prod.snd) (fun a b => rfl) ts) ?_
    rw [m1]
  have s2 : (ts.mergeSort (PySem.W.dataLe false Prod.snd)).map (fun t => (t.1.2, t.2)) = (xs.zip ps).mergeSort (PySem.W.dataLe false Prod.snd) := by
    refine Eq.trans (ms_map (f := fun t : (D × V) × PyData => (t.1.2, t.2)) (r := PySem.W.dataLe false Prod.snd) (s := PySem.W.dataLe false Prod.snd) (fun a b => rfl) ts) ?_
    rw [m2]
  rw [← s1, ← s2, List.map_map, List.map_map]
  refine reps_all fun t ht => ?_
  have ht' : t ∈ ts := (List.mergeSort_perm ts _).mem_iff.mp ht
  obtain ⟨i, hi⟩ := List.getElem?_of_mem ht'
  obtain ⟨g1, g2, g3⟩ := zip3_get hi
  obtain ⟨v', hv', rv'⟩ := Reps.get hr g1
  rw [g2] at hv'
  cases hv'
  exact rv'
end
/-- max(xs, default=d), min(..) -/
def aMMDef (b : Bool) : D → D → Sto → (D → Sto → Prop) → Prop := fun o d S q => ∃ ds ps, seqOf S o = some ds ∧ o.isTup = false ∧ toPys ds = some ps ∧ PySem.W.AlikeAll ps ∧ PyData.depthAll ps ≤ 60 ∧ (ds = [] → q d S) ∧
  ∀ (y : PyData) (ys : List PyData) (i : Nat) (x : D), ps = y :: ys → ds[i]? = some x → ps[i]? = some (if b = true then PySem.W.maxD y ys else PySem.W.minD y ys) → q x S
def gMMDef (b : Bool) (ga gk : G (List D)) : G D := fun ρ S q => ga ρ S fun as S1 => gk ρ S1 fun ks S2 => ∃ o d, as = [o] ∧ ks = [d] ∧ aMMDef b o d S2 q
def gAsgL (ts : List Tgt) (ge : G D) : GS := fun E ρ S => ge ρ S fun d S1 => ∃ ds ρ', seqOf S1 d = some ds ∧ d.isTup = false ∧ Tgt.binds ts ds ρ = some ρ' ∧ E.nx ρ' S1
section
variable {X : Cx} {ρ : Env_} {S : Sto} {q : D → Sto → Prop}
theorem x_dnT : gDNew true ρ S q ↔ q (.dic [] []) S := by simp [gDNew]
theorem x_dnF : gDNew false ρ S q ↔ q (.loc S.length) (S ++ [some (.dic [] [])]) := by simp [gDNew]
end
end Dl
namespace Dl
open PySem L2
end Dl
namespace Dl
open PySem L2
end Dl
namespace Dl
open PySem L2 PySem.Spec PyProof.Rows
def rNil (neg : Bool) : R2 := fun x y H Q => ∃ (a b : Addr) (vs : List V), x = .ref a ∧ y = .ref b ∧ H a = some (.lst vs) ∧ H b = some (.lst []) ∧ Q (.bl (xor neg vs.isEmpty)) H
theorem or_eqNil {X : Cx} {k : Nat} (hr : RoomG k X.A) : OpR X (compareOp .Eq) (rNil false) := by
  intro pins s σ H x y v u Q I rx ry ⟨a, b, vs, ex, ey, h1, h2, q⟩
  subst ex ey
  cases rx
  cases ry
  show wpAny (model X.prog X.w) X.A (richCompare .Eq (.ref a) (.ref b)) (EP X pins σ Q) X.xe s
  obtain ⟨z1, its, n, rv, ra, hla⟩ := I.lstM h1
  obtain ⟨z2, its2, n2, rv2, rb, hlb⟩ := I.lstM h2
  cases rv2
  cases vs with
  | nil =>
    cases rv
    exact GB.rc_eqB (N := 0) (rs := fun _ => true) (out := true) hr.units0 (fun _ => rfl) (fun j hj => by omega) (fun _ s' => s' = s) (fun i s' e => by subst e; exact ⟨#[], #[], n, n2, hla, hlb, rfl, rfl, fun h => by simp at h⟩) (fun _ s' e => by subst e; exact ⟨.bl true, H, I, rfl, q⟩) rfl
  | cons w vs =>
    refine GB.rc_eqD hr.units0 hla hlb ?_ ⟨.bl false, H, I, rfl, q⟩
    rw [List.size_toArray, ← rv.length]; simp
theorem or_neNil {X : Cx} {k : Nat} (hr : RoomG k X.A) : OpR X (compareOp .NotEq) (rNil true) := by
  intro pins s σ H x y v u Q I rx ry ⟨a, b, vs, ex, ey, h1, h2, q⟩
  subst ex ey
  cases rx
  cases ry
  show wpAny (model X.prog X.w) X.A (richCompare .NotEq (.ref a) (.ref b)) (EP X pins σ Q) X.xe s
  obtain ⟨z1, its, n, rv, ra, hla⟩ := I.lstM h1
  obtain ⟨z2, its2, n2, rv2, rb, hlb⟩ := I.lstM h2
  cases rv2
  cases vs with
  | nil =>
    cases rv
    exact GB.rc_neB (N := 0) (rs := fun _ => true) (out := false) hr.units0 (fun _ => rfl) (fun j hj => by omega) (fun _ s' => s' = s) (fun i s' e => by subst e; exact ⟨#[], #[], n, n2, hla, hlb, rfl, rfl, fun h => by simp at h⟩) (fun _ s' e => by subst e; exact ⟨.bl false, H, I, rfl, q⟩) rfl
  | cons w vs =>
    refine GB.rc_neD hr.units0 hla hlb ?_ ⟨.bl true, H, I, rfl, q⟩
    rw [List.size_toArray, ← rv.length]; simp
def aNil (neg : Bool) : R2D := fun x y S q => ∃ ds, lstOf S x = some ds ∧ y = .lst [] ∧ q (.bl (xor neg ds.isEmpty)) S
theorem vr_nil {K : PySem.W.Frag} {neg : Bool} : VR2 K (rNil neg) (aNil neg) := fun {_ m S Z H a b v u q Q} w r1 r2 ⟨ds, h1, h2, h3⟩ kk => by
  subst h2
  obtain ⟨a1, vs, e1, hh1, q1⟩ := lstOf_rep w r1 h1
  obtain ⟨b1, us, e2, hh2, q2⟩ := lstOf_rep w r2 rfl
  rw [Reps] at q2
  subst q2
  refine ⟨a1, b1, vs, e1, e2, hh1, hh2, kk.now w ?_ h3⟩
  have : vs.isEmpty = ds.isEmpty := by
    have := Reps.len q1
    cases vs <;> cases ds <;> simp at this ⊢
  rw [this]
  exact rep_bl
section
variable {S : Sto} {q : D → Sto → Prop} {ds : List D}
theorem x_nilL {neg : Bool} : aNil neg (.lst ds) (.lst []) S q ↔ q (.bl (xor neg ds.isEmpty)) S := ⟨fun ⟨_, e, _, h⟩ => by cases e; exact h, fun h => ⟨ds, rfl, rfl, h⟩⟩
theorem x_nilE {neg : Bool} : aNil neg (.loc S.length) (.lst []) (S ++ [some (.lst ds)]) q ↔ q (.bl (xor neg ds.isEmpty)) (S ++ [some (.lst ds)]) := by
  have e0 : lstOf (S ++ [some (.lst ds)]) (.loc S.length) = some ds := by simp [lstOf]
  exact ⟨fun ⟨_, e, _, h⟩ => by rw [e0] at e; cases e; exact h, fun h => ⟨ds, e0, rfl, h⟩⟩
end
end Dl
namespace Dl
open PySem L2 PySem.SeqAt PyProof.Rows PySem.Spec
/-- things in a list or a tuple -/
def inP (p : PyData) (ps : List PyData) : Bool := ps.any fun z => PyData.eqv z p
def hasT (x y : Str) : Bool := !(Builtin.Str.occurrences y x 0 y.length 1).isEmpty
def aInX (neg : Bool) : R2D := fun a b S q => (∃ (c : Nat) (z : Str), a = .str ⟨#[c]⟩ ∧ b = .str z ∧ q (.bl (neg ^^ decide (c ∈ z.cps.toList))) S) ∨ (∃ x y, a = .str x ∧ b = .str y ∧ x.length ≠ 1 ∧ q (.bl (neg ^^ hasT x y)) S) ∨
  ∃ p ps, toPyS S a = some p ∧ (toPyS S b = some (.list ps) ∨ toPyS S b = some (.tuple ps)) ∧ SeqAt.shaped p = true ∧ SeqAt.shaped (.list ps) = true ∧ q (.bl (neg ^^ inP p ps)) S
section
variable {S : Sto} {q : D → Sto → Prop} {neg : Bool}
/-- a sign in a text -/
theorem x_inX1 {c : Nat} {y : Str} (h : q (.bl (neg ^^ decide (c ∈ y.cps.toList))) S) : aInX neg (.str ⟨#[c]⟩) (.str y) S q := .inl ⟨c, y, rfl, rfl, h⟩
theorem x_inXs {c : Nat} {y : Str} : aInX neg (.str ⟨#[c]⟩) (.str y) S q ↔ q (.bl (neg ^^ decide (c ∈ y.cps.toList))) S := by
  constructor
  · rintro (⟨c', z, e1, e2, h⟩ | ⟨x, y, e1, e2, hl, h⟩ | ⟨p, ps, h1, h2 | h2, _⟩)
    · cases e1; cases e2; exact h
    · cases e1; exact absurd rfl hl
    · simp [toPyS, toPy] at h2
    · simp [toPyS, toPy] at h2
  · exact x_inX1
end
end Dl
namespace PySem
namespace HandSPX
open Builtin Builtin.ObjectAttr
end HandSPX
end PySem
namespace Dl
open PySem L2 PyProof.Rows
end Dl
namespace Dl
open PySem L2 PyProof.Rows
section
variable {X : Cx} {C : Addr} {x qual : Str} {st : Stmt} {ps flds : List Str} {p pos pos2 : Pos} {es : List Expr} {n : Nat} {src : List Src} {ga : GA}
/-- raise C(..): by data, the fields the last one first -/
def gRaise (WD : XW) (C : Addr) (flds : List Str) (n : Nat) (src : List Src) (ga : GA) : GS := fun E ρ S => ga ρ S fun as zs S1 => as.length = n ∧ zs.length = 0 ∧ as.length ≤ 1000 ∧ ∃ ds, (∀ s : D, gat src (s :: as) [] [] = s :: ds) ∧ ds.length = flds.length ∧ WD (.own C) flds.reverse ds.reverse ρ S1
end
end Dl
namespace Dl
open PySem L2 PyProof.Rows
abbrev XE_ := XC → List Str → List D → Sto → Prop
/-- a promise: the arguments, the store, what is wanted of the answer, of an exception -/
abbrev XSp := List D → Sto → (D → Sto → Prop) → XE_ → Prop
def gCallX (WD : XW) (n nk : Nat) (src : List Src) (dds : List D) (dsp : XSp) (ga : GA) : G D := fun ρ S q => ga ρ S fun as ks S1 => as.length = n ∧ ks.length = nk ∧ dsp (gat src as dds ks) S1 q fun c fs ds S2 => WD c fs ds ρ S2
def gMethX (WD : XW) (C : Addr) (m : Str) (n nk : Nat) (src : List Src) (dds : List D) (dsp : XSp) (go : G D) (ga : GA) : G D := fun ρ S q => go ρ S fun o S1 => ∃ ks ds, objOf S1 o = some (C, ks, ds) ∧ ks.contains m = false ∧
  ga ρ S1 fun as zs S2 => as.length = n ∧ zs.length = nk ∧ dsp (gat src (o :: as) dds zs) S2 q fun c fs ds S3 => WD c fs ds ρ S3
/-- C(..), its __init__ may raise; the new instance given up at once -/
def gMakeX (WD : XW) (C : Addr) (n nk : Nat) (src : List Src) (dds : List D) (dsp : XSp) (ga : GA) : G D := fun ρ S q => ga ρ S fun as zs S1 => as.length = n ∧ zs.length = nk ∧ (D.unders S1.length as = true → D.unders S1.length zs = true →
  dsp (gat src (.loc S1.length :: as) dds zs) (S1 ++ [some (.obj C [] [])]) (fun v S2 => v = .non ∧ ∃ ks ds, S2 = S1 ++ [some (.obj C ks ds)] ∧ D.unders S1.length ds = true ∧ q (.obj C ks ds) S1) fun c fs ds S2 => WD c fs ds ρ S2)
end Dl
namespace Dl
open PySem L2 PyProof.Rows
/-- which class a clause takes -/
structure Exm (K : PySem.W.Frag) (cc : Value) (c : XC) (b : Bool) : Prop where
  is : PySem.W.exmOne K c.val cc = some b
/-- try: gb / except cc as i: gs -/
def gTryAs (K : PySem.W.Frag) (WD : XW) (cc : Value) (i : Nat) (gb : XW → GS) (gs : GS) : GS := fun E ρ S =>
  gb (fun c fs ds ρ' S' => ∃ b, Exm K cc c b ∧ (b = true → gs { nx := fun ρ'' S'' => E.nx (ρ''.set i none) S'', rt := E.rt, bk := fun ρ'' S'' => E.bk (ρ''.set i none) S'', ct := fun ρ'' S'' => E.ct (ρ''.set i none) S'' } (ρ'.set i (some (.exc c fs ds))) S') ∧ (b = false → WD c fs ds ρ' S')) E ρ S
/-- try: gb / except cc: gs -/
def gTryO (K : PySem.W.Frag) (WD : XW) (cc : Value) (gb : XW → GS) (gs : GS) : GS := fun E ρ S =>
  gb (fun c fs ds ρ' S' => ∃ b, Exm K cc c b ∧ (b = true → gs E ρ' S') ∧ (b = false → WD c fs ds ρ' S')) E ρ S
/-- what an exception's class must bear so that its instances are looked at -/
structure XLk (K : PySem.W.Frag) (C : Addr) : Prop where
  ga : PySem.W.findIn K (.ref C) "__getattribute__" = some (some (.builtin "BaseException.__getattribute__"))
  gg : PySem.W.findIn K (.ref C) "__getattr__" = some none
  exC : PySem.W.subIn K (.ref C) (.type "BaseException") = some true
  hdC : PySem.W.hasDictIn K C = true
  ha : PySem.W.findIn K (.ref C) "__class__" = some (some (.builtin "object.__class__"))
  hn : PySem.W.specialIn K (.builtin "object.__class__") "__get__" = some (some (.builtin "getset_descriptor.__get__"))
  ht : PySem.W.takesIn K (.builtin "object.__class__") = some true
  hm : PySem.W.mroIn K C (.type "object") = some true
structure XFd (K : PySem.W.Frag) (C : Addr) (f : Str) : Prop where
  lk : XLk K C
  no : PySem.W.findIn K (.ref C) f = some none
def gFldX (K : PySem.W.Frag) (f : Str) (go : G D) : G D := fun ρ S q => go ρ S fun o S1 => ∃ C ks ds d, o = .exc (.own C) ks ds ∧ XFd K C f ∧ fget f ks ds = some d ∧ q d S1
end Dl
namespace Dl
open PySem L2 PyProof.Rows
end Dl
namespace Dl
open PySem L2
def truD : D → Option Bool
  | .non => some false
  | .bl b => some b
  | .int i => some (i != 0)
  | .str x => if x.length ≤ sizeLine then some ((x.length : Int) != 0) else none
  | _ => none
def gOrT (ga gb : G D) : G D := fun ρ S q => ga ρ S fun d S1 => ∃ k, truD d = some k ∧ if k = true then q d S1 else gb ρ S1 q
def gAndT (ga gb : G D) : G D := fun ρ S q => ga ρ S fun d S1 => ∃ k, truD d = some k ∧ if k = true then gb ρ S1 q else q d S1
end Dl
namespace Dl
open PySem L2
def truS (S : Sto) : D → Option Bool
  | .tup ds => some (!ds.isEmpty)
  | .lst ds => some (!ds.isEmpty)
  | .ksq ds => some (!ds.isEmpty)
  | .dic ks _ => some (!ks.isEmpty)
  | .loc n => match S[n]? with
    | some (some (.lst ds)) => some (!ds.isEmpty)
    | some (some (.dic ks _)) => some (!ks.isEmpty)
    | _ => none
  | d => truD d
def gOrS (ga gb : G D) : G D := fun ρ S q => ga ρ S fun d S1 => ∃ k, truS S1 d = some k ∧ if k = true then q d S1 else gb ρ S1 q
end Dl
namespace Dl
open PySem L2 PySem.Calls PySem.Spec PyProof.Rows
open PySem.SeqAt
open AutoSeq1 (wpAny_loadPart')
open MeetsSeq
/-- facts of a class whose == is own, against the built-in kinds -/
structure EqC0 (K : PySem.W.Frag) (C : Addr) : Prop where
  nf : ∀ t ∈ "NoneType" :: basicT, PySem.W.subIn K (.type t) (.ref C) = some false
  nb : ∀ t ∈ "NoneType" :: basicT, PySem.W.subIn K (.ref C) (.type t) = some false
theorem int_dec_b (b : Bool) (l C dx : Addr) : Meets (Builtin.«int.__eq__» ⟨[.bool b, .ref l], []⟩) (fun _ R s => s.heap.get? l = some (PySem.W.instObj C dx) ∧ R (.ok (.ret .notImplemented)) s) :=
  .of_wp fun prog w A R s h => by obtain ⟨hp, g, d, tk, os⟩ := s; obtain ⟨hl, h⟩ := h; unfold PySem.W.instObj at hl; wp_walk using wpAny_loadPart' hl, wpAny_load hl; exact ⟨_, rfl, h⟩
theorem int_dec_i (b : Int) (u : Tok) (l C dx : Addr) : Meets (Builtin.«int.__eq__» ⟨[.int b u, .ref l], []⟩) (fun _ R s => s.heap.get? l = some (PySem.W.instObj C dx) ∧ R (.ok (.ret .notImplemented)) s) :=
  .of_wp fun prog w A R s h => by obtain ⟨hp, g, d, tk, os⟩ := s; obtain ⟨hl, h⟩ := h; unfold PySem.W.instObj at hl; wp_walk using wpAny_loadPart' hl, wpAny_load hl; exact ⟨_, rfl, h⟩
theorem str_dec (b : Str) (u : Tok) (l C dx : Addr) : Meets (Builtin.«str.__eq__» ⟨[.str b u, .ref l], []⟩) (fun _ R s => s.heap.get? l = some (PySem.W.instObj C dx) ∧ R (.ok (.ret .notImplemented)) s) :=
  .of_wp fun prog w A R s h => by obtain ⟨hp, g, d, tk, os⟩ := s; obtain ⟨hl, h⟩ := h; unfold PySem.W.instObj at hl; wp_walk using wpAny_loadPart' hl, wpAny_load hl; exact ⟨_, rfl, h⟩
section
variable {prog : Program} {w : World} {A : Around} {E : Value → Shared → Prop} {s : Shared} {K : PySem.W.Frag}
theorem list_dec {a b C dx : Addr} {its : Array Value} {n : Nat} {R : Result → Shared → Prop} (hl : s.heap.get? a = some { cls := .type "list", data := .seq its n }) (hb : s.heap.get? b = some (PySem.W.instObj C dx)) (X : K.In s.heap) (hm : PySem.W.subIn K (.ref C) (.type "list") = some false)
    (h : R (.ok (.ret .notImplemented)) s) :
    wpAny (model prog w) A.in1 (Builtin.«list.__eq__» ⟨[.ref a, .ref b], []⟩) (GQ.FinOf prog w A R) (fun e s' => R (.error e) s') s := by
  obtain ⟨hp, g, d, tk, os⟩ := s
  have L := PySem.W.looks_subIn (M := model prog w) X hm
  unfold PySem.W.instObj at hb
  wp_walk using wpAny_loadPart' hl, wpAny_loadPart' hb, wpAny_load hb
  refine L.here ?_
  wp_walk
  exact h
theorem tup_dec {a b C dx : Addr} {its : Array Value} {n : Nat} {dd : Option Addr} {sl : Array (Option Value)} {R : Result → Shared → Prop} (hl : s.heap.get? a = some { cls := .type "tuple", dict := dd, data := .seq its n, slots := sl }) (hb : s.heap.get? b = some (PySem.W.instObj C dx)) (X : K.In s.heap) (hm : PySem.W.subIn K (.ref C) (.type "tuple") = some false)
    (h : R (.ok (.ret .notImplemented)) s) :
    wpAny (model prog w) A.in1 (Builtin.«tuple.__eq__» ⟨[.ref a, .ref b], []⟩) (GQ.FinOf prog w A R) (fun e s' => R (.error e) s') s := by
  obtain ⟨hp, g, d, tk, os⟩ := s
  have L := PySem.W.looks_subIn (M := model prog w) X hm
  unfold PySem.W.instObj at hb
  wp_walk using wpAny_loadPart' hl, wpAny_loadPart' hb, wpAny_load hb
  refine L.here ?_
  wp_walk
  exact h
theorem dict_dec {a b C dx : Addr} {o : Obj} {es : Array DictEntry} {n : Nat} {R : Result → Shared → Prop} (hl : s.heap.get? a = some o) (hc : o.cls = .type "dict") (hd : o.data = .dict es n) (hb : s.heap.get? b = some (PySem.W.instObj C dx)) (X : K.In s.heap) (hm : PySem.W.subIn K (.ref C) (.type "dict") = some false)
    (h : R (.ok (.ret .notImplemented)) s) :
    wpAny (model prog w) A.in1 (Builtin.«dict.__eq__» ⟨[.ref a, .ref b], []⟩) (GQ.FinOf prog w A R) (fun e s' => R (.error e) s') s := by
  obtain ⟨hp, g, d, tk, os⟩ := s
  obtain ⟨oc, od, ot, osl⟩ := o
  simp only at hc hd
  subst hc hd
  have L := PySem.W.looks_subIn (M := model prog w) X hm
  unfold PySem.W.instObj at hb
  wp_walk using wpAny_loadPart' hl, wpAny_load hl, wpAny_loadPart' hb, wpAny_load hb
  refine L.here ?_
  wp_walk
  exact h
end
section
variable {X : Cx} {pins : List (Addr × Obj)} {σ : L2.St} {H : Hp} {s : Shared}
inductive BV (K : PySem.W.Frag) (H : Hp) : V → String → Prop where
  | non : BV K H .non "NoneType"
  | bl {b : Bool} : BV K H (.bl b) "bool"
  | int {i : Int} : BV K H (.int i) "int"
  | str {x : Str} : BV K H (.str x) "str"
  | lst {a : Addr} {vs : List V} (h : H a = some (.lst vs)) : BV K H (.ref a) "list"
  | dK {a : Addr} {kvs : List (Key × V)} (h : H a = some (.dK kvs)) : BV K H (.ref a) "dict"
  | tup {a : Addr} {vs : List V} (h : SqT K H a vs) : BV K H (.ref a) "tuple"
theorem BV.mem {K : PySem.W.Frag} {x : V} {t : String} (b : BV K H x t) : t ∈ "NoneType" :: basicT := by
  cases b <;> decide
theorem decl_own {A : Around} {E : Value → Shared → Prop} {x : V} {t : String} {u : Value} {b C dx : Addr} {fs : List (Str × V)} (I : L2.Inv X pins σ H s) (bv : BV X.K H x t) (rx : RelV x u) (hb : H b = some (.ins C dx fs)) (f : EqC0 X.K C) :
    s.TypeIs u t ∧ u ≠ .ref b ∧ ∃ id, Slot t (cmpInfo .Eq).2.1 id ∧ ∀ (Q' : Value → Shared → Prop), Q' .notImplemented s → wpAny (model X.prog X.w) A (call (.builtin id) [u, .ref b]) Q' E s := by
  obtain ⟨mA, J, _⟩ := ins_get I.hok hb
  have jb := J.obj
  cases bv with
  | non => cases rx; exact ⟨rfl, (fun z => nomatch z), _, F.slot_NoneType_eq, fun Q' h => call_gives F.slot_NoneType_eq rfl F.entry_NoneType_eq (F.args_NoneType_eq_2 _ _) (NoneType___eq___none_ref_0 b) h⟩
  | bl => cases rx; exact ⟨rfl, (fun z => nomatch z), _, F.slot_bool_eq, fun Q' h => call_meets F.slot_bool_eq rfl F.entry_int_eq (F.args_int_eq_2 _ _) (int_dec_b _ b C dx) ⟨jb, h⟩⟩
  | int => obtain ⟨t, rfl⟩ := rx; exact ⟨rfl, (fun z => nomatch z), _, F.slot_int_eq, fun Q' h => call_meets F.slot_int_eq rfl F.entry_int_eq (F.args_int_eq_2 _ _) (int_dec_i _ t b C dx) ⟨jb, h⟩⟩
  | str => obtain ⟨t, rfl⟩ := rx; exact ⟨rfl, (fun z => nomatch z), _, F.slot_str_eq, fun Q' h => call_meets F.slot_str_eq rfl F.entry_str_eq (F.args_str_eq_2 _ _) (str_dec _ t b C dx) ⟨jb, h⟩⟩
  | @lst a vs ha =>
    cases rx
    obtain ⟨_, its, n, _, _, hl⟩ := I.lstM ha
    refine ⟨⟨_, hl, rfl⟩, fun z => ?_, _, F.slot_list_eq, fun Q' h => GQ.call_here F.slot_list_eq ⟨_, hl, rfl⟩ F.entry_list_eq (F.args_list_eq_2 _ _) (list_dec (K := X.K) (C := C) (dx := dx) hl jb I.kIn (f.nb "list" (by decide)) h)⟩
    cases z; rw [ha] at hb; cases hb
  | @dK a kvs ha =>
    cases rx
    obtain ⟨_, _, vs, _, o, es, ep, h1, h2, h3, _⟩ := (show ObjOk X.prog X.w H s.heap a (.dK kvs) from I.hok a _ ha)
    refine ⟨⟨_, h1, h2.1⟩, fun z => ?_, _, F.slot_dict_eq, fun Q' h => GQ.call_here F.slot_dict_eq ⟨_, h1, h2.1⟩ F.entry_dict_eq (F.args_dict_eq_2 _ _) (dict_dec (K := X.K) (C := C) (dx := dx) h1 h2.1 h3 jb I.kIn (f.nb "dict" (by decide)) h)⟩
    cases z; rw [ha] at hb; cases hb
  | @tup a vs ha =>
    cases rx
    obtain ⟨its, _, hT, _⟩ := I.tuple ha
    obtain ⟨o, ho, hc, n, hd⟩ := hT
    obtain ⟨oc, od, ot, osl⟩ := o
    simp only at hc hd
    subst hc hd
    refine ⟨⟨_, ho, rfl⟩, fun z => ?_, _, F.slot_tuple_eq, fun Q' h => GQ.call_here F.slot_tuple_eq ⟨_, ho, rfl⟩ F.entry_tuple_eq (F.args_tuple_eq_2 _ _) (tup_dec (K := X.K) (C := C) (dx := dx) ho jb I.kIn (f.nb "tuple" (by decide)) h)⟩
    cases z; rw [ho] at jb; cases jb
end
section
variable {prog : Program} {w : World} {A : Around} {E : Value → Shared → Prop} {s : Shared} {K : PySem.W.Frag}
/-- a built-in kind on the left, an own instance on the right -/
theorem rich_rev {u : Value} {t id : String} {b C f : Addr} {ob : Obj} {od : Option Obj} {Q : Value → Shared → Prop} (hu : A.units < cLine) (X : K.In s.heap) (ha : s.TypeIs u t) (J : PySem.W.InstAt s.heap b ob C od) (hsub : PySem.W.subIn K (.ref C) (.type t) = some false)
    (slot : Slot t (cmpInfo .Eq).2.1 id) (dec : ∀ Q' : Value → Shared → Prop, Q' .notImplemented s → wpAny (model prog w) A (call (.builtin id) [u, .ref b]) Q' E s)
    (hs : PySem.W.findIn K (.ref C) "__eq__" = some (some (.ref f))) (hf : PySem.W.isFn K (.ref f) = true)
    (hcall : wpAny (model prog w) A (call (.ref f) [.ref b, u]) (fun v s' => ∃ k, v = .bool k ∧ Q (.bool k) s') E s) : wpAny (model prog w) A (richCompare .Eq u (.ref b)) Q E s := by
  unfold richCompare
  simp only [ha.oneThing_none]
  refine wpAny_holding (wpAny_bind (wpAny_cRoomFor hu ?_))
  refine wpAny_bind (wpAny_typeOf ha (wpAny_bind (J.type.here ?_)))
  have hne : (Value.type t != Value.ref C) = true := by simp
  simp only [hne, if_true]
  refine wpAny_bind ((PySem.W.looks_subIn X hsub).here ?_)
  simp only [Bool.false_eq_true, if_false, Bool.not_false, if_true]
  refine wpAny_bind (m := tryCompare u _ (.ref b)) (wpAny_tryCompare_declines ha slot (dec _ ⟨rfl, ?_⟩))
  refine wpAny_bind (m := tryCompare (.ref b) _ u) ?_
  unfold tryCompare
  refine wpAny_bind (PySem.W.ifBound_K X J hs hf (wpAny_mono hcall (fun v s' hv => ?_) fun _ _ e => e))
  obtain ⟨k, rfl, hq⟩ := hv
  exact wpAny_pure (wpAny_pure hq)
end
def D.bk : D → Option String
  | .non => some "NoneType"
  | .bl _ => some "bool"
  | .int _ => some "int"
  | .str _ => some "str"
  | .tup _ => some "tuple"
  | .lst _ => some "list"
  | .dic _ _ => some "dict"
  | _ => none
def D.fv : D → V
  | .bl b => .bl b
  | .int i => .int i
  | .str x => .str x
  | _ => .non
structure EqE where
  C : Addr
  k : Nat
  dsp : DSp
structure EqOk (X : Cx) (c : EqE) : Prop where
  z : EqC0 X.K c.C
  n : NoNe X.K c.C
  f : ∃ (qual : Str) (st : Stmt) (dvs : List V) (ps : List Str), MFn X.prog X.w X.K X.mg X.base c.C "__eq__" qual st dvs c.k ps c.dsp ∧ Bnd "__eq__" qual st ps 2 [] [.p 0, .p 1] dvs.length
def EqsOk (X : Cx) (cs : List EqE) : Prop := ∀ c ∈ cs, EqOk X c
theorem eqs_nil {X : Cx} : EqsOk X [] := fun c h => by cases h
theorem eqs_cons {X : Cx} {c : EqE} {cs : List EqE} (h : EqOk X c) (hs : EqsOk X cs) : EqsOk X (c :: cs) := fun d hd => by
  rcases List.mem_cons.mp hd with rfl | hd
  · exact h
  · exact hs d hd
/-- what may stand at the right of an own instance of C -/
def SideK (K : PySem.W.Frag) (C : Addr) (e : D) : Prop := (∃ t, e.bk = some t) ∨ ∃ C' ks xs, e = .obj C' ks xs ∧ (C' = C ∨ PySem.W.subIn K (.ref C') (.ref C) = some false)
def Say (dsp : DSp) (d e : D) (r : Bool) : Prop := ∀ S', dsp [d, e] S' fun u S'' => u = .bl r ∧ S'' = S'
def NotSame (d e : D) : Prop := ∀ (K : PySem.W.Frag) (m : Nat → Addr) (N : Nat) (Hv : Hp) (v : V), (∀ a vs us, SqT K Hv a vs → SqT K Hv a us → vs = us) → Rep K m N Hv d v → Rep K m N Hv e v → False
inductive EqJ (K : PySem.W.Frag) (cs : List EqE) : Nat → D → D → Bool → Prop where
  | flat {n : Nat} {d e : D} {r : Bool} (hd : d.flat = true) (he : e.flat = true) (h : eqV d.fv e.fv = r) : EqJ K cs n d e r
  | own {n : Nat} {c : EqE} {ks : List Str} {xs : List D} {e : D} {r : Bool} (hc : c ∈ cs) (hk : c.k ≤ n) (he : SideK K c.C e) (say : Say c.dsp (.obj c.C ks xs) e r) (same : r = true ∨ (∃ t, e.bk = some t) ∨ NotSame (.obj c.C ks xs) e) : EqJ K cs n (.obj c.C ks xs) e r
  | rev {n : Nat} {c : EqE} {ks : List Str} {xs : List D} {d : D} {t : String} {r : Bool} (hc : c ∈ cs) (hk : c.k ≤ n) (hd : d.bk = some t) (say : Say c.dsp (.obj c.C ks xs) d r) : EqJ K cs n d (.obj c.C ks xs) r
  | tup {n : Nat} {ds es : List D} (rs : Nat → Bool) (hl : ds.length = es.length) (h : ∀ i d e, ds[i]? = some d → es[i]? = some e → EqJ K cs n d e (rs i)) : EqJ K cs (n + 1) (.tup ds) (.tup es) ((List.range ds.length).all rs)
  | tupN {n : Nat} {ds es : List D} (rs : Nat → Bool) (hl : ds.length ≠ es.length) (h : ∀ i d e, ds[i]? = some d → es[i]? = some e → EqJ K cs n d e (rs i)) : EqJ K cs (n + 1) (.tup ds) (.tup es) false
  | lst {n : Nat} {ds es : List D} (rs : Nat → Bool) (hl : ds.length = es.length) (h : ∀ i d e, ds[i]? = some d → es[i]? = some e → EqJ K cs n d e (rs i)) : EqJ K cs (n + 1) (.lst ds) (.lst es) ((List.range ds.length).all rs)
  | lstN {n : Nat} {ds es : List D} (hl : ds.length ≠ es.length) : EqJ K cs n (.lst ds) (.lst es) false
theorem bv_ins {X : Cx} {pins : List (Addr × Obj)} {σ : L2.St} {H : Hp} {s : Shared} {a C dx : Addr} {fs : List (Str × V)} {t : String} (I : L2.Inv X pins σ H s) (b : BV X.K H (.ref a) t) (h : H a = some (.ins C dx fs)) : False := by
  obtain ⟨mA, J, _⟩ := ins_get I.hok h
  have jb := J.obj
  cases b with
  | lst ha => rw [ha] at h; cases h
  | dK ha => rw [ha] at h; cases h
  | tup ha =>
    obtain ⟨its, _, ⟨o, ho, hc, n, hd⟩, _⟩ := I.tuple ha
    rw [jb] at ho
    cases ho
    cases hc
theorem flat_fv {K : PySem.W.Frag} {m : Nat → Addr} {N : Nat} {Hv : Hp} {d : D} {v : V} (h : d.flat = true) (r : Rep K m N Hv d v) : v = d.fv ∧ flatV v = true := by
  cases d <;> first | (cases h; done) | (rw [Rep] at r; subst r; exact ⟨rfl, rfl⟩)
theorem bk_bv {K : PySem.W.Frag} {m : Nat → Addr} {S : Sto} {Z : Addr → Prop} {H : Hp} {d : D} {v : V} {t : String} (h : d.bk = some t) (r : Rep K m S.length (vis m S Z H) d v) : BV K H v t := by
  cases d <;> first | (cases h; done) | skip
  · cases h; rw [Rep] at r; subst r; exact .non
  · cases h; rw [Rep] at r; subst r; exact .bl
  · cases h; rw [Rep] at r; subst r; exact .int
  · cases h; rw [Rep] at r; subst r; exact .str
  · cases h; rw [Rep] at r; obtain ⟨a, vs, rfl, h1, _⟩ := r; exact .tup (SqT.sub (fun a o z => vis_sub z) h1)
  · cases h; rw [Rep] at r; obtain ⟨a, vs, rfl, h1, _⟩ := r; exact .lst (vis_sub h1)
  · cases h; rw [Rep] at r; obtain ⟨a, vs, rfl, h1, _⟩ := r; exact .dK (vis_sub h1)
section
variable {X : Cx} {pins : List (Addr × Obj)} {σ : L2.St} {H : Hp} {s : Shared} {cs : List EqE} {m : Nat → Addr} {S : Sto} {Z : Addr → Prop}
theorem eqV_refl {d : D} (h : d.flat = true) : eqV d.fv d.fv = true := by
  cases d <;> first | (cases h; done) | simp [D.fv, eqV]
/-- at one place, the same -/
theorem eqj_same (I : L2.Inv X pins σ H s) {n : Nat} {d e : D} {r : Bool} (h : EqJ X.K cs n d e r) : ∀ v, Rep X.K m S.length (vis m S Z H) d v → Rep X.K m S.length (vis m S Z H) e v → r = true := by
  have inj : ∀ a vs us, SqT X.K (vis m S Z H) a vs → SqT X.K (vis m S Z H) a us → vs = us := fun a vs us h1 h2 => I.tuple_inj (SqT.sub (fun a o z => vis_sub z) h1) (SqT.sub (fun a o z => vis_sub z) h2)
  have items : ∀ {n : Nat} {ds es : List D} {rs : Nat → Bool} {vs : List V}, (∀ i d e, ds[i]? = some d → es[i]? = some e → ∀ v, Rep X.K m S.length (vis m S Z H) d v → Rep X.K m S.length (vis m S Z H) e v → rs i = true) → Reps X.K m S.length (vis m S Z H) ds vs → Reps X.K m S.length (vis m S Z H) es vs → ds.length = es.length → (List.range ds.length).all rs = true := by
    intro n ds es rs vs h r1 r2 hl
    rw [List.all_eq_true]
    intro i hi
    rw [List.mem_range] at hi
    obtain ⟨v, hv, rv⟩ := Reps.get r1 (List.getElem?_eq_getElem hi)
    obtain ⟨v', hv', rv'⟩ := Reps.get r2 (List.getElem?_eq_getElem (by omega : i < es.length))
    rw [hv] at hv'
    cases hv'
    exact h i _ _ (List.getElem?_eq_getElem hi) (List.getElem?_eq_getElem (by omega : i < es.length)) v rv rv'
  induction h with
  | flat hd he h =>
    intro v r1 r2
    have := flat_inj r1 r2 hd he
    subst this
    rw [← h]
    exact eqV_refl hd
  | own hc hk he say same =>
    intro v r1 r2
    rcases same with h | ⟨t, ht⟩ | h
    · exact h
    · have b := bk_bv ht r2
      rw [Rep] at r1
      obtain ⟨a, dx, vs, rfl, h1, _⟩ := r1
      exact (bv_ins I b (vis_sub h1)).elim
    · exact (h _ _ _ _ v inj r1 r2).elim
  | @rev n c ks xs d t r hc hk hd say =>
    intro v r1 r2
    have b := bk_bv hd r1
    rw [Rep] at r2
    obtain ⟨a, dx, vs, rfl, h1, _⟩ := r2
    exact (bv_ins I b (vis_sub h1)).elim
  | tup rs hl h ih =>
    intro v r1 r2
    rw [Rep] at r1 r2
    obtain ⟨a, vs, rfl, h1, q1⟩ := r1
    obtain ⟨a', us, e, h2, q2⟩ := r2
    cases e
    have := inj _ _ _ h1 h2
    subst this
    exact items (n := 0) ih q1 q2 hl
  | tupN rs hl h ih =>
    intro v r1 r2
    rw [Rep] at r1 r2
    obtain ⟨a, vs, rfl, h1, q1⟩ := r1
    obtain ⟨a', us, e, h2, q2⟩ := r2
    cases e
    have := inj _ _ _ h1 h2
    subst this
    exact absurd ((Reps.len q1).symm.trans (Reps.len q2)) hl
  | lst rs hl h ih =>
    intro v r1 r2
    rw [Rep] at r1 r2
    obtain ⟨a, vs, rfl, h1, q1⟩ := r1
    obtain ⟨a', us, e, h2, q2⟩ := r2
    cases e
    rw [h1] at h2
    cases h2
    exact items (n := 0) ih q1 q2 hl
  | lstN hl =>
    intro v r1 r2
    rw [Rep] at r1 r2
    obtain ⟨a, vs, rfl, h1, q1⟩ := r1
    obtain ⟨a', us, e, h2, q2⟩ := r2
    cases e
    rw [h1] at h2
    cases h2
    exact absurd ((Reps.len q1).symm.trans (Reps.len q2)) hl
end
section
variable {prog : Program} {w : World} {A : Around} {R : Result → Shared → Prop}
theorem tuple_eqB (l b : Addr) (items items2 : Array Value) (n n2 : Nat) (dd dd2 : Option Addr) (sl sl2 : Array (Option Value)) (rs : Nat → Bool) (out : Bool) (I : Nat → Shared → Prop)
    (h1 : items.size = items2.size → (∀ j, j < items.size → rs j = true) → out = true) (h2 : ∀ j, j < min items.size items2.size → rs j = false → out = false) (h3 : items.size ≠ items2.size → out = false)
    (turn : ∀ i (h1 : i < items.size) (h2 : i < items2.size) s, I i s → wpAny (model prog w) A.in1 (eqBool items[i] items2[i]) (fun r s' => r = rs i ∧ I (i + 1) s') (fun e s' => R (.error e) s') s)
    (fin : ∀ j s, I j s → R (.ok (.ret (.bool out))) s) {s : Shared} (hl1 : s.heap.get? l = some { cls := .type "tuple", dict := dd, data := .seq items n, slots := sl }) (hb1 : s.heap.get? b = some { cls := .type "tuple", dict := dd2, data := .seq items2 n2, slots := sl2 }) (h : I 0 s) :
    wpAny (model prog w) A.in1 (Builtin.«tuple.__eq__» ⟨[.ref l, .ref b], []⟩) (GQ.FinOf prog w A R) (fun e s' => R (.error e) s') s := by
  have f2 := AutoSeq1.sub_tuple_tuple
  have hZ : (items.toList.zip items2.toList).length = min items.size items2.size := by simp
  have h0 := h
  obtain ⟨hp, g, d, tk, os⟩ := s
  wp_walk using wpAny_loadPart' hl1, wpAny_loadPart' hb1, wpAny_forIn_list _ (fun rest b s' => b.1 = none ∧ ∃ i, rest = (items.toList.zip items2.toList).drop i ∧ (∀ j, j < i → rs j = true) ∧ I i s') _
  case turn =>
    rintro ⟨y, x⟩ rest b s' ⟨hb', i, hz, hi, hI⟩
    have hlt : i < (items.toList.zip items2.toList).length := by
      rcases Nat.lt_or_ge i (items.toList.zip items2.toList).length with h' | h'
      · exact h'
      · rw [List.drop_of_length_le h'] at hz; cases hz
    have hm : i < min items.size items2.size := hZ ▸ hlt
    have g1 : i < items.size := Nat.lt_of_lt_of_le hm (Nat.min_le_left _ _)
    have g2 : i < items2.size := Nat.lt_of_lt_of_le hm (Nat.min_le_right _ _)
    rw [List.drop_eq_getElem_cons hlt] at hz
    injection hz with hyx hrest
    have hy : y = items[i] := by have := congrArg Prod.fst hyx; simpa using this
    have hx : x = items2[i] := by have := congrArg Prod.snd hyx; simpa using this
    subst hy hx
    refine wpAny_bind (wpAny_mono (turn i g1 g2 s' hI) (fun r s2 q2 => ?_) fun _ _ x => x)
    obtain ⟨hr, q2⟩ := q2
    cases hri : rs i with
    | true =>
      rw [hri] at hr
      subst hr
      wp_walk
      refine ⟨rfl, i + 1, hrest, fun j hj => ?_, q2⟩
      rcases Nat.lt_or_ge j i with q | q
      · exact hi j q
      · rw [show j = i by omega]; exact hri
    | false =>
      rw [hri] at hr
      subst hr
      have hR : R (.ok (.ret (.bool out))) s2 := fin _ s2 q2
      rw [h2 i hm hri] at hR
      wp_walk
      exact hR
  case fin =>
    rintro ⟨b1, b2⟩ s' ⟨hb', i, hz, hi, hI⟩
    simp only at hb'
    subst hb'
    have hge : min items.size items2.size ≤ i := by
      rcases Nat.lt_or_ge i (items.toList.zip items2.toList).length with h' | h'
      · rw [List.drop_eq_getElem_cons h'] at hz; cases hz
      · exact hZ ▸ h'
    have hR : R (.ok (.ret (.bool out))) s' := fin i s' hI
    have ho : out = (items.size == items2.size) := by
      by_cases e : items.size = items2.size
      · rw [h1 e fun j hj => hi j (by omega), beq_iff_eq.mpr e]
      · rw [h3 e, beq_eq_false_iff_ne.mpr e]
    wp_walk
    simpa [Builtin.Tuple.tupleCompareSizes, ho] using hR
  case h =>
    exact ⟨rfl, 0, rfl, fun j hj => absurd hj (Nat.not_lt_zero j), h0⟩
end
section
variable {prog : Program} {w : World} {A : Around} {E : Value → Shared → Prop} {s : Shared}
theorem rc_tupB {l b : Addr} {items items2 : Array Value} {rs : Nat → Bool} {out : Bool} {Q : Value → Shared → Prop} (hu : A.units < cLine) (I : Nat → Shared → Prop)
    (h1 : items.size = items2.size → (∀ j, j < items.size → rs j = true) → out = true) (h2 : ∀ j, j < min items.size items2.size → rs j = false → out = false) (h3 : items.size ≠ items2.size → out = false)
    (hl : s.heap.IsTuple l items) (hb : s.heap.IsTuple b items2)
    (turn : ∀ i (h1 : i < items.size) (h2 : i < items2.size) s, I i s → wpAny (model prog w) A.in1 (eqBool items[i] items2[i]) (fun r s' => r = rs i ∧ I (i + 1) s') E s)
    (fin : ∀ j s, I j s → Q (.bool out) s) (h : I 0 s) : wpAny (model prog w) A (richCompare .Eq (.ref l) (.ref b)) Q E s := by
  obtain ⟨⟨cls, dd, data, sl⟩, ho, hc, n, hd⟩ := id hl
  obtain ⟨⟨cls2, dd2, data2, sl2⟩, ho2, hc2, n2, hd2⟩ := id hb
  simp only at hc hd hc2 hd2
  subst hc hd hc2 hd2
  refine wpAny_richCompare_same_room (op := .Eq) ⟨_, ho, rfl⟩ ⟨_, ho2, rfl⟩ F.slot_tuple_eq (GQ.call_here F.slot_tuple_eq ⟨_, ho, rfl⟩ F.entry_tuple_eq (F.args_tuple_eq_2 _ _) ?_) hu
  exact tuple_eqB (R := wants (fun v s' => v ≠ .notImplemented ∧ Q v s') E) l b items items2 n n2 dd dd2 sl sl2 rs out I h1 h2 h3 turn (fun j s' q => ⟨(fun x => nomatch x), fin j s' q⟩) ho ho2 h
theorem eqBool_of {u v : Value} {r : Bool} {Q : Shared → Prop} (nf : ∀ x t, u ≠ .float x t) (hs : u = v → r = true ∧ Q s) (h : wpAny (model prog w) A (richCompare .Eq u v) (fun c s' => c = .bool r ∧ Q s') E s) : wpAny (model prog w) A (eqBool u v) (fun c s' => c = r ∧ Q s') E s := by
  unfold eqBool
  refine wpAny_holding ?_
  refine wpAny_ite_split (fun hab => ?_) (fun _ => ?_)
  · obtain ⟨h1, h2⟩ := hs (eq_of_beq hab)
    exact wpAny_bind (wpAny_rule (wpAny_pure ⟨h1.symm, h2⟩))
  · have last : wpAny (model prog w) A (do truthOfDropped (← richCompare .Eq u v)) (fun c s' => c = r ∧ Q s') E s := by
      refine wpAny_bind (wpAny_mono h (fun c s' hc => ?_) fun _ _ x => x)
      obtain ⟨rfl, q⟩ := hc
      exact wpAny_truthy_bool ⟨rfl, q⟩
    cases u <;> first | exact last | exact absurd rfl (nf _ _)
end
section
variable {X : Cx} {cs : List EqE}
def RunR (X : Cx) (n : Nat) (d e : D) (r : Bool) : Prop := ∀ (A : Around) (pins : List (Addr × Obj)) (s : Shared) (σ : L2.St) (H : Hp) (m : Nat → Addr) (S : Sto) (Z : Addr → Prop) (x y : V) (u v : Value), SubG X n A → L2.Inv X pins σ H s → Wd0 X.K m S Z H → Rep X.K m S.length (vis m S Z H) d x → Rep X.K m S.length (vis m S Z H) e y → RelV x u → RelV y v →
  wpAny (model X.prog X.w) A (richCompare .Eq u v) (fun c s' => c = .bool r ∧ ∃ H', L2.Inv X pins σ H' s' ∧ ExtT X.K H H') X.xe s
def RunB (X : Cx) (n : Nat) (d e : D) (r : Bool) : Prop := ∀ (A : Around) (pins : List (Addr × Obj)) (s : Shared) (σ : L2.St) (H : Hp) (m : Nat → Addr) (S : Sto) (Z : Addr → Prop) (x y : V) (u v : Value), SubG X n A → L2.Inv X pins σ H s → Wd0 X.K m S Z H → Rep X.K m S.length (vis m S Z H) d x → Rep X.K m S.length (vis m S Z H) e y → RelV x u → RelV y v →
  wpAny (model X.prog X.w) A (eqBool u v) (fun c s' => c = r ∧ ∃ H', L2.Inv X pins σ H' s' ∧ ExtT X.K H H') X.xe s
theorem rep_nofl {m : Nat → Addr} {N : Nat} {Hv : Hp} {d : D} {x : V} {u : Value} (r : Rep X.K m N Hv d x) (rx : RelV x u) : ∀ z t, u ≠ .float z t := by
  intro z t e
  subst e
  cases x with
  | flt b => cases d <;> rw [Rep] at r <;> first | (cases r; done) | (obtain ⟨_, _, h, _⟩ := r; cases h; done) | (obtain ⟨_, _, _, h, _⟩ := r; cases h; done) | (obtain ⟨h, _⟩ := r; cases h; done)
  | int i => obtain ⟨_, h⟩ := rx; cases h
  | str i => obtain ⟨_, h⟩ := rx; cases h
  | byt i => obtain ⟨_, h⟩ := rx; cases h
  | non => cases rx
  | bl _ => cases rx
  | ref _ => cases rx
  | ty _ => cases rx
theorem runB_of {n : Nat} {d e : D} {r : Bool} (j : EqJ X.K cs n d e r) (h : RunR X n d e r) : RunB X n d e r := by
  intro A pins s σ H m S Z x y u v sb I w r1 r2 rx ry
  refine eqBool_of (rep_nofl r1 rx) (fun e' => ?_) (h A pins s σ H m S Z x y u v sb I w r1 r2 rx ry)
  subst e'
  have := rx.abs.symm.trans ry.abs
  cases this
  exact ⟨eqj_same I j x r1 r2, H, I, ExtT.refl w⟩
theorem wd0_dark {m : Nat → Addr} {S : Sto} {Z : Addr → Prop} {H : Hp} (w : Wd0 X.K m S Z H) {d : D} {x : V} (r : Rep X.K m S.length (vis m S Z H) d x) : Rep X.K m (List.replicate S.length (none : Option MO)).length (vis m (List.replicate S.length none) (fun a => Z a ∨ ∃ n, Live S n ∧ m n = a) H) d x := by
  obtain ⟨_, hv⟩ := w.dark
  rw [hv, List.length_replicate]
  exact r
/-- an own == called -/
theorem run_say {c : EqE} {qual : Str} {st : Stmt} {dvs : List V} {ps : List Str} (b : Bnd "__eq__" qual st ps 2 [] [.p 0, .p 1] dvs.length) {f : Addr} {fd : FuncData} (FS : FunS X.K "__eq__" qual st dvs f fd) (FO : FnG X.prog X.w X.K X.mg X.base CX0 c.k f fd ps (spOf X.K c.dsp))
    {A : Around} (sb : SubG X c.k A) {pins : List (Addr × Obj)} {σ : L2.St} {H : Hp} {s : Shared} {m : Nat → Addr} {S : Sto} {Z : Addr → Prop} {d e : D} {x y : V} {u v : Value} {r : Bool}
    (I : L2.Inv X pins σ H s) (w : Wd0 X.K m S Z H) (r1 : Rep X.K m S.length (vis m S Z H) d x) (r2 : Rep X.K m S.length (vis m S Z H) e y) (rx : RelV x u) (ry : RelV y v) (hi : Say c.dsp d e r) :
    wpAny (model X.prog X.w) A (call (.ref f) [u, v]) (fun c s' => c = .bool r ∧ ∃ H', L2.Inv X pins σ H' s' ∧ ExtT X.K H H') X.xe s := by
  obtain ⟨its, KB⟩ := kbn_of FS b
  have rr : Vals [x, y] [u, v] := .cons rx (.cons ry .nil)
  obtain ⟨wd, hv⟩ := w.dark
  have hsp : spOf X.K c.dsp [x, y] H (fun v H' => v = .bl r ∧ ExtT X.K H H') fun _ _ _ => False := by
    refine ⟨m, List.replicate S.length none, _, [d, e], _, wd.u0, Reps.cons (wd0_dark w r1) (Reps.one (wd0_dark w r2)), hi _, fun v1 H1 m1 d1 S1 e1 w1 rr1 ⟨h1, h2⟩ => ?_⟩
    subst h1
    have rr1' := rr1
    rw [rD, Rep] at rr1'
    exact ⟨rr1', Ext.all h2 w1.toWd0 e1⟩
  refine wpAny_mono (run_at FO sb KB I rr rfl (by simpa [gat, pick] using hsp)) (fun w' s' hq => ?_) fun _ _ z => z
  obtain ⟨z, H', I', rz, ez, hE⟩ := hq
  subst ez
  cases rz
  exact ⟨rfl, H', I', hE⟩
theorem bv_ty {pins : List (Addr × Obj)} {σ : L2.St} {H : Hp} {s : Shared} {x : V} {t : String} {u : Value} (I : L2.Inv X pins σ H s) (bv : BV X.K H x t) (rx : RelV x u) : s.TypeIs u t := by
  cases bv with
  | non => cases rx; rfl
  | bl => cases rx; rfl
  | int => obtain ⟨t, rfl⟩ := rx; rfl
  | str => obtain ⟨t, rfl⟩ := rx; rfl
  | @lst a vs ha =>
    cases rx
    obtain ⟨_, its, n, _, _, hl⟩ := I.lstM ha
    exact ⟨_, hl, rfl⟩
  | @dK a kvs ha =>
    cases rx
    obtain ⟨_, _, vs, _, o, es, ep, h1, h2, h3, _⟩ := (show ObjOk X.prog X.w H s.heap a (.dK kvs) from I.hok a _ ha)
    exact ⟨_, h1, h2.1⟩
  | @tup a vs ha =>
    cases rx
    obtain ⟨its, _, hT, _⟩ := I.tuple ha
    obtain ⟨o, ho, hc, n, hd⟩ := hT
    exact ⟨_, ho, hc⟩
theorem ty_looks {s : Shared} {u : Value} {t : String} (h : s.TypeIs u t) : PySem.W.Looks (model X.prog X.w) s.heap (typeOf u) (.type t) := fun A Q E s' k q => by
  refine wpAny_typeOf ?_ q
  cases u with
  | ref a => obtain ⟨o, h1, h2⟩ := h; exact ⟨o, k _ _ h1, h2⟩
  | _ => exact h
theorem tyX_looks {pins : List (Addr × Obj)} {σ : L2.St} {H : Hp} {s : Shared} {m : Nat → Addr} {S : Sto} {Z : Addr → Prop} {C : Addr} {e : D} {y : V} {v : Value} (I : L2.Inv X pins σ H s) (z : EqC0 X.K C) (he : SideK X.K C e) (r : Rep X.K m S.length (vis m S Z H) e y) (ry : RelV y v) :
    ∃ tb, PySem.W.Looks (model X.prog X.w) s.heap (typeOf v) tb ∧ PySem.W.notFirst X.K C tb = true := by
  rcases he with ⟨t, he⟩ | ⟨C', ks, xs, rfl, hc⟩
  · have b := bk_bv he r
    exact ⟨.type t, ty_looks (bv_ty I b ry), by unfold PySem.W.notFirst; rw [z.nf t b.mem]; simp⟩
  · rw [Rep] at r
    obtain ⟨a, dx, vs, rfl, h1, _⟩ := r
    cases ry
    obtain ⟨mA, J, _⟩ := ins_get I.hok (vis_sub h1)
    obtain ⟨od, J, _⟩ := J.look
    refine ⟨.ref C', J.type, ?_⟩
    unfold PySem.W.notFirst
    rcases hc with rfl | hc
    · simp
    · rw [hc]; simp
theorem rc_V {A : Around} {s : Shared} {y x : V} {u v : Value} (ry : RelV y u) (rx : RelV x v) (fy : flatV y = true) (fx : flatV x = true) : RcAt A s u v (eqV y x) := by
  cases y with
  | non =>
    cases ry
    cases x with
    | non => cases rx; exact RcAt.none_none
    | bl b => cases rx; exact RcAt.none_bool b
    | int b => obtain ⟨t, rfl⟩ := rx; exact RcAt.none_int b t
    | str b => obtain ⟨t, rfl⟩ := rx; exact RcAt.none_str b t
    | _ => exact absurd (show false = true from fx) Bool.false_ne_true
  | bl a =>
    cases ry
    cases x with
    | non => cases rx; exact RcAt.bool_none a
    | bl b => cases rx; exact RcAt.bool_bool a b
    | int b => obtain ⟨t, rfl⟩ := rx; exact RcAt.bool_int a b t
    | str b => obtain ⟨t, rfl⟩ := rx; exact RcAt.bool_str a b t
    | _ => exact absurd (show false = true from fx) Bool.false_ne_true
  | int a =>
    obtain ⟨t', rfl⟩ := ry
    cases x with
    | non => cases rx; exact RcAt.int_none a t'
    | bl b => cases rx; exact RcAt.int_bool a t' b
    | int b => obtain ⟨t, rfl⟩ := rx; exact RcAt.int_int a t' b t
    | str b => obtain ⟨t, rfl⟩ := rx; exact RcAt.int_str a t' b t
    | _ => exact absurd (show false = true from fx) Bool.false_ne_true
  | str a =>
    obtain ⟨t', rfl⟩ := ry
    cases x with
    | non => cases rx; exact RcAt.str_none a t'
    | bl b => cases rx; exact RcAt.str_bool a t' b
    | int b => obtain ⟨t, rfl⟩ := rx; exact RcAt.str_int a t' b t
    | str b => obtain ⟨t, rfl⟩ := rx; exact RcAt.str_str a t' b t
    | _ => exact absurd (show false = true from fx) Bool.false_ne_true
  | _ => exact absurd (show false = true from fy) Bool.false_ne_true
/-- one turn of a loop -/
theorem turnA {n : Nat} {ds es : List D} {rs : Nat → Bool} (h : ∀ i d e, ds[i]? = some d → es[i]? = some e → RunB X n d e (rs i)) {A : Around} (sb : SubG X (n + 1) A) {pins : List (Addr × Obj)} {σ : L2.St} {H : Hp} {m : Nat → Addr} {S : Sto} {Z : Addr → Prop} (w : Wd0 X.K m S Z H)
    {vs us : List V} (q1 : Reps X.K m S.length (vis m S Z H) ds vs) (q2 : Reps X.K m S.length (vis m S Z H) es us) {its its2 : List Value} (r : Vals vs its) (r2 : Vals us its2)
    (i : Nat) (h1 : i < its.toArray.size) (h2 : i < its2.toArray.size) (s' : Shared) (l : ∃ H', L2.Inv X pins σ H' s' ∧ ExtT X.K H H') :
    wpAny (model X.prog X.w) A.in1 (eqBool its.toArray[i] its2.toArray[i]) (fun c s2 => c = rs i ∧ ∃ H', L2.Inv X pins σ H' s2 ∧ ExtT X.K H H') X.xe s' := by
  obtain ⟨H1, I1, e1⟩ := l
  rw [List.size_toArray] at h1 h2
  have lr := r.length
  have lr2 := r2.length
  have la := Reps.len q1
  have lb := Reps.len q2
  obtain ⟨d, hd⟩ : ∃ d, ds[i]? = some d := ⟨ds[i]'(by omega), by simp⟩
  obtain ⟨e, he⟩ : ∃ e, es[i]? = some e := ⟨es[i]'(by omega), by simp⟩
  obtain ⟨x, hx, rx⟩ := Reps.get q1 hd
  obtain ⟨y, hy, ry⟩ := Reps.get q2 he
  have gx : its[i]? = some its[i] := by simp
  have gy : its2[i]? = some its2[i] := by simp
  obtain ⟨w', _⟩ := w.grow e1
  have rx' := Rep.mono (fun _ _ => rfl) (Nat.le_refl _) (vis_grow w e1) rx
  have ry' := Rep.mono (fun _ _ => rfl) (Nat.le_refl _) (vis_grow w e1) ry
  have key := h i d e hd he A.in1 pins s' σ H1 m S Z x y its[i] its2[i] sb.in1 I1 w' rx' ry' (vals_each r i _ _ hx gx) (vals_each r2 i _ _ hy gy)
  refine wpAny_mono (by simpa using key) (fun c s2 hq => ?_) fun _ _ z => z
  obtain ⟨hc, H2, I2, e2⟩ := hq
  exact ⟨hc, H2, I2, e1.trans e2⟩
theorem eqj_run (hcs : EqsOk X cs) {n : Nat} {d e : D} {r : Bool} (j : EqJ X.K cs n d e r) : RunR X n d e r := by
  induction j with
  | @flat n d e r hd he h =>
    intro A pins s σ H m S Z x y u v sb I w r1 r2 rx ry
    obtain ⟨ex, fx⟩ := flat_fv hd r1
    obtain ⟨ey, fy⟩ := flat_fv he r2
    subst ex ey
    refine rc_V rx ry fx fy X.prog X.w X.xe _ ?_
    rw [h]
    exact ⟨rfl, H, I, ExtT.refl w⟩
  | @own n c ks xs e r hc hk he say same =>
    intro A pins s σ H m S Z x y u v sb I w r1 r2 rx ry
    obtain ⟨z, _, qual, st, dvs, ps, F, b⟩ := hcs c hc
    obtain ⟨f, fd, FS, hm, FO⟩ := F.ex
    obtain ⟨tb, hb, hn⟩ := tyX_looks I z he r2 ry
    have r1' := r1
    rw [Rep] at r1'
    obtain ⟨a, dx, vs, rfl, h1, _⟩ := r1'
    cases rx
    obtain ⟨mA, J, _⟩ := ins_get I.hok (vis_sub h1)
    obtain ⟨od, J, _⟩ := J.look
    obtain ⟨mm, hF⟩ := I.fr
    refine PySem.W.cmp_K (op := .Eq) (tb := tb) sb.room.units0 hF I.ok.mod.kin J hb hn hm.at_ hm.fn ?_
    refine wpAny_mono (run_say b FS FO (sb.mono hk) I w r1 r2 rfl ry say) (fun c s' hc => ?_) fun _ _ z => z
    obtain ⟨rfl, q⟩ := hc
    exact ⟨rfl, q⟩
  | @rev n c ks xs d t r hc hk hd say =>
    intro A pins s σ H m S Z x y u v sb I w r1 r2 rx ry
    obtain ⟨z, _, qual, st, dvs, ps, F, b⟩ := hcs c hc
    obtain ⟨f, fd, FS, hm, FO⟩ := F.ex
    have bx := bk_bv hd r1
    have r2' := r2
    rw [Rep] at r2'
    obtain ⟨a, dx, vs, rfl, h1, _⟩ := r2'
    cases ry
    obtain ⟨mA, J, _⟩ := ins_get I.hok (vis_sub h1)
    obtain ⟨od, J, _⟩ := J.look
    obtain ⟨hT, _, id, slot, dec⟩ := decl_own (A := A) (E := X.xe) I bx rx (vis_sub h1) z
    refine rich_rev sb.room.units0 I.kIn hT J (z.nb t bx.mem) slot dec hm.at_ hm.fn ?_
    refine wpAny_mono (run_say b FS FO (sb.mono hk) I w r2 r1 rfl rx say) (fun c s' hc => ?_) fun _ _ z => z
    obtain ⟨rfl, q⟩ := hc
    exact ⟨r, rfl, rfl, q⟩
  | @tup n ds es rs hl h ih =>
    intro A pins s σ H m S Z x y u v sb I w r1 r2 rx ry
    rw [Rep] at r1 r2
    obtain ⟨a, vs, rfl, h1, q1⟩ := r1
    obtain ⟨a', us, rfl, h2, q2⟩ := r2
    cases rx
    cases ry
    have la := Reps.len q1
    have lb := Reps.len q2
    obtain ⟨its, rv, t1, z1⟩ := I.tuple (SqT.sub (fun a o z => vis_sub z) h1)
    obtain ⟨its2, rv2, t2, z2⟩ := I.tuple (SqT.sub (fun a o z => vis_sub z) h2)
    have l1 := rv.length
    have l2 := rv2.length
    refine rc_tupB (rs := rs) (out := (List.range ds.length).all rs) sb.room.units0 (fun _ s' => ∃ H', L2.Inv X pins σ H' s' ∧ ExtT X.K H H') (fun _ hall => ?_) (fun j hj hf => ?_) (fun hne => ?_) t1 t2
      (fun i h1 h2 s' q => turnA (fun i d e hd he => runB_of (h i d e hd he) (ih i d e hd he)) sb w q1 q2 rv rv2 i h1 h2 s' q) (fun j s' q => ⟨rfl, q⟩) ⟨H, I, ExtT.refl w⟩
    · rw [List.all_eq_true]
      exact fun j hj => hall j (by rw [List.size_toArray]; have := List.mem_range.mp hj; omega)
    · rw [List.size_toArray, List.size_toArray] at hj
      rw [List.all_eq_false]
      exact ⟨j, List.mem_range.mpr (by omega), by rw [hf]; decide⟩
    · rw [List.size_toArray, List.size_toArray] at hne
      omega
  | @tupN n ds es rs hl h ih =>
    intro A pins s σ H m S Z x y u v sb I w r1 r2 rx ry
    rw [Rep] at r1 r2
    obtain ⟨a, vs, rfl, h1, q1⟩ := r1
    obtain ⟨a', us, rfl, h2, q2⟩ := r2
    cases rx
    cases ry
    have la := Reps.len q1
    have lb := Reps.len q2
    obtain ⟨its, rv, t1, z1⟩ := I.tuple (SqT.sub (fun a o z => vis_sub z) h1)
    obtain ⟨its2, rv2, t2, z2⟩ := I.tuple (SqT.sub (fun a o z => vis_sub z) h2)
    have l1 := rv.length
    have l2 := rv2.length
    refine rc_tupB (rs := rs) (out := false) sb.room.units0 (fun _ s' => ∃ H', L2.Inv X pins σ H' s' ∧ ExtT X.K H H') (fun he hall => ?_) (fun j hj hf => rfl) (fun hne => rfl) t1 t2
      (fun i h1 h2 s' q => turnA (fun i d e hd he => runB_of (h i d e hd he) (ih i d e hd he)) sb w q1 q2 rv rv2 i h1 h2 s' q) (fun j s' q => ⟨rfl, q⟩) ⟨H, I, ExtT.refl w⟩
    rw [List.size_toArray, List.size_toArray] at he
    omega
  | @lst n ds es rs hl h ih =>
    intro A pins s σ H m S Z x y u v sb I w r1 r2 rx ry
    rw [Rep] at r1 r2
    obtain ⟨a, vs, rfl, h1, q1⟩ := r1
    obtain ⟨a', us, rfl, h2, q2⟩ := r2
    cases rx
    cases ry
    have la := Reps.len q1
    have lb := Reps.len q2
    refine GB.rc_eqB (N := ds.length) (rs := rs) (out := (List.range ds.length).all rs) sb.room.units0 (fun hall => ?_) (fun j hj hf => ?_) (fun _ s' => ∃ H', L2.Inv X pins σ H' s' ∧ ExtT X.K H H') ?_ (fun j s' q => ⟨rfl, q⟩) ⟨H, I, ExtT.refl w⟩
    · rw [List.all_eq_true]
      exact fun j hj => hall j (List.mem_range.mp hj)
    · rw [List.all_eq_false]
      exact ⟨j, List.mem_range.mpr hj, by rw [hf]; decide⟩
    · rintro i s' q
      obtain ⟨H', I', e'⟩ := id q
      obtain ⟨z1, its, n, rv, ra, hla⟩ := I'.lstM (e'.keep _ _ (vis_sub h1) (by intro ps z; cases z))
      obtain ⟨z2, its2, n2, rv2, rb, hlb⟩ := I'.lstM (e'.keep _ _ (vis_sub h2) (by intro ps z; cases z))
      exact ⟨its.toArray, its2.toArray, n, n2, hla, hlb, by rw [List.size_toArray]; omega, by rw [List.size_toArray]; omega, fun h1 h2 => turnA (fun i d e hd he => runB_of (h i d e hd he) (ih i d e hd he)) sb w q1 q2 rv rv2 i h1 h2 s' q⟩
  | @lstN n ds es hl =>
    intro A pins s σ H m S Z x y u v sb I w r1 r2 rx ry
    rw [Rep] at r1 r2
    obtain ⟨a, vs, rfl, h1, q1⟩ := r1
    obtain ⟨a', us, rfl, h2, q2⟩ := r2
    cases rx
    cases ry
    have la := Reps.len q1
    have lb := Reps.len q2
    obtain ⟨z1, its, n, rv, ra, hla⟩ := I.lstM (vis_sub h1)
    obtain ⟨z2, its2, n2, rv2, rb, hlb⟩ := I.lstM (vis_sub h2)
    exact GB.rc_eqD sb.room.units0 hla hlb (by rw [List.size_toArray, List.size_toArray]; omega) ⟨rfl, H, I, ExtT.refl w⟩
end
end Dl
namespace Dl
open PySem L2 PySem.Calls PySem.Spec PyProof.Rows
open PySem.SeqAt
open AutoSeq1 (wpAny_loadPart')
open MeetsSeq MeetsSeq2 SeqRoads2
section
variable {X : Cx} {cs : List EqE} {n : Nat}
def aEqA (K : PySem.W.Frag) (cs : List EqE) (n : Nat) : R2D := fun x y S q => ∃ r, EqJ K cs n x y r ∧ q (.bl r) S
def rEqA (X : Cx) (cs : List EqE) (n : Nat) : R2 := fun x y H Q => ∃ m S Z d e r, Wd0 X.K m S Z H ∧ Rep X.K m S.length (vis m S Z H) d x ∧ Rep X.K m S.length (vis m S Z H) e y ∧ EqJ X.K cs n d e r ∧ ∀ H', ExtT X.K H H' → Q (.bl r) H'
theorem vr_eqA : VR2 X.K (rEqA X cs n) (aEqA X.K cs n) := fun {_ m S Z H a b v u q Q} w r1 r2 ⟨r, j, h⟩ kk =>
  ⟨m, S, Z, a, b, r, w.toWd0, r1, r2, j, fun H' e => by
    obtain ⟨w', e'⟩ := w.grow e
    exact kk.at e' w' rep_bl h⟩
theorem or_eqA (hcs : EqsOk X cs) (hr : RoomG n X.A) : OpR X (compareOp .Eq) (rEqA X cs n) := by
  intro pins s σ H x y v u Q I rx ry ⟨m, S, Z, d, e, r, w, r1, r2, j, h⟩
  show wpAny (model X.prog X.w) X.A (richCompare .Eq v u) (EP X pins σ Q) X.xe s
  refine wpAny_mono (eqj_run hcs j X.A pins s σ H m S Z x y v u ⟨hr, rfl⟩ I w r1 r2 rx ry) (fun c s' hq => ?_) fun _ _ z => z
  obtain ⟨rfl, H', I', e'⟩ := hq
  exact ⟨.bl r, H', I', rfl, h H' e'⟩
end
end Dl
namespace Dl
open PySem PySem.Spec PyProof.Rows L2 LamX NdefX
/-- the tracked heap behind it: the same, or the table has grown by a new code object -/
structure LamStep (H : Hp) (P c' : Addr) (q : Str) (H1 : Hp) : Prop where
  at_ : H1 c' = some (CodeO c' q)
  or_ : H1 = H ∨ ∃ ps ps' : Array Value, H P = some (.tbl ps) ∧ H c' = none ∧ TabS H1 P q ∧ H1 = upd (upd H P (.tbl ps')) c' (CodeO c' q)
section
variable {X : Cx} {pins : List (Addr × Obj)} {σ : L2.St} {H : Hp} {s : Shared}
theorem lam_mk {c P : Addr} {params : Arguments} {body : Expr} {scope : Scope} {pos : Pos} {E : Value → Shared → Prop} {Q : Value → Shared → Prop} (I : Inv X pins σ H s) (TB : TabB X.base X.mg c P) (hcode : X.env.code = .ref c)
    (hT : TabS H P (X.env.qual ++ "<lambda>")) (hdef : defaultsOf params X.env = ([], [])) (hfree : ∀ y ∈ scope.names, y.2 = .free → ∃ c, X.env.cells.lookup y.1 = some c)
    (h : ∀ (f c' : Addr) (pm ctv : Value) (H1 : Hp) (s' : Shared), Inv X pins σ H1 s' → LamStep H P c' (X.env.qual ++ "<lambda>") H1 → s.heap.objs.size ≤ f → H1 f = none →
      s'.heap.get? f = some (PySem.W.kla_obj "<lambda>" (X.env.qual ++ "<lambda>") params body scope (cloFrom X.env.cells scope.names []) pm c' ctv) → Q (.ref f) s') :
    wpAny (model X.prog X.w) X.A (eval (.Lambda params body scope pos) X.env) Q E s := by
  obtain ⟨ps, tab, trip, known⟩ := hT
  have tabH := I.hok P _ tab
  have bltP := TB.bm.keeps I.bk
  have codeP := TB.code.keeps I.bk
  have globP := I.mod.glob.keeps I.bk
  refine PySem.W.kla_eval hdef ?_
  match hc : codeAmong pos ps.toList with
  | some cv =>
    obtain ⟨c', ev, track⟩ := known pos cv hc
    subst ev
    refine PySem.W.kla_makeFunctionHit (mg := X.mg) (c := c) (P := P) (ps := ps) (closure_ok hfree) I.ok.glob globP hcode codeP tabH trip hc bltP fun ctv h' tk up le => ?_
    refine h h'.objs.size c' ((X.mg "__name__").getD .none) ctv H _ (I.kept fun b o e => Heap.get?_push_of_some _ (up b o e)) ⟨track, .inl rfl⟩ le (I.hok.fresh le) (Heap.get?_push_size _ rfl)
  | none =>
    refine PySem.W.kla_makeFunction (mg := X.mg) (c := c) (P := P) (ps := ps) (closure_ok hfree) I.ok.glob globP hcode codeP tabH trip hc TB.gP bltP fun c' ctv h' tk up ge lt rec_ tab2 => ?_
    obtain ⟨cc, oc, vs, t, ec, hoc, hdat, hname⟩ := rec_
    obtain rfl : c' = cc := by injection ec
    have new : H c' = none := I.hok.fresh ge
    have le : s.heap.objs.size ≤ h'.objs.size := Nat.le_trans ge (Nat.le_of_lt lt)
    have J := inv_table (t' := tk) (more := #[rawInt pos.line, rawInt pos.col, .ref c']) (h' := h'.push (PySem.W.kla_obj "<lambda>" (X.env.qual ++ "<lambda>") params body scope (cloFrom X.env.cells scope.names []) ((X.mg "__name__").getD .none) c' ctv)) I tab
      (fun b o ne e => Heap.get?_push_of_some _ (up b o ne e)) (Heap.get?_push_of_some _ tab2) ge ⟨oc, vs, t, Heap.get?_push_of_some _ hoc, hdat, hname⟩
    have nPc : P ≠ c' := ne_of_none tab new
    refine h h'.objs.size c' ((X.mg "__name__").getD .none) ctv _ _ J ⟨upd_same, .inr ⟨ps, _, tab, new, ⟨_, by rw [upd_ne nPc, upd_same], ?_, fun p' cv hcv => ?_⟩, rfl⟩⟩ le ?_ (Heap.get?_push_size _ rfl)
    · rw [Array.toList_append]
      exact PySem.TriplesOk_snoc _ _ _ _ trip
    · rw [Array.toList_append] at hcv
      rcases among_app (c := .ref c') (pos := pos) _ trip hcv with z | z
      · obtain ⟨c0, e1, e2⟩ := known p' cv z
        exact ⟨c0, e1, by rw [upd_ne (ne_of_none e2 new), upd_ne (fun e => codeO_ne ps (Option.some.inj (e2.symm.trans (by rw [e]; exact tab))))]; exact e2⟩
      · exact ⟨c', z, upd_same⟩
    · rw [upd_ne (Nat.ne_of_gt lt), upd_ne (Nat.ne_of_gt (Nat.lt_of_lt_of_le (I.hok.lt tab) le))]
      exact I.hok.fresh le
end
/-- the world behind it -/
theorem Wd0.lam {K : PySem.W.Frag} {m : Nat → Addr} {S : Sto} {Z : Addr → Prop} {H H1 : Hp} {c P c' : Addr} {q : Str} (w : Wd0 K m S Z H) (hm : (c, P, q) ∈ tabsOf K) (hu : ∀ c2 q2, (c2, P, q2) ∈ tabsOf K → q2 = q) (st : LamStep H P c' q H1) :
    Wd0 K m S Z H1 ∧ Ext m S Z H m S H1 := by
  rcases st.or_ with rfl | ⟨ps, ps', tab, new, ts, e1⟩
  · exact ⟨w, Ext.refl⟩
  have zP : Z P := w.tb.z P ⟨c, q, hm⟩
  have nPc : P ≠ c' := ne_of_none tab new
  have same : ∀ a, a ≠ P → a ≠ c' → H1 a = H a := fun a h1 h2 => by rw [e1, upd_ne h2, upd_ne h1]
  have atP : H1 P = some (.tbl ps') := by rw [e1, upd_ne nPc, upd_same]
  have hv : ∀ a u, vis m S Z H a = some u → vis m S Z H1 a = some u := fun a u h => by
    obtain ⟨z1, z2⟩ := vis_not h
    exact vis_of (by rw [same a (fun e => z1 (by rw [e]; exact zP)) (ne_of_none (vis_sub h) new)]; exact vis_sub h) z1 z2
  refine ⟨⟨w.inj, w.zz, fun a z => ?_, fun i x e => ?_, ⟨w.tb.z, fun c2 P2 q2 m2 => ?_, fun P2 qs e => ?_⟩⟩, ⟨Nat.le_refl _, fun _ _ => rfl, hv, fun a z nt => ?_⟩⟩
  · by_cases h : a = P
    · exact ⟨_, by rw [h]; exact atP⟩
    · obtain ⟨o, ho⟩ := w.zh a z
      exact ⟨o, by rw [same a h (ne_of_none ho new)]; exact ho⟩
  · have r := w.rep i x e
    obtain ⟨u, hu2⟩ := r.there
    exact r.mono (fun _ _ => rfl) (Nat.le_refl _) hv (same _ (fun e2 => w.zz i ⟨x, e⟩ (by rw [e2]; exact zP)) (ne_of_none hu2 new))
  · by_cases h : P2 = P
    · subst h
      rw [hu c2 q2 m2]
      exact ts
    · obtain ⟨qs, h1, h2, h3⟩ := w.tb.t c2 P2 q2 m2
      refine ⟨qs, by rw [same P2 h (ne_of_none h1 new)]; exact h1, h2, fun pos cv hc => ?_⟩
      obtain ⟨d, e2, e3⟩ := h3 pos cv hc
      exact ⟨d, e2, by rw [same d (fun e => codeO_ne ps (Option.some.inj (e3.symm.trans (by rw [e]; exact tab)))) (ne_of_none e3 new)]; exact e3⟩
  · by_cases h : P2 = P
    · rw [h]; exact ⟨c, q, hm⟩
    · by_cases h2 : P2 = c'
      · rw [h2, st.at_] at e
        exact absurd (Option.some.inj e) (codeO_ne qs)
      · rw [same P2 h h2] at e
        exact w.tb.n P2 qs e
  · exact same a (fun e => nt ps (by rw [e]; exact tab)) (by obtain ⟨o, ho⟩ := w.zh a z; exact ne_of_none ho new)
section
variable {CX : CXT} {P : Program} {w : World} {K : PySem.W.Frag} {mg : Str → Option Value} {base : Heap} {N ps fr : List Str} {F : NF} {f : Addr} {k : Nat} {A : Around} {outer : List Env} {s : Shared} {H : Hp} {E : XK} {us : List Value} {vs : List V} {ws : List (Option V)}
theorem lam_run {body : Expr} {pm ctv : Value} {t : TE} {Q : VK} (S : NScope N ps fr F.scope) (hr : Room (k + 1) A) (e0 : Env0 P w K mg base A outer s H)
    (ho : s.heap.get? f = some (PySem.W.kla_obj "<lambda>" F.qual F.params body F.scope F.cl pm F.c ctv)) (hb : bindArgs (PySem.W.kla_fn "<lambda>" F.qual F.params body F.scope F.cl pm (.ref F.c) ctv) ⟨us, []⟩ = pure (ps.zip us))
    (hl : vs.length = ps.length) (hc : H F.c = some (CodeO F.c F.qual)) (C : CellsAt F.cl fr ws s.heap H) (r : Vals vs us) (hbody : PE (ncx CX P w K mg base N F f A outer s H E) body t) (h : t (startF N vs ws) H Q) :
    codeAny (model P w) A (.call (.ref f) ⟨us, []⟩) (CR CX outer P w H s Q E) s := by
  have lim : s.heap.NoLimit := e0.mod.nolimit.keeps fun b o e => (e0.bs b o e).1
  refine PySem.W.kla_callFunE hr.depth ho rfl S.co S.gen rfl (codeO_at e0.hok hc) ?_
  rw [hb]
  refine wpAny_pure (wpAny_newFunctionEnv S.nocell (fun y hy => S.par y.1 (List.of_mem_zip (a := y.1) (b := y.2) hy).1) (fun h₁ hns hsb => ⟨lim.fresh _ hsb, ?_⟩) S.kind)
  have up : ∀ b o, s.heap.get? b = some o → h₁.get? b = some o := fun b o e => hsb.extBut b o (Nat.ne_of_lt (Heap.lt_size e)) (Heap.get?_push_of_some _ e)
  have I : Inv (ncx CX P w K mg base N F f A outer s H E) [] (startF N vs ws) H { s with heap := h₁, toks := s.toks + (ps.zip us).length } := inv_startN S hr.hd e0 hl r C hns up
  refine PySem.W.kla_codeExpr (wpAny_mono (hbody.run [] _ _ H Q I h) (fun v s' hq => ?_) fun e s' hq => hq)
  obtain ⟨x, H', J, rx, q⟩ := hq
  exact ⟨x, H', J.os, J.bare, J.base, J.hok, rx, q⟩
end
end Dl
namespace Dl
open PySem PySem.Spec PyProof.Rows L2 LamX NdefX PySem.Calls PySem.W
section
variable {X : Cx} {pins : List (Addr × Obj)} {σ : L2.St} {H : Hp} {s : Shared}
theorem Inv.notcell (I : Inv X pins σ H s) {b : Addr} {o : Obj} (h : s.heap.get? b = some o) (hd : ∀ v, o.data ≠ .cell v) : ∀ x c, X.env.cells.lookup x = some c → c ≠ b := fun x c e z => by
  obtain ⟨v, o', ho, hc⟩ := I.cell x c e
  rw [z, h] at ho
  cases ho
  exact hd v hc
theorem Inv.pinlt (I : Inv X pins σ H s) : ∀ p ∈ X.pn ++ pins, p.1 < s.heap.objs.size := fun p hp => Heap.lt_size (I.pin p hp).1
theorem seq_notcell {n : String} {xs : Array Value} {e : Nat} : ∀ v, (seqObj n xs e).data ≠ .cell v := fun v z => by cases z
/-- the loop's end: the list a gets what is sorted, the keys' list is forgotten -/
theorem sortK_end {a kS : Addr} {e1 eK eO : Nat} {kA : Array Value} {h3 : Heap} {H1 : Hp} {tk : Nat} {out : List Value} {vs : List V} {s1 : Shared} (I : Inv X ((kS, seqObj "list" kA eK) :: (a, seqObj "list" #[] e1) :: pins) σ H1 s1)
    (sa : X.s_0.heap.objs.size ≤ a) (sk : X.s_0.heap.objs.size ≤ kS) (pa : ∀ p ∈ X.pn ++ pins, p.1 ≠ a ∧ p.1 ≠ kS) (keep : ∀ b o, b ≠ a → b ≠ kS → s1.heap.get? b = some o → h3.get? b = some o)
    (ha : h3.get? a = some (seqObj "list" out.toArray eO)) (rv : Vals vs out) (hz : vs.length ≤ sizeLine) :
    Inv X pins σ (upd H1 a (.lst vs)) { s1 with heap := h3, toks := tk } := by
  have pk := I.pin (kS, seqObj "list" kA eK) (List.mem_append_right _ (.head _))
  have pA := I.pin (a, seqObj "list" #[] e1) (List.mem_append_right _ (.tail _ (.head _)))
  have H1a : H1 a = none := pA.2.1
  have H1k : H1 kS = none := pk.2.1
  have I' : Inv X pins σ H1 s1 := I.pins_of fun p hp => I.pin p (List.mem_append_right _ (.tail _ (.tail _ hp)))
  have nT : ∀ b u, H1 b = some u → b ≠ a := fun b u e => ne_of_none e H1a
  have nK : ∀ b u, H1 b = some u → b ≠ kS := fun b u e => ne_of_none e H1k
  refine I'.step (g' := s1.gens) (d' := s1.drawn) (t' := tk) (ch := [a, kS]) (fun b hb => ?_) (fun b o _ _ hc e _ => keep b o (fun z => hc (by simp [z])) (fun z => hc (by simp [z])) e) (fun b o _ _ hc e _ => ⟨o.slots, keep b o (fun z => hc (by simp [z])) (fun z => hc (by simp [z])) e⟩)
    (fun b o hc _ n => by rw [upd_ne (fun z => hc (by simp [z]))]; exact n) (fun b o hc e => ⟨o, keep b o (fun z => hc (by simp [z])) (fun z => hc (by simp [z])) e⟩) (fun b xs e => by rw [upd_ne (nT b _ e)]; exact e) (fun b o u e => by rw [upd_ne (nT b _ e)]; exact e) (fun b ps e => ⟨#[], by rw [upd_ne (nT b _ e), e]; simp⟩)
    (fun m hm => ?_) (fun b u e => ?_) I'.bare
  · rcases List.mem_cons.mp hb with rfl | hb
    · exact ⟨.inr sa, pA.2.2.1, Inv.notcell I pA.1 seq_notcell, fun p hp => (pa p hp).1⟩
    · obtain rfl : b = kS := by simpa using hb
      exact ⟨.inr sk, pk.2.2.1, Inv.notcell I pk.1 seq_notcell, fun p hp => (pa p hp).2⟩
  · obtain ⟨o, es, ep, ho, r⟩ := hm
    exact ⟨o, es, ep, keep _ o (Ne.symm pA.2.2.1) (Ne.symm pk.2.2.1) ho, r⟩
  · by_cases hb : b = a
    · rw [hb, upd_same] at e
      cases e
      rw [hb]
      exact ⟨hz, out, eO, rv, ha⟩
    · rw [upd_ne hb] at e
      refine (I'.hok b u e).stay (fun c v hc q => keep c v ?_ ?_ q) (fun c q => by rw [upd_ne (nT c _ q)]; exact q) fun c xs q => by rw [upd_ne (nT c _ q)]; exact q
      · rcases hc with z | z
        · rw [z]; exact hb
        · exact nT c _ z
      · rcases hc with z | z
        · rw [z]; exact nK b u e
        · exact nK c _ z
theorem sortK_run {l f : Addr} {its : List Value} {fo : Obj} {xs : List V} {J : Nat → Hp → List V → Prop} {Q : VK} (I : Inv X pins σ H s) (hl : s.heap.IsList l its.toArray) (hz : its.length ≤ sizeLine) (rv : Vals xs its)
    (hf : s.heap.get? f = some fo) (hfn : H f = none) (hfL : f ≠ X.env.locals) (hff : f ∉ X.fs) (hfc : ∀ v, fo.data ≠ .cell v) (hu : X.A.units + 64 < cLine) (j0 : J 0 H [])
    (turn : ∀ (j : Nat) (x : V) (u : Value) (pins' : List (Addr × Obj)) (H1 : Hp) (s1 : Shared) (ks : List V), xs[j]? = some x → RelV x u → Inv X pins' σ H1 s1 → s1.heap.get? f = some fo → J j H1 ks →
      wpAny (model X.prog X.w) X.A.in1.in1 (call (.ref f) [u]) (fun r s2 => ∃ k H2, Inv X pins' σ H2 s2 ∧ RelV k r ∧ J (j + 1) H2 (ks ++ [k])) (fun _ _ => False) s1)
    (fin : ∀ H1 ks, J xs.length H1 ks → ∃ ps : List PyData, DpAll X.K H1 ks ps ∧ PySem.W.AllAlike ps ∧ PySem.W.Sortable ps ∧ (∀ p ∈ ps, p.depth ≤ 60) ∧
      ∀ (zs : List (V × PyData)) (p : Addr), zs = (xs.zip ps).mergeSort (PySem.W.dataLe false Prod.snd) → H1 p = none → Q (.ref p) (upd H1 p (.lst (zs.map Prod.fst)))) :
    wpAny (model X.prog X.w) X.A (call (.builtin "sorted") [.ref l] [(Str.ofString "key", .ref f)]) (EP X pins σ Q) X.xe s := by
  refine sorted_of_sort hl hz (ksk_s1 _ _) (fun _ => ksk_l1 _ _) fun E' => ?_
  rw [ksk_t1]
  have ho := copyHeap_at s.heap its
  have old := fun b o (e : s.heap.get? b = some o) => copyHeap_old (vs := its) e
  generalize copyHeap s.heap its = h0 at ho old ⊢
  have lta : s.heap.objs.size + 1 < h0.objs.size := Heap.lt_size ho
  generalize ea0 : s.heap.objs.size + 1 = a at ho lta ⊢
  have ea : @Eq Nat (s.heap.objs.size + 1) a := ea0
  obtain ⟨e1, ho1⟩ : ∃ e1, (h0.update a (Obj.mapSeq fun _ => (#[] : Array Value))).get? a = some (seqObj "list" #[] e1) := ⟨_, get?_update_seq ho fun _ => #[]⟩
  have hkS0 : ((h0.update a (Obj.mapSeq fun _ => (#[] : Array Value))).push (seqObj "tuple" its.toArray 0)).objs.size = h0.objs.size + 1 := by rw [size_push', Heap.size_update]
  unfold ksk_tree
  refine wpAny_bind (listItems_at ho rfl ?_)
  refine wpAny_bind (listUpdate_at ho rfl ?_ (by rw [List.size_toArray]; exact hz) (Nat.zero_le _))
  refine wpAny_bind (seqEpoch_at ho1 rfl ?_)
  refine wpAny_bind (wpAny_newTuple ?_ (by show its.length ≤ _; exact hz))
  refine wpAny_bind (wpAny_newList ?_ (Nat.zero_le _))
  refine wpAny_holding ?_
  have ha0 : (((h0.update a (Obj.mapSeq fun _ => (#[] : Array Value))).push (seqObj "tuple" its.toArray 0)).push (seqObj "list" #[] 0)).get? a = some (seqObj "list" #[] e1) := Heap.get?_push_of_some _ (Heap.get?_push_of_some _ ho1)
  have hk0 : (((h0.update a (Obj.mapSeq fun _ => (#[] : Array Value))).push (seqObj "tuple" its.toArray 0)).push (seqObj "list" #[] 0)).get? ((h0.update a (Obj.mapSeq fun _ => (#[] : Array Value))).push (seqObj "tuple" its.toArray 0)).objs.size = some (seqObj "list" #[] 0) := Heap.get?_push_size _ rfl
  have kp0 : ∀ b o, s.heap.get? b = some o → (((h0.update a (Obj.mapSeq fun _ => (#[] : Array Value))).push (seqObj "tuple" its.toArray 0)).push (seqObj "list" #[] 0)).get? b = some o := fun b o e => sortingHeap_old (a := a) (Nat.ne_of_lt (Nat.lt_trans (Heap.lt_size e) (by rw [← ea]; exact Nat.lt_succ_self _))) (old b o e)
  show wpAny _ _ (ksk_rest a (.ref f) false its.toArray e1 (.ref ((h0.update a (Obj.mapSeq fun _ => (#[] : Array Value))).push (seqObj "tuple" its.toArray 0)).objs.size)) _ _ { s with heap := (((h0.update a (Obj.mapSeq fun _ => (#[] : Array Value))).push (seqObj "tuple" its.toArray 0)).push (seqObj "list" #[] 0)) }
  generalize (((h0.update a (Obj.mapSeq fun _ => (#[] : Array Value))).push (seqObj "tuple" its.toArray 0)).push (seqObj "list" #[] 0)) = g0 at ha0 hk0 kp0 ⊢
  generalize ((h0.update a (Obj.mapSeq fun _ => (#[] : Array Value))).push (seqObj "tuple" its.toArray 0)).objs.size = kS at hkS0 hk0 ⊢
  have hkS : @Eq Nat kS (h0.objs.size + 1) := hkS0
  have szI := I.sz
  have ltL := I.lt
  have lak : a < kS := by omega
  have I0 : Inv X pins σ H { s with heap := g0 } := I.kept (t' := s.toks) kp0
  have nfs : ∀ b, s.heap.objs.size ≤ b → b ≠ X.env.locals ∧ b ∉ X.fs := fun b h => ⟨Nat.ne_of_gt (Nat.lt_of_lt_of_le ltL h), I.nofs h⟩
  have pl := Inv.pinlt I
  have hflt : f < s.heap.objs.size := Heap.lt_size hf
  let pins2 : List (Addr × Obj) := (a, seqObj "list" #[] e1) :: (f, fo) :: pins
  have pne : ∀ p ∈ X.pn ++ ((f, fo) :: pins), p.1 ≠ a ∧ p.1 ≠ kS := fun p hp => by
    have : p.1 < s.heap.objs.size := by
      rcases List.mem_append.mp hp with h | h
      · exact pl p (List.mem_append_left _ h)
      · rcases List.mem_cons.mp h with rfl | h
        · exact hflt
        · exact pl p (List.mem_append_right _ h)
    exact ⟨Nat.ne_of_lt (Nat.lt_trans this (by omega)), Nat.ne_of_lt (Nat.lt_trans this (by omega))⟩
  have pne2 : ∀ p ∈ X.pn ++ pins2, p.1 ≠ kS := fun p hp => by
    rcases List.mem_append.mp hp with h | h
    · exact (pne p (List.mem_append_left _ h)).2
    · rcases List.mem_cons.mp h with rfl | h
      · exact Nat.ne_of_lt lak
      · exact (pne p (List.mem_append_right _ h)).2
  have hlen : xs.length = its.length := rv.length
  unfold ksk_rest
  refine wpAny_bind (wpAny_rule ?_)
  first
    | rw [List.forIn_toArray]
    | (rw [← Array.forIn_toList]; simp only [List.toList_toArray])
    | rw [← Array.forIn_toList]
  refine wpAny_bind (ksk_fold (fun j s' => ∃ H1 ks kA e, Inv X ((kS, seqObj "list" kA e) :: pins2) σ H1 s' ∧ Vals ks kA.toList ∧ ks.length = j ∧ J j H1 ks) its 0 { s with heap := g0 } ?start ?step ?done)
  case start =>
    refine ⟨H, [], #[], 0, I0.pins_of fun p hp => ?_, .nil, rfl, j0⟩
    rcases List.mem_cons.mp hp with rfl | hp
    · exact ⟨hk0, I.hok.fresh (by omega), (nfs kS (by omega)).1, (nfs kS (by omega)).2, seq_notcell⟩
    · rcases List.mem_cons.mp hp with rfl | hp
      · exact ⟨ha0, I.hok.fresh (by omega), (nfs a (by omega)).1, (nfs a (by omega)).2, seq_notcell⟩
      · rcases List.mem_cons.mp hp with rfl | hp
        · exact ⟨kp0 _ _ hf, hfn, hfL, hff, hfc⟩
        · exact I0.pin p (List.mem_append_right _ hp)
  case step =>
    rintro j u s' hx ⟨H1, ks, kA, e, I1, rk, hj, jj⟩
    rw [Nat.zero_add] at hj jj ⊢
    have hjl : j < its.length := (List.getElem?_eq_some_iff.mp hx).1
    obtain ⟨x, hxj⟩ : ∃ x, xs[j]? = some x := ⟨_, List.getElem?_eq_getElem (by omega)⟩
    obtain ⟨u', hu', rxu⟩ := rv.get hxj
    rw [hx] at hu'
    cases hu'
    have hf1 := (I1.pin (f, fo) (List.mem_append_right _ (.tail _ (.tail _ (.head _))))).1
    refine wpAny_bind (wpAny_attempt (wpAny_mono (turn j x u _ H1 s' ks hxj rxu I1 hf1 jj) (fun r s2 hq => ?_) fun _ _ h => h.elim))
    obtain ⟨k, H2, I2, rkr, jj2⟩ := hq
    have pk := I2.pin (kS, seqObj "list" kA e) (List.mem_append_right _ (.head _))
    have ksz : kA.size = j := by rw [← Array.length_toList, ← rk.length, hj]
    have s1 := Heap.SameBut.update s2.heap kS (Obj.mapSeq (·.push r))
    obtain ⟨c2, hc2⟩ : ∃ c2, (s2.heap.update kS (Obj.mapSeq (·.push r))).get? kS = some (seqObj "list" (kA.push r) c2) := ⟨_, get?_update_seq pk.1 (·.push r)⟩
    have hzz : j ≤ sizeLine := Nat.le_trans (Nat.le_of_lt hjl) hz
    refine wpAny_bind (listUpdate_at pk.1 rfl ?_ (by rw [ksz]; exact hzz) (by rw [Array.size_push, ksz]; exact Nat.succ_le_succ hzz))
    have I3 : Inv X pins2 σ H2 s2 := I2.pins_of fun p hp => I2.pin p (List.mem_append_right _ (.tail _ hp))
    have I4 : Inv X pins2 σ H2 { s2 with heap := s2.heap.update kS (Obj.mapSeq (·.push r)) } :=
      I3.turned (t' := s2.toks) (it := kS) (fun b o hb q => (s1.2 b hb).trans q) pk.2.1 pk.2.2.1 (.inr (by omega)) (Inv.notcell I2 pk.1 seq_notcell) pne2
    have I5 : Inv X ((kS, seqObj "list" (kA.push r) c2) :: pins2) σ H2 { s2 with heap := s2.heap.update kS (Obj.mapSeq (·.push r)) } := I4.pins_of fun p hp => by
      rcases List.mem_cons.mp hp with rfl | hp
      · exact ⟨hc2, pk.2.1, pk.2.2.1, pk.2.2.2.1, seq_notcell⟩
      · exact I4.pin p (List.mem_append_right _ hp)
    refine wpAny_pure ⟨rfl, H2, ks ++ [k], kA.push r, c2, I5, ?_, by simp [hj], jj2⟩
    rw [Array.toList_push]
    exact rk.append (.cons rkr .nil)
  case done =>
    rintro s' ⟨H1, ks, kA, e, I1, rk, hj, jj⟩
    rw [Nat.zero_add] at hj jj
    rw [← hlen] at jj
    obtain ⟨ps, hdp, hal, hso, hdep, hq⟩ := fin H1 ks jj
    have pk := I1.pin (kS, seqObj "list" kA e) (List.mem_append_right _ (.head _))
    have pA := I1.pin (a, seqObj "list" #[] e1) (List.mem_append_right _ (.tail _ (.head _)))
    obtain ⟨as, rd⟩ := Dp.readsAll I1 ps ks kA.toList hdp rk
    have l1 : ks.length = ps.length := dpAll_len hdp
    have ksz : kA.size = its.length := by rw [← Array.length_toList, ← rk.length, hj]
    have hk : PySem.W.EachIs (fun v d => ∃ as, Reads s'.heap v d as) kA.toList ps := each_of (by rw [Array.length_toList, ksz]; omega) fun i v d h1 h2 => readsAll_each rd i v d h1 h2
    refine wpAny_bind (listItems_at pk.1 rfl ?_)
    refine keyH_end (κ := dataKind s'.heap ps) (h₁ := hideAll s'.heap [kS]) (fun b o _ q => of_hideAll _ q) (hideAll_none _ (.head _)) pk.1 pA.1 (Nat.ne_of_gt lak) (SortsAt.data (s := s') hk hal hso fun d hd => by
      have h1 := hdep d hd
      show X.A.units + 1 + 1 + d.depth < cLine
      omega) ksz hz fun h3 tk3 c k3 n3 => ⟨rfl, ?_⟩
    have ko : KeyedOut false ps its (sortVals (dataKind s'.heap ps) false kA.toList its) := ⟨s'.heap, kA.toList, hal, rfl, hk⟩
    generalize sortVals (dataKind s'.heap ps) false kA.toList its = out at ko n3
    let bs : List ((Value × V) × PyData) := (its.zip xs).zip ps
    have hbl : bs.length = ps.length := by show ((its.zip xs).zip ps).length = _; simp; omega
    have hmap : bs.map Prod.snd = ps := by
      show ((its.zip xs).zip ps).map Prod.snd = ps
      exact List.map_snd_zip (by simp; omega)
    have he : EachIs (fun v (b : (Value × V) × PyData) => v = b.1.1 ∧ RelV b.1.2 v) out (bs.mergeSort (dataLe false Prod.snd)) := keyedOut_each (β := (Value × V) × PyData) (R := fun v b => v = b.1.1 ∧ RelV b.1.2 v) (bs := bs) Prod.snd (by rw [hmap]; exact ko) (each_of (by omega) fun i v b h1 h2 => by
      obtain ⟨g1, g2, g3⟩ := zip3_get h2
      rw [h1] at g1
      exact ⟨Option.some.inj g1, vals_each rv i _ _ g2 h1⟩)
    have hvals := each_vals (bs := bs) he
    have hzs : (bs.mergeSort (dataLe false Prod.snd)).map (fun b => (b.1.2, b.2)) = (xs.zip ps).mergeSort (dataLe false Prod.snd) := by
      refine Eq.trans (ms_map (f := fun b : (Value × V) × PyData => (b.1.2, b.2)) (r := dataLe false Prod.snd) (s := dataLe false Prod.snd) (fun a b => rfl) bs) ?_
      congr 1
      apply List.ext_getElem?
      intro i
      rw [List.getElem?_map]
      cases hx : bs[i]? with
      | none =>
        have : bs.length ≤ i := List.getElem?_eq_none_iff.mp hx
        exact (List.getElem?_eq_none_iff.mpr (by simp; omega)).symm
      | some z =>
        obtain ⟨g1, g2, g3⟩ := zip3_get hx
        exact (List.getElem?_zip_eq_some (z := (z.1.2, z.2)).mpr ⟨g2, g3⟩).symm
    have hfst : ((xs.zip ps).mergeSort (dataLe false Prod.snd)).map Prod.fst = (bs.mergeSort (dataLe false Prod.snd)).map fun b => b.1.2 := by
      rw [← hzs, List.map_map]; rfl
    have q' := hq _ a rfl pA.2.1
    rw [hfst] at q'
    have kpE : ∀ b o, b ≠ a → b ≠ kS → s'.heap.get? b = some o → h3.get? b = some o := fun b o h1 h2 e => k3 b o h1 (hideAll_get _ e (by simp [h2]))
    have I2 : Inv X ((kS, seqObj "list" kA e) :: (a, seqObj "list" #[] e1) :: ((f, fo) :: pins)) σ H1 s' := I1
    have J := sortK_end (tk := tk3) I2 (by omega) (by omega) pne kpE n3 hvals (by rw [List.length_map, List.length_mergeSort, hbl]; omega)
    exact ⟨.ref a, _, J.pins_of fun p hp => J.pin p (List.mem_append_right _ (.tail _ hp)), rfl, q'⟩
end
end Dl
namespace Dl
open PySem PySem.Spec PyProof.Rows L2 LamX NdefX
/-- the built-ins' module, as a code object's table asks for it -/
structure BltK (K : PySem.W.Frag) (mg : Str → Option Value) (P : Addr) : Prop where
  ex : ∃ (bm : Addr) (o : Obj), mg "__builtins__" = some (.ref bm) ∧ bm ≠ builtinsNs ∧ bm ≠ mainGlobals ∧ bm ≠ P ∧ K.lookup bm = some o ∧ o.cls = .type "module" ∧ o.dict = some builtinsNs ∧ o.data = .plain
/-- what is known of a lambda's maker: its code object, that object's table -/
structure LamK (K : PySem.W.Frag) (mg : Str → Option Value) (code : Value) (q : Str) : Prop where
  ex : ∃ c P, code = .ref c ∧ PySem.W.codeHdIn K c P = true ∧ BltK K mg P ∧ mainGlobals ≠ P ∧ (c, P, q) ∈ tabsOf K ∧ ∀ c2 q2, (c2, P, q2) ∈ tabsOf K → q2 = q
theorem BltK.at_ {K : PySem.W.Frag} {mg : Str → Option Value} {P : Addr} {base : Heap} (b : BltK K mg P) (X : K.In base) : base.BuiltinsAt mg P := by
  obtain ⟨bm, o, h1, h2, h3, h4, h5, h6, h7, h8⟩ := b.ex
  exact ⟨bm, o, h1, h2, h3, h4, X _ _ h5, h6, h7, h8⟩
/-- a lambda's name within the def x -/
abbrev lamq (x : Str) : Str := (x ++ ".<locals>.") ++ "<lambda>"
/-- the def x of the top makes lambdas -/
structure LamT (K : PySem.W.Frag) (mg : Str → Option Value) (x : Str) : Prop where
  of : ∀ f o fd, mg x = some (.ref f) → K.lookup f = some o → o.data = .func fd → LamK K mg fd.code (lamq x)
/-- a code object stays -/
theorem Ext.code {K : PySem.W.Frag} {m m1 : Nat → Addr} {S S1 : Sto} {Z : Addr → Prop} {H H1 : Hp} {c : Addr} {q : Str} (w : Wd0 K m S Z H) (e : Ext m S Z H m1 S1 H1) (h : H c = some (CodeO c q)) : H1 c = some (CodeO c q) := by
  by_cases z : Z c
  · rw [e.zed c z fun ps x => codeO_ne ps (Option.some.inj (h.symm.trans x))]
    exact h
  · refine vis_sub (e.vis c _ (vis_of h z fun n l x => ?_))
    obtain ⟨o, ho⟩ := l
    exact (w.rep n o ho).noTb.2 c q (by rw [x]; exact h)
/-- what a name held -/
def slotD (ρ : Env_) (j : Nat) : Option D := match ρ[j]? with
  | some o => o
  | none => none
theorem relS_lam {K : PySem.W.Frag} {m : Nat → Addr} {n : Nat} {Hv : Hp} {ρ : Env_} {σ : L2.St} {N : List Str} {js : List Nat} {d : D} {v : V} (rs : RelS K m n Hv ρ σ) (r : Rep K m n Hv d v) (hN : N.length = 1 + js.length) :
    RelS K m n Hv (some d :: js.map (slotD ρ)) (startF N [v] (js.map (slotAt σ))) := by
  have e : startF N [v] (js.map (slotAt σ)) = some v :: js.map (slotAt σ) := by
    unfold startF
    rw [List.length_map, List.length_singleton, hN]
    simp
  rw [e]
  refine ⟨by simp, fun i d' h => ?_⟩
  cases i with
  | zero =>
    rw [List.getElem?_cons_zero] at h
    cases h
    exact ⟨v, rfl, r⟩
  | succ i =>
    rw [List.getElem?_cons_succ, List.getElem?_map] at h
    cases ej : js[i]? with
    | none => rw [ej] at h; cases h
    | some j =>
      rw [ej] at h
      have h : slotD ρ j = some d' := Option.some.inj h
      have h2 : ρ[j]? = some (some d') := by
        unfold slotD at h
        cases er : ρ[j]? with
        | none => rw [er] at h; cases h
        | some o => rw [er] at h; exact congrArg some h
      obtain ⟨x, h3, h4⟩ := rs.2 j d' h2
      exact ⟨x, by rw [List.getElem?_cons_succ, List.getElem?_map, ej]; exact congrArg some (slotAt_of h3), h4⟩
/-- the keys, one by one -/
def gKeys (gb : G D) (ws : Env_) : List D → Sto → (List D → Sto → Prop) → Prop
  | [], S, q => q [] S
  | d :: ds, S, q => gb (some d :: ws) S fun k S1 => gKeys gb ws ds S1 fun ks S2 => q (k :: ks) S2
/-- the items by their keys -/
def byKeys (ds ks : List D) (fz : Bool) (S : Sto) (q : D → Sto → Prop) : Prop := ∃ ps, toPys ks = some ps ∧ PySem.W.AllAlike ps ∧ PySem.W.Sortable ps ∧ (∀ p ∈ ps, p.depth ≤ 60) ∧ newL fz (((ds.zip ps).mergeSort (PySem.W.dataLe false Prod.snd)).map Prod.fst) S q
def gSortK (fz : Bool) (js : List Nat) (ga gb : G D) : G D := fun ρ S q => ga ρ S fun d S1 => ∃ ds, seqOf S1 d = some ds ∧ d.isTup = false ∧ gKeys gb (js.map (slotD ρ)) ds S1 fun ks S2 => byKeys ds ks fz S2 q
section
variable {X : Cx} {U : Wi} {e : Expr} {ga gb : G D} {fz : Bool} {k : Nat} {pn : Str} {js : List Nat} {N fr : List Str} {params : Arguments} {body : Expr} {scope : Scope} {p pos lpos kpos : Pos}
theorem d_sortK (lm : LamK X.K X.mg X.env.code (X.env.qual ++ "<lambda>")) (hr : RoomG (k + 3) X.A) (hg : Gl X "sorted") (hmg : X.mg "sorted" = none) (ha : PE X e (tofE X.K U ga)) (S : NScope N [pn] fr scope) (nd : ndefB X.env.scope scope fr = true)
    (hjs : js.map (fun j => X.N[j]?) = fr.map some) (hNl : N.length = 1 + js.length) (hdef : defaultsOf params X.env = ([], []))
    (hb : ∀ (q : Str) (cl : List (Str × Addr)) (pm cv ctv u : Value), bindArgs (PySem.W.kla_fn "<lambda>" q params body scope cl pm cv ctv) ⟨[u], []⟩ = pure [(pn, u)])
    (hbody : ∀ (cl : List (Str × Addr)) (c' f : Addr) (A : Around) (outer : List Env) (s : Shared) (H : Hp), RoomG k (A.deeper (envF ⟨"<lambda>", X.env.qual ++ "<lambda>", params, [], scope, cl, c'⟩ f s.heap.objs.size)) →
      PE (ncx L2.CX0 X.prog X.w X.K X.mg X.base N ⟨"<lambda>", X.env.qual ++ "<lambda>", params, [], scope, cl, c'⟩ f A outer s H fun _ _ _ => False) body (tofE X.K U0 gb))
    (hs : starEach [e] X.env = (false, eval e X.env) :: starEach [] X.env := by rfl) (hv : bootBuiltins "sorted" = some (.builtin "sorted") := by decide +kernel)
    (he : backTo pos (starEach [e] X.env) = (false, eval e X.env) :: backTo pos (starEach [] X.env) := by rfl) (hpl : (backTo pos (starEach [e] X.env)).any (·.1) = false := by rfl) :
    PE X (.Call (.Name "sorted" p) [e] [⟨some (Str.ofString "key"), .Lambda params body scope lpos, kpos⟩] pos) (tofE X.K U (gSortK fz js ga gb)) := by
  refine ⟨fun pins s σ H Q I ⟨m, S0, Z, ρ, q, w, rs, h, kk⟩ => ?_⟩
  obtain ⟨c, P, hcode, hhd, hbl, hgP, hm, hu⟩ := lm.ex
  have TB : TabB X.base X.mg c P := ⟨PySem.W.codeHd_of_K I.ok.mod.kin hhd, hbl.at_ I.ok.mod.kin, hgP⟩
  refine wpAny_Call_Name_kw (ld_blt I hg hmg hv ?_ (by decide) (by decide))
  let q1 : List D → Sto → Prop := fun as S1 => match as with
    | [d] => ∃ ds, seqOf S1 d = some ds ∧ d.isTup = false ∧ gKeys gb (js.map (slotD ρ)) ds S1 fun ks S2 => byKeys ds ks fz S2 q
    | _ => False
  refine PyProof.Rows.callWith_kw (thn ((d_cons ha d_nil hs).run pos pins s σ H (fun vs H1 => ∃ m1 S1 as, Ext m S0 Z H m1 S1 H1 ∧ Wd X.K U m1 S1 Z H1 ∧ Reps X.K m1 S1.length (vis m1 S1 Z H1) as vs ∧ q1 as S1) I
    ⟨m, S0, Z, ρ, q1, w, rs, h, fun b H' m' a S' e' w' r' h' => ⟨m', S', a, e', w', r', h'⟩⟩) fun us s1 ⟨vs, H1, I1, rv, m1, S1, as, e1, w1, r1, h1⟩ => ?_) he hpl rfl rfl
  obtain ⟨d, has⟩ : ∃ d, as = [d] := by
    match as, h1 with
    | [d], _ => exact ⟨d, rfl⟩
    | [], h1 => exact h1.elim
    | _ :: _ :: _, h1 => exact h1.elim
  subst has
  obtain ⟨ds, hseq, htup, hkeys⟩ := h1
  rw [Reps] at r1
  obtain ⟨v, r0, evs, rd, er0⟩ := r1
  rw [Reps] at er0
  subst er0
  subst evs
  have hfree : ∀ y ∈ scope.names, y.2 = .free → ∃ c, X.env.cells.lookup y.1 = some c := fun y hy e => (ndef_free nd y hy e).elim (fun z => I1.ok.has _ (.inl z)) fun z => I1.ok.has _ (.inr z)
  show wpAny _ _ (evalAll ((do let v ← eval (.Lambda params body scope lpos) X.env; standAt pos; pure v) :: [])) _ _ s1
  refine wpAny_evalAll_cons (wpAny_bind (lam_mk I1 TB hcode (w1.tb.t c P _ hm) hdef hfree fun f c' pm ctv H2 s2 I2 st le fn fo => wpAny_bind (wpAny_standAt (wpAny_pure (wpAny_evalAll_nil ?_)))))
  obtain ⟨w2, e2⟩ := w1.toWd0.lam hm hu st
  have w2U : Wd X.K U m1 S1 Z H2 := w1.on e2 w2
  obtain ⟨l, xs, ev, hr1, _, hl⟩ := seqOf_rep w2U (rd.ext e2) hseq
  subst ev
  obtain ⟨u, rfl, ru⟩ := vals1 rv
  obtain rfl : u = Value.ref l := ru
  obtain ⟨its, rvi, hli, hz⟩ := I2.list (hl htup)
  have rs2 := rs.ext (e1.trans e2)
  show wpAny _ _ (call (.builtin "sorted") [.ref l] [(Str.ofString "key", .ref f)]) _ _ s2
  have lenx := Reps.len hr1
  refine sortK_run (xs := xs) (J := fun j H' ks => ∃ m' S' kds, Ext m1 S1 Z H2 m' S' H' ∧ Wd X.K U m' S' Z H' ∧ Reps X.K m' S'.length (vis m' S' Z H') kds ks ∧ kds.length = j ∧ gKeys gb (js.map (slotD ρ)) (ds.drop j) S' fun rest S2 => byKeys ds (kds ++ rest) fz S2 q)
    I2 hli.isList (by rw [← rvi.length]; exact hz) rvi fo fn (Nat.ne_of_gt (Nat.lt_of_lt_of_le I1.lt le)) (I1.nofs le) (fun v z => by cases z) hr.units ⟨m1, S1, [], Ext.refl, w2U, reps_nil, rfl, hkeys⟩ (fun j x u pins' H3 s3 ks hx rxu I3 hf3 hJ => ?_) fun H3 ks hJ => ?_
  · obtain ⟨m', S', kds, e', w', rk, hlen, hg⟩ := hJ
    have code := Ext.code w2 e' st.at_
    have hjl : j < ds.length := by rw [← lenx]; exact (List.getElem?_eq_some_iff.mp hx).1
    obtain ⟨d', hd'⟩ : ∃ d', ds[j]? = some d' := ⟨_, List.getElem?_eq_getElem hjl⟩
    obtain ⟨x', hx', rd'⟩ := Reps.get hr1 hd'
    rw [hx] at hx'
    cases hx'
    have hdrop : ds.drop j = d' :: ds.drop (j + 1) := by
      rw [List.drop_eq_getElem_cons hjl]
      congr 1
      rw [List.getElem?_eq_getElem hjl] at hd'
      exact Option.some.inj hd'
    rw [hdrop] at hg
    have hg2 : gb (some d' :: js.map (slotD ρ)) S' fun k S1 => gKeys gb (js.map (slotD ρ)) (ds.drop (j + 1)) S1 fun rest S2 => byKeys ds ((kds ++ [k]) ++ rest) fz S2 q := by
      have z : (fun k S1 => gKeys gb (js.map (slotD ρ)) (ds.drop (j + 1)) S1 fun rest S2 => byKeys ds ((kds ++ [k]) ++ rest) fz S2 q) = fun k S1 => gKeys gb (js.map (slotD ρ)) (ds.drop (j + 1)) S1 fun rest S2 => byKeys ds (kds ++ k :: rest) fz S2 q := by
        funext k S1
        congr 1
        funext rest S2
        rw [List.append_assoc]
        rfl
      rw [z]
      exact hg
    have run := lam_run (CX := L2.CX0) (E := fun _ _ _ => False) (Q := fun v H'' => ∃ m'' S'' kds', Ext m1 S1 Z H2 m'' S'' H'' ∧ Wd X.K U m'' S'' Z H'' ∧ Reps X.K m'' S''.length (vis m'' S'' Z H'') kds' (ks ++ [v]) ∧ kds'.length = j + 1 ∧ gKeys gb (js.map (slotD ρ)) (ds.drop (j + 1)) S'' fun rest S2 => byKeys ds (kds' ++ rest) fz S2 q)
      (F := ⟨"<lambda>", X.env.qual ++ "<lambda>", params, [], scope, cloFrom X.env.cells scope.names [], c'⟩) (us := [u]) (vs := [x]) S hr.in1.in1.toRoom I3.env0.in1.in1 hf3 (hb _ _ _ _ _ u) rfl code (cells_of I3 (Caps.made I3.ok (ndef_free nd) (ndef_fr nd) hjs)) (.cons rxu .nil)
      (hbody _ c' f X.A.in1.in1 X.stack s3 H3 (hr.in1.in1.deeper _))
      ⟨m', S', Z, some d' :: js.map (slotD ρ), _, w'.w0, relS_lam (rs2.ext e') (rd'.ext e') hNl, hg2, fun v H'' m'' dk S'' e'' w'' rdk hk => ⟨m'', S'', kds ++ [dk], e'.trans e'', w'.on e'' w''.toWd0, (Reps.ext e'' rk).append (Reps.one rdk), by simp [hlen], hk⟩⟩
    refine wpAny_call (codeAny_mono run fun r s' hq => ?_)
    cases r with
    | error e => exact hq.elim
    | ok fl =>
      cases fl with
      | ret u => exact I3.after hq
      | next => exact hq.elim
      | brk => exact hq.elim
      | cont => exact hq.elim
  · obtain ⟨m', S', kds, e', w', rk, hlen, hg⟩ := hJ
    rw [lenx, List.drop_length] at hg
    have hg : byKeys ds (kds ++ []) fz S' q := hg
    rw [List.append_nil] at hg
    obtain ⟨ps, hps, al, so, dep, hn⟩ := hg
    refine ⟨ps, DpAll.sub vis_le (dps_of rk hps), al, so, dep, fun zs p hz hp => ?_⟩
    rw [hz]
    exact out_newL w' (reps_sorted (Reps.ext e' hr1) (by rw [toPys_len hps, hlen, lenx])) hn (kk.ext ((e1.trans e2).trans e')) hp
end
section
variable {P : Program} {w : World} {K : PySem.W.Frag} {mg : Str → Option Value} {base : Heap} {x : Str} {st : Stmt} {dvs : List V} {N ps : List Str} {k : Nat} {dsp : DSp}
theorem FnG.by_bodyC {CX : CXT} {f : Addr} {fd : FuncData} {sp : Sp} {qual : Str} {params : Arguments} {body : List Stmt} {scope : Scope} {kws : List (Str × V)} (F : FunD K x qual params body scope dvs kws f fd) (S : FnScope N ps scope) (len : ∀ vs H Q E, sp vs H Q E → vs.length = ps.length)
    (go : ∀ (cdv : Value) (A : Around) (outer : List Env) (s : Shared) (H : Hp) (vs : List V) (Q : VK) (E : XK), (∃ o fd, K.lookup f = some o ∧ o.data = .func fd ∧ fd.code = cdv) → RoomG k (A.deeper (envOfC qual scope s.heap.objs.size f cdv)) → sp vs H Q E →
      ∃ t, PSs (cxOf CX P w K mg base N qual scope f cdv A outer s H E) body t ∧ t { nx := fun _ H' => Q .non H', rt := Q } (L2.start N vs) H) : FnG P w K mg base CX (k + 1) f fd ps sp := by
  have F2 := F
  obtain ⟨oc, od, dV, kV, doc, pm, an, cdv, ct, osl, efd, lk, hcd, _, _⟩ := F.ex
  refine ⟨len, fun A outer s H args us vs Q E hr e0 hb hv hsp => ?_⟩
  subst efd
  have kept : ∀ b o, base.get? b = some o → s.heap.get? b = some o := fun b o e => (e0.bs b o e).1
  have inK := e0.mod.kin.keeps kept
  refine codeAny_call_function hr.toRoom.depth (inK _ _ lk) rfl S.co S.gen rfl (PySem.W.codeRec_of inK hcd) (hb _ _ _ _ ?_)
  refine wpAny_newFunctionEnv_cells S.kind (fun y hy => ?_) fun env he s1 x => ?_
  · rcases S.par y.1 (List.of_mem_zip (a := y.1) (b := y.2) hy).1 with q | q
    · left; exact q
    · right; exact ⟨q, PySem.W.cellsFrom_some _ _ _ (.inl q)⟩
  subst he
  obtain ⟨t, ht, hq⟩ := go cdv A outer s H vs Q E ⟨_, _, lk, rfl, rfl⟩ (hr.deeper _) hsp
  refine ⟨(e0.mod.nolimit.keeps kept).keeps x.toInCall.keep, codeAny_func (wpAny_mono (ht.run [] s1 _ H _ (inv_start S hr.hd e0 (len _ _ _ _ hsp) hv x) hq) (fun fl s' hs => ?_) fun e s' hs => hs)⟩
  cases fl with
  | ret u => obtain ⟨v, σ', H', J, rv, q⟩ := hs; exact ⟨v, H', J.os, J.bare, J.base, J.hok, rv, q⟩
  | next => obtain ⟨σ', H', J, q⟩ := hs; exact ⟨.non, H', J.os, J.bare, J.base, J.hok, rfl, q⟩
  | brk => obtain ⟨σ', H', J, q⟩ := hs; exact q.elim
  | cont => obtain ⟨σ', H', J, q⟩ := hs; exact q.elim
/-- by its reading, nothing cut back -/
theorem fn_body0L {f : Addr} {fd : FuncData} (F : FunS K x x st dvs f fd) (hm : mg x = some (.ref f)) (lm : LamT K mg x) (S : FnScope N ps (defScope st)) (len : ∀ ds S q, dsp ds S q → ds.length = ps.length) (g : GS)
    (hbody : ∀ (cdv : Value) (A : Around) (outer : List Env) (s : Shared) (H : Hp) (E : XK), LamK K mg cdv (lamq x) → RoomG k (A.deeper (envOfC x (defScope st) s.heap.objs.size f cdv)) →
      PSs (cxOf CX0 P w K mg base N x (defScope st) f cdv A outer s H E).nox (defBody st) (tofS K U0 g))
    (hread : ∀ ds S q, D.unders S.length ds = true → Sto.under S.length S = true → dsp ds S q → g { nx := fun _ S' => q .non S', rt := q } (startD N ds) S) : FnG P w K mg base CX0 (k + 1) f fd ps (spOf K dsp) := by
  refine FnG.by_bodyC F S (fun vs H Q E ⟨m, S', Z, ds, q, w, r, h, k⟩ => by rw [Reps.len r]; exact len _ _ _ h) fun cdv A outer s H vs Q E hcd hr ⟨m, St', Z, ds, q, wd, rd, hd, kk⟩ => ?_
  obtain ⟨o, fd', h1, h2, h3⟩ := hcd
  refine ⟨_, (hbody cdv A outer s H E (by rw [← h3]; exact lm.of _ _ _ hm h1 h2) hr).nox, m, St', Z, startD N ds, _, wd, relS_start rd, hread ds St' q (Reps.below rd) wd.under hd, ⟨?_, kk, ?_, ?_⟩⟩
  · exact fun σ' H' m' ρ' S' e' w' _ h' => kk .non H' m' .non S' e' w' rep_non h'
  · exact fun _ _ _ _ _ _ _ _ h => h.elim
  · exact fun _ _ _ _ _ _ _ _ h => h.elim
end
theorem x_keysM {A : Type} {gb : G D} {ws : Env_} {S : Sto} {f k : A → D} : ∀ {L : List A} {q : List D → Sto → Prop}, (∀ x ∈ L, ∀ q : D → Sto → Prop, q (k x) S → gb (some (f x) :: ws) S q) → q (L.map k) S → gKeys gb ws (L.map f) S q
  | [], _, _, h => h
  | d :: ds, q, hk, h => hk d (List.mem_cons_self ..) _ (x_keysM (L := ds) (fun x hx => hk x (List.mem_cons_of_mem _ hx)) h)
/-- by keys that are ints -/
theorem x_byI {A : Type} {L : List A} {f : A → D} {g : A → Int} {ks : List D} {fz : Bool} {S : Sto} {q : D → Sto → Prop} (hk : ks = L.map fun x => D.int (g x)) (h : newL fz ((L.mergeSort fun x y => decide (g x ≤ g y)).map f) S q) : byKeys (L.map f) ks fz S q := by
  subst hk
  have ep : toPys (L.map fun x => D.int (g x)) = some (L.map fun x => PyData.int (g x)) := by
    have := toPys_int (L.map g)
    rw [List.map_map, List.map_map] at this
    exact this
  refine ⟨L.map fun x => PyData.int (g x), ep, PySem.W.AllAlike.of fun b b' => rfl, .inr fun d hd => ?_, fun p hp => ?_, ?_⟩
  · obtain ⟨p, _, rfl⟩ := List.mem_map.mp hd
    exact ⟨fun z => (nomatch z), fun xs z => nomatch z⟩
  · obtain ⟨p, _, rfl⟩ := List.mem_map.mp hp
    exact (by decide : (0 : Nat) ≤ 60)
  · have e1 : (L.map f).zip (L.map fun x => PyData.int (g x)) = L.map fun x => (f x, PyData.int (g x)) := by
      rw [List.zip_map']
    have e2 : (L.mergeSort fun x y => decide (g x ≤ g y)).map (fun x => (f x, PyData.int (g x))) = (L.map fun x => (f x, PyData.int (g x))).mergeSort (PySem.W.dataLe false Prod.snd) := by
      refine ms_map (f := fun x : A => (f x, PyData.int (g x))) (r := fun x y => decide (g x ≤ g y)) (s := PySem.W.dataLe false Prod.snd) (fun a b => ?_) L
      have := congrFun (congrFun (PySem.W.dataLe_int (β := A) g) a) b
      exact this.symm
    rw [e1, ← e2, List.map_map]
    exact h
end Dl
namespace Hd
open PySem PySem.Spec PyProof.Rows L2 Dl
abbrev Fq := PySem.W.Frag → Bool
def obsQ (fa : List Fq) (fn : List He.DefD) (K : PySem.W.Frag) : He.AlD := ((fa.all fun f => f K) && fn.all fun d => d.ok K, fn.map fun d => He.fnW K d.at_)
def SaysQ (fa : List Fq) (fn : List He.DefD) (K : PySem.W.Frag) : Prop := obsQ fa fn K = He.valD fn
/-- what the module's names reach in n steps, step by step -/
def goF (g : Addr → Option Obj) : Nat → List Addr → List Addr
  | 0, fr => fr
  | n + 1, fr => fr ++ goF g n (fr.flatMap fun a => match g a with
    | some o => He.refsD o
    | none => [])
abbrev Qs := List (List Fq × List He.DefD)
def valL (qs : Qs) : List He.AlD := qs.map fun q => He.valD q.2
def SaysL (qs : Qs) (K : PySem.W.Frag) : Prop := ∀ q ∈ qs, SaysQ q.1 q.2 K
section
open PySem.W PySem.Calls
def Looks (r : OpenRow) (q : Program) (M : Nat) (loose : List PySem.Str) (w : World) : Prop :=
  ∀ os : OsState, (HandSHeadRun.endF (HandSHeadRun.stepQ (HandSHeadRun.denQ HandSHeadRun.tabQ) r.prog w) M r.prog w os).map (fun s => (HandSHeadRun.looksF r.prog (boot_heap w.params) s.abs, HandSHeadRun.seenQ q loose (importedModules r.prog.main.body) (fun s => xlAt q [] s && recOk r.toRowW.records s) s.abs)) = some (true, openGood q loose)
variable {r : OpenRow} {q : Program} {n M : Nat} {loose : List PySem.Str} {w : World} {qs : Qs} {fa : List Fq} {fn : List He.DefD}
end
section
variable {fa : List Fq} {fn : List He.DefD} {K : PySem.W.Frag}
theorem SaysQ.fact (c : SaysQ fa fn K) (i : Nat) {f : Fq} (h : fa[i]? = some f) : f K = true := by
  have c1 := (He.ba (show ((fa.all fun f => f K) && fn.all fun d => d.ok K) = true from congrArg (fun z : He.AlD => z.1) c)).1
  exact List.all_eq_true.mp c1 f (List.mem_of_getElem? h)
theorem SaysQ.def_ (c : SaysQ fa fn K) (i : Nat) {d : He.DefD} (h : fn[i]? = some d) : ∃ fd, FunD K d.name d.qual d.params d.body d.scope (d.dvs K) (d.kws K) (He.fAd K d.at_) fd := by
  have c2 := (He.ba (show ((fa.all fun f => f K) && fn.all fun d => d.ok K) = true from congrArg (fun z : He.AlD => z.1) c)).2
  have e : fn.map (fun d => He.fnW K d.at_) = fn.map He.DefD.val := congrArg (fun z : He.AlD => z.2) c
  have e2 : (fn.map fun d => He.fnW K d.at_)[i]? = (fn.map He.DefD.val)[i]? := by rw [e]
  rw [List.getElem?_map, List.getElem?_map, h] at e2
  exact He.DefD.funD (Option.some.inj e2) (List.all_eq_true.mp c2 d (List.mem_of_getElem? h))
end
end Hd
namespace Mt
open PySem L2 Dl
def hm (h m : Nat) : Str := ⟨#[48 + h / 10, 48 + h % 10, 58, 48 + m / 10, 48 + m % 10]⟩
def plus : Str := (("+" : String) : Str)
/-- a minute as the text shows it -/
def T (w : Nat) : Str := if w < 1440 then hm (w / 60) (w % 60) else hm (w % 1440 / 60) (w % 60) ++ (plus ++ showI (w / 1440 : Nat))
end Mt
namespace Mt
open PySem L2 Dl
def Tp (B : Int) (o : Option MO) : Prop := ∃ (ns : List Int) (t r : Int), o = some (.lst [.lst (ns.map .int), .int t, .int r]) ∧ 0 ≤ t ∧ t ≤ B ∧ 0 ≤ r
theorem Tp.mono {B B' : Int} {o : Option MO} (h : Tp B o) (l : B ≤ B') : Tp B' o := by
  obtain ⟨ns, t, r, e, h1, h2, h3⟩ := h
  exact ⟨ns, t, r, e, h1, by omega, h3⟩
/-- a def that draws at most k times -/
def tk (k : Int) (args : List D) (R : D → Prop) : DSp := fun ds S q => ∃ o R0 B, ds = .loc 0 :: args ∧ S = o :: R0 ∧ Tp B o ∧ B + k ≤ 10 ^ 12 ∧ ∀ d o', R d → Tp (B + k) o' → q d (o' :: R0)
theorem tk_in {k B : Int} {args : List D} {R : D → Prop} {o : Option MO} {R0 : Sto} {q : D → Sto → Prop} (h : Tp B o) (hb : B + k ≤ 10 ^ 12) (hq : ∀ d o', R d → Tp (B + k) o' → q d (o' :: R0)) : tk k args R (.loc 0 :: args) (o :: R0) q :=
  ⟨o, R0, B, rfl, rfl, h, hb, hq⟩
theorem tk_len {k : Int} {args : List D} {R : D → Prop} {ds : List D} {S : Sto} {q : D → Sto → Prop} {n : Nat} (hn : args.length + 1 = n) (h : tk k args R ds S q) : ds.length = n := by
  obtain ⟨o, R0, B, e, _⟩ := h
  rw [e, ← hn]; rfl
def intIn (lo hi : Int) : D → Prop := fun d => ∃ x, d = .int x ∧ lo ≤ x ∧ x < hi
def draw : DSp := fun ds S q => ∃ many, 0 < many ∧ many < 1073741824 ∧ tk 1 [.int many] (intIn 0 many) ds S q
theorem draw_in {many B : Int} {o : Option MO} {R0 : Sto} {q : D → Sto → Prop} (h1 : 0 < many) (h2 : many < 1073741824) (h : Tp B o) (hb : B + 1 ≤ 10 ^ 12) (hq : ∀ x o', 0 ≤ x → x < many → Tp (B + 1) o' → q (.int x) (o' :: R0)) :
    draw [.loc 0, .int many] (o :: R0) q := ⟨many, h1, h2, tk_in h hb fun d o' ⟨x, e, h3, h4⟩ t => by subst e; exact hq x o' h3 h4 t⟩
def val (x : Str) : Int := (PySem.NumText.digitsVal x.cps.toList : Nat)
def tape : DSp := fun ds S q => ∃ ns : List Int, ds = [.ksq (ns.map .int)] ∧ S = [] ∧ q (.loc 0) [some (.lst [.lst ((ns.take 63).map .int), .int 0, .int 0])]
def law : DSp := fun ds S q => ∃ ns : List Int, ds = [.ksq (ns.map .int)] ∧ S = [] ∧ ∀ S', q (.bl true) S'
theorem primes (t : Int) : ∃ p : Int, atI [D.int 2147483647, D.int 2147483629, D.int 2147483587, D.int 2147483579, D.int 2147483563] (t % 5) = some (.int p) ∧ 0 < p ∧ p ≤ 2147483647 := by
  have h0 : 0 ≤ t % 5 := Int.emod_nonneg _ (by decide)
  have h1 : t % 5 < 5 := Int.emod_lt_of_pos _ (by decide)
  have h : t % 5 = 0 ∨ t % 5 = 1 ∨ t % 5 = 2 ∨ t % 5 = 3 ∨ t % 5 = 4 := by omega
  rcases h with h | h | h | h | h <;> rw [h]
  · exact ⟨2147483647, x_at0, by decide, by decide⟩
  · exact ⟨2147483629, x_at1, by decide, by decide⟩
  · exact ⟨2147483587, x_at2, by decide, by decide⟩
  · exact ⟨2147483579, x_at3, by decide, by decide⟩
  · exact ⟨2147483563, x_at4, by decide, by decide⟩
theorem ten15 : (10 : Int) ^ 12 = 1000000000000 := by decide
/-- from a list of the store too -/
def pickL : DSp := fun ds S q => ∃ d es, 0 < es.length ∧ (es.length : Int) < 1073741824 ∧ (∃ o R0 B, ds = [.loc 0, d] ∧ S = o :: R0 ∧ Tp B o ∧ B + 1 ≤ 10 ^ 12 ∧ (∀ o', seqOf (o' :: R0) d = some es) ∧ ∀ e o', e ∈ es → Tp (B + 1) o' → q e (o' :: R0))
theorem pickL_in {es : List D} {B : Int} {o : Option MO} {R0 : Sto} {q : D → Sto → Prop} (h1 : 0 < es.length) (h2 : (es.length : Int) < 1073741824) (h : Tp B o) (hb : B + 1 ≤ 10 ^ 12) (hq : ∀ e o', e ∈ es → Tp (B + 1) o' → q e (o' :: R0)) :
    pickL [.loc 0, .lst es] (o :: R0) q := ⟨.lst es, es, h1, h2, o, R0, B, rfl, rfl, h, hb, fun _ => rfl, hq⟩
theorem pickL_loc {es : List D} {B : Int} {o : Option MO} {R0 : Sto} {k : Nat} {q : D → Sto → Prop} (hk : R0[k]? = some (some (.lst es))) (h1 : 0 < es.length) (h2 : (es.length : Int) < 1073741824) (h : Tp B o) (hb : B + 1 ≤ 10 ^ 12) (hq : ∀ e o', e ∈ es → Tp (B + 1) o' → q e (o' :: R0)) :
    pickL [.loc 0, .loc (k + 1)] (o :: R0) q := ⟨.loc (k + 1), es, h1, h2, o, R0, B, rfl, rfl, h, hb, fun _ => by simp [seqOf, hk], hq⟩
end Mt
namespace Dl
open PySem L2
theorem mulOk_r {i j : Int} (h : -(2 ^ 64) < j) (h' : j < 2 ^ 64) : mulOk i j := .inl (.inr ⟨h, h'⟩)
theorem mulOk_l {i j : Int} (h : -(2 ^ 64) < i) (h' : i < 2 ^ 64) : mulOk i j := .inl (.inl ⟨h, h'⟩)
end Dl
namespace Mt
open PySem L2 Dl
abbrev stD (C : Addr) (a b : Int) : D := .obj C ["first", "behind"] [.int a, .int b]
def stInit (C : Addr) : DSp := fun ds S q => ∃ S0 a b o, ds = [.loc S0.length, .int a, o] ∧ S = S0 ++ [some (.obj C [] [])] ∧ (o = .int b ∨ (o = .non ∧ b = a + 1)) ∧ a ≤ b ∧ q .non (S0 ++ [some (.obj C ["first", "behind"] [.int a, .int b])])
theorem fg_first {x y : D} : fget "first" ["first", "behind"] [x, y] = some x := rfl
theorem fg_behind {x y : D} : fget "behind" ["first", "behind"] [x, y] = some y := rfl
theorem pk_first : putK "first" [] = (["first"] : List Str) := by decide +kernel
theorem pk_behind : putK "behind" ["first"] = (["first", "behind"] : List Str) := by decide +kernel
theorem px_first {x : D} : putX "first" x [] [] = [x] := rfl
theorem px_behind {x y : D} : putX "behind" y ["first"] [x] = [x, y] := rfl
theorem st_make {C : Addr} {a b : Int} {dds : List D} {S : Sto} {q : D → Sto → Prop} (h : a ≤ b) (k : q (stD C a b) S) : aMakeF C 2 0 [.p 0, .p 1, .p 2] dds (stInit C) [.int a, .int b] [] S q :=
  ⟨rfl, rfl, fun _ _ => ⟨S, a, b, _, rfl, rfl, .inl rfl, h, rfl, _, _, rfl, rfl, k⟩⟩
theorem st_makeK {C : Addr} {a b : Int} {dds : List D} {S : Sto} {q : D → Sto → Prop} (h : a ≤ b) (k : q (stD C a b) S) : aMakeF C 0 2 [.p 0, .k 0, .k 1] dds (stInit C) [] [.int a, .int b] S q :=
  ⟨rfl, rfl, fun _ _ => ⟨S, a, b, _, rfl, rfl, .inl rfl, h, rfl, _, _, rfl, rfl, k⟩⟩
end Mt
namespace Hd
open PySem PySem.Spec PyProof.Rows L2 Dl
abbrev Lams := List ((Str × Option Str) × Str)
/-- a def's code object and its table -/
def lamC (K : PySem.W.Frag) (p : Str × Option Str) : Addr × Addr := match K.lookup (He.fAd K p) with
  | some ⟨_, _, .func fd, _⟩ => (match fd.code with
    | .ref c => (c, match K.lookup c with
      | some ⟨_, _, .fields vs, _⟩ => (match (vs[11]? : Option Value) with
        | some (.ref P) => P
        | _ => 0)
      | _ => 0)
    | _ => (0, 0))
  | _ => (0, 0)
def lamFd (K : PySem.W.Frag) (p : Str × Option Str) : Bool := match K.lookup (He.fAd K p) with
  | some ⟨_, _, .func fd, _⟩ => decide (fd.code = .ref (lamC K p).1)
  | _ => false
def realG (n : Nat) (g : Addr → Option Obj) : PySem.W.Frag := (He.frT g (goF g n [mainGlobals])).filter fun p => (markOf p).isNone
def markE (K : PySem.W.Frag) (l : (Str × Option Str) × Str) : Addr × Obj := (mainGlobals, { cls := .type "#lam", data := .fields #[.ref (lamC K l.1).1, .ref (lamC K l.1).2, .str l.2 0] })
def partL (n : Nat) (lam : Lams) (g : Addr → Option Obj) : PySem.W.Frag := realG n g ++ lam.map (markE (realG n g))
def obsTb (n : Nat) (lam : Lams) (g : Addr → Option Obj) : Bool := ((realG n g).lookup mainGlobals).isSome && lam.all fun l => decide (lamC (partL n lam g) l.1 = lamC (realG n g) l.1) && (match g (lamC (realG n g) l.1).2 with
  | some o => He.emptyTab o
  | none => false)
structure SaysTb (lam : Lams) (K : PySem.W.Frag) (h : Heap) : Prop where
  tabs : tabsOf K = lam.map fun l => ((lamC K l.1).1, (lamC K l.1).2, l.2)
  out : ∀ l ∈ lam, K.lookup (lamC K l.1).2 = none
  empty : ∀ l ∈ lam, h.get? (lamC K l.1).2 = some { cls := .none, data := .fields #[] }
theorem realG_at {n : Nat} {g : Addr → Option Obj} {a : Addr} {o : Obj} (h : (realG n g).lookup a = some o) : g a = some o ∧ He.emptyTab o = false := by
  have h1 := (List.mem_filter.mp (He.lookup_mem h)).1
  obtain ⟨h2, h3⟩ := List.mem_filter.mp h1
  exact ⟨He.frG_mem h2, by cases q : He.emptyTab o with
    | false => rfl
    | true =>
      have h3 : (!He.emptyTab o) = true := h3
      rw [q] at h3
      cases h3⟩
theorem marks_at {K : PySem.W.Frag} {lam : Lams} {a : Addr} {o : Obj} (h : (lam.map (markE K)).lookup a = some o) : a = mainGlobals := by
  obtain ⟨l, _, e⟩ := List.mem_map.mp (He.lookup_mem h)
  exact (congrArg Prod.fst e).symm
theorem part_at {n : Nat} {lam : Lams} {g : Addr → Option Obj} (hm : ((realG n g).lookup mainGlobals).isSome = true) {a : Addr} : (partL n lam g).lookup a = (realG n g).lookup a := by
  unfold partL
  rw [List.lookup_append]
  cases q : (realG n g).lookup a with
  | some o => rfl
  | none =>
    cases q2 : (lam.map (markE (realG n g))).lookup a with
    | none => rfl
    | some o =>
      rw [marks_at q2] at q
      rw [q] at hm
      cases hm
theorem mark_of {K : PySem.W.Frag} {l : (Str × Option Str) × Str} : markOf (markE K l) = some ((lamC K l.1).1, (lamC K l.1).2, l.2) := by
  unfold markOf markE
  simp
theorem tabs_of {n : Nat} {lam : Lams} {g : Addr → Option Obj} : tabsOf (partL n lam g) = lam.map fun l => ((lamC (realG n g) l.1).1, (lamC (realG n g) l.1).2, l.2) := by
  unfold tabsOf partL
  rw [List.filterMap_append, List.filterMap_map]
  have e1 : (realG n g).filterMap markOf = [] := List.filterMap_eq_nil_iff.mpr fun p hp => by
    have := (List.mem_filter.mp hp).2
    exact Option.isNone_iff_eq_none.mp this
  rw [e1, List.nil_append]
  have e2 : (markOf ∘ markE (realG n g)) = fun l => some ((lamC (realG n g) l.1).1, (lamC (realG n g) l.1).2, l.2) := funext fun l => mark_of
  rw [e2, List.filterMap_eq_map']
theorem saysTb_of {n : Nat} {lam : Lams} {h : Heap} (e : obsTb n lam h.get? = true) : (partL n lam h.get?).In h ∧ SaysTb lam (partL n lam h.get?) h := by
  obtain ⟨h1, h2⟩ := He.ba e
  have key : ∀ l ∈ lam, lamC (partL n lam h.get?) l.1 = lamC (realG n h.get?) l.1 ∧ ∃ o, h.get? (lamC (realG n h.get?) l.1).2 = some o ∧ He.emptyTab o = true := fun l hl => by
    obtain ⟨h3, h4⟩ := He.ba (List.all_eq_true.mp h2 l hl)
    refine ⟨of_decide_eq_true h3, ?_⟩
    cases q : h.get? (lamC (realG n h.get?) l.1).2 with
    | none => rw [q] at h4; cases h4
    | some o => rw [q] at h4; exact ⟨o, rfl, h4⟩
  refine ⟨fun a o q => ?_, ?_, fun l hl => ?_, fun l hl => ?_⟩
  · rw [part_at h1] at q
    exact (realG_at q).1
  · rw [tabs_of]
    exact List.map_congr_left fun l hl => by rw [(key l hl).1]
  · obtain ⟨e1, o, e2, e3⟩ := key l hl
    rw [e1, part_at h1]
    cases q : (realG n h.get?).lookup (lamC (realG n h.get?) l.1).2 with
    | none => rfl
    | some u =>
      obtain ⟨z1, z2⟩ := realG_at q
      rw [e2] at z1
      rw [← Option.some.inj z1, e3] at z2
      cases z2
  · obtain ⟨e1, o, e2, e3⟩ := key l hl
    rw [e1, e2, He.emptyTab_eq e3]
def obsLL (n : Nat) (lam : Lams) (qs : Qs) (g : Addr → Option Obj) : List He.AlD := qs.map fun q => obsQ q.1 q.2 (partL n lam g)
theorem saysL_of {n : Nat} {lam : Lams} {g : Addr → Option Obj} : ∀ {qs : Qs}, obsLL n lam qs g = valL qs → SaysL qs (partL n lam g)
  | [], _, q, h => (nomatch h)
  | q0 :: qs, e, q, h => by
    have e1 : obsQ q0.1 q0.2 (partL n lam g) = He.valD q0.2 := (List.cons.inj e).1
    rcases List.mem_cons.mp h with z | z
    · rw [z]; exact e1
    · exact saysL_of (List.cons.inj e).2 q z
def hookT (n : Nat) (lam : Lams) (qs : Qs) : PySem.W.Hook where
  α := Bool × List He.AlD
  obs := fun s => (obsTb n lam s.heap.get?, obsLL n lam qs s.heap.get?)
  val := fun _ => (true, valL qs)
  says := fun _ h => ∃ K : PySem.W.Frag, K.In h ∧ SaysL qs K ∧ SaysTb lam K h
  of := fun _ _ e => ⟨_, (saysTb_of (congrArg Prod.fst e)).1, saysL_of (congrArg Prod.snd e), (saysTb_of (congrArg Prod.fst e)).2⟩
  keeps := fun _ _ _ ⟨K, hK, c, t⟩ k => ⟨K, PySem.W.Frag.In.keeps hK k, c, ⟨t.tabs, t.out, fun l hl => k _ _ (t.empty l hl)⟩⟩
theorem obsT_eq {n : Nat} {lam : Lams} {qs : Qs} {g : Addr → Option Obj} {s : Shared} (h : ∀ a, g a = s.heap.get? a) : (obsTb n lam g, obsLL n lam qs g) = (hookT n lam qs).obs s := by
  have e : g = s.heap.get? := funext h
  rw [e] <;> rfl
section
open PySem.W PySem.Calls
def ObsTb (r : OpenRow) (n : Nat) (lam : Lams) (M : Nat) (w : World) : Prop :=
  ∀ os : OsState, (HandSHeadRun.endF (HandSHeadRun.stepQ (HandSHeadRun.denQ HandSHeadRun.tabQ) r.prog w) M r.prog w os).map (fun s => obsTb n lam (HandSHeadRun.getT s)) = some true
def Obs1L (r : OpenRow) (n : Nat) (lam : Lams) (fa : List Fq) (fn : List He.DefD) (M : Nat) (w : World) : Prop :=
  ∀ os : OsState, (HandSHeadRun.endF (HandSHeadRun.stepQ (HandSHeadRun.denQ HandSHeadRun.tabQ) r.prog w) M r.prog w os).map (fun s => obsQ fa fn (partL n lam (HandSHeadRun.getT s))) = some (He.valD fn)
def ObsAL (r : OpenRow) (n : Nat) (lam : Lams) (qs : Qs) (M : Nat) (w : World) : Prop :=
  ∀ os : OsState, (HandSHeadRun.endF (HandSHeadRun.stepQ (HandSHeadRun.denQ HandSHeadRun.tabQ) r.prog w) M r.prog w os).map (fun s => obsLL n lam qs (HandSHeadRun.getT s)) = some (valL qs)
variable {r : OpenRow} {q : Program} {n M : Nat} {loose : List PySem.Str} {w : World} {qs : Qs} {fa : List Fq} {fn : List He.DefD} {lam : Lams}
theorem obsAL_nil (h : Looks r q M loose w) : ObsAL r n lam [] M w := fun os => by
  have := h os
  cases e : HandSHeadRun.endF (HandSHeadRun.stepQ (HandSHeadRun.denQ HandSHeadRun.tabQ) r.prog w) M r.prog w os with
  | none => rw [e] at this; cases this
  | some s => rfl
theorem obsAL_cons (h1 : Obs1L r n lam fa fn M w) (h2 : ObsAL r n lam qs M w) : ObsAL r n lam ((fa, fn) :: qs) M w := fun os => by
  have a := h1 os
  have b := h2 os
  cases e : HandSHeadRun.endF (HandSHeadRun.stepQ (HandSHeadRun.denQ HandSHeadRun.tabQ) r.prog w) M r.prog w os with
  | none => rw [e] at a; cases a
  | some s =>
    rw [e] at a b
    have a2 : obsQ fa fn (partL n lam (HandSHeadRun.getT s)) = He.valD fn := Option.some.inj a
    have b2 : obsLL n lam qs (HandSHeadRun.getT s) = valL qs := Option.some.inj b
    show some (obsQ fa fn (partL n lam (HandSHeadRun.getT s)) :: obsLL n lam qs (HandSHeadRun.getT s)) = some (He.valD fn :: valL qs)
    rw [a2, b2]
theorem runEqT_of (h1 : Looks r q M loose w) (h2 : ObsAL r n lam qs M w) (h3 : ObsTb r n lam M w) : HandSHeadRun.RunEq r q (hookT n lam qs) (fun s => (obsTb n lam (HandSHeadRun.getT s), obsLL n lam qs (HandSHeadRun.getT s))) M loose w := fun os => by
  have a := h1 os
  have b := h2 os
  have c := h3 os
  cases e : HandSHeadRun.endF (HandSHeadRun.stepQ (HandSHeadRun.denQ HandSHeadRun.tabQ) r.prog w) M r.prog w os with
  | none => rw [e] at a; cases a
  | some s =>
    rw [e] at a b c
    have a2 := Option.some.inj a
    have b2 : obsLL n lam qs (HandSHeadRun.getT s) = valL qs := Option.some.inj b
    have c2 : obsTb n lam (HandSHeadRun.getT s) = true := Option.some.inj c
    obtain ⟨a3, a4⟩ := Prod.mk.injEq .. ▸ a2
    show some (HandSHeadRun.looksF r.prog (boot_heap w.params) s.abs, HandSHeadRun.seenQ q loose (importedModules r.prog.main.body) (fun s => xlAt q [] s && recOk r.toRowW.records s) s.abs, (obsTb n lam (HandSHeadRun.getT s), obsLL n lam qs (HandSHeadRun.getT s))) = some (true, openGood q loose, (true, valL qs))
    rw [a3, a4, b2, c2]
end
def bltB (K : PySem.W.Frag) : Bool := match K.lookup (He.ga K "__builtins__") with
  | some ⟨.type t, some d, .plain, _⟩ => decide (t = "module") && (decide (d = builtinsNs) && (decide (He.ga K "__builtins__" ≠ builtinsNs) && decide (He.ga K "__builtins__" ≠ mainGlobals)))
  | _ => false
def lamB (K : PySem.W.Frag) (lam : Lams) (l : (Str × Option Str) × Str) : Bool := lamFd K l.1 && (PySem.W.codeHdIn K (lamC K l.1).1 (lamC K l.1).2 && (decide (He.ga K "__builtins__" ≠ (lamC K l.1).2) && (decide (mainGlobals ≠ (lamC K l.1).2) && lam.all fun k => decide ((lamC K k.1).2 = (lamC K l.1).2 → k.2 = l.2))))
def lamsB (lam : Lams) (K : PySem.W.Frag) : Bool := bltB K && (decide (PySem.W.nsIn K mainGlobals "__builtins__" = some (some (.ref (He.ga K "__builtins__")))) && lam.all (lamB K lam))
theorem lamT_mk {K : PySem.W.Frag} {h : Heap} {mg : Str → Option Value} {lam : Lams} {x : Str} (X : K.In h) (G : h.Ns mainGlobals mg) (ta : SaysTb lam K h) (b : lamsB lam K = true) (ha : mg x = some (.ref (He.fAd K (x, none)))) (hm : ((x, none), lamq x) ∈ lam) : LamT K mg x := by
  obtain ⟨b1, b2⟩ := He.ba b
  obtain ⟨b3, b4⟩ := He.ba b2
  have hbm := PySem.W.mg_of X G (of_decide_eq_true b3)
  obtain ⟨c1, c⟩ := He.ba (List.all_eq_true.mp b4 _ hm)
  obtain ⟨c2, c⟩ := He.ba c
  obtain ⟨c3, c⟩ := He.ba c
  obtain ⟨c4, c5⟩ := He.ba c
  refine ⟨fun f o fd e1 e2 e3 => ?_⟩
  rw [ha] at e1
  cases e1
  refine ⟨(lamC K (x, none)).1, (lamC K (x, none)).2, ?_, c2, ?_, of_decide_eq_true c4, ?_, fun cc q hq => ?_⟩
  · unfold lamFd at c1
    rw [e2] at c1
    obtain ⟨o1, o2, o3, o4⟩ := o
    have e3 : o3 = .func fd := e3
    subst e3
    exact of_decide_eq_true c1
  · unfold bltB at b1
    split at b1
    · rename_i t d sl q
      obtain ⟨d1, d2⟩ := He.ba b1
      obtain ⟨d3, d4⟩ := He.ba d2
      obtain ⟨d5, d6⟩ := He.ba d4
      have g1 : t = "module" := of_decide_eq_true d1
      have g2 : d = builtinsNs := of_decide_eq_true d3
      subst g1 g2
      exact ⟨_, _, hbm, of_decide_eq_true d5, of_decide_eq_true d6, of_decide_eq_true c3, q, rfl, rfl, rfl⟩
    · cases b1
  · rw [ta.tabs]
    exact List.mem_map.mpr ⟨_, hm, rfl⟩
  · rw [ta.tabs] at hq
    obtain ⟨k, hk, e⟩ := List.mem_map.mp hq
    have z := of_decide_eq_true (List.all_eq_true.mp c5 k hk)
    have e4 : (lamC K k.1).2 = (lamC K (x, none)).2 := congrArg (fun p => p.2.1) e
    have e5 : k.2 = q := congrArg (fun p => p.2.2) e
    rw [← e5]
    exact z e4
def OnlyT (K : PySem.W.Frag) (H : Hp) : Prop := ∀ b, H b = none ∨ (Marked K b ∧ H b = some (.tbl #[])) ∨ ∃ o xs, H b = some (.frz o (.lst xs))
theorem start_T {K : PySem.W.Frag} {H : Hp} {a : Addr} {ns : List Int} {dsp : DSp} {E : XK} (hd : dsp [.ksq (ns.map .int)] [] fun d _ => d = .bl true) (hT : ∀ P, Marked K P → H P = some (.tbl #[])) (hO : OnlyT K H) (hS : SqL K H a (ns.map V.int)) : spOf K dsp [.ref a] H (fun v _ => v = .bl true) E := by
  have nl : ∀ n, ¬ Live ([] : Sto) n := fun n ⟨o, l⟩ => by simp at l
  have hv : ∀ u, H a = some u → (∀ ps, u ≠ .tbl ps) → vis (fun _ => a) [] (Marked K) H a = some u := fun u e n => vis_of e (fun z => n _ (Option.some.inj (e.symm.trans (hT a z)))) fun n l => absurd l (nl n)
  have hS' : SqL K (vis (fun _ => a) [] (Marked K) H) a (ns.map V.int) := by
    rcases hS with (r | ⟨o, r⟩) | r
    · exact .inl (.inl (hv _ r fun ps z => by cases z))
    · exact .inl (.inr ⟨o, hv _ r fun ps z => by cases z⟩)
    · exact .inr r
  refine ⟨fun _ => a, [], Marked K, [.ksq (ns.map .int)], fun d _ => d = .bl true, Wd0.u0 ⟨fun i j l => absurd l (nl i), fun i l => absurd l (nl i), fun b z => ⟨_, hT b z⟩, fun i o l => by simp at l, ⟨fun P m => m, fun c P q m => LamX.TabS.nil (hT P ⟨c, q, m⟩), fun P ps e => ?_⟩⟩, ?_, hd, ?_⟩
  · rcases hO P with z | ⟨z, _⟩ | ⟨o, xs, z⟩
    · rw [z] at e; cases e
    · exact z
    · rw [z] at e; cases e
  · exact Reps.one (by rw [Rep]; exact ⟨a, _, rfl, hS', Reps.ofInts ns⟩)
  · intro v H' m' d S' e w r hd
    subst hd
    exact r
section
variable {P : Program} {w : World} {K : PySem.W.Frag} {mg mb : Str → Option Value} {CX : CXT} {k : Nat} {fa a : Addr} {fd : FuncData} {x : Str} {sp : Sp} {s : Shared} {vs : List Value} {ns : List Int}
theorem law_overT {H : Hp} (KX : K.In s.heap) (gl : s.heap.Ns mainGlobals mg) (bl : s.heap.Ns builtinsNs mb) (bb : ∀ y : Str, y ≠ "__name__" → mb y = bootBuiltins y) (lim : s.heap.NoLimit) (g0 : s.gens = #[])
    (tabs : ∀ b, Marked K b → s.heap.get? b = some { cls := .none, data := .fields #[] } ∧ K.lookup b = none ∧ isCodeTable s.heap b)
    (ha : s.heap.get? a = some { cls := .type "list", data := .seq vs.toArray }) (room : Room k callerA) (F : ∀ base : Heap, K.In base → base.Ns mainGlobals mg → FnG P w K mg base CX k fa fd [x] sp) (bind : ∀ (s' : Shared) (u : Value), BindsTo s' fd ⟨[u], []⟩ [(x, u)])
    (hsp : sp [.ref a] H (fun v _ => v = .bl true) fun _ _ _ => False) (out : ∀ e s', CX [] H s (fun _ _ _ => False) e s' → False) (only : OnlyT K H) (ok : HOk P w H s.heap) (at_a : ∀ b, H b ≠ none → b = a ∨ Marked K b) (own : H a ≠ none → K.lookup a = none) :
    codeAny (model P w) callerA (.call (.ref fa) ⟨[.ref a], []⟩) (fun r s' => r = .ok (.ret (.bool true)) ∧ OldK s.heap s'.heap ∧ s'.os = s.os ∧ AllBare s'.gens) s := by
  have free : ∀ {b : Addr} {o : Obj} {es : Array DictEntry} {ep : Nat}, s.heap.get? b = some o → o.data = .dict es ep → H b = none := fun {b o es ep} e d => by
    by_cases z : H b = none
    · exact z
    · rcases at_a b z with e2 | e2
      · rw [e2, ha] at e
        cases e
        cases d
      · rw [(tabs b e2).1] at e
        cases e
        cases d
  have ns_of : ∀ {b : Addr} {m : Str → Option Value}, s.heap.Ns b m → (hidT s.heap H).Ns b m := by
    rintro b m ⟨o, es, ep, e, d, r⟩
    exact ⟨o, es, ep, hidT_get e (free e d), d, r⟩
  have kin : K.In (hidT s.heap H) := fun b o e => hidT_get (KX b o e) (by
    by_cases z : H b = none
    · exact z
    · rcases at_a b z with e2 | e2
      · subst e2
        rw [own z] at e
        cases e
      · rw [(tabs b e2).2.1] at e
        cases e)
  have lim' : (hidT s.heap H).NoLimit := by
    obtain ⟨mc, h1, h2⟩ := lim
    exact ⟨mc, ns_of h1, h2⟩
  have env : Env0 P w K mg (hidT s.heap H) callerA [] s H := ⟨rfl, ⟨kin, ns_of gl, ⟨mb, ns_of bl, bb⟩, lim'⟩, fun b o e => of_hidT e, Nat.le_of_eq (hidT_size _ _), trivial, fun b hb => absurd hb (by simp [frs]), ok, .of_eq g0⟩
  have run := (F (hidT s.heap H) kin (ns_of gl)).run callerA [] s H ⟨[.ref a], []⟩ [.ref a] [.ref a] _ _ (roomCaller room) env (bind s (.ref a)) (.cons rfl .nil) hsp
  refine codeAny_mono run fun r s' h => ?_
  match r, h with
  | .error e, h => exact (out e s' h).elim
  | .ok .next, h => exact h.elim
  | .ok .brk, h => exact h.elim
  | .ok .cont, h => exact h.elim
  | .ok (.ret u), ⟨v, H', os, bare, un, ok', rv, q⟩ =>
    have ev : v = .bl true := q
    subst ev
    have eu : u = Value.bool true := rv
    subst eu
    have grown : ∀ b, H b = some (.tbl #[]) → ∃ more : Array Value, s'.heap.get? b = some { cls := .none, data := .fields more } := fun b z => by
      obtain ⟨more, z2⟩ := un.tbls b #[] z
      exact ⟨_, ok' b _ z2⟩
    have kept : ∀ b o, s.heap.get? b = some o → (∀ more, H b = some (.tbl more) → False) → s'.heap.get? b = some o := fun b o e n => by
      rcases only b with z | ⟨_, z⟩ | ⟨ob, xs, z⟩
      · exact un.keep b o e z (by simp [frs]) (by simp)
      · exact (n _ z).elim
      · obtain ⟨e1, _⟩ := ok b _ z
        obtain ⟨e2, _⟩ := ok' b _ (un.frzs b ob _ z)
        rw [e1] at e
        rw [e2, e]
    refine ⟨rfl, ⟨fun b o e => ?_, fun b o e => ?_⟩, os, bare⟩
    · rcases only b with z | ⟨mk, z⟩ | ⟨ob, xs, z⟩
      · exact .inl (kept b o e fun more z2 => by rw [z] at z2; cases z2)
      · obtain ⟨t1, _, t3⟩ := tabs b mk
        obtain ⟨more, hm⟩ := grown b z
        rw [t1] at e
        cases e
        exact .inr (.inl ⟨t3, rfl, #[], more, rfl, by rw [Array.empty_append]; exact hm⟩)
      · exact .inl (kept b o e fun more z2 => by rw [z] at z2; cases z2)
    · rcases only b with z | ⟨mk, z⟩ | ⟨ob, xs, z⟩
      · exact ⟨o, kept b o e fun more z2 => by rw [z] at z2; cases z2⟩
      · obtain ⟨more, hm⟩ := grown b z
        exact ⟨_, hm⟩
      · exact ⟨o, kept b o e fun more z2 => by rw [z] at z2; cases z2⟩
open Classical in
theorem law_callT (KX : K.In s.heap) (gl : s.heap.Ns mainGlobals mg) (bl : s.heap.Ns builtinsNs mb) (bb : ∀ y : Str, y ≠ "__name__" → mb y = bootBuiltins y) (lim : s.heap.NoLimit) (g0 : s.gens = #[])
    (tabs : ∀ b, Marked K b → s.heap.get? b = some { cls := .none, data := .fields #[] } ∧ K.lookup b = none ∧ isCodeTable s.heap b)
    (ha : s.heap.get? a = some { cls := .type "list", data := .seq vs.toArray }) (hi : IntsAre vs ns) (hl : ns.length ≤ sizeLine) (room : Room k callerA) (F : ∀ base : Heap, K.In base → base.Ns mainGlobals mg → FnG P w K mg base CX k fa fd [x] sp)
    (bind : ∀ (s' : Shared) (u : Value), BindsTo s' fd ⟨[u], []⟩ [(x, u)]) (hsp : ∀ H : Hp, (∀ b, Marked K b → H b = some (.tbl #[])) → OnlyT K H → SqL K H a (ns.map V.int) → sp [.ref a] H (fun v _ => v = .bl true) fun _ _ _ => False) (out : ∀ H e s', CX [] H s (fun _ _ _ => False) e s' → False) :
    codeAny (model P w) callerA (.call (.ref fa) ⟨[.ref a], []⟩) (fun r s' => r = .ok (.ret (.bool true)) ∧ OldK s.heap s'.heap ∧ s'.os = s.os ∧ AllBare s'.gens) s := by
  have rv := vals_ints hi
  have aT : ¬ Marked K a := fun z => by
    have q := (tabs a z).1
    rw [ha] at q
    cases q
  by_cases kn : K.lookup a = none
  · have h1 : ∀ b, Marked K b → b ≠ a := fun b m e => aT (e ▸ m)
    let Ha : Hp := fun b => if b = a then some (.frz { cls := .type "list", data := .seq vs.toArray } (.lst (ns.map V.int))) else if Marked K b then some (.tbl #[]) else none
    have ea : Ha a = some (.frz { cls := .type "list", data := .seq vs.toArray } (.lst (ns.map V.int))) := if_pos rfl
    have eT : ∀ b, Marked K b → Ha b = some (.tbl #[]) := fun b m => (if_neg (h1 b m)).trans (if_pos m)
    have e0 : ∀ b, b ≠ a → ¬ Marked K b → Ha b = none := fun b n m => (if_neg n).trans (if_neg m)
    have all : ∀ b, (b = a) ∨ Marked K b ∨ Ha b = none := fun b => by
      by_cases z1 : b = a
      · exact .inl z1
      · by_cases z2 : Marked K b
        · exact .inr (.inl z2)
        · exact .inr (.inr (e0 b z1 z2))
    have only : OnlyT K Ha := fun b => by
      rcases all b with z | z | z
      · rw [z]; exact .inr (.inr ⟨_, _, ea⟩)
      · exact .inr (.inl ⟨z, eT b z⟩)
      · exact .inl z
    refine law_overT (H := Ha) KX gl bl bb lim g0 tabs ha room F bind (hsp Ha eT only (.inl (.inr ⟨_, ea⟩))) (out Ha) only (fun b u z => ?_) (fun b z => ?_) fun _ => kn
    · rcases all b with q | q | q
      · subst q
        rw [ea] at z
        cases z
        exact ⟨ha, by rw [List.length_map]; exact hl, vs, _, rv, ha⟩
      · rw [eT b q] at z
        cases z
        exact (tabs b q).1
      · rw [q] at z; cases z
    · rcases all b with q | q | q
      · exact .inl q
      · exact .inr q
      · exact absurd q z
  · obtain ⟨o, hk⟩ := Option.ne_none_iff_exists'.mp kn
    have e := KX a o hk
    rw [ha] at e
    cases e
    let Ha : Hp := fun b => if Marked K b then some (.tbl #[]) else none
    have eT : ∀ b, Marked K b → Ha b = some (.tbl #[]) := fun b m => if_pos m
    have e0 : ∀ b, ¬ Marked K b → Ha b = none := fun b m => if_neg m
    have only : OnlyT K Ha := fun b => by
      by_cases z : Marked K b
      · exact .inr (.inl ⟨z, eT b z⟩)
      · exact .inl (e0 b z)
    refine law_overT (H := Ha) KX gl bl bb lim g0 tabs ha room F bind (hsp Ha eT only (.inr ⟨_, vs.toArray, _, hk, rfl, rfl, rfl, ?_, ?_⟩)) (out Ha) only (fun b u z => ?_) (fun b z => ?_) fun z => absurd (e0 a aT) z
    · rw [List.size_toArray, hi.length]; exact hl
    · simpa using rv
    · by_cases q : Marked K b
      · rw [eT b q] at z
        cases z
        exact (tabs b q).1
      · rw [e0 b q] at z; cases z
    · by_cases q : Marked K b
      · exact .inr q
      · exact absurd (e0 b q) z
end
theorem tabs_facts {lam : Lams} {K : PySem.W.Frag} {h : Heap} (X : K.In h) (ta : SaysTb lam K h) (b : lamsB lam K = true) : ∀ P, Marked K P → h.get? P = some { cls := .none, data := .fields #[] } ∧ K.lookup P = none ∧ isCodeTable h P := by
  rintro P ⟨c, q, m⟩
  rw [ta.tabs] at m
  obtain ⟨l, hl, e⟩ := List.mem_map.mp m
  have eP : (lamC K l.1).2 = P := congrArg (fun p => p.2.1) e
  obtain ⟨b1, b2⟩ := He.ba b
  obtain ⟨b3, b4⟩ := He.ba b2
  obtain ⟨c1, c⟩ := He.ba (List.all_eq_true.mp b4 _ hl)
  obtain ⟨c2, _⟩ := He.ba c
  have hd := PySem.W.codeHd_of_K X c2
  have em := ta.empty l hl
  rw [← eP]
  exact ⟨em, ta.out l hl, (hd.tab em).isCodeTable⟩
theorem walk_ofT {l : PySem.W.OpenLaw} {n k : Nat} {q : Program} {loose : List Str} {XP : (Str → Option Value) → Heap → Prop} {YP : World → Heap → Prop} {d : DefRec} {x : Str} {sp : PySem.W.Frag → Sp}
    (hn : l.most = some n) (hn2 : n ≤ sizeLine) (hdf : d.params.defaults = []) (room : Room k callerA)
    (F : ∀ (w : World) (mg : Str → Option Value) (fa : Addr) (h : Heap), YP w h → h.Ns mainGlobals mg → mg d.name = some (.ref fa) →
      ∃ (K : PySem.W.Frag) (fd : FuncData), K.In h ∧ (∀ P, Marked K P → h.get? P = some { cls := .none, data := .fields #[] } ∧ K.lookup P = none ∧ isCodeTable h P) ∧ (∀ (s : Shared) (u : Value), BindsTo s fd ⟨[u], []⟩ [(x, u)]) ∧ ∀ base : Heap, K.In base → base.Ns mainGlobals mg → FnG l.prog w K mg base CX0 k fa fd [x] (sp K))
    (hsp : ∀ (K : PySem.W.Frag) (H : Hp) (a : Addr) (ns : List Int), ns.length ≤ n → (∀ b, Marked K b → H b = some (.tbl #[])) → OnlyT K H → SqL K H a (ns.map V.int) → sp K [.ref a] H (fun v _ => v = .bl true) fun _ _ _ => False) : PySem.W.WalkO q loose XP YP l.row.toRowW d [] (fun f vs => PySem.call f vs) := by
  refine Att.attach_call hn hdf fun w s₀ s₁ mg mb fa o pm cd doc a vs ns G Y ho hd hcd hmg hobj hints hlen hg => ?_
  obtain ⟨K, fd, KX, tb, hb, hF⟩ := F w mg fa _ Y G.T.g hmg
  exact law_callT KX G.T.g G.T.b G.T.builtins G.T.nolimit hg tb hobj hints (Nat.le_trans hlen hn2) room hF hb (fun H hT o q => hsp K H a ns hlen hT o q) fun H e s' z => z
end Hd
namespace Mj
open PySem L2 Dl
def Sep (L : List Pr) : Prop := L.Pairwise (fun p q => p.2 < q.1) ∧ ∀ p ∈ L, p.1 < p.2
def Cov (L : List Pr) (m : Int) : Prop := ∃ p ∈ L, p.1 ≤ m ∧ m < p.2
theorem cov_nil {m : Int} : ¬ Cov [] m := fun ⟨_, h, _⟩ => by cases h
theorem cov_cons {p : Pr} {L : List Pr} {m : Int} : Cov (p :: L) m ↔ (p.1 ≤ m ∧ m < p.2) ∨ Cov L m := by
  constructor
  · rintro ⟨x, h, h1⟩
    rcases List.mem_cons.mp h with rfl | h
    · exact .inl h1
    · exact .inr ⟨x, h, h1⟩
  · rintro (h | ⟨x, h, h1⟩)
    · exact ⟨p, List.mem_cons_self .., h⟩
    · exact ⟨x, List.mem_cons_of_mem _ h, h1⟩
theorem cov_app {L M : List Pr} {m : Int} : Cov (L ++ M) m ↔ Cov L m ∨ Cov M m := by
  constructor
  · rintro ⟨x, h, h1⟩
    rcases List.mem_append.mp h with h | h
    · exact .inl ⟨x, h, h1⟩
    · exact .inr ⟨x, h, h1⟩
  · rintro (⟨x, h, h1⟩ | ⟨x, h, h1⟩)
    · exact ⟨x, List.mem_append_left _ h, h1⟩
    · exact ⟨x, List.mem_append_right _ h, h1⟩
theorem cov_one {p : Pr} {m : Int} : Cov [p] m ↔ p.1 ≤ m ∧ m < p.2 := by
  rw [cov_cons]
  exact ⟨fun h => h.elim id fun h => absurd h cov_nil, .inl⟩
theorem Sep.tail {p : Pr} {L : List Pr} (h : Sep (p :: L)) : Sep L := ⟨(List.pairwise_cons.mp h.1).2, fun q hq => h.2 q (List.mem_cons_of_mem _ hq)⟩
theorem Sep.least {p : Pr} {L : List Pr} (h : Sep (p :: L)) {m : Int} (c : Cov L m) : p.2 < m := by
  obtain ⟨q, hq, h1, _⟩ := c
  have := (List.pairwise_cons.mp h.1).1 q hq
  omega
theorem sep_uniq : ∀ {L M : List Pr}, Sep L → Sep M → (∀ m, Cov L m ↔ Cov M m) → L = M
  | [], [], _, _, _ => rfl
  | [], q :: M, _, hM, h => by
    have := hM.2 q (List.mem_cons_self ..)
    exact absurd ((h q.1).mpr (cov_cons.mpr (.inl ⟨Int.le_refl _, this⟩))) cov_nil
  | p :: L, [], hL, _, h => by
    have := hL.2 p (List.mem_cons_self ..)
    exact absurd ((h p.1).mp (cov_cons.mpr (.inl ⟨Int.le_refl _, this⟩))) cov_nil
  | p :: L, q :: M, hL, hM, h => by
    have hp := hL.2 p (List.mem_cons_self ..)
    have hq := hM.2 q (List.mem_cons_self ..)
    have e1 : p.1 = q.1 := by
      have a1 := (h p.1).mp (cov_cons.mpr (.inl ⟨Int.le_refl _, hp⟩))
      have a2 := (h q.1).mpr (cov_cons.mpr (.inl ⟨Int.le_refl _, hq⟩))
      rcases cov_cons.mp a1 with b1 | b1
      · rcases cov_cons.mp a2 with b2 | b2
        · omega
        · have := hL.least b2; omega
      · have := hM.least b1
        rcases cov_cons.mp a2 with b2 | b2
        · omega
        · have := hL.least b2; omega
    have e2 : p.2 = q.2 := by
      rcases Int.lt_trichotomy p.2 q.2 with c | c | c
      · have a := (h p.2).mpr (cov_cons.mpr (.inl ⟨by omega, c⟩))
        rcases cov_cons.mp a with b | b
        · omega
        · have := hL.least b; omega
      · exact c
      · have a := (h q.2).mp (cov_cons.mpr (.inl ⟨by omega, c⟩))
        rcases cov_cons.mp a with b | b
        · omega
        · have := hM.least b; omega
    have e : p = q := Prod.ext e1 e2
    subst e
    refine congrArg _ (sep_uniq hL.tail hM.tail fun m => ⟨fun c => ?_, fun c => ?_⟩)
    · rcases cov_cons.mp ((h m).mp (cov_cons.mpr (.inr c))) with b | b
      · have := hL.least c; omega
      · exact b
    · rcases cov_cons.mp ((h m).mpr (cov_cons.mpr (.inr c))) with b | b
      · have := hM.least c; omega
      · exact b
theorem sep_snoc {L : List Pr} {p : Pr} (h : Sep L) (hp : p.1 < p.2) (hl : ∀ q ∈ L, q.2 < p.1) : Sep (L ++ [p]) := by
  refine ⟨List.pairwise_append.mpr ⟨h.1, List.pairwise_singleton _ _, fun a ha b hb => ?_⟩, fun q hq => ?_⟩
  · rw [List.mem_singleton.mp hb]; exact hl a ha
  · rcases List.mem_append.mp hq with hq | hq
    · exact h.2 q hq
    · rw [List.mem_singleton.mp hq]; exact hp
theorem Sep.init {L : List Pr} {p : Pr} (h : Sep (L ++ [p])) : Sep L ∧ p.1 < p.2 ∧ ∀ q ∈ L, q.2 < p.1 := by
  have := List.pairwise_append.mp h.1
  exact ⟨⟨this.1, fun q hq => h.2 q (List.mem_append_left _ hq)⟩, h.2 p (List.mem_append_right _ (List.mem_singleton.mpr rfl)), fun q hq => this.2.2 q hq p (List.mem_singleton.mpr rfl)⟩
theorem last_or (L : List Pr) : L = [] ∨ ∃ M l, L = M ++ [l] := by
  rcases List.eq_nil_or_concat L with h | ⟨M, l, h⟩
  · exact .inl h
  · exact .inr ⟨M, l, by rw [h, List.concat_eq_append]⟩
def joinStep (apart : Int) (found : List Pr) (p : Pr) : List Pr := match found.getLast? with
  | some l => if p.1 - l.2 ≤ apart then found.dropLast ++ [(l.1, max l.2 p.2)] else found ++ [p]
  | none => found ++ [p]
def joinL (P : List Pr) (apart : Int) : List Pr := (sortP (P.filter fun p => decide (p.1 < p.2))).foldl (joinStep apart) []
theorem joinStep_snoc {apart : Int} {M : List Pr} {l p : Pr} : joinStep apart (M ++ [l]) p = if p.1 - l.2 ≤ apart then M ++ [(l.1, max l.2 p.2)] else M ++ [l] ++ [p] := by
  unfold joinStep
  rw [List.getLast?_concat, List.dropLast_concat]
theorem join_inv : ∀ (rest found : List Pr), Sep found → (∀ p ∈ rest, p.1 < p.2) → rest.Pairwise (fun p q => p.1 ≤ q.1) → (∀ f ∈ found, ∀ p ∈ rest, f.1 ≤ p.1) →
    Sep (rest.foldl (joinStep 0) found) ∧ ∀ m, Cov (rest.foldl (joinStep 0) found) m ↔ Cov found m ∨ Cov rest m
  | [], found, h, _, _, _ => ⟨h, fun m => ⟨.inl, fun c => c.elim id fun c => absurd c cov_nil⟩⟩
  | p :: rest, found, h, hr, hs, hf => by
    have hp := hr p (List.mem_cons_self ..)
    have hs' := List.pairwise_cons.mp hs
    have hr' : ∀ q ∈ rest, q.1 < q.2 := fun q hq => hr q (List.mem_cons_of_mem _ hq)
    rw [List.foldl_cons]
    have go : Sep (joinStep 0 found p) ∧ (∀ m, Cov (joinStep 0 found p) m ↔ Cov found m ∨ (p.1 ≤ m ∧ m < p.2)) ∧ ∀ f ∈ joinStep 0 found p, ∀ q ∈ rest, f.1 ≤ q.1 := by
      rcases last_or found with rfl | ⟨M, l, rfl⟩
      · refine ⟨sep_snoc h hp fun q hq => (by cases hq), fun m => ?_, fun f hf' q hq => ?_⟩
        · show Cov ([] ++ [p]) m ↔ _
          rw [List.nil_append, cov_one]
          exact ⟨.inr, fun c => c.elim (fun c => absurd c cov_nil) id⟩
        · rw [List.mem_singleton.mp hf']; exact hs'.1 q hq
      · rw [joinStep_snoc]
        obtain ⟨i1, i2, i3⟩ := h.init
        have hl := hf l (List.mem_append_right _ (List.mem_singleton.mpr rfl)) p (List.mem_cons_self ..)
        split
        · rename_i hc
          refine ⟨sep_snoc i1 (by show l.1 < max l.2 p.2; omega) i3, fun m => ?_, fun f hf' q hq => ?_⟩
          · rw [cov_app, cov_app, cov_one, cov_one]
            show _ ∨ (l.1 ≤ m ∧ m < max l.2 p.2) ↔ _
            constructor
            · rintro (c | c)
              · exact .inl (.inl c)
              · by_cases hm : m < l.2
                · exact .inl (.inr ⟨c.1, hm⟩)
                · exact .inr (by omega)
            · rintro ((c | c) | c)
              · exact .inl c
              · exact .inr (by omega)
              · exact .inr (by omega)
          · rcases List.mem_append.mp hf' with hf' | hf'
            · exact hf f (List.mem_append_left _ hf') q (List.mem_cons_of_mem _ hq)
            · rw [List.mem_singleton.mp hf']
              exact hf l (List.mem_append_right _ (List.mem_singleton.mpr rfl)) q (List.mem_cons_of_mem _ hq)
        · rename_i hc
          refine ⟨sep_snoc h hp fun q hq => ?_, fun m => by rw [cov_app, cov_one], fun f hf' q hq => ?_⟩
          · rcases List.mem_append.mp hq with hq | hq
            · have := i3 q hq; omega
            · rw [List.mem_singleton.mp hq]; omega
          · rcases List.mem_append.mp hf' with hf' | hf'
            · exact hf f hf' q (List.mem_cons_of_mem _ hq)
            · rw [List.mem_singleton.mp hf']; exact hs'.1 q hq
    obtain ⟨g1, g2, g3⟩ := go
    obtain ⟨r1, r2⟩ := join_inv rest _ g1 hr' hs'.2 g3
    refine ⟨r1, fun m => ?_⟩
    rw [r2, g2, cov_cons, or_assoc]
theorem sortP_perm (P : List Pr) : (sortP P).Perm P := List.mergeSort_perm P leP
theorem sortP_rise (P : List Pr) : (sortP P).Pairwise fun p q => p.1 ≤ q.1 := by
  have h := List.pairwise_mergeSort (le := leP) (fun a b c h1 h2 => by simp only [leP, decide_eq_true_eq] at *; omega) (fun a b => by simp only [leP, Bool.or_eq_true, decide_eq_true_eq]; omega) P
  exact h.imp fun {a b} h => by simp only [leP, decide_eq_true_eq] at h; omega
theorem cov_perm {P R : List Pr} (h : P.Perm R) (m : Int) : Cov P m ↔ Cov R m :=
  ⟨fun ⟨p, h1, h2⟩ => ⟨p, h.mem_iff.mp h1, h2⟩, fun ⟨p, h1, h2⟩ => ⟨p, h.mem_iff.mpr h1, h2⟩⟩
theorem cov_filter {P : List Pr} {m : Int} : Cov (P.filter fun p => decide (p.1 < p.2)) m ↔ Cov P m := by
  constructor
  · rintro ⟨p, h1, h2⟩; exact ⟨p, (List.mem_filter.mp h1).1, h2⟩
  · rintro ⟨p, h1, h2⟩; exact ⟨p, List.mem_filter.mpr ⟨h1, by simp only [decide_eq_true_eq]; omega⟩, h2⟩
theorem sorted_ok (P : List Pr) : (∀ p ∈ sortP (P.filter fun p => decide (p.1 < p.2)), p.1 < p.2) := fun p hp => by
  have := List.mem_filter.mp ((sortP_perm _).mem_iff.mp hp)
  simpa using this.2
theorem join_ok (P : List Pr) : Sep (joinL P 0) ∧ ∀ m, Cov (joinL P 0) m ↔ Cov P m := by
  obtain ⟨h1, h2⟩ := join_inv (sortP (P.filter fun p => decide (p.1 < p.2))) [] ⟨.nil, fun p hp => (by cases hp)⟩ (sorted_ok P) (sortP_rise _) fun f hf => (by cases hf)
  refine ⟨h1, fun m => (h2 m).trans ?_⟩
  rw [cov_perm (sortP_perm _) m, cov_filter]
  exact ⟨fun c => c.elim (fun c => absurd c cov_nil) id, .inr⟩
/-- whatever apart: none empty -/
theorem join_lt (apart : Int) : ∀ (rest found : List Pr), (∀ p ∈ rest, p.1 < p.2) → (∀ p ∈ found, p.1 < p.2) → ∀ p ∈ rest.foldl (joinStep apart) found, p.1 < p.2
  | [], _, _, h => h
  | p :: rest, found, hr, h => by
    rw [List.foldl_cons]
    refine join_lt apart rest _ (fun q hq => hr q (List.mem_cons_of_mem _ hq)) fun q hq => ?_
    have hp := hr p (List.mem_cons_self ..)
    rcases last_or found with rfl | ⟨M, l, rfl⟩
    · rw [show joinStep apart [] p = [p] from rfl] at hq
      rw [List.mem_singleton.mp hq]; exact hp
    · rw [joinStep_snoc] at hq
      have hl := h l (List.mem_append_right _ (List.mem_singleton.mpr rfl))
      split at hq
      · rcases List.mem_append.mp hq with hq | hq
        · exact h q (List.mem_append_left _ hq)
        · rw [List.mem_singleton.mp hq]; show l.1 < max l.2 p.2; omega
      · rcases List.mem_append.mp hq with hq | hq
        · exact h q hq
        · rw [List.mem_singleton.mp hq]; exact hp
theorem joinL_lt (P : List Pr) (apart : Int) : ∀ p ∈ joinL P apart, p.1 < p.2 := join_lt apart _ _ (sorted_ok P) fun p hp => (by cases hp)
theorem join_len (apart : Int) : ∀ (rest found : List Pr), (rest.foldl (joinStep apart) found).length ≤ found.length + rest.length
  | [], _ => Nat.le_refl _
  | p :: rest, found => by
    rw [List.foldl_cons, List.length_cons]
    have h := join_len apart rest (joinStep apart found p)
    have h1 : (joinStep apart found p).length ≤ found.length + 1 := by
      rcases last_or found with rfl | ⟨M, l, rfl⟩
      · exact Nat.le_refl _
      · rw [joinStep_snoc]
        split <;> simp
    omega
theorem joinL_len (P : List Pr) (apart : Int) : (joinL P apart).length ≤ P.length := by
  have h := join_len apart (sortP (P.filter fun p => decide (p.1 < p.2))) []
  have h1 := (sortP_perm (P.filter fun p => decide (p.1 < p.2))).length_eq
  have h2 := List.length_filter_le (fun p : Pr => decide (p.1 < p.2)) P
  unfold joinL
  simp only [List.length_nil] at h
  omega
theorem join_bd {B : Int} (apart : Int) : ∀ (rest found : List Pr), (∀ p ∈ rest, 0 ≤ p.1 ∧ p.2 ≤ B) → (∀ p ∈ found, 0 ≤ p.1 ∧ p.2 ≤ B) → ∀ p ∈ rest.foldl (joinStep apart) found, 0 ≤ p.1 ∧ p.2 ≤ B
  | [], _, _, h => h
  | p :: rest, found, hr, h => by
    rw [List.foldl_cons]
    refine join_bd apart rest _ (fun q hq => hr q (List.mem_cons_of_mem _ hq)) fun q hq => ?_
    have hp := hr p (List.mem_cons_self ..)
    rcases last_or found with rfl | ⟨M, l, rfl⟩
    · rw [show joinStep apart [] p = [p] from rfl] at hq
      rw [List.mem_singleton.mp hq]; exact hp
    · rw [joinStep_snoc] at hq
      have hl := h l (List.mem_append_right _ (List.mem_singleton.mpr rfl))
      split at hq
      · rcases List.mem_append.mp hq with hq | hq
        · exact h q (List.mem_append_left _ hq)
        · rw [List.mem_singleton.mp hq]; exact ⟨hl.1, by show max l.2 p.2 ≤ B; omega⟩
      · rcases List.mem_append.mp hq with hq | hq
        · exact h q hq
        · rw [List.mem_singleton.mp hq]; exact hp
theorem joinL_bd {P : List Pr} {apart B : Int} (h : ∀ p ∈ P, 0 ≤ p.1 ∧ p.1 ≤ p.2 ∧ p.2 ≤ B) : ∀ p ∈ joinL P apart, 0 ≤ p.1 ∧ p.2 ≤ B :=
  join_bd apart _ _ (fun p hp => by
    have := h p (List.mem_filter.mp ((sortP_perm _).mem_iff.mp hp)).1
    exact ⟨this.1, this.2.2⟩) fun p hp => (by cases hp)
def gapStep (w2 : Int) (st : List Pr × Int) (p : Pr) : List Pr × Int := (if st.2 < min p.1 w2 then st.1 ++ [(st.2, min p.1 w2)] else st.1, max st.2 p.2)
def gapsL (P : List Pr) (w : Pr) : List Pr :=
  if ((joinL P 0).foldl (gapStep w.2) ([], w.1)).2 < w.2 then ((joinL P 0).foldl (gapStep w.2) ([], w.1)).1 ++ [(((joinL P 0).foldl (gapStep w.2) ([], w.1)).2, w.2)] else ((joinL P 0).foldl (gapStep w.2) ([], w.1)).1
theorem gap_inv (w1 w2 : Int) : ∀ (rest : List Pr) (found : List Pr) (here : Int), Sep rest → Sep found → (∀ f ∈ found, f.2 < here) → w1 ≤ here → (∀ m, Cov found m → w1 ≤ m ∧ m < w2) →
    let r := rest.foldl (gapStep w2) (found, here)
    Sep r.1 ∧ (∀ f ∈ r.1, f.2 < r.2) ∧ here ≤ r.2 ∧ (∀ m, Cov rest m → m < r.2) ∧ (∀ m, Cov r.1 m ↔ Cov found m ∨ (here ≤ m ∧ m < r.2 ∧ m < w2 ∧ ¬ Cov rest m))
  | [], found, here, _, h, hf, _, _ => ⟨h, hf, Int.le_refl _, fun m c => absurd c cov_nil, fun m => ⟨.inl, fun c => c.elim id fun c => by simp only [List.foldl_nil] at c; omega⟩⟩
  | p :: rest, found, here, hr, h, hf, hw, hc => by
    have hp := hr.2 p (List.mem_cons_self ..)
    intro r
    have step : Sep (gapStep w2 (found, here) p).1 ∧ (∀ f ∈ (gapStep w2 (found, here) p).1, f.2 < max here p.2) ∧ (∀ m, Cov (gapStep w2 (found, here) p).1 m ↔ Cov found m ∨ (here ≤ m ∧ m < min p.1 w2)) := by
      unfold gapStep
      dsimp only
      split
      · rename_i h1
        refine ⟨sep_snoc h h1 hf, fun f hf' => ?_, fun m => by rw [cov_app, cov_one]⟩
        rcases List.mem_append.mp hf' with hf' | hf'
        · have := hf f hf'; omega
        · rw [List.mem_singleton.mp hf']; show min p.1 w2 < _; omega
      · rename_i h1
        refine ⟨h, fun f hf' => by have := hf f hf'; omega, fun m => ⟨.inl, fun c => c.elim id fun c => by omega⟩⟩
    obtain ⟨s1, s2, s3⟩ := step
    have e : r = rest.foldl (gapStep w2) ((gapStep w2 (found, here) p).1, max here p.2) := rfl
    have hc' : ∀ m, Cov (gapStep w2 (found, here) p).1 m → w1 ≤ m ∧ m < w2 := fun m c => by
      rcases (s3 m).mp c with c | c
      · exact hc m c
      · omega
    have ih := gap_inv w1 w2 rest (gapStep w2 (found, here) p).1 (max here p.2) hr.tail s1 s2 (by omega) hc'
    rw [← e] at ih
    obtain ⟨t1, t2, t3, t4, t5⟩ := ih
    refine ⟨t1, t2, by omega, fun m c => ?_, fun m => ?_⟩
    · rcases cov_cons.mp c with c | c
      · omega
      · exact t4 m c
    · rw [t5, s3, cov_cons]
      constructor
      · rintro ((c | c) | ⟨c1, c2, c3, c4⟩)
        · exact .inl c
        · refine .inr ⟨c.1, by omega, by omega, ?_⟩
          rintro (d | d)
          · omega
          · have := hr.least d; omega
        · refine .inr ⟨by omega, c2, c3, ?_⟩
          rintro (d | d)
          · omega
          · exact c4 d
      · rintro (c | ⟨c1, c2, c3, c4⟩)
        · exact .inl (.inl c)
        · by_cases hm : m < min p.1 w2
          · exact .inl (.inr ⟨c1, hm⟩)
          · refine .inr ⟨?_, c2, c3, fun d => c4 (.inr d)⟩
            by_cases h2 : m < p.2
            · exact absurd (.inl ⟨by omega, h2⟩) c4
            · omega
theorem gaps_ok (P : List Pr) (w : Pr) : Sep (gapsL P w) ∧ ∀ m, Cov (gapsL P w) m ↔ w.1 ≤ m ∧ m < w.2 ∧ ¬ Cov P m := by
  obtain ⟨j1, j2⟩ := join_ok P
  have h := gap_inv w.1 w.2 (joinL P 0) [] w.1 j1 ⟨.nil, fun p hp => (by cases hp)⟩ (fun f hf => (by cases hf)) (Int.le_refl _) fun m c => absurd c cov_nil
  unfold gapsL
  revert h
  generalize (joinL P 0).foldl (gapStep w.2) ([], w.1) = r
  rintro ⟨h1, h2, h3, h4, h5⟩
  split
  · rename_i hc
    refine ⟨sep_snoc h1 hc h2, fun m => ?_⟩
    rw [cov_app, cov_one, h5]
    constructor
    · rintro ((c | ⟨c1, c2, c3, c4⟩) | c)
      · exact absurd c cov_nil
      · exact ⟨c1, c3, fun d => c4 ((j2 m).mpr d)⟩
      · have c' : r.2 ≤ m ∧ m < w.2 := c
        exact ⟨by omega, by omega, fun d => by have := h4 m ((j2 m).mpr d); omega⟩
    · rintro ⟨c1, c2, c3⟩
      by_cases hm : m < r.2
      · exact .inl (.inr ⟨c1, hm, c2, fun d => c3 ((j2 m).mp d)⟩)
      · exact .inr ⟨by show r.2 ≤ m; omega, c2⟩
  · rename_i hc
    refine ⟨h1, fun m => ?_⟩
    rw [h5]
    constructor
    · rintro (c | ⟨c1, c2, c3, c4⟩)
      · exact absurd c cov_nil
      · exact ⟨c1, c3, fun d => c4 ((j2 m).mpr d)⟩
    · rintro ⟨c1, c2, c3⟩
      exact .inr ⟨c1, by omega, c2, fun d => c3 ((j2 m).mp d)⟩
theorem gap_len (w2 : Int) : ∀ (rest : List Pr) (st : List Pr × Int), (rest.foldl (gapStep w2) st).1.length ≤ st.1.length + rest.length
  | [], _ => Nat.le_refl _
  | p :: rest, st => by
    rw [List.foldl_cons, List.length_cons]
    have h := gap_len w2 rest (gapStep w2 st p)
    have h1 : (gapStep w2 st p).1.length ≤ st.1.length + 1 := by
      unfold gapStep
      dsimp only
      split <;> simp
    omega
end Mj
namespace Mj
open PySem L2 Dl
def total (L : List Pr) : Int := (L.map fun p => max 0 (p.2 - p.1)).sum
end Mj
namespace Mj
open PySem L2 Dl
theorem join_twice (P : List Pr) : joinL (joinL P 0) 0 = joinL P 0 := sep_uniq (join_ok _).1 (join_ok _).1 fun m => (join_ok _).2 m
theorem gaps_join (P : List Pr) (w : Pr) : gapsL (joinL P 0) w = gapsL P w := sep_uniq (gaps_ok _ _).1 (gaps_ok _ _).1 fun m => by
  rw [(gaps_ok _ _).2, (gaps_ok _ _).2, (join_ok _).2]
theorem join_sep {L : List Pr} (h : Sep L) : joinL L 0 = L := sep_uniq (join_ok _).1 h fun m => (join_ok _).2 m
def tiles (w2 : Int) : Int → List Pr → Bool
  | h, [] => decide (h = w2)
  | h, p :: L => decide (p.1 = h) && (decide (p.1 < p.2) && tiles w2 p.2 L)
def Disj (p q : Pr) : Prop := p.2 ≤ q.1 ∨ q.2 ≤ p.1
theorem tile_ok (w2 : Int) : ∀ (L : List Pr) (h : Int), h ≤ w2 → L.Pairwise (fun p q => p.1 ≤ q.1) → (∀ p ∈ L, p.1 < p.2) → L.Pairwise Disj → (∀ m, Cov L m ↔ h ≤ m ∧ m < w2) → tiles w2 h L = true
  | [], h, hw, _, _, _, hc => by
    have : ¬ h < w2 := fun z => cov_nil ((hc h).mpr ⟨Int.le_refl _, z⟩)
    show decide (h = w2) = true
    exact decide_eq_true (by omega)
  | p :: L, h, hw, hs, hn, hd, hc => by
    have hp := hn p (List.mem_cons_self ..)
    obtain ⟨s1, s2⟩ := List.pairwise_cons.mp hs
    obtain ⟨d1, d2⟩ := List.pairwise_cons.mp hd
    have c1 := (hc p.1).mp ⟨p, List.mem_cons_self .., Int.le_refl _, hp⟩
    have c2 := (hc (p.2 - 1)).mp ⟨p, List.mem_cons_self .., by omega, by omega⟩
    have e1 : p.1 = h := by
      obtain ⟨q, hq, q1, q2⟩ := (hc h).mpr ⟨Int.le_refl _, by omega⟩
      rcases List.mem_cons.mp hq with rfl | hq
      · omega
      · have := s1 q hq; omega
    have e2 := tile_ok w2 L p.2 (by omega) s2 (fun q hq => hn q (List.mem_cons_of_mem _ hq)) d2 fun m => by
      constructor
      · rintro ⟨q, hq, q1, q2⟩
        have a1 := (hc m).mp ⟨q, List.mem_cons_of_mem _ hq, q1, q2⟩
        have a2 := s1 q hq
        have a3 := hn q (List.mem_cons_of_mem _ hq)
        rcases d1 q hq with z | z <;> omega
      · rintro ⟨m1, m2⟩
        obtain ⟨q, hq, q1, q2⟩ := (hc m).mpr ⟨by omega, m2⟩
        rcases List.mem_cons.mp hq with rfl | hq
        · omega
        · exact ⟨q, hq, q1, q2⟩
    show (decide (p.1 = h) && (decide (p.1 < p.2) && tiles w2 p.2 L)) = true
    rw [decide_eq_true e1, decide_eq_true hp, e2]
    rfl
theorem total_tiles (w2 : Int) : ∀ (L : List Pr) (h : Int), tiles w2 h L = true → total L = w2 - h
  | [], h, ht => by
    have : h = w2 := of_decide_eq_true ht
    unfold total
    simp
    omega
  | p :: L, h, ht => by
    have ht : (decide (p.1 = h) && (decide (p.1 < p.2) && tiles w2 p.2 L)) = true := ht
    simp only [Bool.and_eq_true, decide_eq_true_eq] at ht
    have ih := total_tiles w2 L p.2 ht.2.2
    have e : total (p :: L) = max 0 (p.2 - p.1) + total L := by unfold total; rw [List.map_cons, List.sum_cons]
    rw [e, ih]
    omega
theorem total_app (L M : List Pr) : total (L ++ M) = total L + total M := by
  unfold total
  rw [List.map_append, List.sum_append]
theorem total_perm {L M : List Pr} (h : L.Perm M) : total L = total M := by
  induction h with
  | nil => rfl
  | cons x _ ih => unfold total at *; rw [List.map_cons, List.map_cons, List.sum_cons, List.sum_cons, ih]
  | swap x y l => unfold total; simp only [List.map_cons, List.sum_cons]; omega
  | trans _ _ ih1 ih2 => exact ih1.trans ih2
theorem disj_symm {p q : Pr} (h : Disj p q) : Disj q p := h.elim .inr .inl
theorem sep_disj {L : List Pr} (h : Sep L) : L.Pairwise Disj := h.1.imp fun {a b} h => .inl (Int.le_of_lt h)
theorem disj_of {p q : Pr} (hp : p.1 < p.2) (hq : q.1 < q.2) (h : ∀ m, p.1 ≤ m → m < p.2 → q.1 ≤ m → m < q.2 → False) : Disj p q := by
  by_cases c : Disj p q
  · exact c
  · exact (h (max p.1 q.1) (by omega) (by unfold Disj at c; omega) (by omega) (by unfold Disj at c; omega)).elim
def meetP (p w : Pr) : Pr := (max p.1 w.1, min p.2 w.2)
def keptL (P : List Pr) (w : Pr) : List Pr := (P.map fun p => meetP p w).filter fun p => decide (p.1 < p.2)
theorem kept_mem {P : List Pr} {w p : Pr} : p ∈ keptL P w ↔ (∃ x ∈ P, meetP x w = p) ∧ p.1 < p.2 := by
  unfold keptL
  rw [List.mem_filter, List.mem_map]
  simp
theorem kept_ok {P : List Pr} {w : Pr} (h : Sep P) : Sep (keptL P w) ∧ ∀ m, Cov (keptL P w) m ↔ Cov P m ∧ w.1 ≤ m ∧ m < w.2 := by
  refine ⟨⟨?_, fun p hp => (kept_mem.mp hp).2⟩, fun m => ⟨?_, ?_⟩⟩
  · refine List.Pairwise.filter _ (List.pairwise_map.mpr (h.1.imp fun {a b} z => ?_))
    unfold meetP
    dsimp only
    omega
  · rintro ⟨p, hp, p1, p2⟩
    obtain ⟨⟨x, hx, rfl⟩, hlt⟩ := kept_mem.mp hp
    unfold meetP at p1 p2
    dsimp only at p1 p2
    exact ⟨⟨x, hx, by omega, by omega⟩, by omega, by omega⟩
  · rintro ⟨⟨x, hx, x1, x2⟩, m1, m2⟩
    refine ⟨meetP x w, kept_mem.mpr ⟨⟨x, hx, rfl⟩, ?_⟩, ?_, ?_⟩ <;> (unfold meetP; dsimp only; omega)
/-- what is kept and what is free, in a rising row -/
theorem rows_ok {P rows : List Pr} {w : Pr} (hw : w.1 ≤ w.2) (hp : rows.Perm (keptL (joinL P 0) w ++ gapsL P w)) (hs : rows.Pairwise fun p q => p.1 ≤ q.1) :
    tiles w.2 w.1 rows = true ∧ total (keptL (joinL P 0) w) + total (gapsL P w) = w.2 - w.1 := by
  obtain ⟨k1, k2⟩ := kept_ok (w := w) (join_ok P).1
  obtain ⟨g1, g2⟩ := gaps_ok P w
  have hn : ∀ p ∈ rows, p.1 < p.2 := fun p h => by
    rcases List.mem_append.mp (hp.mem_iff.mp h) with h | h
    · exact k1.2 p h
    · exact g1.2 p h
  have hd : rows.Pairwise Disj := by
    refine (hp.symm.pairwise (List.pairwise_append.mpr ⟨sep_disj k1, sep_disj g1, fun a ha b hb => disj_of (k1.2 a ha) (g1.2 b hb) fun m m1 m2 m3 m4 => ?_⟩) fun {a b} h => disj_symm h)
    have c1 := (k2 m).mp ⟨a, ha, m1, m2⟩
    have c2 := (g2 m).mp ⟨b, hb, m3, m4⟩
    exact c2.2.2 (((join_ok P).2 m).mp c1.1)
  have hc : ∀ m, Cov rows m ↔ w.1 ≤ m ∧ m < w.2 := fun m => by
    rw [cov_perm hp m, cov_app, k2, g2, (join_ok P).2]
    constructor
    · rintro (⟨_, h1, h2⟩ | ⟨h1, h2, _⟩) <;> exact ⟨h1, h2⟩
    · rintro ⟨h1, h2⟩
      by_cases c : Cov P m
      · exact .inl ⟨c, h1, h2⟩
      · exact .inr ⟨h1, h2, c⟩
  have ht := tile_ok w.2 rows w.1 hw hs hn hd hc
  refine ⟨ht, ?_⟩
  rw [← total_app, ← total_perm hp]
  exact total_tiles _ _ _ ht
theorem kept_free {P : List Pr} {w p q : Pr} (hp : p ∈ keptL (joinL P 0) w) (hq : q ∈ gapsL P w) : ¬ (meetP p q).1 < (meetP p q).2 := fun z => by
  obtain ⟨k1, k2⟩ := kept_ok (w := w) (join_ok P).1
  obtain ⟨g1, g2⟩ := gaps_ok P w
  unfold meetP at z
  dsimp only at z
  have c1 := (k2 (max p.1 q.1)).mp ⟨p, hp, by omega, by omega⟩
  have c2 := (g2 (max p.1 q.1)).mp ⟨q, hq, by omega, by omega⟩
  exact c2.2.2 (((join_ok P).2 _).mp c1.1)
def SepA (ap : Int) (L : List Pr) : Prop := L.Pairwise (fun p q => p.2 + ap < q.1) ∧ ∀ p ∈ L, p.1 < p.2
def In (L : List Pr) (p : Pr) : Prop := ∃ q ∈ L, q.1 ≤ p.1 ∧ p.2 ≤ q.2
theorem joinA_inv {ap : Int} (h0 : 0 ≤ ap) : ∀ (rest found : List Pr), SepA ap found → (∀ p ∈ rest, p.1 < p.2) → rest.Pairwise (fun p q => p.1 ≤ q.1) → (∀ f ∈ found, ∀ p ∈ rest, f.1 ≤ p.1) →
    SepA ap (rest.foldl (joinStep ap) found) ∧ (∀ p, In found p ∨ p ∈ rest → In (rest.foldl (joinStep ap) found) p)
  | [], found, h, _, _, _ => ⟨h, fun p hp => hp.elim id fun z => by cases z⟩
  | p :: rest, found, h, hr, hs, hf => by
    have hp := hr p (List.mem_cons_self ..)
    obtain ⟨s1, s2⟩ := List.pairwise_cons.mp hs
    have hr2 : ∀ q ∈ rest, q.1 < q.2 := fun q hq => hr q (List.mem_cons_of_mem _ hq)
    rw [List.foldl_cons]
    rcases last_or found with rfl | ⟨M, l, rfl⟩
    · have e : joinStep ap [] p = [p] := rfl
      rw [e]
      obtain ⟨a1, a2⟩ := joinA_inv h0 rest [p] ⟨List.pairwise_singleton _ _, fun q hq => by rw [List.mem_singleton.mp hq]; exact hp⟩ hr2 s2 fun f hf' q hq => by rw [List.mem_singleton.mp hf']; exact s1 q hq
      refine ⟨a1, fun x hx => a2 x ?_⟩
      rcases hx with ⟨y, hy, _⟩ | hx
      · cases hy
      · rcases List.mem_cons.mp hx with rfl | hx
        · exact .inl ⟨x, List.mem_singleton.mpr rfl, Int.le_refl _, Int.le_refl _⟩
        · exact .inr hx
    · obtain ⟨h1, h2⟩ := h
      obtain ⟨b1, b2, b3⟩ := List.pairwise_append.mp h1
      have hl := h2 l (List.mem_append_right _ (List.mem_singleton.mpr rfl))
      have hlp := hf l (List.mem_append_right _ (List.mem_singleton.mpr rfl)) p (List.mem_cons_self ..)
      rw [joinStep_snoc]
      by_cases c : p.1 - l.2 ≤ ap
      · rw [if_pos c]
        obtain ⟨a1, a2⟩ := joinA_inv h0 rest (M ++ [(l.1, max l.2 p.2)]) ⟨List.pairwise_append.mpr ⟨b1, List.pairwise_singleton _ _, fun x hx y hy => by
            have z := b3 x hx l (List.mem_singleton.mpr rfl)
            rw [List.mem_singleton.mp hy]
            exact z⟩, fun q hq => by
            rcases List.mem_append.mp hq with hq | hq
            · exact h2 q (List.mem_append_left _ hq)
            · rw [List.mem_singleton.mp hq]; dsimp only; omega⟩ hr2 s2 fun f hf' q hq => by
          rcases List.mem_append.mp hf' with hf' | hf'
          · exact hf f (List.mem_append_left _ hf') q (List.mem_cons_of_mem _ hq)
          · rw [List.mem_singleton.mp hf']
            exact hf l (List.mem_append_right _ (List.mem_singleton.mpr rfl)) q (List.mem_cons_of_mem _ hq)
        refine ⟨a1, fun x hx => a2 x ?_⟩
        have last : In (M ++ [(l.1, max l.2 p.2)]) l ∧ In (M ++ [(l.1, max l.2 p.2)]) p := ⟨⟨_, List.mem_append_right _ (List.mem_singleton.mpr rfl), by dsimp only; omega, by dsimp only; omega⟩, ⟨_, List.mem_append_right _ (List.mem_singleton.mpr rfl), by dsimp only; omega, by dsimp only; omega⟩⟩
        rcases hx with ⟨y, hy, y1, y2⟩ | hx
        · rcases List.mem_append.mp hy with hy | hy
          · exact .inl ⟨y, List.mem_append_left _ hy, y1, y2⟩
          · have ey := List.mem_singleton.mp hy
            subst ey
            obtain ⟨⟨z, hz, z1, z2⟩, _⟩ := last
            exact .inl ⟨z, hz, by omega, by omega⟩
        · rcases List.mem_cons.mp hx with rfl | hx
          · exact .inl last.2
          · exact .inr hx
      · rw [if_neg c]
        obtain ⟨a1, a2⟩ := joinA_inv h0 rest (M ++ [l] ++ [p]) ⟨List.pairwise_append.mpr ⟨h1, List.pairwise_singleton _ _, fun x hx y hy => by
            rw [List.mem_singleton.mp hy]
            rcases List.mem_append.mp hx with hx | hx
            · have := b3 x hx l (List.mem_singleton.mpr rfl); omega
            · rw [List.mem_singleton.mp hx]; omega⟩, fun q hq => by
            rcases List.mem_append.mp hq with hq | hq
            · exact h2 q hq
            · rw [List.mem_singleton.mp hq]; exact hp⟩ hr2 s2 fun f hf' q hq => by
          rcases List.mem_append.mp hf' with hf' | hf'
          · exact hf f hf' q (List.mem_cons_of_mem _ hq)
          · rw [List.mem_singleton.mp hf']
            exact s1 q hq
        refine ⟨a1, fun x hx => a2 x ?_⟩
        rcases hx with ⟨y, hy, y1, y2⟩ | hx
        · exact .inl ⟨y, List.mem_append_left _ hy, y1, y2⟩
        · rcases List.mem_cons.mp hx with rfl | hx
          · exact .inl ⟨x, List.mem_append_right _ (List.mem_singleton.mpr rfl), Int.le_refl _, Int.le_refl _⟩
          · exact .inr hx
theorem joinA_ok {ap : Int} (h0 : 0 ≤ ap) (P : List Pr) : SepA ap (joinL P ap) ∧ ∀ p ∈ P, p.1 < p.2 → In (joinL P ap) p := by
  obtain ⟨h1, h2⟩ := joinA_inv h0 (sortP (P.filter fun p => decide (p.1 < p.2))) [] ⟨.nil, fun p hp => (by cases hp)⟩ (sorted_ok P) (sortP_rise _) fun f hf => (by cases hf)
  refine ⟨h1, fun p hp hlt => h2 p (.inr ?_)⟩
  exact (sortP_perm _).mem_iff.mpr (List.mem_filter.mpr ⟨hp, decide_eq_true hlt⟩)
theorem SepA.sep {ap : Int} (h0 : 0 ≤ ap) {L : List Pr} (h : SepA ap L) : Sep L := ⟨h.1.imp fun {a b} z => by omega, h.2⟩
theorem fold_sepA {ap : Int} : ∀ (L found : List Pr), SepA ap (found ++ L) → L.foldl (joinStep ap) found = found ++ L
  | [], found, _ => by rw [List.append_nil]; rfl
  | p :: L, found, h => by
    have e : joinStep ap found p = found ++ [p] := by
      rcases last_or found with rfl | ⟨M, l, rfl⟩
      · rfl
      · rw [joinStep_snoc, if_neg]
        have z := (List.pairwise_append.mp h.1).2.2 l (List.mem_append_right _ (List.mem_singleton.mpr rfl)) p (List.mem_cons_self ..)
        omega
    rw [List.foldl_cons, e, fold_sepA L (found ++ [p]) (by rw [List.append_assoc]; exact h), List.append_assoc]
    rfl
theorem joinA_twice {ap : Int} (h0 : 0 ≤ ap) (P : List Pr) : joinL (joinL P ap) ap = joinL P ap := by
  obtain ⟨h1, _⟩ := joinA_ok h0 P
  generalize joinL P ap = L at h1
  have e1 : (L.filter fun p => decide (p.1 < p.2)) = L := List.filter_eq_self.mpr fun p hp => decide_eq_true (h1.2 p hp)
  have e2 : sortP L = L := List.mergeSort_of_pairwise (le := leP) (h1.1.imp_of_mem fun {a b} ha hb z => by
    have := h1.2 a ha
    unfold leP
    exact decide_eq_true (by omega))
  unfold joinL
  rw [e1, e2]
  exact fold_sepA L [] h1
theorem part_in {ap : Int} (h0 : 0 ≤ ap) (P : List Pr) {p : Pr} (hp : p ∈ joinL P 0) : In (joinL P ap) p := by
  obtain ⟨h1, h2⟩ := joinA_ok h0 P
  obtain ⟨j1, j2⟩ := join_ok P
  have cov : ∀ m, p.1 ≤ m → m < p.2 → Cov (joinL P ap) m := fun m m1 m2 => by
    obtain ⟨x, hx, x1, x2⟩ := (j2 m).mp ⟨p, hp, m1, m2⟩
    obtain ⟨q, hq, q1, q2⟩ := h2 x hx (by omega)
    exact ⟨q, hq, by omega, by omega⟩
  have hlt := j1.2 p hp
  obtain ⟨q, hq, q1, q2⟩ := cov p.1 (Int.le_refl _) hlt
  refine ⟨q, hq, q1, ?_⟩
  by_cases c : p.2 ≤ q.2
  · exact c
  · obtain ⟨r, hr, r1, r2⟩ := cov q.2 (by omega) (by omega)
    have hs := (h1.sep h0).1
    obtain ⟨i, hi⟩ := List.getElem?_of_mem hq
    obtain ⟨j, hj⟩ := List.getElem?_of_mem hr
    obtain ⟨hi1, hi2⟩ := List.getElem?_eq_some_iff.mp hi
    obtain ⟨hj1, hj2⟩ := List.getElem?_eq_some_iff.mp hj
    rcases Nat.lt_trichotomy i j with z | z | z
    · have := List.pairwise_iff_getElem.mp hs i j hi1 hj1 z
      rw [hi2, hj2] at this
      omega
    · subst z
      rw [hi] at hj
      cases hj
      omega
    · have := List.pairwise_iff_getElem.mp hs j i hj1 hi1 z
      rw [hi2, hj2] at this
      omega
theorem wide_len {ap : Int} (h0 : 0 ≤ ap) : ∀ (rest F G : List Pr), F.length ≤ G.length → ((F = [] ∧ G = []) ∨ ∃ M l N k, F = M ++ [l] ∧ G = N ++ [k] ∧ l.2 = k.2) → (∀ p ∈ rest, p.1 < p.2) → (rest.foldl (joinStep ap) F).length ≤ (rest.foldl (joinStep 0) G).length
  | [], F, G, h, _, _ => h
  | p :: rest, F, G, h, hl, hr => by
    have hp := hr p (List.mem_cons_self ..)
    rw [List.foldl_cons, List.foldl_cons]
    rcases hl with ⟨rfl, rfl⟩ | ⟨M, l, N, k, rfl, rfl, e⟩
    · exact wide_len h0 rest [p] [p] (Nat.le_refl _) (.inr ⟨[], p, [], p, rfl, rfl, rfl⟩) fun q hq => hr q (List.mem_cons_of_mem _ hq)
    · rw [List.length_append, List.length_append, List.length_singleton, List.length_singleton] at h
      rw [joinStep_snoc, joinStep_snoc]
      have hr2 : ∀ q ∈ rest, q.1 < q.2 := fun q hq => hr q (List.mem_cons_of_mem _ hq)
      by_cases c1 : p.1 - k.2 ≤ 0
      · rw [if_pos (show p.1 - l.2 ≤ ap by omega), if_pos c1]
        exact wide_len h0 rest _ _ (by simp; omega) (.inr ⟨_, _, _, _, rfl, rfl, by dsimp only; omega⟩) hr2
      · rw [if_neg c1]
        by_cases c2 : p.1 - l.2 ≤ ap
        · rw [if_pos c2]
          exact wide_len h0 rest _ _ (by simp; omega) (.inr ⟨_, _, _, _, rfl, rfl, by dsimp only; omega⟩) hr2
        · rw [if_neg c2]
          exact wide_len h0 rest _ _ (by simp; omega) (.inr ⟨_, _, _, _, rfl, rfl, rfl⟩) hr2
theorem wide_le {ap : Int} (h0 : 0 ≤ ap) (P : List Pr) : (joinL P ap).length ≤ (joinL P 0).length := wide_len h0 _ [] [] (Nat.le_refl _) (.inl ⟨rfl, rfl⟩) (sorted_ok P)
theorem meet_in {p q : Pr} (h1 : q.1 ≤ p.1) (h2 : p.2 ≤ q.2) : meetP p q = p := by
  unfold meetP
  obtain ⟨x, y⟩ := p
  dsimp only at *
  rw [show max x q.1 = x by omega, show min y q.2 = y by omega]
end Mj
namespace Lw
open PySem L2 Dl
def top (i : Nat) : Stmt := PySem.Challenge.pw_boatbridge_k07_whole_stretches_part_the.main.body.getD i (.Pass ⟨0, 0, 0, 0⟩)
abbrev s_Stretch_init : Stmt := (inClass (top 8) 0)
abbrev N_Stretch_init : List Str := ["self", "first", "behind"]
abbrev ps_Stretch_init : List Str := ["self", "first", "behind"]
theorem sc_Stretch_init : FnScope N_Stretch_init ps_Stretch_init (defScope s_Stretch_init) := ⟨rfl, rfl, rfl, by decide +kernel, rfl, by decide +kernel, by decide +kernel⟩
abbrev dv_Stretch_init : List V := [.non]
theorem dfv_Stretch_init : DfV [.non] dv_Stretch_init := fun _ _ _ _ => by simp [Reps, Rep]
abbrev s_Stretch_len : Stmt := (inClass (top 8) 1)
abbrev N_Stretch_len : List Str := ["self"]
abbrev ps_Stretch_len : List Str := ["self"]
theorem sc_Stretch_len : FnScope N_Stretch_len ps_Stretch_len (defScope s_Stretch_len) := ⟨rfl, rfl, rfl, by decide +kernel, rfl, by decide +kernel, by decide +kernel⟩
abbrev dv_Stretch_len : List V := []
abbrev s_Stretch_eq : Stmt := (inClass (top 8) 2)
abbrev N_Stretch_eq : List Str := ["self", "other"]
abbrev ps_Stretch_eq : List Str := ["self", "other"]
theorem sc_Stretch_eq : FnScope N_Stretch_eq ps_Stretch_eq (defScope s_Stretch_eq) := ⟨rfl, rfl, rfl, by decide +kernel, rfl, by decide +kernel, by decide +kernel⟩
abbrev dv_Stretch_eq : List V := []
abbrev s_meet : Stmt := (top 9)
abbrev N_meet : List Str := ["one", "other", "first", "behind"]
abbrev ps_meet : List Str := ["one", "other"]
theorem sc_meet : FnScope N_meet ps_meet (defScope s_meet) := ⟨rfl, rfl, rfl, by decide +kernel, rfl, by decide +kernel, by decide +kernel⟩
abbrev dv_meet : List V := []
abbrev s_joined : Stmt := (top 10)
abbrev N_joined : List Str := ["some", "apart", "found", "first", "behind", "one"]
abbrev ps_joined : List Str := ["some", "apart"]
theorem sc_joined : FnScope N_joined ps_joined (defScope s_joined) := ⟨rfl, rfl, rfl, by decide +kernel, rfl, by decide +kernel, by decide +kernel⟩
abbrev dv_joined : List V := [.int 0]
theorem dfv_joined : DfV [.int 0] dv_joined := fun _ _ _ _ => by simp [Reps, Rep]
abbrev s_gaps : Stmt := (top 11)
abbrev N_gaps : List Str := ["some", "within", "found", "here", "one", "edge"]
abbrev ps_gaps : List Str := ["some", "within"]
theorem sc_gaps : FnScope N_gaps ps_gaps (defScope s_gaps) := ⟨rfl, rfl, rfl, by decide +kernel, rfl, by decide +kernel, by decide +kernel⟩
abbrev dv_gaps : List V := []
abbrev s_minutes_in : Stmt := (top 12)
abbrev N_minutes_in : List Str := ["some", "one"]
abbrev ps_minutes_in : List Str := ["some"]
theorem sc_minutes_in : FnScope N_minutes_in ps_minutes_in (defScope s_minutes_in) := ⟨rfl, rfl, rfl, by decide +kernel, rfl, by decide +kernel, by decide +kernel⟩
abbrev dv_minutes_in : List V := []
abbrev s__law_tape : Stmt := (top 14)
abbrev N__law_tape : List Str := ["_law_script"]
abbrev ps__law_tape : List Str := ["_law_script"]
theorem sc__law_tape : FnScope N__law_tape ps__law_tape (defScope s__law_tape) := ⟨rfl, rfl, rfl, by decide +kernel, rfl, by decide +kernel, by decide +kernel⟩
abbrev dv__law_tape : List V := []
abbrev s__law_draw : Stmt := (top 15)
abbrev N__law_draw : List Str := ["_law_tape_here", "_law_many", "_law_digit", "_law_turn", "_law_cell", "_law_primes", "_law_prime", "_law_mixed"]
abbrev ps__law_draw : List Str := ["_law_tape_here", "_law_many"]
theorem sc__law_draw : FnScope N__law_draw ps__law_draw (defScope s__law_draw) := ⟨rfl, rfl, rfl, by decide +kernel, rfl, by decide +kernel, by decide +kernel⟩
abbrev dv__law_draw : List V := []
abbrev s__law_pick : Stmt := (top 16)
abbrev N__law_pick : List Str := ["_law_tape_here", "_law_some"]
abbrev ps__law_pick : List Str := ["_law_tape_here", "_law_some"]
theorem sc__law_pick : FnScope N__law_pick ps__law_pick (defScope s__law_pick) := ⟨rfl, rfl, rfl, by decide +kernel, rfl, by decide +kernel, by decide +kernel⟩
abbrev dv__law_pick : List V := []
abbrev s__law_made : Stmt := (top 17)
abbrev N__law_made : List Str := ["_law_tape_here", "_law_found", "_law_k", "_law_first"]
abbrev ps__law_made : List Str := ["_law_tape_here"]
theorem sc__law_made : FnScope N__law_made ps__law_made (defScope s__law_made) := ⟨rfl, rfl, rfl, by decide +kernel, rfl, by decide +kernel, by decide +kernel⟩
abbrev dv__law_made : List V := []
abbrev s__law_beside : Stmt := (top 18)
abbrev N__law_beside : List Str := ["_law_some", "_law_whole", "_law_here", "_law_one"]
abbrev ps__law_beside : List Str := ["_law_some", "_law_whole"]
theorem sc__law_beside : FnScope N__law_beside ps__law_beside (defScope s__law_beside) := ⟨rfl, rfl, rfl, by decide +kernel, rfl, by decide +kernel, by decide +kernel⟩
abbrev dv__law_beside : List V := []
abbrev s__law_inside : Stmt := (top 19)
abbrev N__law_inside : List Str := ["_law_one", "_law_other"]
abbrev ps__law_inside : List Str := ["_law_one", "_law_other"]
theorem sc__law_inside : FnScope N__law_inside ps__law_inside (defScope s__law_inside) := ⟨rfl, rfl, rfl, by decide +kernel, rfl, by decide +kernel, by decide +kernel⟩
abbrev dv__law_inside : List V := []
abbrev s_law : Stmt := (top 20)
abbrev N_law : List Str := ["_law_script", "_law_tape_here", "_law_turn", "_law_some", "_law_first", "_law_whole", "_law_parts", "_law_cut", "_law_kept", "_law_free", "_law_rows", "_law_apart", "_law_wide", "_law_one", "_law_other"]
abbrev ps_law : List Str := ["_law_script"]
theorem sc_law : FnScope N_law ps_law (defScope s_law) := ⟨rfl, rfl, rfl, by decide +kernel, rfl, by decide +kernel, by decide +kernel⟩
abbrev dv_law : List V := []
structure Ad where
  C_Stretch : Addr
theorem bnd_Stretch_init_3 : Bnd "__init__" "Stretch.__init__" s_Stretch_init ps_Stretch_init 3 [] [.p 0, .p 1, .p 2] dv_Stretch_init.length := .more 0 fun _ _ _ _ _ _ _ us its ws h1 h2 h3 => match us, its, ws, h1, h2, h3 with | [_, _, _], [_], [], _, _, _ => ⟨_, rfl, rfl⟩
theorem bnd_Stretch_len_1 : Bnd "__len__" "Stretch.__len__" s_Stretch_len ps_Stretch_len 1 [] [.p 0] dv_Stretch_len.length := .zero fun _ _ _ _ _ _ us ws h1 h2 => match us, ws, h1, h2 with | [_], [], _, _ => rfl
theorem bnd_Stretch_init_1_first_behind : Bnd "__init__" "Stretch.__init__" s_Stretch_init ps_Stretch_init 1 ["first", "behind"] [.p 0, .k 0, .k 1] dv_Stretch_init.length := .more 0 fun _ _ _ _ _ _ _ us its ws h1 h2 h3 => match us, its, ws, h1, h2, h3 with | [_], [_], [_, _], _, _, _ => ⟨_, rfl, rfl⟩
theorem bnd_joined_1 : Bnd "joined" "joined" s_joined ps_joined 1 [] [.p 0, .d 0] dv_joined.length := .more 0 fun _ _ _ _ _ _ _ us its ws h1 h2 h3 => match us, its, ws, h1, h2, h3 with | [_], [_], [], _, _, _ => ⟨_, rfl, rfl⟩
theorem bnd__law_draw_2 : Bnd "_law_draw" "_law_draw" s__law_draw ps__law_draw 2 [] [.p 0, .p 1] dv__law_draw.length := .zero fun _ _ _ _ _ _ us ws h1 h2 => match us, ws, h1, h2 with | [_, _], [], _, _ => rfl
theorem bnd__law_pick_2 : Bnd "_law_pick" "_law_pick" s__law_pick ps__law_pick 2 [] [.p 0, .p 1] dv__law_pick.length := .zero fun _ _ _ _ _ _ us ws h1 h2 => match us, ws, h1, h2 with | [_, _], [], _, _ => rfl
theorem bnd__law_tape_1 : Bnd "_law_tape" "_law_tape" s__law_tape ps__law_tape 1 [] [.p 0] dv__law_tape.length := .zero fun _ _ _ _ _ _ us ws h1 h2 => match us, ws, h1, h2 with | [_], [], _, _ => rfl
theorem bnd__law_made_1 : Bnd "_law_made" "_law_made" s__law_made ps__law_made 1 [] [.p 0] dv__law_made.length := .zero fun _ _ _ _ _ _ us ws h1 h2 => match us, ws, h1, h2 with | [_], [], _, _ => rfl
theorem bnd_Stretch_eq_2 : Bnd "__eq__" "Stretch.__eq__" s_Stretch_eq ps_Stretch_eq 2 [] [.p 0, .p 1] dv_Stretch_eq.length := .zero fun _ _ _ _ _ _ us ws h1 h2 => match us, ws, h1, h2 with | [_, _], [], _, _ => rfl
theorem bnd_gaps_2 : Bnd "gaps" "gaps" s_gaps ps_gaps 2 [] [.p 0, .p 1] dv_gaps.length := .zero fun _ _ _ _ _ _ us ws h1 h2 => match us, ws, h1, h2 with | [_, _], [], _, _ => rfl
theorem bnd_meet_2 : Bnd "meet" "meet" s_meet ps_meet 2 [] [.p 0, .p 1] dv_meet.length := .zero fun _ _ _ _ _ _ us ws h1 h2 => match us, ws, h1, h2 with | [_, _], [], _, _ => rfl
theorem bnd__law_beside_2 : Bnd "_law_beside" "_law_beside" s__law_beside ps__law_beside 2 [] [.p 0, .p 1] dv__law_beside.length := .zero fun _ _ _ _ _ _ us ws h1 h2 => match us, ws, h1, h2 with | [_, _], [], _, _ => rfl
theorem bnd_minutes_in_1 : Bnd "minutes_in" "minutes_in" s_minutes_in ps_minutes_in 1 [] [.p 0] dv_minutes_in.length := .zero fun _ _ _ _ _ _ us ws h1 h2 => match us, ws, h1, h2 with | [_], [], _, _ => rfl
theorem bnd_joined_2 : Bnd "joined" "joined" s_joined ps_joined 2 [] [.p 0, .p 1] dv_joined.length := .more 0 fun _ _ _ _ _ _ _ us its ws h1 h2 h3 => match us, its, ws, h1, h2, h3 with | [_, _], [_], [], _, _, _ => ⟨_, rfl, rfl⟩
theorem bnd__law_inside_2 : Bnd "_law_inside" "_law_inside" s__law_inside ps__law_inside 2 [] [.p 0, .p 1] dv__law_inside.length := .zero fun _ _ _ _ _ _ us ws h1 h2 => match us, ws, h1, h2 with | [_, _], [], _, _ => rfl
structure Txt (K : PySem.W.Frag) (mg : Str → Option Value) (a : Ad) : Prop where
  b_Stretch_init : MkB K a.C_Stretch "Stretch.__init__" s_Stretch_init dv_Stretch_init
  b_Stretch_len : MtB K a.C_Stretch "__len__" "Stretch.__len__" s_Stretch_len dv_Stretch_len
  b_Stretch_eq : MtB K a.C_Stretch "__eq__" "Stretch.__eq__" s_Stretch_eq dv_Stretch_eq
  b_meet : FnB K mg "meet" s_meet dv_meet
  b_joined : FnB K mg "joined" s_joined dv_joined
  b_gaps : FnB K mg "gaps" s_gaps dv_gaps
  b_minutes_in : FnB K mg "minutes_in" s_minutes_in dv_minutes_in
  b__law_tape : FnB K mg "_law_tape" s__law_tape dv__law_tape
  b__law_draw : FnB K mg "_law_draw" s__law_draw dv__law_draw
  b__law_pick : FnB K mg "_law_pick" s__law_pick dv__law_pick
  b__law_made : FnB K mg "_law_made" s__law_made dv__law_made
  b__law_beside : FnB K mg "_law_beside" s__law_beside dv__law_beside
  b__law_inside : FnB K mg "_law_inside" s__law_inside dv__law_inside
  lm_law : LamT K mg "law"
  b_law : FnB K mg "law" s_law dv_law
  mC_Stretch : mg "Stretch" = some (.ref a.C_Stretch)
  cl_Stretch : Cls K a.C_Stretch
  no_isinstance : mg "isinstance" = none
  no_len : mg "len" = none
  no_max : mg "max" = none
  no_min : mg "min" = none
  no_range : mg "range" = none
  no_sorted : mg "sorted" = none
  no_sum : mg "sum" = none
  f_Stretch_first : FldOk K a.C_Stretch "first"
  f_Stretch_behind : FldOk K a.C_Stretch "behind"
  kb_Stretch : KitB K a.C_Stretch
  kc_Stretch_Stretch : KitC K a.C_Stretch a.C_Stretch true
  ez_Stretch : EqC0 K a.C_Stretch
  nn_Stretch : NoNe K a.C_Stretch
  is_Stretch : IsC K a.C_Stretch
theorem st_Stretch_init (d0 d1 d2 : D) : startD N_Stretch_init [d0, d1, d2] = [some d0, some d1, some d2] := rfl
theorem st_Stretch_len (d0 : D) : startD N_Stretch_len [d0] = [some d0] := rfl
theorem st_Stretch_eq (d0 d1 : D) : startD N_Stretch_eq [d0, d1] = [some d0, some d1] := rfl
theorem st_meet (d0 d1 : D) : startD N_meet [d0, d1] = [some d0, some d1, none, none] := rfl
theorem st_joined (d0 d1 : D) : startD N_joined [d0, d1] = [some d0, some d1, none, none, none, none] := rfl
theorem st_gaps (d0 d1 : D) : startD N_gaps [d0, d1] = [some d0, some d1, none, none, none, none] := rfl
theorem st_minutes_in (d0 : D) : startD N_minutes_in [d0] = [some d0, none] := rfl
theorem st__law_tape (d0 : D) : startD N__law_tape [d0] = [some d0] := rfl
theorem st__law_draw (d0 d1 : D) : startD N__law_draw [d0, d1] = [some d0, some d1, none, none, none, none, none, none] := rfl
theorem st__law_pick (d0 d1 : D) : startD N__law_pick [d0, d1] = [some d0, some d1] := rfl
theorem st__law_made (d0 : D) : startD N__law_made [d0] = [some d0, none, none, none] := rfl
theorem st__law_beside (d0 d1 : D) : startD N__law_beside [d0, d1] = [some d0, some d1, none, none] := rfl
theorem st__law_inside (d0 d1 : D) : startD N__law_inside [d0, d1] = [some d0, some d1] := rfl
theorem st_law (d0 : D) : startD N_law [d0] = [some d0, none, none, none, none, none, none, none, none, none, none, none, none, none, none] := rfl
end Lw
namespace Lw
open PySem L2 Dl Mj
abbrev stD (C : Addr) (x y : Int) : D := .obj C ["first", "behind"] [.int x, .int y]
abbrev sD (C : Addr) (p : Pr) : D := .obj C ["first", "behind"] [.int p.1, .int p.2]
def Sml (P : List Pr) : Prop := P.length ≤ 1000 ∧ ∀ p ∈ P, 0 ≤ p.1 ∧ p.1 ≤ p.2 ∧ p.2 ≤ 1000000000
def SSay (C : Addr) (x y : Int) (e : D) (r : Bool) : Prop := (∃ u v, e = stD C u v ∧ r = decide (x = u ∧ y = v)) ∨ ((∃ t, e.bk = some t) ∧ r = false)
abbrev sp_Stretch_init (a : Ad) : DSp := Mt.stInit a.C_Stretch
abbrev sp_Stretch_eq (a : Ad) : DSp := fun ds S q => ∃ x y e r, ds = [stD a.C_Stretch x y, e] ∧ SSay a.C_Stretch x y e r ∧ q (.bl r) S
abbrev sp_Stretch_len (a : Ad) : DSp := fun ds S q => ∃ p : Pr, ds = [sD a.C_Stretch p] ∧ p.2 - p.1 < 2 ^ 62 ∧ q (.int (max 0 (p.2 - p.1))) S
def meetD (C : Addr) (p w : Pr) : D := if (meetP p w).1 < (meetP p w).2 then sD C (meetP p w) else .non
abbrev sp_meet (a : Ad) : DSp := fun ds S q => ∃ p w : Pr, ds = [sD a.C_Stretch p, sD a.C_Stretch w] ∧ q (meetD a.C_Stretch p w) S
abbrev sp_joined (a : Ad) : DSp := fun ds S q => ∃ (P : List Pr) (apart : Int), ds = [.lst (P.map (sD a.C_Stretch)), .int apart] ∧ Sml P ∧ q (.lst ((joinL P apart).map (sD a.C_Stretch))) S
abbrev sp_gaps (a : Ad) : DSp := fun ds S q => ∃ (P : List Pr) (w : Pr), ds = [.lst (P.map (sD a.C_Stretch)), sD a.C_Stretch w] ∧ Sml P ∧ q (.lst ((gapsL P w).map (sD a.C_Stretch))) S
abbrev sp_minutes_in (a : Ad) : DSp := fun ds S q => ∃ P : List Pr, ds = [.lst (P.map (sD a.C_Stretch))] ∧ Sml P ∧ q (.int (total (joinL P 0))) S
abbrev sp__law_tape (a : Ad) : DSp := Mt.tape
abbrev sp__law_draw (a : Ad) : DSp := Mt.draw
abbrev sp__law_pick (a : Ad) : DSp := Mt.pickL
def OkM (P : List Pr) : Prop := P.length ≤ 61 ∧ ∀ p ∈ P, 0 ≤ p.1 ∧ p.1 ≤ p.2 ∧ p.2 ≤ 1000000
abbrev sp__law_made (a : Ad) : DSp := fun ds S q => Mt.tk 1000 [] (fun d => ∃ P, d = .lst (P.map (sD a.C_Stretch)) ∧ OkM P) ds S q
abbrev sp__law_beside (a : Ad) : DSp := fun ds S q => ∃ (P : List Pr) (w : Pr), ds = [.lst (P.map (sD a.C_Stretch)), sD a.C_Stretch w] ∧ P.length ≤ 100000 ∧ (∀ p ∈ P, p.2 - p.1 < 2 ^ 62) ∧ q (.bl (tiles w.2 w.1 P)) S
abbrev sp__law_inside (a : Ad) : DSp := fun ds S q => ∃ p o : Pr, ds = [sD a.C_Stretch p, sD a.C_Stretch o] ∧ q (.bl (decide (o.1 ≤ p.1) && decide (p.2 ≤ o.2))) S
abbrev sp_law : DSp := Mt.law
end Lw
namespace Lw
open PySem L2 Dl
section
variable {P : Program} {w : World} {K : PySem.W.Frag} {mg : Str → Option Value} {base : Heap} {a : Ad}
def g_Stretch_init (K : PySem.W.Frag) (a : Ad) : GS :=
  (gSeq (gIfS (gTest (gIsN (gVar 2))) (gSet 2 (gB2 (aAdd true) (gVar 1) (gC (.int 1)))) gNext) (gSeq (gIfS (gTest (gB2 aLt (gVar 2) (gVar 1))) gDead gNext) (gSeq (gFldSet K "first" (gVar 0) (gVar 1)) (gFldSet K "behind" (gVar 0) (gVar 2)))))
theorem t_Stretch_init (T : Txt K mg a)  {f : Addr} {cdv : Value} {A : Around} {outer : List Env} {s : Shared} {H : Hp} {E : XK} (hr : RoomG 0 (A.deeper (PyProof.Rows.envOfC "Stretch.__init__" (defScope s_Stretch_init) s.heap.objs.size f cdv))) :
    PSs (cxOf CX0 P w K mg base N_Stretch_init "Stretch.__init__" (defScope s_Stretch_init) f cdv A outer s H E).nox (defBody s_Stretch_init) (tofS K U0 (g_Stretch_init K a)) :=
  (ds_cons (d_if (d_tisN (d_var 2))
      (ds_one (d_set (i := 2) sc_Stretch_init.nd rfl (by first | exact .inl rfl | exact .inr rfl) (d_op or_add (vr_add (fz := true)) (d_var 1) d_int)))
      ds_nil)
    (ds_cons (d_if (d_tcmp op_lt vr_lt (d_var 2) (d_var 1))
      (ds_one d_dead)
      ds_nil)
    (ds_cons (d_fldset (d_var 0) (d_var 1))
    (ds_one (d_fldset (d_var 0) (d_var 2))))))
def g_Stretch_len (K : PySem.W.Frag) (a : Ad) : GS :=
  (gRet (gLenR (Dl.gCons (gFld K "first" (gVar 0)) (Dl.gCons (gFld K "behind" (gVar 0)) Dl.gNil))))
theorem t_Stretch_len (T : Txt K mg a)  {f : Addr} {cdv : Value} {A : Around} {outer : List Env} {s : Shared} {H : Hp} {E : XK} (hr : RoomG 0 (A.deeper (PyProof.Rows.envOfC "Stretch.__len__" (defScope s_Stretch_len) s.heap.objs.size f cdv))) :
    PSs (cxOf CX0 P w K mg base N_Stretch_len "Stretch.__len__" (defScope s_Stretch_len) f cdv A outer s H E).nox (defBody s_Stretch_len) (tofS K U0 (g_Stretch_len K a)) :=
  (ds_one (d_ret (d_lenrng (by rfl) T.no_len (by rfl) T.no_range (d_cons (d_fld (d_var 0)) (d_cons (d_fld (d_var 0)) d_nil)))))
def g_Stretch_eq (K : PySem.W.Frag) (a : Ad) : GS :=
  (gRet (gAndV (gCB (a2 (aIsiC K)) (Dl.gCons (gVar 1) (Dl.gCons (gC (.ref a.C_Stretch)) Dl.gNil))) (gB2 aEq (Dl.gTup (Dl.gCons (gFld K "first" (gVar 0)) (Dl.gCons (gFld K "behind" (gVar 0)) Dl.gNil))) (Dl.gTup (Dl.gCons (gFld K "first" (gVar 1)) (Dl.gCons (gFld K "behind" (gVar 1)) Dl.gNil))))))
theorem t_Stretch_eq (T : Txt K mg a)  {f : Addr} {cdv : Value} {A : Around} {outer : List Env} {s : Shared} {H : Hp} {E : XK} (hr : RoomG 0 (A.deeper (PyProof.Rows.envOfC "Stretch.__eq__" (defScope s_Stretch_eq) s.heap.objs.size f cdv))) :
    PSs (cxOf CX0 P w K mg base N_Stretch_eq "Stretch.__eq__" (defScope s_Stretch_eq) f cdv A outer s H E).nox (defBody s_Stretch_eq) (tofS K U0 (g_Stretch_eq K a)) :=
  (ds_one (d_ret (d_andV (d_callB call_isi vr_isiC (by rfl) T.no_isinstance (by decide +kernel) (d_cons (d_var 1) (d_cons (d_gref (by rfl) T.mC_Stretch) d_nil))) (d_oneV (d_cmp (op_eqD hr.units) vr_eq (d_tup (d_cons (d_fld (d_var 0)) (d_cons (d_fld (d_var 0)) d_nil))) (d_tup (d_cons (d_fld (d_var 1)) (d_cons (d_fld (d_var 1)) d_nil))))))))
def g_meet (K : PySem.W.Frag) (a : Ad) : GS :=
  (gSeq (gPar 2 3 (Dl.gCons (gCB (a2 aMax2) (Dl.gCons (gFld K "first" (gVar 0)) (Dl.gCons (gFld K "first" (gVar 1)) Dl.gNil))) (Dl.gCons (gCB (a2 aMin2) (Dl.gCons (gFld K "behind" (gVar 0)) (Dl.gCons (gFld K "behind" (gVar 1)) Dl.gNil))) Dl.gNil))) (gRet (gIf (gTest (gB2 aLt (gVar 2) (gVar 3))) (gMakeF a.C_Stretch 2 0 [.p 0, .p 1, .p 2] [.non] (sp_Stretch_init a) (gArgs (Dl.gCons (gVar 2) (Dl.gCons (gVar 3) Dl.gNil)) Dl.gNil)) (gC .non))))
theorem t_meet (T : Txt K mg a) (F_Stretch_init : CFn P w K mg base "Stretch" a.C_Stretch "Stretch.__init__" s_Stretch_init dv_Stretch_init 1 ps_Stretch_init (sp_Stretch_init a)) {f : Addr} {cdv : Value} {A : Around} {outer : List Env} {s : Shared} {H : Hp} {E : XK} (hr : RoomG 2 (A.deeper (PyProof.Rows.envOfC "meet" (defScope s_meet) s.heap.objs.size f cdv))) :
    PSs (cxOf CX0 P w K mg base N_meet "meet" (defScope s_meet) f cdv A outer s H E).nox (defBody s_meet) (tofS K U0 (g_meet K a)) :=
  (ds_cons (d_par sc_meet.nd (d_cons (d_callB (call_max2 rfl) vr_max2 (by rfl) T.no_max (by decide +kernel) (d_cons (d_fld (d_var 0)) (d_cons (d_fld (d_var 1)) d_nil))) (d_cons (d_callB (call_min2 rfl) vr_min2 (by rfl) T.no_min (by decide +kernel) (d_cons (d_fld (d_var 0)) (d_cons (d_fld (d_var 1)) d_nil))) d_nil)))
    (ds_one (d_ret (d_ifExp (d_tcmp op_lt vr_lt (d_var 2) (d_var 3)) (d_makeF F_Stretch_init (hr.mono (by decide)) (by rfl) bnd_Stretch_init_3 dfv_Stretch_init (da_p0 (d_cons (d_var 2) (d_cons (d_var 3) d_nil)))) d_non))))
def g_joined (K : PySem.W.Frag) (a : Ad) : GS :=
  (gSeq (gSet 2 (Dl.gLst false Dl.gNil)) (gSeq (gFor (gIt (gCB (a1 (aSorted true)) (Dl.gCons (gLc true (gIt (gVar 0)) (.nm 5) (gTest (gB2 aGt (gCB (a1 (aLenO a.C_Stretch (sp_Stretch_len a))) (Dl.gCons (gVar 5) Dl.gNil)) (gC (.int 0)))) (Dl.gTup (Dl.gCons (gFld K "first" (gVar 5)) (Dl.gCons (gFld K "behind" (gVar 5)) Dl.gNil))) [5]) Dl.gNil))) (.tp [(.nm 3), (.nm 4)]) (gIfS (gAndB (gTest (gB2 aNe (gVar 2) (Dl.gLst true Dl.gNil))) (gTest (gB2 aLe (gB2 aSub (gVar 3) (gIx (gIx (gVar 2) (gU aNeg (gC (.int 1)))) (gC (.int 1)))) (gVar 1)))) (gSetIx (gVar 2) (gU aNeg (gC (.int 1))) (Dl.gTup (Dl.gCons (gIx (gIx (gVar 2) (gU aNeg (gC (.int 1)))) (gC (.int 0))) (Dl.gCons (gCB (a2 aMax2) (Dl.gCons (gIx (gIx (gVar 2) (gU aNeg (gC (.int 1)))) (gC (.int 1))) (Dl.gCons (gVar 4) Dl.gNil))) Dl.gNil)))) (gDrop (gMt "list" aAppend (gVar 2) (Dl.gCons (Dl.gTup (Dl.gCons (gVar 3) (Dl.gCons (gVar 4) Dl.gNil))) Dl.gNil))))) (gRet (gLc true (gIt (gVar 2)) (.tp [(.nm 3), (.nm 4)]) gYes (gMakeF a.C_Stretch 0 2 [.p 0, .k 0, .k 1] [.non] (sp_Stretch_init a) (gArgs Dl.gNil (Dl.gCons (gVar 3) (Dl.gCons (gVar 4) Dl.gNil)))) [3, 4]))))
theorem t_joined (T : Txt K mg a) (F_Stretch_init : CFn P w K mg base "Stretch" a.C_Stretch "Stretch.__init__" s_Stretch_init dv_Stretch_init 1 ps_Stretch_init (sp_Stretch_init a)) (F_Stretch_len : MFn P w K mg base a.C_Stretch "__len__" "Stretch.__len__" s_Stretch_len dv_Stretch_len 1 ps_Stretch_len (sp_Stretch_len a)) {f : Addr} {cdv : Value} {A : Around} {outer : List Env} {s : Shared} {H : Hp} {E : XK} (hr : RoomG 2 (A.deeper (PyProof.Rows.envOfC "joined" (defScope s_joined) s.heap.objs.size f cdv))) :
    PSs (cxOf CX0 P w K mg base N_joined "joined" (defScope s_joined) f cdv A outer s H E).nox (defBody s_joined) (tofS K U0 (g_joined K a)) :=
  (ds_cons (d_set (i := 2) sc_joined.nd rfl (by first | exact .inl rfl | exact .inr rfl) (d_lst false d_nil))
    (ds_cons (d_for (t := (.tp [(.nm 3), (.nm 4)])) PassesOwn.never rfl (di_seq (d_callB (cr_sortedD hr.units) (vr_sorted (fz := true)) (by rfl) T.no_sorted (by decide +kernel) (d_cons (d_lc (own := [("one", 5)]) (t := (.nm 5)) true rfl sc_joined.nd (di_seq (d_var 0)) (blkOk_by (own := [("one", 5)]) (N := N_joined) (sc := defScope s_joined) (by decide +kernel)) (by decide) (fun _ _ _ _ _ => (pg_name (i := 5) sc_joined.nd rfl (by first | exact .inl rfl | exact .inr rfl))) (fun _ _ _ _ _ => (dt_one (d_tcmp op_gt vr_gt (d_callB (or_lenO F_Stretch_len (hr.mono (by decide)) bnd_Stretch_len_1) vr_lenO (by rfl) T.no_len (by decide +kernel) (d_cons (d_var 5) d_nil)) d_int))) (fun _ _ _ _ _ => (d_tup (d_cons (d_fld (d_var 5)) (d_cons (d_fld (d_var 5)) d_nil))))) d_nil))) (pg_tup rfl (pgs_cons (pg_name (i := 3) sc_joined.nd rfl (by first | exact .inl rfl | exact .inr rfl)) (pgs_cons (pg_name (i := 4) sc_joined.nd rfl (by first | exact .inl rfl | exact .inr rfl)) pgs_nil)))
      (ds_one (d_if (PW.pt (d_and (d_tcmp (op_neD hr.units) vr_ne (d_var 2) (d_lst true d_nil)) (d_and1 (d_tcmp op_le vr_le (d_op op_sub vr_sub (d_var 3) (d_ix (d_ix (d_var 2) (d_un un_neg vr_neg d_int)) d_int)) (d_var 1)))))
      (ds_one (d_setix (d_var 2) (d_un un_neg vr_neg d_int) (d_tup (d_cons (d_ix (d_ix (d_var 2) (d_un un_neg vr_neg d_int)) d_int) (d_cons (d_callB (call_max2 rfl) vr_max2 (by rfl) T.no_max (by decide +kernel) (d_cons (d_ix (d_ix (d_var 2) (d_un un_neg vr_neg d_int)) d_int) (d_cons (d_var 4) d_nil))) d_nil)))))
      (ds_one (d_expr (d_bm (by decide) PySem.F.plainAttrs_list PySem.F.slot_list_append PySem.F.type_list_append mt_append vm_append (d_var 2) (d_cons (d_tup (d_cons (d_var 3) (d_cons (d_var 4) d_nil))) d_nil)))))))
    (ds_one (d_ret (d_lc (own := [("first", 3), ("behind", 4)]) (t := (.tp [(.nm 3), (.nm 4)])) true rfl sc_joined.nd (di_seq (d_var 2)) (blkOk_by (own := [("first", 3), ("behind", 4)]) (N := N_joined) (sc := defScope s_joined) (by decide +kernel)) (by decide) (fun _ _ _ _ _ => (pg_tup rfl (pgs_cons (pg_name (i := 3) sc_joined.nd rfl (by first | exact .inl rfl | exact .inr rfl)) (pgs_cons (pg_name (i := 4) sc_joined.nd rfl (by first | exact .inl rfl | exact .inr rfl)) pgs_nil)))) (fun _ _ _ _ _ => dt_nil) (fun _ _ _ _ _ => (d_makeF F_Stretch_init (hr.mono (by decide)) (by rfl) bnd_Stretch_init_1_first_behind dfv_Stretch_init (da_0k (dk_cons (d_var 3) (dk_cons (d_var 4) dk_nil))))))))))
def g_gaps (K : PySem.W.Frag) (a : Ad) : GS :=
  (gSeq (gSet 2 (Dl.gLst false Dl.gNil)) (gSeq (gSet 3 (gFld K "first" (gVar 1))) (gSeq (gFor (gIt (gCall 1 0 [.p 0, .d 0] [.int 0] (sp_joined a) (gArgs (Dl.gCons (gVar 0) Dl.gNil) Dl.gNil))) (.nm 4) (gSeq (gSet 5 (gCB (a2 aMin2) (Dl.gCons (gFld K "first" (gVar 4)) (Dl.gCons (gFld K "behind" (gVar 1)) Dl.gNil)))) (gSeq (gIfS (gTest (gB2 aLt (gVar 3) (gVar 5))) (gDrop (gMt "list" aAppend (gVar 2) (Dl.gCons (gMakeF a.C_Stretch 2 0 [.p 0, .p 1, .p 2] [.non] (sp_Stretch_init a) (gArgs (Dl.gCons (gVar 3) (Dl.gCons (gVar 5) Dl.gNil)) Dl.gNil)) Dl.gNil))) gNext) (gSet 3 (gCB (a2 aMax2) (Dl.gCons (gVar 3) (Dl.gCons (gFld K "behind" (gVar 4)) Dl.gNil))))))) (gSeq (gIfS (gTest (gB2 aLt (gVar 3) (gFld K "behind" (gVar 1)))) (gDrop (gMt "list" aAppend (gVar 2) (Dl.gCons (gMakeF a.C_Stretch 2 0 [.p 0, .p 1, .p 2] [.non] (sp_Stretch_init a) (gArgs (Dl.gCons (gVar 3) (Dl.gCons (gFld K "behind" (gVar 1)) Dl.gNil)) Dl.gNil)) Dl.gNil))) gNext) (gRet (gVar 2))))))
theorem t_gaps (T : Txt K mg a) (F_Stretch_init : CFn P w K mg base "Stretch" a.C_Stretch "Stretch.__init__" s_Stretch_init dv_Stretch_init 1 ps_Stretch_init (sp_Stretch_init a)) (F_joined : Fnc P w K mg base "joined" s_joined dv_joined 3 ps_joined (sp_joined a)) {f : Addr} {cdv : Value} {A : Around} {outer : List Env} {s : Shared} {H : Hp} {E : XK} (hr : RoomG 3 (A.deeper (PyProof.Rows.envOfC "gaps" (defScope s_gaps) s.heap.objs.size f cdv))) :
    PSs (cxOf CX0 P w K mg base N_gaps "gaps" (defScope s_gaps) f cdv A outer s H E).nox (defBody s_gaps) (tofS K U0 (g_gaps K a)) :=
  (ds_cons (d_set (i := 2) sc_gaps.nd rfl (by first | exact .inl rfl | exact .inr rfl) (d_lst false d_nil))
    (ds_cons (d_set (i := 3) sc_gaps.nd rfl (by first | exact .inl rfl | exact .inr rfl) (d_fld (d_var 1)))
    (ds_cons (d_for (t := (.nm 4)) PassesOwn.never rfl (di_seq (d_call F_joined (hr.mono (by decide)) (by rfl) bnd_joined_1 dfv_joined (da_p0 (d_cons (d_var 0) d_nil)))) (pg_name (i := 4) sc_gaps.nd rfl (by first | exact .inl rfl | exact .inr rfl))
      (ds_cons (d_set (i := 5) sc_gaps.nd rfl (by first | exact .inl rfl | exact .inr rfl) (d_callB (call_min2 rfl) vr_min2 (by rfl) T.no_min (by decide +kernel) (d_cons (d_fld (d_var 4)) (d_cons (d_fld (d_var 1)) d_nil))))
    (ds_cons (d_if (d_tcmp op_lt vr_lt (d_var 3) (d_var 5))
      (ds_one (d_expr (d_bm (by decide) PySem.F.plainAttrs_list PySem.F.slot_list_append PySem.F.type_list_append mt_append vm_append (d_var 2) (d_cons (d_makeF F_Stretch_init (hr.mono (by decide)) (by rfl) bnd_Stretch_init_3 dfv_Stretch_init (da_p0 (d_cons (d_var 3) (d_cons (d_var 5) d_nil)))) d_nil))))
      ds_nil)
    (ds_one (d_set (i := 3) sc_gaps.nd rfl (by first | exact .inl rfl | exact .inr rfl) (d_callB (call_max2 rfl) vr_max2 (by rfl) T.no_max (by decide +kernel) (d_cons (d_var 3) (d_cons (d_fld (d_var 4)) d_nil))))))))
    (ds_cons (d_if (d_tcmp op_lt vr_lt (d_var 3) (d_fld (d_var 1)))
      (ds_one (d_expr (d_bm (by decide) PySem.F.plainAttrs_list PySem.F.slot_list_append PySem.F.type_list_append mt_append vm_append (d_var 2) (d_cons (d_makeF F_Stretch_init (hr.mono (by decide)) (by rfl) bnd_Stretch_init_3 dfv_Stretch_init (da_p0 (d_cons (d_var 3) (d_cons (d_fld (d_var 1)) d_nil)))) d_nil))))
      ds_nil)
    (ds_one (d_ret (d_var 2)))))))
def g_minutes_in (K : PySem.W.Frag) (a : Ad) : GS :=
  (gRet (gCB (a1 aSum) (Dl.gCons (gLc true (gIt (gCall 1 0 [.p 0, .d 0] [.int 0] (sp_joined a) (gArgs (Dl.gCons (gVar 0) Dl.gNil) Dl.gNil))) (.nm 1) gYes (gCB (a1 (aLenO a.C_Stretch (sp_Stretch_len a))) (Dl.gCons (gVar 1) Dl.gNil)) [1]) Dl.gNil)))
theorem t_minutes_in (T : Txt K mg a) (F_Stretch_len : MFn P w K mg base a.C_Stretch "__len__" "Stretch.__len__" s_Stretch_len dv_Stretch_len 1 ps_Stretch_len (sp_Stretch_len a)) (F_joined : Fnc P w K mg base "joined" s_joined dv_joined 3 ps_joined (sp_joined a)) {f : Addr} {cdv : Value} {A : Around} {outer : List Env} {s : Shared} {H : Hp} {E : XK} (hr : RoomG 3 (A.deeper (PyProof.Rows.envOfC "minutes_in" (defScope s_minutes_in) s.heap.objs.size f cdv))) :
    PSs (cxOf CX0 P w K mg base N_minutes_in "minutes_in" (defScope s_minutes_in) f cdv A outer s H E).nox (defBody s_minutes_in) (tofS K U0 (g_minutes_in K a)) :=
  (ds_one (d_ret (d_callB (cr_sum rfl) vr_sum (by rfl) T.no_sum (by decide +kernel) (d_cons (d_lc (own := [("one", 1)]) (t := (.nm 1)) true rfl sc_minutes_in.nd (di_seq (d_call F_joined (hr.mono (by decide)) (by rfl) bnd_joined_1 dfv_joined (da_p0 (d_cons (d_var 0) d_nil)))) (blkOk_by (own := [("one", 1)]) (N := N_minutes_in) (sc := defScope s_minutes_in) (by decide +kernel)) (by decide) (fun _ _ _ _ _ => (pg_name (i := 1) sc_minutes_in.nd rfl (by first | exact .inl rfl | exact .inr rfl))) (fun _ _ _ _ _ => dt_nil) (fun _ _ _ _ _ => (d_callB (or_lenO F_Stretch_len (hr.mono (by decide)) bnd_Stretch_len_1) vr_lenO (by rfl) T.no_len (by decide +kernel) (d_cons (d_var 1) d_nil)))) d_nil))))
def g__law_tape (K : PySem.W.Frag) (a : Ad) : GS :=
  (gRet (Dl.gLst false (Dl.gCons (gSl true (gVar 0) gNoP (gPart (gC (.int 63)))) (Dl.gCons (gC (.int 0)) (Dl.gCons (gC (.int 0)) Dl.gNil)))))
theorem t__law_tape (T : Txt K mg a)  {f : Addr} {cdv : Value} {A : Around} {outer : List Env} {s : Shared} {H : Hp} {E : XK} (hr : RoomG 0 (A.deeper (PyProof.Rows.envOfC "_law_tape" (defScope s__law_tape) s.heap.objs.size f cdv))) :
    PSs (cxOf CX0 P w K mg base N__law_tape "_law_tape" (defScope s__law_tape) f cdv A outer s H E).nox (defBody s__law_tape) (tofS K U0 (g__law_tape K a)) :=
  (ds_one (d_ret (d_lst false (d_cons (d_sl true (d_var 0) do_none (do_some d_int)) (d_cons d_int (d_cons d_int d_nil))))))
def g__law_draw (K : PySem.W.Frag) (a : Ad) : GS :=
  (gSeq (gIfS (gTest (gB2 aGt (gIx (gVar 0) (gC (.int 2))) (gC (.int 0)))) (gSeq (gSet 2 (gB2 aMod (gIx (gVar 0) (gC (.int 2))) (gVar 1))) (gSeq (gSetIx (gVar 0) (gC (.int 2)) (gB2 aFdiv (gIx (gVar 0) (gC (.int 2))) (gVar 1))) (gRet (gVar 2)))) gNext) (gSeq (gSet 3 (gIx (gVar 0) (gC (.int 1)))) (gSeq (gSetIx (gVar 0) (gC (.int 1)) (gB2 (aAdd true) (gVar 3) (gC (.int 1)))) (gSeq (gSet 4 (gC (.int 0))) (gSeq (gIfS (gTest (gB2 aNe (gIx (gVar 0) (gC (.int 0))) (Dl.gLst true Dl.gNil))) (gSet 4 (gIx (gIx (gVar 0) (gC (.int 0))) (gB2 aMod (gVar 3) (gCB (a1 aLen) (Dl.gCons (gIx (gVar 0) (gC (.int 0))) Dl.gNil))))) gNext) (gSeq (gIfS (gAndB (gTest (gB2 aGe (gVar 4) (gB2 aPow (gC (.int 10)) (gC (.int 18))))) (gTest (gB2 aLt (gVar 3) (gCB (a1 aLen) (Dl.gCons (gIx (gVar 0) (gC (.int 0))) Dl.gNil))))) (gSeq (gSetIx (gVar 0) (gC (.int 2)) (gB2 aFdiv (gB2 aSub (gVar 4) (gB2 aPow (gC (.int 10)) (gC (.int 18)))) (gVar 1))) (gRet (gB2 aMod (gB2 aSub (gVar 4) (gB2 aPow (gC (.int 10)) (gC (.int 18)))) (gVar 1)))) gNext) (gSeq (gSet 5 (Dl.gLst true (Dl.gCons (gC (.int 2147483647)) (Dl.gCons (gC (.int 2147483629)) (Dl.gCons (gC (.int 2147483587)) (Dl.gCons (gC (.int 2147483579)) (Dl.gCons (gC (.int 2147483563)) Dl.gNil))))))) (gSeq (gSet 6 (gIx (gVar 5) (gB2 aMod (gVar 3) (gC (.int 5))))) (gSeq (gSet 7 (gB2 aMod (gB2 (aAdd true) (gB2 (aAdd true) (gB2 (aAdd true) (gB2 (aMul true) (gB2 aMod (gVar 4) (gVar 6)) (gC (.int 48271))) (gB2 (aMul true) (gB2 (aMul true) (gC (.int 7919)) (gVar 3)) (gVar 3))) (gB2 (aMul true) (gC (.int 69621)) (gVar 3))) (gC (.int 1))) (gVar 6))) (gSeq (gSet 7 (gB2 aMod (gB2 (aMul true) (gVar 7) (gB2 (aAdd true) (gVar 7) (gC (.int 16807)))) (gIx (gVar 5) (gB2 aMod (gB2 (aAdd true) (gVar 3) (gC (.int 2))) (gC (.int 5)))))) (gRet (gB2 aMod (gB2 aFdiv (gB2 aMod (gB2 (aMul true) (gVar 7) (gVar 7)) (gC (.int 2147483549))) (gC (.int 64))) (gVar 1)))))))))))))
theorem t__law_draw (T : Txt K mg a)  {f : Addr} {cdv : Value} {A : Around} {outer : List Env} {s : Shared} {H : Hp} {E : XK} (hr : RoomG 0 (A.deeper (PyProof.Rows.envOfC "_law_draw" (defScope s__law_draw) s.heap.objs.size f cdv))) :
    PSs (cxOf CX0 P w K mg base N__law_draw "_law_draw" (defScope s__law_draw) f cdv A outer s H E).nox (defBody s__law_draw) (tofS K U0 (g__law_draw K a)) :=
  (ds_cons (d_if (d_tcmp op_gt vr_gt (d_ix (d_var 0) d_int) d_int)
      (ds_cons (d_set (i := 2) sc__law_draw.nd rfl (by first | exact .inl rfl | exact .inr rfl) (d_op op_mod vr_mod (d_ix (d_var 0) d_int) (d_var 1)))
    (ds_cons (d_setix (d_var 0) d_int (d_op or_fdiv vr_fdiv (d_ix (d_var 0) d_int) (d_var 1)))
    (ds_one (d_ret (d_var 2)))))
      ds_nil)
    (ds_cons (d_set (i := 3) sc__law_draw.nd rfl (by first | exact .inl rfl | exact .inr rfl) (d_ix (d_var 0) d_int))
    (ds_cons (d_setix (d_var 0) d_int (d_op or_add (vr_add (fz := true)) (d_var 3) d_int))
    (ds_cons (d_set (i := 4) sc__law_draw.nd rfl (by first | exact .inl rfl | exact .inr rfl) d_int)
    (ds_cons (d_if (d_tcmp (op_neD hr.units) vr_ne (d_ix (d_var 0) d_int) (d_lst true d_nil))
      (ds_one (d_set (i := 4) sc__law_draw.nd rfl (by first | exact .inl rfl | exact .inr rfl) (d_ix (d_ix (d_var 0) d_int) (d_op op_mod vr_mod (d_var 3) (d_callB or_len vr_len (by rfl) T.no_len (by decide +kernel) (d_cons (d_ix (d_var 0) d_int) d_nil))))))
      ds_nil)
    (ds_cons (d_if (PW.pt (d_and (d_tcmp op_ge vr_ge (d_var 4) (d_op op_pow vr_pow d_int d_int)) (d_and1 (d_tcmp op_lt vr_lt (d_var 3) (d_callB or_len vr_len (by rfl) T.no_len (by decide +kernel) (d_cons (d_ix (d_var 0) d_int) d_nil))))))
      (ds_cons (d_setix (d_var 0) d_int (d_op or_fdiv vr_fdiv (d_op op_sub vr_sub (d_var 4) (d_op op_pow vr_pow d_int d_int)) (d_var 1)))
    (ds_one (d_ret (d_op op_mod vr_mod (d_op op_sub vr_sub (d_var 4) (d_op op_pow vr_pow d_int d_int)) (d_var 1)))))
      ds_nil)
    (ds_cons (d_set (i := 5) sc__law_draw.nd rfl (by first | exact .inl rfl | exact .inr rfl) (d_lst true (d_cons d_int (d_cons d_int (d_cons d_int (d_cons d_int (d_cons d_int d_nil)))))))
    (ds_cons (d_set (i := 6) sc__law_draw.nd rfl (by first | exact .inl rfl | exact .inr rfl) (d_ix (d_var 5) (d_op op_mod vr_mod (d_var 3) d_int)))
    (ds_cons (d_set (i := 7) sc__law_draw.nd rfl (by first | exact .inl rfl | exact .inr rfl) (d_op op_mod vr_mod (d_op or_add (vr_add (fz := true)) (d_op or_add (vr_add (fz := true)) (d_op or_add (vr_add (fz := true)) (d_op or_mul (vr_mul (fz := true)) (d_op op_mod vr_mod (d_var 4) (d_var 6)) d_int) (d_op or_mul (vr_mul (fz := true)) (d_op or_mul (vr_mul (fz := true)) d_int (d_var 3)) (d_var 3))) (d_op or_mul (vr_mul (fz := true)) d_int (d_var 3))) d_int) (d_var 6)))
    (ds_cons (d_set (i := 7) sc__law_draw.nd rfl (by first | exact .inl rfl | exact .inr rfl) (d_op op_mod vr_mod (d_op or_mul (vr_mul (fz := true)) (d_var 7) (d_op or_add (vr_add (fz := true)) (d_var 7) d_int)) (d_ix (d_var 5) (d_op op_mod vr_mod (d_op or_add (vr_add (fz := true)) (d_var 3) d_int) d_int))))
    (ds_one (d_ret (d_op op_mod vr_mod (d_op or_fdiv vr_fdiv (d_op op_mod vr_mod (d_op or_mul (vr_mul (fz := true)) (d_var 7) (d_var 7)) d_int) d_int) (d_var 1))))))))))))))
def g__law_pick (K : PySem.W.Frag) (a : Ad) : GS :=
  (gRet (gIx (gVar 1) (gCall 2 0 [.p 0, .p 1] [] (sp__law_draw a) (gArgs (Dl.gCons (gVar 0) (Dl.gCons (gCB (a1 aLen) (Dl.gCons (gVar 1) Dl.gNil)) Dl.gNil)) Dl.gNil))))
theorem t__law_pick (T : Txt K mg a) (F__law_draw : Fnc P w K mg base "_law_draw" s__law_draw dv__law_draw 1 ps__law_draw (sp__law_draw a)) {f : Addr} {cdv : Value} {A : Around} {outer : List Env} {s : Shared} {H : Hp} {E : XK} (hr : RoomG 1 (A.deeper (PyProof.Rows.envOfC "_law_pick" (defScope s__law_pick) s.heap.objs.size f cdv))) :
    PSs (cxOf CX0 P w K mg base N__law_pick "_law_pick" (defScope s__law_pick) f cdv A outer s H E).nox (defBody s__law_pick) (tofS K U0 (g__law_pick K a)) :=
  (ds_one (d_ret (d_ix (d_var 1) (d_call F__law_draw (hr.mono (by decide)) (by rfl) bnd__law_draw_2 dfv_nil (da_p0 (d_cons (d_var 0) (d_cons (d_callB or_len vr_len (by rfl) T.no_len (by decide +kernel) (d_cons (d_var 1) d_nil)) d_nil)))))))
def g__law_made (K : PySem.W.Frag) (a : Ad) : GS :=
  (gSeq (gSet 1 (Dl.gLst false Dl.gNil)) (gSeq (gFor (gRng1 (Dl.gCons (gCall 2 0 [.p 0, .p 1] [] (sp__law_draw a) (gArgs (Dl.gCons (gVar 0) (Dl.gCons (gCall 2 0 [.p 0, .p 1] [] (sp__law_pick a) (gArgs (Dl.gCons (gVar 0) (Dl.gCons (Dl.gLst true (Dl.gCons (gC (.int 11)) (Dl.gCons (gC (.int 11)) (Dl.gCons (gC (.int 61)) Dl.gNil)))) Dl.gNil)) Dl.gNil)) Dl.gNil)) Dl.gNil)) Dl.gNil)) (.nm 2) (gSeq (gSet 3 (gCall 2 0 [.p 0, .p 1] [] (sp__law_draw a) (gArgs (Dl.gCons (gVar 0) (Dl.gCons (gC (.int 86400)) Dl.gNil)) Dl.gNil))) (gSeq (gIfS (gAndB (gTest (gB2 (aNil true) (gVar 1) (Dl.gLst true Dl.gNil))) (gTest (gB2 aEq (gCall 2 0 [.p 0, .p 1] [] (sp__law_draw a) (gArgs (Dl.gCons (gVar 0) (Dl.gCons (gC (.int 2)) Dl.gNil)) Dl.gNil)) (gC (.int 0))))) (gSet 3 (gB2 (aAdd true) (gFld K "behind" (gCall 2 0 [.p 0, .p 1] [] (sp__law_pick a) (gArgs (Dl.gCons (gVar 0) (Dl.gCons (gVar 1) Dl.gNil)) Dl.gNil))) (gCall 2 0 [.p 0, .p 1] [] (sp__law_draw a) (gArgs (Dl.gCons (gVar 0) (Dl.gCons (gC (.int 3)) Dl.gNil)) Dl.gNil)))) gNext) (gDrop (gMt "list" aAppend (gVar 1) (Dl.gCons (gMakeF a.C_Stretch 2 0 [.p 0, .p 1, .p 2] [.non] (sp_Stretch_init a) (gArgs (Dl.gCons (gVar 3) (Dl.gCons (gB2 (aAdd true) (gVar 3) (gCall 2 0 [.p 0, .p 1] [] (sp__law_pick a) (gArgs (Dl.gCons (gVar 0) (Dl.gCons (Dl.gLst true (Dl.gCons (gC (.int 0)) (Dl.gCons (gC (.int 1)) (Dl.gCons (gCall 2 0 [.p 0, .p 1] [] (sp__law_draw a) (gArgs (Dl.gCons (gVar 0) (Dl.gCons (gC (.int 1441)) Dl.gNil)) Dl.gNil)) (Dl.gCons (gCall 2 0 [.p 0, .p 1] [] (sp__law_draw a) (gArgs (Dl.gCons (gVar 0) (Dl.gCons (gC (.int 60)) Dl.gNil)) Dl.gNil)) Dl.gNil))))) Dl.gNil)) Dl.gNil))) Dl.gNil)) Dl.gNil)) Dl.gNil)))))) (gRet (gVar 1))))
theorem t__law_made (T : Txt K mg a) (F_Stretch_init : CFn P w K mg base "Stretch" a.C_Stretch "Stretch.__init__" s_Stretch_init dv_Stretch_init 1 ps_Stretch_init (sp_Stretch_init a)) (F__law_draw : Fnc P w K mg base "_law_draw" s__law_draw dv__law_draw 1 ps__law_draw (sp__law_draw a)) (F__law_pick : Fnc P w K mg base "_law_pick" s__law_pick dv__law_pick 2 ps__law_pick (sp__law_pick a)) {f : Addr} {cdv : Value} {A : Around} {outer : List Env} {s : Shared} {H : Hp} {E : XK} (hr : RoomG 2 (A.deeper (PyProof.Rows.envOfC "_law_made" (defScope s__law_made) s.heap.objs.size f cdv))) :
    PSs (cxOf CX0 P w K mg base N__law_made "_law_made" (defScope s__law_made) f cdv A outer s H E).nox (defBody s__law_made) (tofS K U0 (g__law_made K a)) :=
  (ds_cons (d_set (i := 1) sc__law_made.nd rfl (by first | exact .inl rfl | exact .inr rfl) (d_lst false d_nil))
    (ds_cons (d_for (t := (.nm 2)) PassesOwn.never rfl (di_rng1 (by rfl) T.no_range (d_cons (d_call F__law_draw (hr.mono (by decide)) (by rfl) bnd__law_draw_2 dfv_nil (da_p0 (d_cons (d_var 0) (d_cons (d_call F__law_pick (hr.mono (by decide)) (by rfl) bnd__law_pick_2 dfv_nil (da_p0 (d_cons (d_var 0) (d_cons (d_lst true (d_cons d_int (d_cons d_int (d_cons d_int d_nil)))) d_nil)))) d_nil)))) d_nil)) (pg_name (i := 2) sc__law_made.nd rfl (by first | exact .inl rfl | exact .inr rfl))
      (ds_cons (d_set (i := 3) sc__law_made.nd rfl (by first | exact .inl rfl | exact .inr rfl) (d_call F__law_draw (hr.mono (by decide)) (by rfl) bnd__law_draw_2 dfv_nil (da_p0 (d_cons (d_var 0) (d_cons d_int d_nil)))))
    (ds_cons (d_if (PW.pt (d_and (d_tcmp (or_neNil hr) vr_nil (d_var 1) (d_lst true d_nil)) (d_and1 (d_tcmp (op_eqD hr.units) vr_eq (d_call F__law_draw (hr.mono (by decide)) (by rfl) bnd__law_draw_2 dfv_nil (da_p0 (d_cons (d_var 0) (d_cons d_int d_nil)))) d_int))))
      (ds_one (d_set (i := 3) sc__law_made.nd rfl (by first | exact .inl rfl | exact .inr rfl) (d_op or_add (vr_add (fz := true)) (d_fld (d_call F__law_pick (hr.mono (by decide)) (by rfl) bnd__law_pick_2 dfv_nil (da_p0 (d_cons (d_var 0) (d_cons (d_var 1) d_nil))))) (d_call F__law_draw (hr.mono (by decide)) (by rfl) bnd__law_draw_2 dfv_nil (da_p0 (d_cons (d_var 0) (d_cons d_int d_nil)))))))
      ds_nil)
    (ds_one (d_expr (d_bm (by decide) PySem.F.plainAttrs_list PySem.F.slot_list_append PySem.F.type_list_append mt_append vm_append (d_var 1) (d_cons (d_makeF F_Stretch_init (hr.mono (by decide)) (by rfl) bnd_Stretch_init_3 dfv_Stretch_init (da_p0 (d_cons (d_var 3) (d_cons (d_op or_add (vr_add (fz := true)) (d_var 3) (d_call F__law_pick (hr.mono (by decide)) (by rfl) bnd__law_pick_2 dfv_nil (da_p0 (d_cons (d_var 0) (d_cons (d_lst true (d_cons d_int (d_cons d_int (d_cons (d_call F__law_draw (hr.mono (by decide)) (by rfl) bnd__law_draw_2 dfv_nil (da_p0 (d_cons (d_var 0) (d_cons d_int d_nil)))) (d_cons (d_call F__law_draw (hr.mono (by decide)) (by rfl) bnd__law_draw_2 dfv_nil (da_p0 (d_cons (d_var 0) (d_cons d_int d_nil)))) d_nil))))) d_nil))))) d_nil)))) d_nil)))))))
    (ds_one (d_ret (d_var 1)))))
def g__law_beside (K : PySem.W.Frag) (a : Ad) : GS :=
  (gSeq (gSet 2 (gFld K "first" (gVar 1))) (gSeq (gFor (gIt (gVar 0)) (.nm 3) (gSeq (gIfS (gOrB (gTest (gB2 aNe (gFld K "first" (gVar 3)) (gVar 2))) (gTest (gB2 aEq (gCB (a1 (aLenO a.C_Stretch (sp_Stretch_len a))) (Dl.gCons (gVar 3) Dl.gNil)) (gC (.int 0))))) (gRet (gC (.bl false))) gNext) (gSet 2 (gFld K "behind" (gVar 3))))) (gRet (gB2 aEq (gVar 2) (gFld K "behind" (gVar 1))))))
theorem t__law_beside (T : Txt K mg a) (F_Stretch_len : MFn P w K mg base a.C_Stretch "__len__" "Stretch.__len__" s_Stretch_len dv_Stretch_len 1 ps_Stretch_len (sp_Stretch_len a)) {f : Addr} {cdv : Value} {A : Around} {outer : List Env} {s : Shared} {H : Hp} {E : XK} (hr : RoomG 2 (A.deeper (PyProof.Rows.envOfC "_law_beside" (defScope s__law_beside) s.heap.objs.size f cdv))) :
    PSs (cxOf CX0 P w K mg base N__law_beside "_law_beside" (defScope s__law_beside) f cdv A outer s H E).nox (defBody s__law_beside) (tofS K U0 (g__law_beside K a)) :=
  (ds_cons (d_set (i := 2) sc__law_beside.nd rfl (by first | exact .inl rfl | exact .inr rfl) (d_fld (d_var 1)))
    (ds_cons (d_for (t := (.nm 3)) PassesOwn.never rfl (di_seq (d_var 0)) (pg_name (i := 3) sc__law_beside.nd rfl (by first | exact .inl rfl | exact .inr rfl))
      (ds_cons (d_if (PW.pt (d_or (d_tcmp (op_neD hr.units) vr_ne (d_fld (d_var 3)) (d_var 2)) (d_or1 (d_tcmp (op_eqD hr.units) vr_eq (d_callB (or_lenO F_Stretch_len (hr.mono (by decide)) bnd_Stretch_len_1) vr_lenO (by rfl) T.no_len (by decide +kernel) (d_cons (d_var 3) d_nil)) d_int))))
      (ds_one (d_ret d_bl))
      ds_nil)
    (ds_one (d_set (i := 2) sc__law_beside.nd rfl (by first | exact .inl rfl | exact .inr rfl) (d_fld (d_var 3))))))
    (ds_one (d_ret (d_cmp (op_eqD hr.units) vr_eq (d_var 2) (d_fld (d_var 1)))))))
def g__law_inside (K : PySem.W.Frag) (a : Ad) : GS :=
  (gRet (gAndV (gB2 aLe (gFld K "first" (gVar 1)) (gFld K "first" (gVar 0))) (gB2 aLe (gFld K "behind" (gVar 0)) (gFld K "behind" (gVar 1)))))
theorem t__law_inside (T : Txt K mg a)  {f : Addr} {cdv : Value} {A : Around} {outer : List Env} {s : Shared} {H : Hp} {E : XK} (hr : RoomG 0 (A.deeper (PyProof.Rows.envOfC "_law_inside" (defScope s__law_inside) s.heap.objs.size f cdv))) :
    PSs (cxOf CX0 P w K mg base N__law_inside "_law_inside" (defScope s__law_inside) f cdv A outer s H E).nox (defBody s__law_inside) (tofS K U0 (g__law_inside K a)) :=
  (ds_one (d_ret (d_andV (d_cmp op_le vr_le (d_fld (d_var 1)) (d_fld (d_var 0))) (d_oneV (d_cmp op_le vr_le (d_fld (d_var 0)) (d_fld (d_var 1)))))))
def g_law (K : PySem.W.Frag) (a : Ad) : GS :=
  (gSeq (gSet 1 (gCall 1 0 [.p 0] [] (sp__law_tape a) (gArgs (Dl.gCons (gVar 0) Dl.gNil) Dl.gNil))) (gSeq (gFor (gRng1 (Dl.gCons (gCB (a2 aMax2) (Dl.gCons (gC (.int 4)) (Dl.gCons (gCB (a2 aMin2) (Dl.gCons (gCB (a1 aLen) (Dl.gCons (gVar 0) Dl.gNil)) (Dl.gCons (gC (.int 12)) Dl.gNil))) Dl.gNil))) Dl.gNil)) (.nm 2) (gSeq (gSet 3 (gCall 1 0 [.p 0] [] (sp__law_made a) (gArgs (Dl.gCons (gVar 1) Dl.gNil) Dl.gNil))) (gSeq (gSet 4 (gCall 2 0 [.p 0, .p 1] [] (sp__law_draw a) (gArgs (Dl.gCons (gVar 1) (Dl.gCons (gC (.int 86400)) Dl.gNil)) Dl.gNil))) (gSeq (gSet 5 (gMakeF a.C_Stretch 2 0 [.p 0, .p 1, .p 2] [.non] (sp_Stretch_init a) (gArgs (Dl.gCons (gVar 4) (Dl.gCons (gB2 (aAdd true) (gVar 4) (gCall 2 0 [.p 0, .p 1] [] (sp__law_pick a) (gArgs (Dl.gCons (gVar 1) (Dl.gCons (Dl.gLst true (Dl.gCons (gC (.int 0)) (Dl.gCons (gC (.int 1)) (Dl.gCons (gC (.int 1440)) (Dl.gCons (gCall 2 0 [.p 0, .p 1] [] (sp__law_draw a) (gArgs (Dl.gCons (gVar 1) (Dl.gCons (gC (.int 86400)) Dl.gNil)) Dl.gNil)) Dl.gNil))))) Dl.gNil)) Dl.gNil))) Dl.gNil)) Dl.gNil))) (gSeq (gSet 6 (gCall 1 0 [.p 0, .d 0] [.int 0] (sp_joined a) (gArgs (Dl.gCons (gVar 3) Dl.gNil) Dl.gNil))) (gSeq (gIfS (gOrB (gTest (gB2 (aEqLO true a.C_Stretch (sp_Stretch_eq a)) (gCall 1 0 [.p 0, .d 0] [.int 0] (sp_joined a) (gArgs (Dl.gCons (gVar 6) Dl.gNil) Dl.gNil)) (gVar 6))) (gTest (gB2 (aEqLO true a.C_Stretch (sp_Stretch_eq a)) (gCall 2 0 [.p 0, .p 1] [] (sp_gaps a) (gArgs (Dl.gCons (gVar 6) (Dl.gCons (gVar 5) Dl.gNil)) Dl.gNil)) (gCall 2 0 [.p 0, .p 1] [] (sp_gaps a) (gArgs (Dl.gCons (gVar 3) (Dl.gCons (gVar 5) Dl.gNil)) Dl.gNil))))) (gRet (gC (.bl false))) gNext) (gSeq (gSet 7 (gLc true (gIt (gVar 6)) (.nm 13) gYes (gCall 2 0 [.p 0, .p 1] [] (sp_meet a) (gArgs (Dl.gCons (gVar 13) (Dl.gCons (gVar 5) Dl.gNil)) Dl.gNil)) [13])) (gSeq (gSet 8 (gLc true (gIt (gVar 7)) (.nm 13) (gTest (gNotN (gVar 13))) (gVar 13) [13])) (gSeq (gSet 9 (gCall 2 0 [.p 0, .p 1] [] (sp_gaps a) (gArgs (Dl.gCons (gVar 3) (Dl.gCons (gVar 5) Dl.gNil)) Dl.gNil))) (gSeq (gSet 10 (gSortK true [] (gB2 (aAdd true) (gVar 8) (gVar 9)) (gFld K "first" (gVar 0)))) (gSeq (gIfS (gOrB (gNotB (gTest (gCall 2 0 [.p 0, .p 1] [] (sp__law_beside a) (gArgs (Dl.gCons (gVar 10) (Dl.gCons (gVar 5) Dl.gNil)) Dl.gNil)))) (gTest (gB2 aNe (gB2 (aAdd true) (gCall 1 0 [.p 0] [] (sp_minutes_in a) (gArgs (Dl.gCons (gVar 8) Dl.gNil) Dl.gNil)) (gCall 1 0 [.p 0] [] (sp_minutes_in a) (gArgs (Dl.gCons (gVar 9) Dl.gNil) Dl.gNil))) (gCB (a1 (aLenO a.C_Stretch (sp_Stretch_len a))) (Dl.gCons (gVar 5) Dl.gNil))))) (gRet (gC (.bl false))) gNext) (gSeq (gIfS (gTest (gB2 (aNil true) (gLc true (gIt (gVar 8)) (.nm 13) (gTest (gB2 (aNil true) (gLc true (gIt (gVar 9)) (.nm 14) (gTest (gNotN (gCall 2 0 [.p 0, .p 1] [] (sp_meet a) (gArgs (Dl.gCons (gVar 13) (Dl.gCons (gVar 14) Dl.gNil)) Dl.gNil)))) (gVar 14) [14]) (Dl.gLst true Dl.gNil))) (gVar 13) [13]) (Dl.gLst true Dl.gNil))) (gRet (gC (.bl false))) gNext) (gSeq (gSet 11 (gCall 2 0 [.p 0, .p 1] [] (sp__law_pick a) (gArgs (Dl.gCons (gVar 1) (Dl.gCons (Dl.gLst true (Dl.gCons (gC (.int 0)) (Dl.gCons (gC (.int 1)) (Dl.gCons (gCall 2 0 [.p 0, .p 1] [] (sp__law_draw a) (gArgs (Dl.gCons (gVar 1) (Dl.gCons (gC (.int 2000)) Dl.gNil)) Dl.gNil)) Dl.gNil)))) Dl.gNil)) Dl.gNil))) (gSeq (gSet 12 (gCall 2 0 [.p 0, .p 1] [.int 0] (sp_joined a) (gArgs (Dl.gCons (gVar 3) (Dl.gCons (gVar 11) Dl.gNil)) Dl.gNil))) (gSeq (gIfS (gOrB (gTest (gB2 aGt (gCB (a1 aLen) (Dl.gCons (gVar 12) Dl.gNil)) (gCB (a1 aLen) (Dl.gCons (gVar 6) Dl.gNil)))) (gTest (gB2 (aEqLO true a.C_Stretch (sp_Stretch_eq a)) (gCall 2 0 [.p 0, .p 1] [.int 0] (sp_joined a) (gArgs (Dl.gCons (gVar 12) (Dl.gCons (gVar 11) Dl.gNil)) Dl.gNil)) (gVar 12)))) (gRet (gC (.bl false))) gNext) (gSeq (gIfS (gTest (gB2 (aNil true) (gLc true (gIt (gVar 6)) (.nm 13) (gTest (gB2 (aNil false) (gLc true (gIt (gVar 12)) (.nm 14) (gTest (gCall 2 0 [.p 0, .p 1] [] (sp__law_inside a) (gArgs (Dl.gCons (gVar 13) (Dl.gCons (gVar 14) Dl.gNil)) Dl.gNil))) (gVar 14) [14]) (Dl.gLst true Dl.gNil))) (gVar 13) [13]) (Dl.gLst true Dl.gNil))) (gRet (gC (.bl false))) gNext) (gFor (gIt (gVar 3)) (.nm 13) (gIfS (gAndB (gTest (gB2 aGt (gCB (a1 (aLenO a.C_Stretch (sp_Stretch_len a))) (Dl.gCons (gVar 13) Dl.gNil)) (gC (.int 0)))) (gTest (gB2 (aNil false) (gLc true (gIt (gVar 6)) (.nm 14) (gTest (gB2 (aEqA K [⟨a.C_Stretch, 1, (sp_Stretch_eq a)⟩] 3) (gCall 2 0 [.p 0, .p 1] [] (sp_meet a) (gArgs (Dl.gCons (gVar 13) (Dl.gCons (gVar 14) Dl.gNil)) Dl.gNil)) (gVar 13))) (gVar 14) [14]) (Dl.gLst true Dl.gNil)))) (gRet (gC (.bl false))) gNext)))))))))))))))))) (gRet (gC (.bl true)))))
theorem t_law (T : Txt K mg a) (F_Stretch_eq : MFn P w K mg base a.C_Stretch "__eq__" "Stretch.__eq__" s_Stretch_eq dv_Stretch_eq 1 ps_Stretch_eq (sp_Stretch_eq a)) (F_Stretch_init : CFn P w K mg base "Stretch" a.C_Stretch "Stretch.__init__" s_Stretch_init dv_Stretch_init 1 ps_Stretch_init (sp_Stretch_init a)) (F_Stretch_len : MFn P w K mg base a.C_Stretch "__len__" "Stretch.__len__" s_Stretch_len dv_Stretch_len 1 ps_Stretch_len (sp_Stretch_len a)) (F__law_beside : Fnc P w K mg base "_law_beside" s__law_beside dv__law_beside 3 ps__law_beside (sp__law_beside a)) (F__law_draw : Fnc P w K mg base "_law_draw" s__law_draw dv__law_draw 1 ps__law_draw (sp__law_draw a)) (F__law_inside : Fnc P w K mg base "_law_inside" s__law_inside dv__law_inside 1 ps__law_inside (sp__law_inside a)) (F__law_made : Fnc P w K mg base "_law_made" s__law_made dv__law_made 3 ps__law_made (sp__law_made a)) (F__law_pick : Fnc P w K mg base "_law_pick" s__law_pick dv__law_pick 2 ps__law_pick (sp__law_pick a)) (F__law_tape : Fnc P w K mg base "_law_tape" s__law_tape dv__law_tape 1 ps__law_tape (sp__law_tape a)) (F_gaps : Fnc P w K mg base "gaps" s_gaps dv_gaps 4 ps_gaps (sp_gaps a)) (F_joined : Fnc P w K mg base "joined" s_joined dv_joined 3 ps_joined (sp_joined a)) (F_meet : Fnc P w K mg base "meet" s_meet dv_meet 3 ps_meet (sp_meet a)) (F_minutes_in : Fnc P w K mg base "minutes_in" s_minutes_in dv_minutes_in 4 ps_minutes_in (sp_minutes_in a)) {f : Addr} {cdv : Value} {A : Around} {outer : List Env} {s : Shared} {H : Hp} {E : XK} (lm : LamK K mg cdv (lamq "law")) (hr : RoomG 8 (A.deeper (PyProof.Rows.envOfC "law" (defScope s_law) s.heap.objs.size f cdv))) :
    PSs (cxOf CX0 P w K mg base N_law "law" (defScope s_law) f cdv A outer s H E).nox (defBody s_law) (tofS K U0 (g_law K a)) :=
  (ds_cons (d_set (i := 1) sc_law.nd rfl (by first | exact .inl rfl | exact .inr rfl) (d_call F__law_tape (hr.mono (by decide)) (by rfl) bnd__law_tape_1 dfv_nil (da_p0 (d_cons (d_var 0) d_nil))))
    (ds_cons (d_for (t := (.nm 2)) PassesOwn.never rfl (di_rng1 (by rfl) T.no_range (d_cons (d_callB (call_max2 rfl) vr_max2 (by rfl) T.no_max (by decide +kernel) (d_cons d_int (d_cons (d_callB (call_min2 rfl) vr_min2 (by rfl) T.no_min (by decide +kernel) (d_cons (d_callB or_len vr_len (by rfl) T.no_len (by decide +kernel) (d_cons (d_var 0) d_nil)) (d_cons d_int d_nil))) d_nil))) d_nil)) (pg_name (i := 2) sc_law.nd rfl (by first | exact .inl rfl | exact .inr rfl))
      (ds_cons (d_set (i := 3) sc_law.nd rfl (by first | exact .inl rfl | exact .inr rfl) (d_call F__law_made (hr.mono (by decide)) (by rfl) bnd__law_made_1 dfv_nil (da_p0 (d_cons (d_var 1) d_nil))))
    (ds_cons (d_set (i := 4) sc_law.nd rfl (by first | exact .inl rfl | exact .inr rfl) (d_call F__law_draw (hr.mono (by decide)) (by rfl) bnd__law_draw_2 dfv_nil (da_p0 (d_cons (d_var 1) (d_cons d_int d_nil)))))
    (ds_cons (d_set (i := 5) sc_law.nd rfl (by first | exact .inl rfl | exact .inr rfl) (d_makeF F_Stretch_init (hr.mono (by decide)) (by rfl) bnd_Stretch_init_3 dfv_Stretch_init (da_p0 (d_cons (d_var 4) (d_cons (d_op or_add (vr_add (fz := true)) (d_var 4) (d_call F__law_pick (hr.mono (by decide)) (by rfl) bnd__law_pick_2 dfv_nil (da_p0 (d_cons (d_var 1) (d_cons (d_lst true (d_cons d_int (d_cons d_int (d_cons d_int (d_cons (d_call F__law_draw (hr.mono (by decide)) (by rfl) bnd__law_draw_2 dfv_nil (da_p0 (d_cons (d_var 1) (d_cons d_int d_nil)))) d_nil))))) d_nil))))) d_nil)))))
    (ds_cons (d_set (i := 6) sc_law.nd rfl (by first | exact .inl rfl | exact .inr rfl) (d_call F_joined (hr.mono (by decide)) (by rfl) bnd_joined_1 dfv_joined (da_p0 (d_cons (d_var 3) d_nil))))
    (ds_cons (d_if (PW.pt (d_or (d_tcmp (or_neLO F_Stretch_eq (hr.mono (by decide)) bnd_Stretch_eq_2) vr_eqLO (d_call F_joined (hr.mono (by decide)) (by rfl) bnd_joined_1 dfv_joined (da_p0 (d_cons (d_var 6) d_nil))) (d_var 6)) (d_or1 (d_tcmp (or_neLO F_Stretch_eq (hr.mono (by decide)) bnd_Stretch_eq_2) vr_eqLO (d_call F_gaps (hr.mono (by decide)) (by rfl) bnd_gaps_2 dfv_nil (da_p0 (d_cons (d_var 6) (d_cons (d_var 5) d_nil)))) (d_call F_gaps (hr.mono (by decide)) (by rfl) bnd_gaps_2 dfv_nil (da_p0 (d_cons (d_var 3) (d_cons (d_var 5) d_nil))))))))
      (ds_one (d_ret d_bl))
      ds_nil)
    (ds_cons (d_setLc (own := [("_law_one", 13)]) (t := (.nm 13)) true (i := 7) rfl sc_law.nd rfl rfl (sw_true rfl rfl rfl (by decide +kernel)) (di_seq (d_var 6)) (blkOk_by (own := [("_law_one", 13)]) (N := N_law) (sc := defScope s_law) (by decide +kernel)) (by decide) (fun _ _ _ _ _ => (pg_name (i := 13) sc_law.nd rfl (by first | exact .inl rfl | exact .inr rfl))) (fun _ _ _ _ _ => dt_nil) (fun _ _ _ _ _ => (d_call F_meet (hr.mono (by decide)) (by rfl) bnd_meet_2 dfv_nil (da_p0 (d_cons (d_var 13) (d_cons (d_var 5) d_nil))))))
    (ds_cons (d_setLc (own := [("_law_one", 13)]) (t := (.nm 13)) true (i := 8) rfl sc_law.nd rfl rfl (sw_true rfl rfl rfl (by decide +kernel)) (di_seq (d_var 7)) (blkOk_by (own := [("_law_one", 13)]) (N := N_law) (sc := defScope s_law) (by decide +kernel)) (by decide) (fun _ _ _ _ _ => (pg_name (i := 13) sc_law.nd rfl (by first | exact .inl rfl | exact .inr rfl))) (fun _ _ _ _ _ => (dt_one (d_tnotN (d_var 13)))) (fun _ _ _ _ _ => (d_var 13)))
    (ds_cons (d_set (i := 9) sc_law.nd rfl (by first | exact .inl rfl | exact .inr rfl) (d_call F_gaps (hr.mono (by decide)) (by rfl) bnd_gaps_2 dfv_nil (da_p0 (d_cons (d_var 3) (d_cons (d_var 5) d_nil)))))
    (ds_cons (d_set (i := 10) sc_law.nd rfl (by first | exact .inl rfl | exact .inr rfl) (d_sortK (k := 5) (pn := "_law_one") (fr := []) (N := ["_law_one"]) (js := []) (fz := true) lm (hr.mono (by decide)) (by rfl) T.no_sorted (d_op or_add (vr_add (fz := true)) (d_var 8) (d_var 9)) (NdefX.nscope_by (by decide +kernel)) (show NdefX.ndefB (defScope s_law) _ [] = true from by decide +kernel) rfl rfl rfl (fun _ _ _ _ _ _ => rfl) (fun cl c1 f1 A1 outer1 s1 H1 hr => (d_fld (d_var 0)))))
    (ds_cons (d_if (PW.pt (d_or (d_not (d_val (d_call F__law_beside (hr.mono (by decide)) (by rfl) bnd__law_beside_2 dfv_nil (da_p0 (d_cons (d_var 10) (d_cons (d_var 5) d_nil)))))) (d_or1 (d_tcmp (op_neD hr.units) vr_ne (d_op or_add (vr_add (fz := true)) (d_call F_minutes_in (hr.mono (by decide)) (by rfl) bnd_minutes_in_1 dfv_nil (da_p0 (d_cons (d_var 8) d_nil))) (d_call F_minutes_in (hr.mono (by decide)) (by rfl) bnd_minutes_in_1 dfv_nil (da_p0 (d_cons (d_var 9) d_nil)))) (d_callB (or_lenO F_Stretch_len (hr.mono (by decide)) bnd_Stretch_len_1) vr_lenO (by rfl) T.no_len (by decide +kernel) (d_cons (d_var 5) d_nil))))))
      (ds_one (d_ret d_bl))
      ds_nil)
    (ds_cons (d_if (d_tcmp (or_neNil hr) vr_nil (d_lc (own := [("_law_one", 13)]) (t := (.nm 13)) true rfl sc_law.nd (di_seq (d_var 8)) (blkOk_by (own := [("_law_one", 13)]) (N := N_law) (sc := defScope s_law) (by decide +kernel)) (by decide) (fun _ _ _ _ _ => (pg_name (i := 13) sc_law.nd rfl (by first | exact .inl rfl | exact .inr rfl))) (fun _ _ _ _ _ => (dt_one (d_tcmp (or_neNil hr) vr_nil (d_lc (own := [("_law_other", 14)]) (t := (.nm 14)) true rfl sc_law.nd (di_seq (d_var 9)) (blkOk_by (own := [("_law_other", 14)]) (N := N_law) (sc := ({ kind := ScopeKind.function, names := [(".0", .local), ("_law_one", .cell), ("_law_free", .cell)], isGenerator := false, isCoroutine := false } : Scope)) (by decide +kernel)) (by decide) (fun _ _ _ _ _ => (pg_name (i := 14) sc_law.nd rfl (by first | exact .inl rfl | exact .inr rfl))) (fun _ _ _ _ _ => (dt_one (d_tnotN (d_call F_meet (hr.mono (by decide)) (by rfl) bnd_meet_2 dfv_nil (da_p0 (d_cons (d_var 13) (d_cons (d_var 14) d_nil))))))) (fun _ _ _ _ _ => (d_var 14))) (d_lst true d_nil)))) (fun _ _ _ _ _ => (d_var 13))) (d_lst true d_nil))
      (ds_one (d_ret d_bl))
      ds_nil)
    (ds_cons (d_set (i := 11) sc_law.nd rfl (by first | exact .inl rfl | exact .inr rfl) (d_call F__law_pick (hr.mono (by decide)) (by rfl) bnd__law_pick_2 dfv_nil (da_p0 (d_cons (d_var 1) (d_cons (d_lst true (d_cons d_int (d_cons d_int (d_cons (d_call F__law_draw (hr.mono (by decide)) (by rfl) bnd__law_draw_2 dfv_nil (da_p0 (d_cons (d_var 1) (d_cons d_int d_nil)))) d_nil)))) d_nil)))))
    (ds_cons (d_set (i := 12) sc_law.nd rfl (by first | exact .inl rfl | exact .inr rfl) (d_call F_joined (hr.mono (by decide)) (by rfl) bnd_joined_2 dfv_joined (da_p0 (d_cons (d_var 3) (d_cons (d_var 11) d_nil)))))
    (ds_cons (d_if (PW.pt (d_or (d_tcmp op_gt vr_gt (d_callB or_len vr_len (by rfl) T.no_len (by decide +kernel) (d_cons (d_var 12) d_nil)) (d_callB or_len vr_len (by rfl) T.no_len (by decide +kernel) (d_cons (d_var 6) d_nil))) (d_or1 (d_tcmp (or_neLO F_Stretch_eq (hr.mono (by decide)) bnd_Stretch_eq_2) vr_eqLO (d_call F_joined (hr.mono (by decide)) (by rfl) bnd_joined_2 dfv_joined (da_p0 (d_cons (d_var 12) (d_cons (d_var 11) d_nil)))) (d_var 12)))))
      (ds_one (d_ret d_bl))
      ds_nil)
    (ds_cons (d_if (d_tcmp (or_neNil hr) vr_nil (d_lc (own := [("_law_one", 13)]) (t := (.nm 13)) true rfl sc_law.nd (di_seq (d_var 6)) (blkOk_by (own := [("_law_one", 13)]) (N := N_law) (sc := defScope s_law) (by decide +kernel)) (by decide) (fun _ _ _ _ _ => (pg_name (i := 13) sc_law.nd rfl (by first | exact .inl rfl | exact .inr rfl))) (fun _ _ _ _ _ => (dt_one (d_tcmp (or_eqNil hr) vr_nil (d_lc (own := [("_law_other", 14)]) (t := (.nm 14)) true rfl sc_law.nd (di_seq (d_var 12)) (blkOk_by (own := [("_law_other", 14)]) (N := N_law) (sc := ({ kind := ScopeKind.function, names := [(".0", .local), ("_law_one", .cell), ("_law_wide", .cell)], isGenerator := false, isCoroutine := false } : Scope)) (by decide +kernel)) (by decide) (fun _ _ _ _ _ => (pg_name (i := 14) sc_law.nd rfl (by first | exact .inl rfl | exact .inr rfl))) (fun _ _ _ _ _ => (dt_one (d_val (d_call F__law_inside (hr.mono (by decide)) (by rfl) bnd__law_inside_2 dfv_nil (da_p0 (d_cons (d_var 13) (d_cons (d_var 14) d_nil))))))) (fun _ _ _ _ _ => (d_var 14))) (d_lst true d_nil)))) (fun _ _ _ _ _ => (d_var 13))) (d_lst true d_nil))
      (ds_one (d_ret d_bl))
      ds_nil)
    (ds_one (d_for (t := (.nm 13)) PassesOwn.never rfl (di_seq (d_var 3)) (pg_name (i := 13) sc_law.nd rfl (by first | exact .inl rfl | exact .inr rfl))
      (ds_one (d_if (PW.pt (d_and (d_tcmp op_gt vr_gt (d_callB (or_lenO F_Stretch_len (hr.mono (by decide)) bnd_Stretch_len_1) vr_lenO (by rfl) T.no_len (by decide +kernel) (d_cons (d_var 13) d_nil)) d_int) (d_and1 (d_tcmp (or_eqNil hr) vr_nil (d_lc (own := [("_law_other", 14)]) (t := (.nm 14)) true rfl sc_law.nd (di_seq (d_var 6)) (blkOk_by (own := [("_law_other", 14)]) (N := N_law) (sc := defScope s_law) (by decide +kernel)) (by decide) (fun _ _ _ _ _ => (pg_name (i := 14) sc_law.nd rfl (by first | exact .inl rfl | exact .inr rfl))) (fun _ _ _ _ _ => (dt_one (d_tcmp (or_eqA (eqs_cons (c := ⟨a.C_Stretch, 1, (sp_Stretch_eq a)⟩) ⟨T.ez_Stretch, T.nn_Stretch, _, _, _, _, F_Stretch_eq , bnd_Stretch_eq_2⟩ eqs_nil) (hr.mono (by decide))) vr_eqA (d_call F_meet (hr.mono (by decide)) (by rfl) bnd_meet_2 dfv_nil (da_p0 (d_cons (d_var 13) (d_cons (d_var 14) d_nil)))) (d_var 13)))) (fun _ _ _ _ _ => (d_var 14))) (d_lst true d_nil)))))
      (ds_one (d_ret d_bl))
      ds_nil))))))))))))))))))))
    (ds_one (d_ret d_bl))))
end
end Lw
namespace Lw
open PySem L2 Dl Mj
section
variable {P : Program} {w : World} {K : PySem.W.Frag} {mg : Str → Option Value} {base : Heap} {a : Ad}
theorem r__law_tape : ∀ ds S q, sp__law_tape a ds S q → g__law_tape K a { nx := fun _ S' => q .non S', rt := q } (startD N__law_tape ds) S := by
  rintro ds S q ⟨ns, rfl, rfl, h⟩
  rw [st__law_tape]
  simp only [g__law_tape, ↓x_eqSS, ↓x_neSS, ↓gKGet, ↓x_kget, ↓x_ixE, at_last, ↓x_appE, ↓x_tyE, ↓x_itE, ↓x_lenE, ↓x_nePr, ↓x_eqPr, ↓x_neE, ↓x_lenr, ↓x_lenrI, ↓gRev, ↓x_par3, ↓x_par33, ↓x_fld, ↓x_fset, ↓x_mkF, ↓x_mk, ↓x_meth, ↓x_fldO, ↓x_fsetE, ↓x_fldE, ↓x_methO, ↓x_isiCO, ↓x_isiCN, ↓x_isiCT, ↓x_isiCLi, ↓x_isiCS, ↓x_isiCI, ↓x_own, ↓x_eqT2, ↓x_neT2, ↓x_neL4, ↓x_eqLN, ↓x_neNil, ↓x_gset, ↓x_lc, ↓x_for, ↓x_it, ↓x_rn1, ↓x_rn2, ↓x_enu, ↓x_zip, ↓x_itS, ↓x_itL, ↓x_itK, ↓x_itT, ↓x_rn1I, ↓x_rn2I, ↓x_enuL, ↓x_enuK, ↓x_zipL, ↓x_ixS0, ↓x_ixL, ↓x_ixT, ↓x_ixK, x_at0, x_at1, x_at2, x_at3, x_at4, ↓x_set00, ↓x_set01, ↓x_set02, ↓x_aug1, ↓x_aug2, ↓x_aug3, ↓x_aug4, ↓x_aug5, ↓x_aug6, ↓x_aug7, ↓x_aug8, ↓x_aug9, ↓x_aug10, ↓x_aug11, ↓x_aug12, ↓x_aug13, ↓x_aug14, ↓x_aug15, ↓x_aug16, ↓x_aug17, ↓x_aug18, ↓x_aug19, ↓x_aug20, ↓x_aug21, ↓x_aug22, ↓x_aug23, Int.reduceToNat, Int.reducePow, ↓gSeq, ↓gIfS, ↓gSet, ↓gAsg, ↓x_par, ↓x_par2, ↓gRet, ↓gRetN, ↓gNext, ↓gDrop, ↓gBreak, ↓gCont, ↓gDead, ↓gCB, ↓gB2, ↓gU, ↓gC, ↓Dl.gCons, ↓Dl.gNil, ↓Dl.gTup, ↓Dl.gLst, ↓gTest, ↓gOrB, ↓gAndB, ↓gNotB, ↓gAndV, ↓gOrV, ↓gNotV, ↓gIf, ↓gIx, ↓gSl, ↓gPart, ↓gNoP, ↓gMt, ↓gCall, ↓gArgs, ↓gIsN, ↓gNotN, ↓gChain, ↓x_fmtS, ↓x_afS, ↓x_afI, ↓x_js0, ↓x_jsc, ↓gJoined, ↓gYes, ↓x_bnm, ↓x_btp, ↓x_bn, ↓x_bc, ↓x_nnN, ↓x_nnI, ↓x_nnS, ↓x_nnB, ↓x_nnT, ↓x_nnL, ↓x_nnO, ↓x_nnl, ↓x_tyS, ↓x_tyL, ↓x_i2, ↓aSub, ↓aFdiv, ↓aMod, ↓aPow, ↓aShr, ↓aLt, ↓aLe, ↓aGt, ↓aGe, ↓x_addI, ↓x_addS, ↓x_mulI, ↓x_iaddS, ↓x_iaddI, ↓x_neg, ↓x_eqI, ↓x_neI, ↓x_eqS, ↓x_neS, ↓x_eqB, ↓x_neB, ↓x_eqNI, ↓x_neNI, ↓x_lenS, ↓x_lenL_l, ↓x_lenL_k, ↓x_lenL_t, ↓x_str, ↓x_intI, ↓x_intB, ↓x_divmod, ↓x_max2, ↓x_min2, ↓x_ixS, ↓x_slS, ↓x_slT, ↓x_slL_l, ↓x_slL_k, ↓x_inS, ↓x_newT, ↓x_newF, ↓x_si, ↓x_s1, ↓x_s0, ↓x_rpart, ↓x_part, ↓x_a1, ↓x_a2, ↓x_isiStr, ↓x_isiInt, ↓x_isiIntB, ↓x_isiIntS, ↓x_isiBB, ↓x_isiBI, ↓x_isiStrI, ↓x_isiNonI, ↓x_isiNonS, ↓x_isiT, ↓x_isiL, ↓x_var0, ↓x_varS, ↓x_ex, ↓x_aug0, gat, pick, Option.some.injEq, D.bl.injEq, D.int.injEq, D.str.injEq, D.tup.injEq, D.lst.injEq, List.cons.injEq, and_true, true_and, List.set_cons_zero, List.set_cons_succ, List.length_cons, List.length_nil, List.filterMap_cons, List.filterMap_nil, List.getElem?_cons_zero, List.getElem?_cons_succ, Option.bind_some, ↓reduceIte, if_true, if_false, Bool.false_eq_true, Bool.true_eq_false, decide_eq_true_eq, beq_self_eq_true, Bool.not_true, Bool.not_false, Bool.not_eq_true', decide_eq_false_iff_not, exists_eq_left', exists_eq_left, exists_eq, ↓x_dnT, ↓x_dnF, ↓gAsgL, ↓gMMDef, ↓gDSet, ↓gSItems, ↓x_nilL, ↓x_nilE, List.isEmpty_nil, List.isEmpty_cons, Bool.true_xor, Bool.false_xor, ↓gOrT, ↓gAndT, ↓gTryAs, ↓gTryO, ↓gRaise, ↓gCallX, ↓gMethX, ↓gMakeX, ↓gFldX, ↓x_inXs, Bool.false_xor, Bool.true_xor, ↓gOrS, ↓gSortK]
  refine ⟨by decide, ?_⟩
  rw [show cutD (ns.map D.int) none (some 63) = (ns.take 63).map D.int from ?_]
  · exact h
  · simp [cutD, HT.sIx, List.map_take]
theorem r__law_draw : ∀ ds S q, sp__law_draw a ds S q → g__law_draw K a { nx := fun _ S' => q .non S', rt := q } (startD N__law_draw ds) S := by
  rintro ds S q ⟨many, h1, h2, o, R0, B, rfl, rfl, ⟨ns, t, r, rfl, h3, h4, h5⟩, hb, h⟩
  rw [st__law_draw]
  simp only [g__law_draw, ↓x_eqSS, ↓x_neSS, ↓gKGet, ↓x_kget, ↓x_ixE, at_last, ↓x_appE, ↓x_tyE, ↓x_itE, ↓x_lenE, ↓x_nePr, ↓x_eqPr, ↓x_neE, ↓x_lenr, ↓x_lenrI, ↓gRev, ↓x_par3, ↓x_par33, ↓x_fld, ↓x_fset, ↓x_mkF, ↓x_mk, ↓x_meth, ↓x_fldO, ↓x_fsetE, ↓x_fldE, ↓x_methO, ↓x_isiCO, ↓x_isiCN, ↓x_isiCT, ↓x_isiCLi, ↓x_isiCS, ↓x_isiCI, ↓x_own, ↓x_eqT2, ↓x_neT2, ↓x_neL4, ↓x_eqLN, ↓x_neNil, ↓x_gset, ↓x_lc, ↓x_for, ↓x_it, ↓x_rn1, ↓x_rn2, ↓x_enu, ↓x_zip, ↓x_itS, ↓x_itL, ↓x_itK, ↓x_itT, ↓x_rn1I, ↓x_rn2I, ↓x_enuL, ↓x_enuK, ↓x_zipL, ↓x_ixS0, ↓x_ixL, ↓x_ixT, ↓x_ixK, x_at0, x_at1, x_at2, x_at3, x_at4, ↓x_set00, ↓x_set01, ↓x_set02, ↓x_aug1, ↓x_aug2, ↓x_aug3, ↓x_aug4, ↓x_aug5, ↓x_aug6, ↓x_aug7, ↓x_aug8, ↓x_aug9, ↓x_aug10, ↓x_aug11, ↓x_aug12, ↓x_aug13, ↓x_aug14, ↓x_aug15, ↓x_aug16, ↓x_aug17, ↓x_aug18, ↓x_aug19, ↓x_aug20, ↓x_aug21, ↓x_aug22, ↓x_aug23, Int.reduceToNat, Int.reducePow, ↓gSeq, ↓gIfS, ↓gSet, ↓gAsg, ↓x_par, ↓x_par2, ↓gRet, ↓gRetN, ↓gNext, ↓gDrop, ↓gBreak, ↓gCont, ↓gDead, ↓gCB, ↓gB2, ↓gU, ↓gC, ↓Dl.gCons, ↓Dl.gNil, ↓Dl.gTup, ↓Dl.gLst, ↓gTest, ↓gOrB, ↓gAndB, ↓gNotB, ↓gAndV, ↓gOrV, ↓gNotV, ↓gIf, ↓gIx, ↓gSl, ↓gPart, ↓gNoP, ↓gMt, ↓gCall, ↓gArgs, ↓gIsN, ↓gNotN, ↓gChain, ↓x_fmtS, ↓x_afS, ↓x_afI, ↓x_js0, ↓x_jsc, ↓gJoined, ↓gYes, ↓x_bnm, ↓x_btp, ↓x_bn, ↓x_bc, ↓x_nnN, ↓x_nnI, ↓x_nnS, ↓x_nnB, ↓x_nnT, ↓x_nnL, ↓x_nnO, ↓x_nnl, ↓x_tyS, ↓x_tyL, ↓x_i2, ↓aSub, ↓aFdiv, ↓aMod, ↓aPow, ↓aShr, ↓aLt, ↓aLe, ↓aGt, ↓aGe, ↓x_addI, ↓x_addS, ↓x_mulI, ↓x_iaddS, ↓x_iaddI, ↓x_neg, ↓x_eqI, ↓x_neI, ↓x_eqS, ↓x_neS, ↓x_eqB, ↓x_neB, ↓x_eqNI, ↓x_neNI, ↓x_lenS, ↓x_lenL_l, ↓x_lenL_k, ↓x_lenL_t, ↓x_str, ↓x_intI, ↓x_intB, ↓x_divmod, ↓x_max2, ↓x_min2, ↓x_ixS, ↓x_slS, ↓x_slT, ↓x_slL_l, ↓x_slL_k, ↓x_inS, ↓x_newT, ↓x_newF, ↓x_si, ↓x_s1, ↓x_s0, ↓x_rpart, ↓x_part, ↓x_a1, ↓x_a2, ↓x_isiStr, ↓x_isiInt, ↓x_isiIntB, ↓x_isiIntS, ↓x_isiBB, ↓x_isiBI, ↓x_isiStrI, ↓x_isiNonI, ↓x_isiNonS, ↓x_isiT, ↓x_isiL, ↓x_var0, ↓x_varS, ↓x_ex, ↓x_aug0, gat, pick, Option.some.injEq, D.bl.injEq, D.int.injEq, D.str.injEq, D.tup.injEq, D.lst.injEq, List.cons.injEq, and_true, true_and, List.set_cons_zero, List.set_cons_succ, List.length_cons, List.length_nil, List.filterMap_cons, List.filterMap_nil, List.getElem?_cons_zero, List.getElem?_cons_succ, Option.bind_some, ↓reduceIte, if_true, if_false, Bool.false_eq_true, Bool.true_eq_false, decide_eq_true_eq, beq_self_eq_true, Bool.not_true, Bool.not_false, Bool.not_eq_true', decide_eq_false_iff_not, exists_eq_left', exists_eq_left, exists_eq, ↓x_dnT, ↓x_dnF, ↓gAsgL, ↓gMMDef, ↓gDSet, ↓gSItems, ↓x_nilL, ↓x_nilE, List.isEmpty_nil, List.isEmpty_cons, Bool.true_xor, Bool.false_xor, ↓gOrT, ↓gAndT, ↓gTryAs, ↓gTryO, ↓gRaise, ↓gCallX, ↓gMethX, ↓gMakeX, ↓gFldX, ↓x_inXs, Bool.false_xor, Bool.true_xor, ↓gOrS, ↓gSortK]
  have hT : ∀ x r', 0 ≤ x → x < many → 0 ≤ r' → q (.int x) (some (.lst [.lst (ns.map .int), .int (t + 1), .int r']) :: R0) := fun x r' a1 a2 a3 => h _ _ ⟨x, rfl, a1, a2⟩ ⟨ns, t + 1, r', rfl, by omega, by omega, a3⟩
  have m1 : ∀ x, 0 ≤ x % many ∧ x % many < many := fun x => ⟨Int.emod_nonneg _ (by omega), Int.emod_lt_of_pos _ h1⟩
  have hb' : B + 1 ≤ 1000000000000 := hb
  obtain ⟨p, hp, hp0, hp1⟩ := Mt.primes t
  obtain ⟨p2, hp2, hp20, hp21⟩ := Mt.primes (t + 2)
  split
  · exact ⟨h1, .inl ⟨h1, h2⟩, h _ _ ⟨_, rfl, (m1 _).1, (m1 _).2⟩ ⟨ns, t, r / many, rfl, h3, by omega, Int.ediv_nonneg h5 (by omega)⟩⟩
  · refine ⟨by decide, ?_⟩
    by_cases hn : ns = []
    · rw [if_neg (by simpa using hn)]
      refine ⟨⟨by decide, by decide, by decide⟩, ?_⟩
      rw [if_neg (by decide)]
      refine ⟨by decide, by decide, .int p, hp, ?_⟩
      simp only [↓x_eqSS, ↓x_neSS, ↓gKGet, ↓x_kget, ↓x_ixE, at_last, ↓x_appE, ↓x_tyE, ↓x_itE, ↓x_lenE, ↓x_nePr, ↓x_eqPr, ↓x_neE, ↓x_lenr, ↓x_lenrI, ↓gRev, ↓x_par3, ↓x_par33, ↓x_fld, ↓x_fset, ↓x_mkF, ↓x_mk, ↓x_meth, ↓x_fldO, ↓x_fsetE, ↓x_fldE, ↓x_methO, ↓x_isiCO, ↓x_isiCN, ↓x_isiCT, ↓x_isiCLi, ↓x_isiCS, ↓x_isiCI, ↓x_own, ↓x_eqT2, ↓x_neT2, ↓x_neL4, ↓x_eqLN, ↓x_neNil, ↓x_gset, ↓x_lc, ↓x_for, ↓x_it, ↓x_rn1, ↓x_rn2, ↓x_enu, ↓x_zip, ↓x_itS, ↓x_itL, ↓x_itK, ↓x_itT, ↓x_rn1I, ↓x_rn2I, ↓x_enuL, ↓x_enuK, ↓x_zipL, ↓x_ixS0, ↓x_ixL, ↓x_ixT, ↓x_ixK, x_at0, x_at1, x_at2, x_at3, x_at4, ↓x_set00, ↓x_set01, ↓x_set02, ↓x_aug1, ↓x_aug2, ↓x_aug3, ↓x_aug4, ↓x_aug5, ↓x_aug6, ↓x_aug7, ↓x_aug8, ↓x_aug9, ↓x_aug10, ↓x_aug11, ↓x_aug12, ↓x_aug13, ↓x_aug14, ↓x_aug15, ↓x_aug16, ↓x_aug17, ↓x_aug18, ↓x_aug19, ↓x_aug20, ↓x_aug21, ↓x_aug22, ↓x_aug23, Int.reduceToNat, Int.reducePow, ↓gSeq, ↓gIfS, ↓gSet, ↓gAsg, ↓x_par, ↓x_par2, ↓gRet, ↓gRetN, ↓gNext, ↓gDrop, ↓gBreak, ↓gCont, ↓gDead, ↓gCB, ↓gB2, ↓gU, ↓gC, ↓Dl.gCons, ↓Dl.gNil, ↓Dl.gTup, ↓Dl.gLst, ↓gTest, ↓gOrB, ↓gAndB, ↓gNotB, ↓gAndV, ↓gOrV, ↓gNotV, ↓gIf, ↓gIx, ↓gSl, ↓gPart, ↓gNoP, ↓gMt, ↓gCall, ↓gArgs, ↓gIsN, ↓gNotN, ↓gChain, ↓x_fmtS, ↓x_afS, ↓x_afI, ↓x_js0, ↓x_jsc, ↓gJoined, ↓gYes, ↓x_bnm, ↓x_btp, ↓x_bn, ↓x_bc, ↓x_nnN, ↓x_nnI, ↓x_nnS, ↓x_nnB, ↓x_nnT, ↓x_nnL, ↓x_nnO, ↓x_nnl, ↓x_tyS, ↓x_tyL, ↓x_i2, ↓aSub, ↓aFdiv, ↓aMod, ↓aPow, ↓aShr, ↓aLt, ↓aLe, ↓aGt, ↓aGe, ↓x_addI, ↓x_addS, ↓x_mulI, ↓x_iaddS, ↓x_iaddI, ↓x_neg, ↓x_eqI, ↓x_neI, ↓x_eqS, ↓x_neS, ↓x_eqB, ↓x_neB, ↓x_eqNI, ↓x_neNI, ↓x_lenS, ↓x_lenL_l, ↓x_lenL_k, ↓x_lenL_t, ↓x_str, ↓x_intI, ↓x_intB, ↓x_divmod, ↓x_max2, ↓x_min2, ↓x_ixS, ↓x_slS, ↓x_slT, ↓x_slL_l, ↓x_slL_k, ↓x_inS, ↓x_newT, ↓x_newF, ↓x_si, ↓x_s1, ↓x_s0, ↓x_rpart, ↓x_part, ↓x_a1, ↓x_a2, ↓x_isiStr, ↓x_isiInt, ↓x_isiIntB, ↓x_isiIntS, ↓x_isiBB, ↓x_isiBI, ↓x_isiStrI, ↓x_isiNonI, ↓x_isiNonS, ↓x_isiT, ↓x_isiL, ↓x_var0, ↓x_varS, ↓x_ex, ↓x_aug0, gat, pick, Option.some.injEq, D.bl.injEq, D.int.injEq, D.str.injEq, D.tup.injEq, D.lst.injEq, List.cons.injEq, and_true, true_and, List.set_cons_zero, List.set_cons_succ, List.length_cons, List.length_nil, List.filterMap_cons, List.filterMap_nil, List.getElem?_cons_zero, List.getElem?_cons_succ, Option.bind_some, ↓reduceIte, if_true, if_false, Bool.false_eq_true, Bool.true_eq_false, decide_eq_true_eq, beq_self_eq_true, Bool.not_true, Bool.not_false, Bool.not_eq_true', decide_eq_false_iff_not, exists_eq_left', exists_eq_left, exists_eq, ↓x_dnT, ↓x_dnF, ↓gAsgL, ↓gMMDef, ↓gDSet, ↓gSItems, ↓x_nilL, ↓x_nilE, List.isEmpty_nil, List.isEmpty_cons, Bool.true_xor, Bool.false_xor, ↓gOrT, ↓gAndT, ↓gTryAs, ↓gTryO, ↓gRaise, ↓gCallX, ↓gMethX, ↓gMakeX, ↓gFldX, ↓x_inXs, Bool.false_xor, Bool.true_xor, ↓gOrS, ↓gSortK]
      refine ⟨hp0, mulOk_r (by decide) (by decide), mulOk_l (by decide) (by decide), mulOk_r (by omega) (by omega), mulOk_l (by decide) (by decide), hp0, ?_⟩
      generalize hy : (_ : Int) % p = y
      have hy0 : 0 ≤ y ∧ y < p := by rw [← hy]; exact ⟨Int.emod_nonneg _ (by omega), Int.emod_lt_of_pos _ hp0⟩
      refine ⟨mulOk_l (by omega) (by omega), by decide, .int p2, hp2, ?_⟩
      simp only [↓x_eqSS, ↓x_neSS, ↓gKGet, ↓x_kget, ↓x_ixE, at_last, ↓x_appE, ↓x_tyE, ↓x_itE, ↓x_lenE, ↓x_nePr, ↓x_eqPr, ↓x_neE, ↓x_lenr, ↓x_lenrI, ↓gRev, ↓x_par3, ↓x_par33, ↓x_fld, ↓x_fset, ↓x_mkF, ↓x_mk, ↓x_meth, ↓x_fldO, ↓x_fsetE, ↓x_fldE, ↓x_methO, ↓x_isiCO, ↓x_isiCN, ↓x_isiCT, ↓x_isiCLi, ↓x_isiCS, ↓x_isiCI, ↓x_own, ↓x_eqT2, ↓x_neT2, ↓x_neL4, ↓x_eqLN, ↓x_neNil, ↓x_gset, ↓x_lc, ↓x_for, ↓x_it, ↓x_rn1, ↓x_rn2, ↓x_enu, ↓x_zip, ↓x_itS, ↓x_itL, ↓x_itK, ↓x_itT, ↓x_rn1I, ↓x_rn2I, ↓x_enuL, ↓x_enuK, ↓x_zipL, ↓x_ixS0, ↓x_ixL, ↓x_ixT, ↓x_ixK, x_at0, x_at1, x_at2, x_at3, x_at4, ↓x_set00, ↓x_set01, ↓x_set02, ↓x_aug1, ↓x_aug2, ↓x_aug3, ↓x_aug4, ↓x_aug5, ↓x_aug6, ↓x_aug7, ↓x_aug8, ↓x_aug9, ↓x_aug10, ↓x_aug11, ↓x_aug12, ↓x_aug13, ↓x_aug14, ↓x_aug15, ↓x_aug16, ↓x_aug17, ↓x_aug18, ↓x_aug19, ↓x_aug20, ↓x_aug21, ↓x_aug22, ↓x_aug23, Int.reduceToNat, Int.reducePow, ↓gSeq, ↓gIfS, ↓gSet, ↓gAsg, ↓x_par, ↓x_par2, ↓gRet, ↓gRetN, ↓gNext, ↓gDrop, ↓gBreak, ↓gCont, ↓gDead, ↓gCB, ↓gB2, ↓gU, ↓gC, ↓Dl.gCons, ↓Dl.gNil, ↓Dl.gTup, ↓Dl.gLst, ↓gTest, ↓gOrB, ↓gAndB, ↓gNotB, ↓gAndV, ↓gOrV, ↓gNotV, ↓gIf, ↓gIx, ↓gSl, ↓gPart, ↓gNoP, ↓gMt, ↓gCall, ↓gArgs, ↓gIsN, ↓gNotN, ↓gChain, ↓x_fmtS, ↓x_afS, ↓x_afI, ↓x_js0, ↓x_jsc, ↓gJoined, ↓gYes, ↓x_bnm, ↓x_btp, ↓x_bn, ↓x_bc, ↓x_nnN, ↓x_nnI, ↓x_nnS, ↓x_nnB, ↓x_nnT, ↓x_nnL, ↓x_nnO, ↓x_nnl, ↓x_tyS, ↓x_tyL, ↓x_i2, ↓aSub, ↓aFdiv, ↓aMod, ↓aPow, ↓aShr, ↓aLt, ↓aLe, ↓aGt, ↓aGe, ↓x_addI, ↓x_addS, ↓x_mulI, ↓x_iaddS, ↓x_iaddI, ↓x_neg, ↓x_eqI, ↓x_neI, ↓x_eqS, ↓x_neS, ↓x_eqB, ↓x_neB, ↓x_eqNI, ↓x_neNI, ↓x_lenS, ↓x_lenL_l, ↓x_lenL_k, ↓x_lenL_t, ↓x_str, ↓x_intI, ↓x_intB, ↓x_divmod, ↓x_max2, ↓x_min2, ↓x_ixS, ↓x_slS, ↓x_slT, ↓x_slL_l, ↓x_slL_k, ↓x_inS, ↓x_newT, ↓x_newF, ↓x_si, ↓x_s1, ↓x_s0, ↓x_rpart, ↓x_part, ↓x_a1, ↓x_a2, ↓x_isiStr, ↓x_isiInt, ↓x_isiIntB, ↓x_isiIntS, ↓x_isiBB, ↓x_isiBI, ↓x_isiStrI, ↓x_isiNonI, ↓x_isiNonS, ↓x_isiT, ↓x_isiL, ↓x_var0, ↓x_varS, ↓x_ex, ↓x_aug0, gat, pick, Option.some.injEq, D.bl.injEq, D.int.injEq, D.str.injEq, D.tup.injEq, D.lst.injEq, List.cons.injEq, and_true, true_and, List.set_cons_zero, List.set_cons_succ, List.length_cons, List.length_nil, List.filterMap_cons, List.filterMap_nil, List.getElem?_cons_zero, List.getElem?_cons_succ, Option.bind_some, ↓reduceIte, if_true, if_false, Bool.false_eq_true, Bool.true_eq_false, decide_eq_true_eq, beq_self_eq_true, Bool.not_true, Bool.not_false, Bool.not_eq_true', decide_eq_false_iff_not, exists_eq_left', exists_eq_left, exists_eq, ↓x_dnT, ↓x_dnF, ↓gAsgL, ↓gMMDef, ↓gDSet, ↓gSItems, ↓x_nilL, ↓x_nilE, List.isEmpty_nil, List.isEmpty_cons, Bool.true_xor, Bool.false_xor, ↓gOrT, ↓gAndT, ↓gTryAs, ↓gTryO, ↓gRaise, ↓gCallX, ↓gMethX, ↓gMakeX, ↓gFldX, ↓x_inXs, Bool.false_xor, Bool.true_xor, ↓gOrS, ↓gSortK]
      refine ⟨hp20, ?_⟩
      generalize hz : (_ : Int) % p2 = z
      have hz0 : 0 ≤ z ∧ z < p2 := by rw [← hz]; exact ⟨Int.emod_nonneg _ (by omega), Int.emod_lt_of_pos _ hp20⟩
      refine ⟨mulOk_l (by omega) (by omega), by decide, .inl ⟨by decide, by decide⟩, h1, ?_⟩
      exact hT _ _ (m1 _).1 (m1 _).2 h5

    · rw [if_pos hn]
      have hl : 0 < ns.length := List.length_pos_iff.mpr hn
      have hlm : (ns.map D.int).length = ns.length := List.length_map ..
      have hk0 : 0 ≤ t % ((ns.map D.int).length : Int) := Int.emod_nonneg _ (by omega)
      have hk1 : t % ((ns.map D.int).length : Int) < ((ns.map D.int).length : Int) := Int.emod_lt_of_pos _ (by omega)
      obtain ⟨c, hc⟩ : ∃ c, ns[(t % ((ns.map D.int).length : Int)).toNat]? = some c := ⟨ns[(t % ((ns.map D.int).length : Int)).toNat]'(by omega), by simp⟩
      refine ⟨by omega, .int c, ?_, ?_⟩
      · have e := atI_lit (xs := ns.map D.int) (k := (t % ((ns.map D.int).length : Int)).toNat) (v := .int c) (by rw [List.getElem?_map, hc]; rfl)
        rwa [show (((t % ((ns.map D.int).length : Int)).toNat : Nat) : Int) = t % ((ns.map D.int).length : Int) by omega] at e
      · simp only [↓x_eqSS, ↓x_neSS, ↓gKGet, ↓x_kget, ↓x_ixE, at_last, ↓x_appE, ↓x_tyE, ↓x_itE, ↓x_lenE, ↓x_nePr, ↓x_eqPr, ↓x_neE, ↓x_lenr, ↓x_lenrI, ↓gRev, ↓x_par3, ↓x_par33, ↓x_fld, ↓x_fset, ↓x_mkF, ↓x_mk, ↓x_meth, ↓x_fldO, ↓x_fsetE, ↓x_fldE, ↓x_methO, ↓x_isiCO, ↓x_isiCN, ↓x_isiCT, ↓x_isiCLi, ↓x_isiCS, ↓x_isiCI, ↓x_own, ↓x_eqT2, ↓x_neT2, ↓x_neL4, ↓x_eqLN, ↓x_neNil, ↓x_gset, ↓x_lc, ↓x_for, ↓x_it, ↓x_rn1, ↓x_rn2, ↓x_enu, ↓x_zip, ↓x_itS, ↓x_itL, ↓x_itK, ↓x_itT, ↓x_rn1I, ↓x_rn2I, ↓x_enuL, ↓x_enuK, ↓x_zipL, ↓x_ixS0, ↓x_ixL, ↓x_ixT, ↓x_ixK, x_at0, x_at1, x_at2, x_at3, x_at4, ↓x_set00, ↓x_set01, ↓x_set02, ↓x_aug1, ↓x_aug2, ↓x_aug3, ↓x_aug4, ↓x_aug5, ↓x_aug6, ↓x_aug7, ↓x_aug8, ↓x_aug9, ↓x_aug10, ↓x_aug11, ↓x_aug12, ↓x_aug13, ↓x_aug14, ↓x_aug15, ↓x_aug16, ↓x_aug17, ↓x_aug18, ↓x_aug19, ↓x_aug20, ↓x_aug21, ↓x_aug22, ↓x_aug23, Int.reduceToNat, Int.reducePow, ↓gSeq, ↓gIfS, ↓gSet, ↓gAsg, ↓x_par, ↓x_par2, ↓gRet, ↓gRetN, ↓gNext, ↓gDrop, ↓gBreak, ↓gCont, ↓gDead, ↓gCB, ↓gB2, ↓gU, ↓gC, ↓Dl.gCons, ↓Dl.gNil, ↓Dl.gTup, ↓Dl.gLst, ↓gTest, ↓gOrB, ↓gAndB, ↓gNotB, ↓gAndV, ↓gOrV, ↓gNotV, ↓gIf, ↓gIx, ↓gSl, ↓gPart, ↓gNoP, ↓gMt, ↓gCall, ↓gArgs, ↓gIsN, ↓gNotN, ↓gChain, ↓x_fmtS, ↓x_afS, ↓x_afI, ↓x_js0, ↓x_jsc, ↓gJoined, ↓gYes, ↓x_bnm, ↓x_btp, ↓x_bn, ↓x_bc, ↓x_nnN, ↓x_nnI, ↓x_nnS, ↓x_nnB, ↓x_nnT, ↓x_nnL, ↓x_nnO, ↓x_nnl, ↓x_tyS, ↓x_tyL, ↓x_i2, ↓aSub, ↓aFdiv, ↓aMod, ↓aPow, ↓aShr, ↓aLt, ↓aLe, ↓aGt, ↓aGe, ↓x_addI, ↓x_addS, ↓x_mulI, ↓x_iaddS, ↓x_iaddI, ↓x_neg, ↓x_eqI, ↓x_neI, ↓x_eqS, ↓x_neS, ↓x_eqB, ↓x_neB, ↓x_eqNI, ↓x_neNI, ↓x_lenS, ↓x_lenL_l, ↓x_lenL_k, ↓x_lenL_t, ↓x_str, ↓x_intI, ↓x_intB, ↓x_divmod, ↓x_max2, ↓x_min2, ↓x_ixS, ↓x_slS, ↓x_slT, ↓x_slL_l, ↓x_slL_k, ↓x_inS, ↓x_newT, ↓x_newF, ↓x_si, ↓x_s1, ↓x_s0, ↓x_rpart, ↓x_part, ↓x_a1, ↓x_a2, ↓x_isiStr, ↓x_isiInt, ↓x_isiIntB, ↓x_isiIntS, ↓x_isiBB, ↓x_isiBI, ↓x_isiStrI, ↓x_isiNonI, ↓x_isiNonS, ↓x_isiT, ↓x_isiL, ↓x_var0, ↓x_varS, ↓x_ex, ↓x_aug0, gat, pick, Option.some.injEq, D.bl.injEq, D.int.injEq, D.str.injEq, D.tup.injEq, D.lst.injEq, List.cons.injEq, and_true, true_and, List.set_cons_zero, List.set_cons_succ, List.length_cons, List.length_nil, List.filterMap_cons, List.filterMap_nil, List.getElem?_cons_zero, List.getElem?_cons_succ, Option.bind_some, ↓reduceIte, if_true, if_false, Bool.false_eq_true, Bool.true_eq_false, decide_eq_true_eq, beq_self_eq_true, Bool.not_true, Bool.not_false, Bool.not_eq_true', decide_eq_false_iff_not, exists_eq_left', exists_eq_left, exists_eq, ↓x_dnT, ↓x_dnF, ↓gAsgL, ↓gMMDef, ↓gDSet, ↓gSItems, ↓x_nilL, ↓x_nilE, List.isEmpty_nil, List.isEmpty_cons, Bool.true_xor, Bool.false_xor, ↓gOrT, ↓gAndT, ↓gTryAs, ↓gTryO, ↓gRaise, ↓gCallX, ↓gMethX, ↓gMakeX, ↓gFldX, ↓x_inXs, Bool.false_xor, Bool.true_xor, ↓gOrS, ↓gSortK]
        refine ⟨⟨by decide, by decide, by decide⟩, ?_⟩
        split
        · rename_i hc1
          split
          · exact ⟨⟨by decide, by decide, by decide⟩, .inl ⟨h1, h2⟩, ⟨by decide, by decide, by decide⟩, h1, hT _ _ (m1 _).1 (m1 _).2 (Int.ediv_nonneg (by omega) (by omega))⟩
          · refine ⟨by decide, by decide, .int p, hp, ?_⟩
            simp only [↓x_eqSS, ↓x_neSS, ↓gKGet, ↓x_kget, ↓x_ixE, at_last, ↓x_appE, ↓x_tyE, ↓x_itE, ↓x_lenE, ↓x_nePr, ↓x_eqPr, ↓x_neE, ↓x_lenr, ↓x_lenrI, ↓gRev, ↓x_par3, ↓x_par33, ↓x_fld, ↓x_fset, ↓x_mkF, ↓x_mk, ↓x_meth, ↓x_fldO, ↓x_fsetE, ↓x_fldE, ↓x_methO, ↓x_isiCO, ↓x_isiCN, ↓x_isiCT, ↓x_isiCLi, ↓x_isiCS, ↓x_isiCI, ↓x_own, ↓x_eqT2, ↓x_neT2, ↓x_neL4, ↓x_eqLN, ↓x_neNil, ↓x_gset, ↓x_lc, ↓x_for, ↓x_it, ↓x_rn1, ↓x_rn2, ↓x_enu, ↓x_zip, ↓x_itS, ↓x_itL, ↓x_itK, ↓x_itT, ↓x_rn1I, ↓x_rn2I, ↓x_enuL, ↓x_enuK, ↓x_zipL, ↓x_ixS0, ↓x_ixL, ↓x_ixT, ↓x_ixK, x_at0, x_at1, x_at2, x_at3, x_at4, ↓x_set00, ↓x_set01, ↓x_set02, ↓x_aug1, ↓x_aug2, ↓x_aug3, ↓x_aug4, ↓x_aug5, ↓x_aug6, ↓x_aug7, ↓x_aug8, ↓x_aug9, ↓x_aug10, ↓x_aug11, ↓x_aug12, ↓x_aug13, ↓x_aug14, ↓x_aug15, ↓x_aug16, ↓x_aug17, ↓x_aug18, ↓x_aug19, ↓x_aug20, ↓x_aug21, ↓x_aug22, ↓x_aug23, Int.reduceToNat, Int.reducePow, ↓gSeq, ↓gIfS, ↓gSet, ↓gAsg, ↓x_par, ↓x_par2, ↓gRet, ↓gRetN, ↓gNext, ↓gDrop, ↓gBreak, ↓gCont, ↓gDead, ↓gCB, ↓gB2, ↓gU, ↓gC, ↓Dl.gCons, ↓Dl.gNil, ↓Dl.gTup, ↓Dl.gLst, ↓gTest, ↓gOrB, ↓gAndB, ↓gNotB, ↓gAndV, ↓gOrV, ↓gNotV, ↓gIf, ↓gIx, ↓gSl, ↓gPart, ↓gNoP, ↓gMt, ↓gCall, ↓gArgs, ↓gIsN, ↓gNotN, ↓gChain, ↓x_fmtS, ↓x_afS, ↓x_afI, ↓x_js0, ↓x_jsc, ↓gJoined, ↓gYes, ↓x_bnm, ↓x_btp, ↓x_bn, ↓x_bc, ↓x_nnN, ↓x_nnI, ↓x_nnS, ↓x_nnB, ↓x_nnT, ↓x_nnL, ↓x_nnO, ↓x_nnl, ↓x_tyS, ↓x_tyL, ↓x_i2, ↓aSub, ↓aFdiv, ↓aMod, ↓aPow, ↓aShr, ↓aLt, ↓aLe, ↓aGt, ↓aGe, ↓x_addI, ↓x_addS, ↓x_mulI, ↓x_iaddS, ↓x_iaddI, ↓x_neg, ↓x_eqI, ↓x_neI, ↓x_eqS, ↓x_neS, ↓x_eqB, ↓x_neB, ↓x_eqNI, ↓x_neNI, ↓x_lenS, ↓x_lenL_l, ↓x_lenL_k, ↓x_lenL_t, ↓x_str, ↓x_intI, ↓x_intB, ↓x_divmod, ↓x_max2, ↓x_min2, ↓x_ixS, ↓x_slS, ↓x_slT, ↓x_slL_l, ↓x_slL_k, ↓x_inS, ↓x_newT, ↓x_newF, ↓x_si, ↓x_s1, ↓x_s0, ↓x_rpart, ↓x_part, ↓x_a1, ↓x_a2, ↓x_isiStr, ↓x_isiInt, ↓x_isiIntB, ↓x_isiIntS, ↓x_isiBB, ↓x_isiBI, ↓x_isiStrI, ↓x_isiNonI, ↓x_isiNonS, ↓x_isiT, ↓x_isiL, ↓x_var0, ↓x_varS, ↓x_ex, ↓x_aug0, gat, pick, Option.some.injEq, D.bl.injEq, D.int.injEq, D.str.injEq, D.tup.injEq, D.lst.injEq, List.cons.injEq, and_true, true_and, List.set_cons_zero, List.set_cons_succ, List.length_cons, List.length_nil, List.filterMap_cons, List.filterMap_nil, List.getElem?_cons_zero, List.getElem?_cons_succ, Option.bind_some, ↓reduceIte, if_true, if_false, Bool.false_eq_true, Bool.true_eq_false, decide_eq_true_eq, beq_self_eq_true, Bool.not_true, Bool.not_false, Bool.not_eq_true', decide_eq_false_iff_not, exists_eq_left', exists_eq_left, exists_eq, ↓x_dnT, ↓x_dnF, ↓gAsgL, ↓gMMDef, ↓gDSet, ↓gSItems, ↓x_nilL, ↓x_nilE, List.isEmpty_nil, List.isEmpty_cons, Bool.true_xor, Bool.false_xor, ↓gOrT, ↓gAndT, ↓gTryAs, ↓gTryO, ↓gRaise, ↓gCallX, ↓gMethX, ↓gMakeX, ↓gFldX, ↓x_inXs, Bool.false_xor, Bool.true_xor, ↓gOrS, ↓gSortK]
            refine ⟨hp0, mulOk_r (by decide) (by decide), mulOk_l (by decide) (by decide), mulOk_r (by omega) (by omega), mulOk_l (by decide) (by decide), hp0, ?_⟩
            generalize hy : (_ : Int) % p = y
            have hy0 : 0 ≤ y ∧ y < p := by rw [← hy]; exact ⟨Int.emod_nonneg _ (by omega), Int.emod_lt_of_pos _ hp0⟩
            refine ⟨mulOk_l (by omega) (by omega), by decide, .int p2, hp2, ?_⟩
            simp only [↓x_eqSS, ↓x_neSS, ↓gKGet, ↓x_kget, ↓x_ixE, at_last, ↓x_appE, ↓x_tyE, ↓x_itE, ↓x_lenE, ↓x_nePr, ↓x_eqPr, ↓x_neE, ↓x_lenr, ↓x_lenrI, ↓gRev, ↓x_par3, ↓x_par33, ↓x_fld, ↓x_fset, ↓x_mkF, ↓x_mk, ↓x_meth, ↓x_fldO, ↓x_fsetE, ↓x_fldE, ↓x_methO, ↓x_isiCO, ↓x_isiCN, ↓x_isiCT, ↓x_isiCLi, ↓x_isiCS, ↓x_isiCI, ↓x_own, ↓x_eqT2, ↓x_neT2, ↓x_neL4, ↓x_eqLN, ↓x_neNil, ↓x_gset, ↓x_lc, ↓x_for, ↓x_it, ↓x_rn1, ↓x_rn2, ↓x_enu, ↓x_zip, ↓x_itS, ↓x_itL, ↓x_itK, ↓x_itT, ↓x_rn1I, ↓x_rn2I, ↓x_enuL, ↓x_enuK, ↓x_zipL, ↓x_ixS0, ↓x_ixL, ↓x_ixT, ↓x_ixK, x_at0, x_at1, x_at2, x_at3, x_at4, ↓x_set00, ↓x_set01, ↓x_set02, ↓x_aug1, ↓x_aug2, ↓x_aug3, ↓x_aug4, ↓x_aug5, ↓x_aug6, ↓x_aug7, ↓x_aug8, ↓x_aug9, ↓x_aug10, ↓x_aug11, ↓x_aug12, ↓x_aug13, ↓x_aug14, ↓x_aug15, ↓x_aug16, ↓x_aug17, ↓x_aug18, ↓x_aug19, ↓x_aug20, ↓x_aug21, ↓x_aug22, ↓x_aug23, Int.reduceToNat, Int.reducePow, ↓gSeq, ↓gIfS, ↓gSet, ↓gAsg, ↓x_par, ↓x_par2, ↓gRet, ↓gRetN, ↓gNext, ↓gDrop, ↓gBreak, ↓gCont, ↓gDead, ↓gCB, ↓gB2, ↓gU, ↓gC, ↓Dl.gCons, ↓Dl.gNil, ↓Dl.gTup, ↓Dl.gLst, ↓gTest, ↓gOrB, ↓gAndB, ↓gNotB, ↓gAndV, ↓gOrV, ↓gNotV, ↓gIf, ↓gIx, ↓gSl, ↓gPart, ↓gNoP, ↓gMt, ↓gCall, ↓gArgs, ↓gIsN, ↓gNotN, ↓gChain, ↓x_fmtS, ↓x_afS, ↓x_afI, ↓x_js0, ↓x_jsc, ↓gJoined, ↓gYes, ↓x_bnm, ↓x_btp, ↓x_bn, ↓x_bc, ↓x_nnN, ↓x_nnI, ↓x_nnS, ↓x_nnB, ↓x_nnT, ↓x_nnL, ↓x_nnO, ↓x_nnl, ↓x_tyS, ↓x_tyL, ↓x_i2, ↓aSub, ↓aFdiv, ↓aMod, ↓aPow, ↓aShr, ↓aLt, ↓aLe, ↓aGt, ↓aGe, ↓x_addI, ↓x_addS, ↓x_mulI, ↓x_iaddS, ↓x_iaddI, ↓x_neg, ↓x_eqI, ↓x_neI, ↓x_eqS, ↓x_neS, ↓x_eqB, ↓x_neB, ↓x_eqNI, ↓x_neNI, ↓x_lenS, ↓x_lenL_l, ↓x_lenL_k, ↓x_lenL_t, ↓x_str, ↓x_intI, ↓x_intB, ↓x_divmod, ↓x_max2, ↓x_min2, ↓x_ixS, ↓x_slS, ↓x_slT, ↓x_slL_l, ↓x_slL_k, ↓x_inS, ↓x_newT, ↓x_newF, ↓x_si, ↓x_s1, ↓x_s0, ↓x_rpart, ↓x_part, ↓x_a1, ↓x_a2, ↓x_isiStr, ↓x_isiInt, ↓x_isiIntB, ↓x_isiIntS, ↓x_isiBB, ↓x_isiBI, ↓x_isiStrI, ↓x_isiNonI, ↓x_isiNonS, ↓x_isiT, ↓x_isiL, ↓x_var0, ↓x_varS, ↓x_ex, ↓x_aug0, gat, pick, Option.some.injEq, D.bl.injEq, D.int.injEq, D.str.injEq, D.tup.injEq, D.lst.injEq, List.cons.injEq, and_true, true_and, List.set_cons_zero, List.set_cons_succ, List.length_cons, List.length_nil, List.filterMap_cons, List.filterMap_nil, List.getElem?_cons_zero, List.getElem?_cons_succ, Option.bind_some, ↓reduceIte, if_true, if_false, Bool.false_eq_true, Bool.true_eq_false, decide_eq_true_eq, beq_self_eq_true, Bool.not_true, Bool.not_false, Bool.not_eq_true', decide_eq_false_iff_not, exists_eq_left', exists_eq_left, exists_eq, ↓x_dnT, ↓x_dnF, ↓gAsgL, ↓gMMDef, ↓gDSet, ↓gSItems, ↓x_nilL, ↓x_nilE, List.isEmpty_nil, List.isEmpty_cons, Bool.true_xor, Bool.false_xor, ↓gOrT, ↓gAndT, ↓gTryAs, ↓gTryO, ↓gRaise, ↓gCallX, ↓gMethX, ↓gMakeX, ↓gFldX, ↓x_inXs, Bool.false_xor, Bool.true_xor, ↓gOrS, ↓gSortK]
            refine ⟨hp20, ?_⟩
            generalize hz : (_ : Int) % p2 = z
            have hz0 : 0 ≤ z ∧ z < p2 := by rw [← hz]; exact ⟨Int.emod_nonneg _ (by omega), Int.emod_lt_of_pos _ hp20⟩
            refine ⟨mulOk_l (by omega) (by omega), by decide, .inl ⟨by decide, by decide⟩, h1, ?_⟩
            exact hT _ _ (m1 _).1 (m1 _).2 h5

        · refine ⟨by decide, by decide, .int p, hp, ?_⟩
          simp only [↓x_eqSS, ↓x_neSS, ↓gKGet, ↓x_kget, ↓x_ixE, at_last, ↓x_appE, ↓x_tyE, ↓x_itE, ↓x_lenE, ↓x_nePr, ↓x_eqPr, ↓x_neE, ↓x_lenr, ↓x_lenrI, ↓gRev, ↓x_par3, ↓x_par33, ↓x_fld, ↓x_fset, ↓x_mkF, ↓x_mk, ↓x_meth, ↓x_fldO, ↓x_fsetE, ↓x_fldE, ↓x_methO, ↓x_isiCO, ↓x_isiCN, ↓x_isiCT, ↓x_isiCLi, ↓x_isiCS, ↓x_isiCI, ↓x_own, ↓x_eqT2, ↓x_neT2, ↓x_neL4, ↓x_eqLN, ↓x_neNil, ↓x_gset, ↓x_lc, ↓x_for, ↓x_it, ↓x_rn1, ↓x_rn2, ↓x_enu, ↓x_zip, ↓x_itS, ↓x_itL, ↓x_itK, ↓x_itT, ↓x_rn1I, ↓x_rn2I, ↓x_enuL, ↓x_enuK, ↓x_zipL, ↓x_ixS0, ↓x_ixL, ↓x_ixT, ↓x_ixK, x_at0, x_at1, x_at2, x_at3, x_at4, ↓x_set00, ↓x_set01, ↓x_set02, ↓x_aug1, ↓x_aug2, ↓x_aug3, ↓x_aug4, ↓x_aug5, ↓x_aug6, ↓x_aug7, ↓x_aug8, ↓x_aug9, ↓x_aug10, ↓x_aug11, ↓x_aug12, ↓x_aug13, ↓x_aug14, ↓x_aug15, ↓x_aug16, ↓x_aug17, ↓x_aug18, ↓x_aug19, ↓x_aug20, ↓x_aug21, ↓x_aug22, ↓x_aug23, Int.reduceToNat, Int.reducePow, ↓gSeq, ↓gIfS, ↓gSet, ↓gAsg, ↓x_par, ↓x_par2, ↓gRet, ↓gRetN, ↓gNext, ↓gDrop, ↓gBreak, ↓gCont, ↓gDead, ↓gCB, ↓gB2, ↓gU, ↓gC, ↓Dl.gCons, ↓Dl.gNil, ↓Dl.gTup, ↓Dl.gLst, ↓gTest, ↓gOrB, ↓gAndB, ↓gNotB, ↓gAndV, ↓gOrV, ↓gNotV, ↓gIf, ↓gIx, ↓gSl, ↓gPart, ↓gNoP, ↓gMt, ↓gCall, ↓gArgs, ↓gIsN, ↓gNotN, ↓gChain, ↓x_fmtS, ↓x_afS, ↓x_afI, ↓x_js0, ↓x_jsc, ↓gJoined, ↓gYes, ↓x_bnm, ↓x_btp, ↓x_bn, ↓x_bc, ↓x_nnN, ↓x_nnI, ↓x_nnS, ↓x_nnB, ↓x_nnT, ↓x_nnL, ↓x_nnO, ↓x_nnl, ↓x_tyS, ↓x_tyL, ↓x_i2, ↓aSub, ↓aFdiv, ↓aMod, ↓aPow, ↓aShr, ↓aLt, ↓aLe, ↓aGt, ↓aGe, ↓x_addI, ↓x_addS, ↓x_mulI, ↓x_iaddS, ↓x_iaddI, ↓x_neg, ↓x_eqI, ↓x_neI, ↓x_eqS, ↓x_neS, ↓x_eqB, ↓x_neB, ↓x_eqNI, ↓x_neNI, ↓x_lenS, ↓x_lenL_l, ↓x_lenL_k, ↓x_lenL_t, ↓x_str, ↓x_intI, ↓x_intB, ↓x_divmod, ↓x_max2, ↓x_min2, ↓x_ixS, ↓x_slS, ↓x_slT, ↓x_slL_l, ↓x_slL_k, ↓x_inS, ↓x_newT, ↓x_newF, ↓x_si, ↓x_s1, ↓x_s0, ↓x_rpart, ↓x_part, ↓x_a1, ↓x_a2, ↓x_isiStr, ↓x_isiInt, ↓x_isiIntB, ↓x_isiIntS, ↓x_isiBB, ↓x_isiBI, ↓x_isiStrI, ↓x_isiNonI, ↓x_isiNonS, ↓x_isiT, ↓x_isiL, ↓x_var0, ↓x_varS, ↓x_ex, ↓x_aug0, gat, pick, Option.some.injEq, D.bl.injEq, D.int.injEq, D.str.injEq, D.tup.injEq, D.lst.injEq, List.cons.injEq, and_true, true_and, List.set_cons_zero, List.set_cons_succ, List.length_cons, List.length_nil, List.filterMap_cons, List.filterMap_nil, List.getElem?_cons_zero, List.getElem?_cons_succ, Option.bind_some, ↓reduceIte, if_true, if_false, Bool.false_eq_true, Bool.true_eq_false, decide_eq_true_eq, beq_self_eq_true, Bool.not_true, Bool.not_false, Bool.not_eq_true', decide_eq_false_iff_not, exists_eq_left', exists_eq_left, exists_eq, ↓x_dnT, ↓x_dnF, ↓gAsgL, ↓gMMDef, ↓gDSet, ↓gSItems, ↓x_nilL, ↓x_nilE, List.isEmpty_nil, List.isEmpty_cons, Bool.true_xor, Bool.false_xor, ↓gOrT, ↓gAndT, ↓gTryAs, ↓gTryO, ↓gRaise, ↓gCallX, ↓gMethX, ↓gMakeX, ↓gFldX, ↓x_inXs, Bool.false_xor, Bool.true_xor, ↓gOrS, ↓gSortK]
          refine ⟨hp0, mulOk_r (by decide) (by decide), mulOk_l (by decide) (by decide), mulOk_r (by omega) (by omega), mulOk_l (by decide) (by decide), hp0, ?_⟩
          generalize hy : (_ : Int) % p = y
          have hy0 : 0 ≤ y ∧ y < p := by rw [← hy]; exact ⟨Int.emod_nonneg _ (by omega), Int.emod_lt_of_pos _ hp0⟩
          refine ⟨mulOk_l (by omega) (by omega), by decide, .int p2, hp2, ?_⟩
          simp only [↓x_eqSS, ↓x_neSS, ↓gKGet, ↓x_kget, ↓x_ixE, at_last, ↓x_appE, ↓x_tyE, ↓x_itE, ↓x_lenE, ↓x_nePr, ↓x_eqPr, ↓x_neE, ↓x_lenr, ↓x_lenrI, ↓gRev, ↓x_par3, ↓x_par33, ↓x_fld, ↓x_fset, ↓x_mkF, ↓x_mk, ↓x_meth, ↓x_fldO, ↓x_fsetE, ↓x_fldE, ↓x_methO, ↓x_isiCO, ↓x_isiCN, ↓x_isiCT, ↓x_isiCLi, ↓x_isiCS, ↓x_isiCI, ↓x_own, ↓x_eqT2, ↓x_neT2, ↓x_neL4, ↓x_eqLN, ↓x_neNil, ↓x_gset, ↓x_lc, ↓x_for, ↓x_it, ↓x_rn1, ↓x_rn2, ↓x_enu, ↓x_zip, ↓x_itS, ↓x_itL, ↓x_itK, ↓x_itT, ↓x_rn1I, ↓x_rn2I, ↓x_enuL, ↓x_enuK, ↓x_zipL, ↓x_ixS0, ↓x_ixL, ↓x_ixT, ↓x_ixK, x_at0, x_at1, x_at2, x_at3, x_at4, ↓x_set00, ↓x_set01, ↓x_set02, ↓x_aug1, ↓x_aug2, ↓x_aug3, ↓x_aug4, ↓x_aug5, ↓x_aug6, ↓x_aug7, ↓x_aug8, ↓x_aug9, ↓x_aug10, ↓x_aug11, ↓x_aug12, ↓x_aug13, ↓x_aug14, ↓x_aug15, ↓x_aug16, ↓x_aug17, ↓x_aug18, ↓x_aug19, ↓x_aug20, ↓x_aug21, ↓x_aug22, ↓x_aug23, Int.reduceToNat, Int.reducePow, ↓gSeq, ↓gIfS, ↓gSet, ↓gAsg, ↓x_par, ↓x_par2, ↓gRet, ↓gRetN, ↓gNext, ↓gDrop, ↓gBreak, ↓gCont, ↓gDead, ↓gCB, ↓gB2, ↓gU, ↓gC, ↓Dl.gCons, ↓Dl.gNil, ↓Dl.gTup, ↓Dl.gLst, ↓gTest, ↓gOrB, ↓gAndB, ↓gNotB, ↓gAndV, ↓gOrV, ↓gNotV, ↓gIf, ↓gIx, ↓gSl, ↓gPart, ↓gNoP, ↓gMt, ↓gCall, ↓gArgs, ↓gIsN, ↓gNotN, ↓gChain, ↓x_fmtS, ↓x_afS, ↓x_afI, ↓x_js0, ↓x_jsc, ↓gJoined, ↓gYes, ↓x_bnm, ↓x_btp, ↓x_bn, ↓x_bc, ↓x_nnN, ↓x_nnI, ↓x_nnS, ↓x_nnB, ↓x_nnT, ↓x_nnL, ↓x_nnO, ↓x_nnl, ↓x_tyS, ↓x_tyL, ↓x_i2, ↓aSub, ↓aFdiv, ↓aMod, ↓aPow, ↓aShr, ↓aLt, ↓aLe, ↓aGt, ↓aGe, ↓x_addI, ↓x_addS, ↓x_mulI, ↓x_iaddS, ↓x_iaddI, ↓x_neg, ↓x_eqI, ↓x_neI, ↓x_eqS, ↓x_neS, ↓x_eqB, ↓x_neB, ↓x_eqNI, ↓x_neNI, ↓x_lenS, ↓x_lenL_l, ↓x_lenL_k, ↓x_lenL_t, ↓x_str, ↓x_intI, ↓x_intB, ↓x_divmod, ↓x_max2, ↓x_min2, ↓x_ixS, ↓x_slS, ↓x_slT, ↓x_slL_l, ↓x_slL_k, ↓x_inS, ↓x_newT, ↓x_newF, ↓x_si, ↓x_s1, ↓x_s0, ↓x_rpart, ↓x_part, ↓x_a1, ↓x_a2, ↓x_isiStr, ↓x_isiInt, ↓x_isiIntB, ↓x_isiIntS, ↓x_isiBB, ↓x_isiBI, ↓x_isiStrI, ↓x_isiNonI, ↓x_isiNonS, ↓x_isiT, ↓x_isiL, ↓x_var0, ↓x_varS, ↓x_ex, ↓x_aug0, gat, pick, Option.some.injEq, D.bl.injEq, D.int.injEq, D.str.injEq, D.tup.injEq, D.lst.injEq, List.cons.injEq, and_true, true_and, List.set_cons_zero, List.set_cons_succ, List.length_cons, List.length_nil, List.filterMap_cons, List.filterMap_nil, List.getElem?_cons_zero, List.getElem?_cons_succ, Option.bind_some, ↓reduceIte, if_true, if_false, Bool.false_eq_true, Bool.true_eq_false, decide_eq_true_eq, beq_self_eq_true, Bool.not_true, Bool.not_false, Bool.not_eq_true', decide_eq_false_iff_not, exists_eq_left', exists_eq_left, exists_eq, ↓x_dnT, ↓x_dnF, ↓gAsgL, ↓gMMDef, ↓gDSet, ↓gSItems, ↓x_nilL, ↓x_nilE, List.isEmpty_nil, List.isEmpty_cons, Bool.true_xor, Bool.false_xor, ↓gOrT, ↓gAndT, ↓gTryAs, ↓gTryO, ↓gRaise, ↓gCallX, ↓gMethX, ↓gMakeX, ↓gFldX, ↓x_inXs, Bool.false_xor, Bool.true_xor, ↓gOrS, ↓gSortK]
          refine ⟨hp20, ?_⟩
          generalize hz : (_ : Int) % p2 = z
          have hz0 : 0 ≤ z ∧ z < p2 := by rw [← hz]; exact ⟨Int.emod_nonneg _ (by omega), Int.emod_lt_of_pos _ hp20⟩
          refine ⟨mulOk_l (by omega) (by omega), by decide, .inl ⟨by decide, by decide⟩, h1, ?_⟩
          exact hT _ _ (m1 _).1 (m1 _).2 h5
end
end Lw
namespace Lw
open PySem L2 Dl Mj
section
variable {P : Program} {w : World} {K : PySem.W.Frag} {mg : Str → Option Value} {base : Heap} {a : Ad}
theorem bk_ty {S : Sto} {e : D} {t : String} (h : e.bk = some t) : tyN S e = some t := by
  cases e <;> first | (cases h; done) | exact h
theorem bk_no {S : Sto} {e : D} {t : String} (h : e.bk = some t) : objOf S e = none := by
  cases e <;> first | (cases h; done) | rfl
theorem r_Stretch_init (T : Txt K mg a) : ∀ ds S q, sp_Stretch_init a ds S q → g_Stretch_init K a { nx := fun _ S' => q .non S', rt := q } (startD N_Stretch_init ds) S := by
  rintro ds S q ⟨S0, x, y, o, rfl, rfl, ho, hxy, h⟩
  rw [st_Stretch_init]
  rcases ho with rfl | ⟨rfl, rfl⟩
  · simp only [g_Stretch_init, Mt.pk_first, Mt.pk_behind, Mt.px_first, Mt.px_behind, T.f_Stretch_first, T.f_Stretch_behind, ↓x_eqSS, ↓x_neSS, ↓gKGet, ↓x_kget, ↓x_ixE, at_last, ↓x_appE, ↓x_tyE, ↓x_itE, ↓x_lenE, ↓x_nePr, ↓x_eqPr, ↓x_neE, ↓x_lenr, ↓x_lenrI, ↓gRev, ↓x_par3, ↓x_par33, ↓x_fld, ↓x_fset, ↓x_mkF, ↓x_mk, ↓x_meth, ↓x_fldO, ↓x_fsetE, ↓x_fldE, ↓x_methO, ↓x_isiCO, ↓x_isiCN, ↓x_isiCT, ↓x_isiCLi, ↓x_isiCS, ↓x_isiCI, ↓x_own, ↓x_eqT2, ↓x_neT2, ↓x_neL4, ↓x_eqLN, ↓x_neNil, ↓x_gset, ↓x_lc, ↓x_for, ↓x_it, ↓x_rn1, ↓x_rn2, ↓x_enu, ↓x_zip, ↓x_itS, ↓x_itL, ↓x_itK, ↓x_itT, ↓x_rn1I, ↓x_rn2I, ↓x_enuL, ↓x_enuK, ↓x_zipL, ↓x_ixS0, ↓x_ixL, ↓x_ixT, ↓x_ixK, x_at0, x_at1, x_at2, x_at3, x_at4, ↓x_set00, ↓x_set01, ↓x_set02, ↓x_aug1, ↓x_aug2, ↓x_aug3, ↓x_aug4, ↓x_aug5, ↓x_aug6, ↓x_aug7, ↓x_aug8, ↓x_aug9, ↓x_aug10, ↓x_aug11, ↓x_aug12, ↓x_aug13, ↓x_aug14, ↓x_aug15, ↓x_aug16, ↓x_aug17, ↓x_aug18, ↓x_aug19, ↓x_aug20, ↓x_aug21, ↓x_aug22, ↓x_aug23, Int.reduceToNat, Int.reducePow, ↓gSeq, ↓gIfS, ↓gSet, ↓gAsg, ↓x_par, ↓x_par2, ↓gRet, ↓gRetN, ↓gNext, ↓gDrop, ↓gBreak, ↓gCont, ↓gDead, ↓gCB, ↓gB2, ↓gU, ↓gC, ↓Dl.gCons, ↓Dl.gNil, ↓Dl.gTup, ↓Dl.gLst, ↓gTest, ↓gOrB, ↓gAndB, ↓gNotB, ↓gAndV, ↓gOrV, ↓gNotV, ↓gIf, ↓gIx, ↓gSl, ↓gPart, ↓gNoP, ↓gMt, ↓gCall, ↓gArgs, ↓gIsN, ↓gNotN, ↓gChain, ↓x_fmtS, ↓x_afS, ↓x_afI, ↓x_js0, ↓x_jsc, ↓gJoined, ↓gYes, ↓x_bnm, ↓x_btp, ↓x_bn, ↓x_bc, ↓x_nnN, ↓x_nnI, ↓x_nnS, ↓x_nnB, ↓x_nnT, ↓x_nnL, ↓x_nnO, ↓x_nnl, ↓x_tyS, ↓x_tyL, ↓x_i2, ↓aSub, ↓aFdiv, ↓aMod, ↓aPow, ↓aShr, ↓aLt, ↓aLe, ↓aGt, ↓aGe, ↓x_addI, ↓x_addS, ↓x_mulI, ↓x_iaddS, ↓x_iaddI, ↓x_neg, ↓x_eqI, ↓x_neI, ↓x_eqS, ↓x_neS, ↓x_eqB, ↓x_neB, ↓x_eqNI, ↓x_neNI, ↓x_lenS, ↓x_lenL_l, ↓x_lenL_k, ↓x_lenL_t, ↓x_str, ↓x_intI, ↓x_intB, ↓x_divmod, ↓x_max2, ↓x_min2, ↓x_ixS, ↓x_slS, ↓x_slT, ↓x_slL_l, ↓x_slL_k, ↓x_inS, ↓x_newT, ↓x_newF, ↓x_si, ↓x_s1, ↓x_s0, ↓x_rpart, ↓x_part, ↓x_a1, ↓x_a2, ↓x_isiStr, ↓x_isiInt, ↓x_isiIntB, ↓x_isiIntS, ↓x_isiBB, ↓x_isiBI, ↓x_isiStrI, ↓x_isiNonI, ↓x_isiNonS, ↓x_isiT, ↓x_isiL, ↓x_var0, ↓x_varS, ↓x_ex, ↓x_aug0, gat, pick, Option.some.injEq, D.bl.injEq, D.int.injEq, D.str.injEq, D.tup.injEq, D.lst.injEq, List.cons.injEq, and_true, true_and, List.set_cons_zero, List.set_cons_succ, List.length_cons, List.length_nil, List.filterMap_cons, List.filterMap_nil, List.getElem?_cons_zero, List.getElem?_cons_succ, Option.bind_some, ↓reduceIte, if_true, if_false, Bool.false_eq_true, Bool.true_eq_false, decide_eq_true_eq, beq_self_eq_true, Bool.not_true, Bool.not_false, Bool.not_eq_true', decide_eq_false_iff_not, exists_eq_left', exists_eq_left, exists_eq, ↓x_dnT, ↓x_dnF, ↓gAsgL, ↓gMMDef, ↓gDSet, ↓gSItems, ↓x_nilL, ↓x_nilE, List.isEmpty_nil, List.isEmpty_cons, Bool.true_xor, Bool.false_xor, ↓gOrT, ↓gAndT, ↓gTryAs, ↓gTryO, ↓gRaise, ↓gCallX, ↓gMethX, ↓gMakeX, ↓gFldX, ↓x_inXs, Bool.false_xor, Bool.true_xor, ↓gOrS, ↓gSortK]
    rw [if_neg (by omega)]
    exact ⟨by decide, by decide, h⟩
  · simp only [g_Stretch_init, Mt.pk_first, Mt.pk_behind, Mt.px_first, Mt.px_behind, T.f_Stretch_first, T.f_Stretch_behind, ↓x_eqSS, ↓x_neSS, ↓gKGet, ↓x_kget, ↓x_ixE, at_last, ↓x_appE, ↓x_tyE, ↓x_itE, ↓x_lenE, ↓x_nePr, ↓x_eqPr, ↓x_neE, ↓x_lenr, ↓x_lenrI, ↓gRev, ↓x_par3, ↓x_par33, ↓x_fld, ↓x_fset, ↓x_mkF, ↓x_mk, ↓x_meth, ↓x_fldO, ↓x_fsetE, ↓x_fldE, ↓x_methO, ↓x_isiCO, ↓x_isiCN, ↓x_isiCT, ↓x_isiCLi, ↓x_isiCS, ↓x_isiCI, ↓x_own, ↓x_eqT2, ↓x_neT2, ↓x_neL4, ↓x_eqLN, ↓x_neNil, ↓x_gset, ↓x_lc, ↓x_for, ↓x_it, ↓x_rn1, ↓x_rn2, ↓x_enu, ↓x_zip, ↓x_itS, ↓x_itL, ↓x_itK, ↓x_itT, ↓x_rn1I, ↓x_rn2I, ↓x_enuL, ↓x_enuK, ↓x_zipL, ↓x_ixS0, ↓x_ixL, ↓x_ixT, ↓x_ixK, x_at0, x_at1, x_at2, x_at3, x_at4, ↓x_set00, ↓x_set01, ↓x_set02, ↓x_aug1, ↓x_aug2, ↓x_aug3, ↓x_aug4, ↓x_aug5, ↓x_aug6, ↓x_aug7, ↓x_aug8, ↓x_aug9, ↓x_aug10, ↓x_aug11, ↓x_aug12, ↓x_aug13, ↓x_aug14, ↓x_aug15, ↓x_aug16, ↓x_aug17, ↓x_aug18, ↓x_aug19, ↓x_aug20, ↓x_aug21, ↓x_aug22, ↓x_aug23, Int.reduceToNat, Int.reducePow, ↓gSeq, ↓gIfS, ↓gSet, ↓gAsg, ↓x_par, ↓x_par2, ↓gRet, ↓gRetN, ↓gNext, ↓gDrop, ↓gBreak, ↓gCont, ↓gDead, ↓gCB, ↓gB2, ↓gU, ↓gC, ↓Dl.gCons, ↓Dl.gNil, ↓Dl.gTup, ↓Dl.gLst, ↓gTest, ↓gOrB, ↓gAndB, ↓gNotB, ↓gAndV, ↓gOrV, ↓gNotV, ↓gIf, ↓gIx, ↓gSl, ↓gPart, ↓gNoP, ↓gMt, ↓gCall, ↓gArgs, ↓gIsN, ↓gNotN, ↓gChain, ↓x_fmtS, ↓x_afS, ↓x_afI, ↓x_js0, ↓x_jsc, ↓gJoined, ↓gYes, ↓x_bnm, ↓x_btp, ↓x_bn, ↓x_bc, ↓x_nnN, ↓x_nnI, ↓x_nnS, ↓x_nnB, ↓x_nnT, ↓x_nnL, ↓x_nnO, ↓x_nnl, ↓x_tyS, ↓x_tyL, ↓x_i2, ↓aSub, ↓aFdiv, ↓aMod, ↓aPow, ↓aShr, ↓aLt, ↓aLe, ↓aGt, ↓aGe, ↓x_addI, ↓x_addS, ↓x_mulI, ↓x_iaddS, ↓x_iaddI, ↓x_neg, ↓x_eqI, ↓x_neI, ↓x_eqS, ↓x_neS, ↓x_eqB, ↓x_neB, ↓x_eqNI, ↓x_neNI, ↓x_lenS, ↓x_lenL_l, ↓x_lenL_k, ↓x_lenL_t, ↓x_str, ↓x_intI, ↓x_intB, ↓x_divmod, ↓x_max2, ↓x_min2, ↓x_ixS, ↓x_slS, ↓x_slT, ↓x_slL_l, ↓x_slL_k, ↓x_inS, ↓x_newT, ↓x_newF, ↓x_si, ↓x_s1, ↓x_s0, ↓x_rpart, ↓x_part, ↓x_a1, ↓x_a2, ↓x_isiStr, ↓x_isiInt, ↓x_isiIntB, ↓x_isiIntS, ↓x_isiBB, ↓x_isiBI, ↓x_isiStrI, ↓x_isiNonI, ↓x_isiNonS, ↓x_isiT, ↓x_isiL, ↓x_var0, ↓x_varS, ↓x_ex, ↓x_aug0, gat, pick, Option.some.injEq, D.bl.injEq, D.int.injEq, D.str.injEq, D.tup.injEq, D.lst.injEq, List.cons.injEq, and_true, true_and, List.set_cons_zero, List.set_cons_succ, List.length_cons, List.length_nil, List.filterMap_cons, List.filterMap_nil, List.getElem?_cons_zero, List.getElem?_cons_succ, Option.bind_some, ↓reduceIte, if_true, if_false, Bool.false_eq_true, Bool.true_eq_false, decide_eq_true_eq, beq_self_eq_true, Bool.not_true, Bool.not_false, Bool.not_eq_true', decide_eq_false_iff_not, exists_eq_left', exists_eq_left, exists_eq, ↓x_dnT, ↓x_dnF, ↓gAsgL, ↓gMMDef, ↓gDSet, ↓gSItems, ↓x_nilL, ↓x_nilE, List.isEmpty_nil, List.isEmpty_cons, Bool.true_xor, Bool.false_xor, ↓gOrT, ↓gAndT, ↓gTryAs, ↓gTryO, ↓gRaise, ↓gCallX, ↓gMethX, ↓gMakeX, ↓gFldX, ↓x_inXs, Bool.false_xor, Bool.true_xor, ↓gOrS, ↓gSortK]
    rw [if_neg (by omega)]
    exact ⟨by decide, by decide, h⟩
theorem r_Stretch_eq (T : Txt K mg a) : ∀ ds S q, sp_Stretch_eq a ds S q → g_Stretch_eq K a { nx := fun _ S' => q .non S', rt := q } (startD N_Stretch_eq ds) S := by
  rintro ds S q ⟨x, y, e, r, rfl, h, hq⟩
  rw [st_Stretch_eq]
  rcases h with ⟨u, v, rfl, rfl⟩ | ⟨⟨t, ht⟩, rfl⟩
  · simp only [g_Stretch_eq, ↓x_isiCO T.is_Stretch T.kc_Stretch_Stretch, T.f_Stretch_first, T.f_Stretch_behind, Mt.fg_first, Mt.fg_behind, ↓x_eqSS, ↓x_neSS, ↓gKGet, ↓x_kget, ↓x_ixE, at_last, ↓x_appE, ↓x_tyE, ↓x_itE, ↓x_lenE, ↓x_nePr, ↓x_eqPr, ↓x_neE, ↓x_lenr, ↓x_lenrI, ↓gRev, ↓x_par3, ↓x_par33, ↓x_fld, ↓x_fset, ↓x_mkF, ↓x_mk, ↓x_meth, ↓x_fldO, ↓x_fsetE, ↓x_fldE, ↓x_methO, ↓x_isiCO, ↓x_isiCN, ↓x_isiCT, ↓x_isiCLi, ↓x_isiCS, ↓x_isiCI, ↓x_own, ↓x_eqT2, ↓x_neT2, ↓x_neL4, ↓x_eqLN, ↓x_neNil, ↓x_gset, ↓x_lc, ↓x_for, ↓x_it, ↓x_rn1, ↓x_rn2, ↓x_enu, ↓x_zip, ↓x_itS, ↓x_itL, ↓x_itK, ↓x_itT, ↓x_rn1I, ↓x_rn2I, ↓x_enuL, ↓x_enuK, ↓x_zipL, ↓x_ixS0, ↓x_ixL, ↓x_ixT, ↓x_ixK, x_at0, x_at1, x_at2, x_at3, x_at4, ↓x_set00, ↓x_set01, ↓x_set02, ↓x_aug1, ↓x_aug2, ↓x_aug3, ↓x_aug4, ↓x_aug5, ↓x_aug6, ↓x_aug7, ↓x_aug8, ↓x_aug9, ↓x_aug10, ↓x_aug11, ↓x_aug12, ↓x_aug13, ↓x_aug14, ↓x_aug15, ↓x_aug16, ↓x_aug17, ↓x_aug18, ↓x_aug19, ↓x_aug20, ↓x_aug21, ↓x_aug22, ↓x_aug23, Int.reduceToNat, Int.reducePow, ↓gSeq, ↓gIfS, ↓gSet, ↓gAsg, ↓x_par, ↓x_par2, ↓gRet, ↓gRetN, ↓gNext, ↓gDrop, ↓gBreak, ↓gCont, ↓gDead, ↓gCB, ↓gB2, ↓gU, ↓gC, ↓Dl.gCons, ↓Dl.gNil, ↓Dl.gTup, ↓Dl.gLst, ↓gTest, ↓gOrB, ↓gAndB, ↓gNotB, ↓gAndV, ↓gOrV, ↓gNotV, ↓gIf, ↓gIx, ↓gSl, ↓gPart, ↓gNoP, ↓gMt, ↓gCall, ↓gArgs, ↓gIsN, ↓gNotN, ↓gChain, ↓x_fmtS, ↓x_afS, ↓x_afI, ↓x_js0, ↓x_jsc, ↓gJoined, ↓gYes, ↓x_bnm, ↓x_btp, ↓x_bn, ↓x_bc, ↓x_nnN, ↓x_nnI, ↓x_nnS, ↓x_nnB, ↓x_nnT, ↓x_nnL, ↓x_nnO, ↓x_nnl, ↓x_tyS, ↓x_tyL, ↓x_i2, ↓aSub, ↓aFdiv, ↓aMod, ↓aPow, ↓aShr, ↓aLt, ↓aLe, ↓aGt, ↓aGe, ↓x_addI, ↓x_addS, ↓x_mulI, ↓x_iaddS, ↓x_iaddI, ↓x_neg, ↓x_eqI, ↓x_neI, ↓x_eqS, ↓x_neS, ↓x_eqB, ↓x_neB, ↓x_eqNI, ↓x_neNI, ↓x_lenS, ↓x_lenL_l, ↓x_lenL_k, ↓x_lenL_t, ↓x_str, ↓x_intI, ↓x_intB, ↓x_divmod, ↓x_max2, ↓x_min2, ↓x_ixS, ↓x_slS, ↓x_slT, ↓x_slL_l, ↓x_slL_k, ↓x_inS, ↓x_newT, ↓x_newF, ↓x_si, ↓x_s1, ↓x_s0, ↓x_rpart, ↓x_part, ↓x_a1, ↓x_a2, ↓x_isiStr, ↓x_isiInt, ↓x_isiIntB, ↓x_isiIntS, ↓x_isiBB, ↓x_isiBI, ↓x_isiStrI, ↓x_isiNonI, ↓x_isiNonS, ↓x_isiT, ↓x_isiL, ↓x_var0, ↓x_varS, ↓x_ex, ↓x_aug0, gat, pick, Option.some.injEq, D.bl.injEq, D.int.injEq, D.str.injEq, D.tup.injEq, D.lst.injEq, List.cons.injEq, and_true, true_and, List.set_cons_zero, List.set_cons_succ, List.length_cons, List.length_nil, List.filterMap_cons, List.filterMap_nil, List.getElem?_cons_zero, List.getElem?_cons_succ, Option.bind_some, ↓reduceIte, if_true, if_false, Bool.false_eq_true, Bool.true_eq_false, decide_eq_true_eq, beq_self_eq_true, Bool.not_true, Bool.not_false, Bool.not_eq_true', decide_eq_false_iff_not, exists_eq_left', exists_eq_left, exists_eq, ↓x_dnT, ↓x_dnF, ↓gAsgL, ↓gMMDef, ↓gDSet, ↓gSItems, ↓x_nilL, ↓x_nilE, List.isEmpty_nil, List.isEmpty_cons, Bool.true_xor, Bool.false_xor, ↓gOrT, ↓gAndT, ↓gTryAs, ↓gTryO, ↓gRaise, ↓gCallX, ↓gMethX, ↓gMakeX, ↓gFldX, ↓x_inXs, Bool.false_xor, Bool.true_xor, ↓gOrS, ↓gSortK]
    exact ⟨by decide, by decide, by simpa using hq⟩
  · simp only [g_Stretch_eq, ↓x_eqSS, ↓x_neSS, ↓gKGet, ↓x_kget, ↓x_ixE, at_last, ↓x_appE, ↓x_tyE, ↓x_itE, ↓x_lenE, ↓x_nePr, ↓x_eqPr, ↓x_neE, ↓x_lenr, ↓x_lenrI, ↓gRev, ↓x_par3, ↓x_par33, ↓x_fld, ↓x_fset, ↓x_mkF, ↓x_mk, ↓x_meth, ↓x_fldO, ↓x_fsetE, ↓x_fldE, ↓x_methO, ↓x_isiCO, ↓x_isiCN, ↓x_isiCT, ↓x_isiCLi, ↓x_isiCS, ↓x_isiCI, ↓x_own, ↓x_eqT2, ↓x_neT2, ↓x_neL4, ↓x_eqLN, ↓x_neNil, ↓x_gset, ↓x_lc, ↓x_for, ↓x_it, ↓x_rn1, ↓x_rn2, ↓x_enu, ↓x_zip, ↓x_itS, ↓x_itL, ↓x_itK, ↓x_itT, ↓x_rn1I, ↓x_rn2I, ↓x_enuL, ↓x_enuK, ↓x_zipL, ↓x_ixS0, ↓x_ixL, ↓x_ixT, ↓x_ixK, x_at0, x_at1, x_at2, x_at3, x_at4, ↓x_set00, ↓x_set01, ↓x_set02, ↓x_aug1, ↓x_aug2, ↓x_aug3, ↓x_aug4, ↓x_aug5, ↓x_aug6, ↓x_aug7, ↓x_aug8, ↓x_aug9, ↓x_aug10, ↓x_aug11, ↓x_aug12, ↓x_aug13, ↓x_aug14, ↓x_aug15, ↓x_aug16, ↓x_aug17, ↓x_aug18, ↓x_aug19, ↓x_aug20, ↓x_aug21, ↓x_aug22, ↓x_aug23, Int.reduceToNat, Int.reducePow, ↓gSeq, ↓gIfS, ↓gSet, ↓gAsg, ↓x_par, ↓x_par2, ↓gRet, ↓gRetN, ↓gNext, ↓gDrop, ↓gBreak, ↓gCont, ↓gDead, ↓gCB, ↓gB2, ↓gU, ↓gC, ↓Dl.gCons, ↓Dl.gNil, ↓Dl.gTup, ↓Dl.gLst, ↓gTest, ↓gOrB, ↓gAndB, ↓gNotB, ↓gAndV, ↓gOrV, ↓gNotV, ↓gIf, ↓gIx, ↓gSl, ↓gPart, ↓gNoP, ↓gMt, ↓gCall, ↓gArgs, ↓gIsN, ↓gNotN, ↓gChain, ↓x_fmtS, ↓x_afS, ↓x_afI, ↓x_js0, ↓x_jsc, ↓gJoined, ↓gYes, ↓x_bnm, ↓x_btp, ↓x_bn, ↓x_bc, ↓x_nnN, ↓x_nnI, ↓x_nnS, ↓x_nnB, ↓x_nnT, ↓x_nnL, ↓x_nnO, ↓x_nnl, ↓x_tyS, ↓x_tyL, ↓x_i2, ↓aSub, ↓aFdiv, ↓aMod, ↓aPow, ↓aShr, ↓aLt, ↓aLe, ↓aGt, ↓aGe, ↓x_addI, ↓x_addS, ↓x_mulI, ↓x_iaddS, ↓x_iaddI, ↓x_neg, ↓x_eqI, ↓x_neI, ↓x_eqS, ↓x_neS, ↓x_eqB, ↓x_neB, ↓x_eqNI, ↓x_neNI, ↓x_lenS, ↓x_lenL_l, ↓x_lenL_k, ↓x_lenL_t, ↓x_str, ↓x_intI, ↓x_intB, ↓x_divmod, ↓x_max2, ↓x_min2, ↓x_ixS, ↓x_slS, ↓x_slT, ↓x_slL_l, ↓x_slL_k, ↓x_inS, ↓x_newT, ↓x_newF, ↓x_si, ↓x_s1, ↓x_s0, ↓x_rpart, ↓x_part, ↓x_a1, ↓x_a2, ↓x_isiStr, ↓x_isiInt, ↓x_isiIntB, ↓x_isiIntS, ↓x_isiBB, ↓x_isiBI, ↓x_isiStrI, ↓x_isiNonI, ↓x_isiNonS, ↓x_isiT, ↓x_isiL, ↓x_var0, ↓x_varS, ↓x_ex, ↓x_aug0, gat, pick, Option.some.injEq, D.bl.injEq, D.int.injEq, D.str.injEq, D.tup.injEq, D.lst.injEq, List.cons.injEq, and_true, true_and, List.set_cons_zero, List.set_cons_succ, List.length_cons, List.length_nil, List.filterMap_cons, List.filterMap_nil, List.getElem?_cons_zero, List.getElem?_cons_succ, Option.bind_some, ↓reduceIte, if_true, if_false, Bool.false_eq_true, Bool.true_eq_false, decide_eq_true_eq, beq_self_eq_true, Bool.not_true, Bool.not_false, Bool.not_eq_true', decide_eq_false_iff_not, exists_eq_left', exists_eq_left, exists_eq, ↓x_dnT, ↓x_dnF, ↓gAsgL, ↓gMMDef, ↓gDSet, ↓gSItems, ↓x_nilL, ↓x_nilE, List.isEmpty_nil, List.isEmpty_cons, Bool.true_xor, Bool.false_xor, ↓gOrT, ↓gAndT, ↓gTryAs, ↓gTryO, ↓gRaise, ↓gCallX, ↓gMethX, ↓gMakeX, ↓gFldX, ↓x_inXs, Bool.false_xor, Bool.true_xor, ↓gOrS, ↓gSortK]
    rw [x_isiCt (bk_ty ht) T.kb_Stretch]
    · refine ⟨false, rfl, ?_⟩
      rw [if_neg (by decide)]
      exact hq
    · exact bk_no ht
theorem r_Stretch_len (T : Txt K mg a) : ∀ ds S q, sp_Stretch_len a ds S q → g_Stretch_len K a { nx := fun _ S' => q .non S', rt := q } (startD N_Stretch_len ds) S := by
  rintro ds S q ⟨p, rfl, hp, h⟩
  rw [st_Stretch_len]
  simp only [g_Stretch_len, T.f_Stretch_first, T.f_Stretch_behind, Mt.fg_first, Mt.fg_behind, ↓x_eqSS, ↓x_neSS, ↓gKGet, ↓x_kget, ↓x_ixE, at_last, ↓x_appE, ↓x_tyE, ↓x_itE, ↓x_lenE, ↓x_nePr, ↓x_eqPr, ↓x_neE, ↓x_lenr, ↓x_lenrI, ↓gRev, ↓x_par3, ↓x_par33, ↓x_fld, ↓x_fset, ↓x_mkF, ↓x_mk, ↓x_meth, ↓x_fldO, ↓x_fsetE, ↓x_fldE, ↓x_methO, ↓x_isiCO, ↓x_isiCN, ↓x_isiCT, ↓x_isiCLi, ↓x_isiCS, ↓x_isiCI, ↓x_own, ↓x_eqT2, ↓x_neT2, ↓x_neL4, ↓x_eqLN, ↓x_neNil, ↓x_gset, ↓x_lc, ↓x_for, ↓x_it, ↓x_rn1, ↓x_rn2, ↓x_enu, ↓x_zip, ↓x_itS, ↓x_itL, ↓x_itK, ↓x_itT, ↓x_rn1I, ↓x_rn2I, ↓x_enuL, ↓x_enuK, ↓x_zipL, ↓x_ixS0, ↓x_ixL, ↓x_ixT, ↓x_ixK, x_at0, x_at1, x_at2, x_at3, x_at4, ↓x_set00, ↓x_set01, ↓x_set02, ↓x_aug1, ↓x_aug2, ↓x_aug3, ↓x_aug4, ↓x_aug5, ↓x_aug6, ↓x_aug7, ↓x_aug8, ↓x_aug9, ↓x_aug10, ↓x_aug11, ↓x_aug12, ↓x_aug13, ↓x_aug14, ↓x_aug15, ↓x_aug16, ↓x_aug17, ↓x_aug18, ↓x_aug19, ↓x_aug20, ↓x_aug21, ↓x_aug22, ↓x_aug23, Int.reduceToNat, Int.reducePow, ↓gSeq, ↓gIfS, ↓gSet, ↓gAsg, ↓x_par, ↓x_par2, ↓gRet, ↓gRetN, ↓gNext, ↓gDrop, ↓gBreak, ↓gCont, ↓gDead, ↓gCB, ↓gB2, ↓gU, ↓gC, ↓Dl.gCons, ↓Dl.gNil, ↓Dl.gTup, ↓Dl.gLst, ↓gTest, ↓gOrB, ↓gAndB, ↓gNotB, ↓gAndV, ↓gOrV, ↓gNotV, ↓gIf, ↓gIx, ↓gSl, ↓gPart, ↓gNoP, ↓gMt, ↓gCall, ↓gArgs, ↓gIsN, ↓gNotN, ↓gChain, ↓x_fmtS, ↓x_afS, ↓x_afI, ↓x_js0, ↓x_jsc, ↓gJoined, ↓gYes, ↓x_bnm, ↓x_btp, ↓x_bn, ↓x_bc, ↓x_nnN, ↓x_nnI, ↓x_nnS, ↓x_nnB, ↓x_nnT, ↓x_nnL, ↓x_nnO, ↓x_nnl, ↓x_tyS, ↓x_tyL, ↓x_i2, ↓aSub, ↓aFdiv, ↓aMod, ↓aPow, ↓aShr, ↓aLt, ↓aLe, ↓aGt, ↓aGe, ↓x_addI, ↓x_addS, ↓x_mulI, ↓x_iaddS, ↓x_iaddI, ↓x_neg, ↓x_eqI, ↓x_neI, ↓x_eqS, ↓x_neS, ↓x_eqB, ↓x_neB, ↓x_eqNI, ↓x_neNI, ↓x_lenS, ↓x_lenL_l, ↓x_lenL_k, ↓x_lenL_t, ↓x_str, ↓x_intI, ↓x_intB, ↓x_divmod, ↓x_max2, ↓x_min2, ↓x_ixS, ↓x_slS, ↓x_slT, ↓x_slL_l, ↓x_slL_k, ↓x_inS, ↓x_newT, ↓x_newF, ↓x_si, ↓x_s1, ↓x_s0, ↓x_rpart, ↓x_part, ↓x_a1, ↓x_a2, ↓x_isiStr, ↓x_isiInt, ↓x_isiIntB, ↓x_isiIntS, ↓x_isiBB, ↓x_isiBI, ↓x_isiStrI, ↓x_isiNonI, ↓x_isiNonS, ↓x_isiT, ↓x_isiL, ↓x_var0, ↓x_varS, ↓x_ex, ↓x_aug0, gat, pick, Option.some.injEq, D.bl.injEq, D.int.injEq, D.str.injEq, D.tup.injEq, D.lst.injEq, List.cons.injEq, and_true, true_and, List.set_cons_zero, List.set_cons_succ, List.length_cons, List.length_nil, List.filterMap_cons, List.filterMap_nil, List.getElem?_cons_zero, List.getElem?_cons_succ, Option.bind_some, ↓reduceIte, if_true, if_false, Bool.false_eq_true, Bool.true_eq_false, decide_eq_true_eq, beq_self_eq_true, Bool.not_true, Bool.not_false, Bool.not_eq_true', decide_eq_false_iff_not, exists_eq_left', exists_eq_left, exists_eq, ↓x_dnT, ↓x_dnF, ↓gAsgL, ↓gMMDef, ↓gDSet, ↓gSItems, ↓x_nilL, ↓x_nilE, List.isEmpty_nil, List.isEmpty_cons, Bool.true_xor, Bool.false_xor, ↓gOrT, ↓gAndT, ↓gTryAs, ↓gTryO, ↓gRaise, ↓gCallX, ↓gMethX, ↓gMakeX, ↓gFldX, ↓x_inXs, Bool.false_xor, Bool.true_xor, ↓gOrS, ↓gSortK]
  exact ⟨hp, h⟩
theorem rf_joined (T : Txt K mg a) : ∀ ds S q, D.unders S.length ds = true → Sto.under S.length S = true → sp_joined a ds S q → g_joined K a { nx := fun _ S' => fin S.length q .non S', rt := fin S.length q } (startD N_joined ds) S := by
  rintro ds S q hu hs ⟨P, apart, rfl, hP, h⟩
  rw [st_joined]
  simp only [g_joined, T.f_Stretch_first, T.f_Stretch_behind, Mt.fg_first, Mt.fg_behind, ↓x_eqSS, ↓x_neSS, ↓gKGet, ↓x_kget, ↓x_ixE, at_last, ↓x_appE, ↓x_tyE, ↓x_itE, ↓x_lenE, ↓x_nePr, ↓x_eqPr, ↓x_neE, ↓x_lenr, ↓x_lenrI, ↓gRev, ↓x_par3, ↓x_par33, ↓x_fld, ↓x_fset, ↓x_mkF, ↓x_mk, ↓x_meth, ↓x_fldO, ↓x_fsetE, ↓x_fldE, ↓x_methO, ↓x_isiCO, ↓x_isiCN, ↓x_isiCT, ↓x_isiCLi, ↓x_isiCS, ↓x_isiCI, ↓x_own, ↓x_eqT2, ↓x_neT2, ↓x_neL4, ↓x_eqLN, ↓x_neNil, ↓x_gset, ↓x_lc, ↓x_for, ↓x_it, ↓x_rn1, ↓x_rn2, ↓x_enu, ↓x_zip, ↓x_itS, ↓x_itL, ↓x_itK, ↓x_itT, ↓x_rn1I, ↓x_rn2I, ↓x_enuL, ↓x_enuK, ↓x_zipL, ↓x_ixS0, ↓x_ixL, ↓x_ixT, ↓x_ixK, x_at0, x_at1, x_at2, x_at3, x_at4, ↓x_set00, ↓x_set01, ↓x_set02, ↓x_aug1, ↓x_aug2, ↓x_aug3, ↓x_aug4, ↓x_aug5, ↓x_aug6, ↓x_aug7, ↓x_aug8, ↓x_aug9, ↓x_aug10, ↓x_aug11, ↓x_aug12, ↓x_aug13, ↓x_aug14, ↓x_aug15, ↓x_aug16, ↓x_aug17, ↓x_aug18, ↓x_aug19, ↓x_aug20, ↓x_aug21, ↓x_aug22, ↓x_aug23, Int.reduceToNat, Int.reducePow, ↓gSeq, ↓gIfS, ↓gSet, ↓gAsg, ↓x_par, ↓x_par2, ↓gRet, ↓gRetN, ↓gNext, ↓gDrop, ↓gBreak, ↓gCont, ↓gDead, ↓gCB, ↓gB2, ↓gU, ↓gC, ↓Dl.gCons, ↓Dl.gNil, ↓Dl.gTup, ↓Dl.gLst, ↓gTest, ↓gOrB, ↓gAndB, ↓gNotB, ↓gAndV, ↓gOrV, ↓gNotV, ↓gIf, ↓gIx, ↓gSl, ↓gPart, ↓gNoP, ↓gMt, ↓gCall, ↓gArgs, ↓gIsN, ↓gNotN, ↓gChain, ↓x_fmtS, ↓x_afS, ↓x_afI, ↓x_js0, ↓x_jsc, ↓gJoined, ↓gYes, ↓x_bnm, ↓x_btp, ↓x_bn, ↓x_bc, ↓x_nnN, ↓x_nnI, ↓x_nnS, ↓x_nnB, ↓x_nnT, ↓x_nnL, ↓x_nnO, ↓x_nnl, ↓x_tyS, ↓x_tyL, ↓x_i2, ↓aSub, ↓aFdiv, ↓aMod, ↓aPow, ↓aShr, ↓aLt, ↓aLe, ↓aGt, ↓aGe, ↓x_addI, ↓x_addS, ↓x_mulI, ↓x_iaddS, ↓x_iaddI, ↓x_neg, ↓x_eqI, ↓x_neI, ↓x_eqS, ↓x_neS, ↓x_eqB, ↓x_neB, ↓x_eqNI, ↓x_neNI, ↓x_lenS, ↓x_lenL_l, ↓x_lenL_k, ↓x_lenL_t, ↓x_str, ↓x_intI, ↓x_intB, ↓x_divmod, ↓x_max2, ↓x_min2, ↓x_ixS, ↓x_slS, ↓x_slT, ↓x_slL_l, ↓x_slL_k, ↓x_inS, ↓x_newT, ↓x_newF, ↓x_si, ↓x_s1, ↓x_s0, ↓x_rpart, ↓x_part, ↓x_a1, ↓x_a2, ↓x_isiStr, ↓x_isiInt, ↓x_isiIntB, ↓x_isiIntS, ↓x_isiBB, ↓x_isiBI, ↓x_isiStrI, ↓x_isiNonI, ↓x_isiNonS, ↓x_isiT, ↓x_isiL, ↓x_var0, ↓x_varS, ↓x_ex, ↓x_aug0, gat, pick, Option.some.injEq, D.bl.injEq, D.int.injEq, D.str.injEq, D.tup.injEq, D.lst.injEq, List.cons.injEq, and_true, true_and, List.set_cons_zero, List.set_cons_succ, List.length_cons, List.length_nil, List.filterMap_cons, List.filterMap_nil, List.getElem?_cons_zero, List.getElem?_cons_succ, Option.bind_some, ↓reduceIte, if_true, if_false, Bool.false_eq_true, Bool.true_eq_false, decide_eq_true_eq, beq_self_eq_true, Bool.not_true, Bool.not_false, Bool.not_eq_true', decide_eq_false_iff_not, exists_eq_left', exists_eq_left, exists_eq, ↓x_dnT, ↓x_dnF, ↓gAsgL, ↓gMMDef, ↓gDSet, ↓gSItems, ↓x_nilL, ↓x_nilE, List.isEmpty_nil, List.isEmpty_cons, Bool.true_xor, Bool.false_xor, ↓gOrT, ↓gAndT, ↓gTryAs, ↓gTryO, ↓gRaise, ↓gCallX, ↓gMethX, ↓gMakeX, ↓gFldX, ↓x_inXs, Bool.false_xor, Bool.true_xor, ↓gOrS, ↓gSortK]
  have hs' : 100000 ≤ sizeLine := by decide
  refine ⟨by decide, lc_on (fun p : Pr => if p.1 < p.2 then some (pD p) else none) trivial (by have := hP.1; omega) (fun x hx acc R hac hR => ⟨_, x_bnm, ?_⟩) ?_⟩
  · simp only [wipeD, T.f_Stretch_first, T.f_Stretch_behind, Mt.fg_first, Mt.fg_behind, ↓x_eqSS, ↓x_neSS, ↓gKGet, ↓x_kget, ↓x_ixE, at_last, ↓x_appE, ↓x_tyE, ↓x_itE, ↓x_lenE, ↓x_nePr, ↓x_eqPr, ↓x_neE, ↓x_lenr, ↓x_lenrI, ↓gRev, ↓x_par3, ↓x_par33, ↓x_fld, ↓x_fset, ↓x_mkF, ↓x_mk, ↓x_meth, ↓x_fldO, ↓x_fsetE, ↓x_fldE, ↓x_methO, ↓x_isiCO, ↓x_isiCN, ↓x_isiCT, ↓x_isiCLi, ↓x_isiCS, ↓x_isiCI, ↓x_own, ↓x_eqT2, ↓x_neT2, ↓x_neL4, ↓x_eqLN, ↓x_neNil, ↓x_gset, ↓x_lc, ↓x_for, ↓x_it, ↓x_rn1, ↓x_rn2, ↓x_enu, ↓x_zip, ↓x_itS, ↓x_itL, ↓x_itK, ↓x_itT, ↓x_rn1I, ↓x_rn2I, ↓x_enuL, ↓x_enuK, ↓x_zipL, ↓x_ixS0, ↓x_ixL, ↓x_ixT, ↓x_ixK, x_at0, x_at1, x_at2, x_at3, x_at4, ↓x_set00, ↓x_set01, ↓x_set02, ↓x_aug1, ↓x_aug2, ↓x_aug3, ↓x_aug4, ↓x_aug5, ↓x_aug6, ↓x_aug7, ↓x_aug8, ↓x_aug9, ↓x_aug10, ↓x_aug11, ↓x_aug12, ↓x_aug13, ↓x_aug14, ↓x_aug15, ↓x_aug16, ↓x_aug17, ↓x_aug18, ↓x_aug19, ↓x_aug20, ↓x_aug21, ↓x_aug22, ↓x_aug23, Int.reduceToNat, Int.reducePow, ↓gSeq, ↓gIfS, ↓gSet, ↓gAsg, ↓x_par, ↓x_par2, ↓gRet, ↓gRetN, ↓gNext, ↓gDrop, ↓gBreak, ↓gCont, ↓gDead, ↓gCB, ↓gB2, ↓gU, ↓gC, ↓Dl.gCons, ↓Dl.gNil, ↓Dl.gTup, ↓Dl.gLst, ↓gTest, ↓gOrB, ↓gAndB, ↓gNotB, ↓gAndV, ↓gOrV, ↓gNotV, ↓gIf, ↓gIx, ↓gSl, ↓gPart, ↓gNoP, ↓gMt, ↓gCall, ↓gArgs, ↓gIsN, ↓gNotN, ↓gChain, ↓x_fmtS, ↓x_afS, ↓x_afI, ↓x_js0, ↓x_jsc, ↓gJoined, ↓gYes, ↓x_bnm, ↓x_btp, ↓x_bn, ↓x_bc, ↓x_nnN, ↓x_nnI, ↓x_nnS, ↓x_nnB, ↓x_nnT, ↓x_nnL, ↓x_nnO, ↓x_nnl, ↓x_tyS, ↓x_tyL, ↓x_i2, ↓aSub, ↓aFdiv, ↓aMod, ↓aPow, ↓aShr, ↓aLt, ↓aLe, ↓aGt, ↓aGe, ↓x_addI, ↓x_addS, ↓x_mulI, ↓x_iaddS, ↓x_iaddI, ↓x_neg, ↓x_eqI, ↓x_neI, ↓x_eqS, ↓x_neS, ↓x_eqB, ↓x_neB, ↓x_eqNI, ↓x_neNI, ↓x_lenS, ↓x_lenL_l, ↓x_lenL_k, ↓x_lenL_t, ↓x_str, ↓x_intI, ↓x_intB, ↓x_divmod, ↓x_max2, ↓x_min2, ↓x_ixS, ↓x_slS, ↓x_slT, ↓x_slL_l, ↓x_slL_k, ↓x_inS, ↓x_newT, ↓x_newF, ↓x_si, ↓x_s1, ↓x_s0, ↓x_rpart, ↓x_part, ↓x_a1, ↓x_a2, ↓x_isiStr, ↓x_isiInt, ↓x_isiIntB, ↓x_isiIntS, ↓x_isiBB, ↓x_isiBI, ↓x_isiStrI, ↓x_isiNonI, ↓x_isiNonS, ↓x_isiT, ↓x_isiL, ↓x_var0, ↓x_varS, ↓x_ex, ↓x_aug0, gat, pick, Option.some.injEq, D.bl.injEq, D.int.injEq, D.str.injEq, D.tup.injEq, D.lst.injEq, List.cons.injEq, and_true, true_and, List.set_cons_zero, List.set_cons_succ, List.length_cons, List.length_nil, List.filterMap_cons, List.filterMap_nil, List.getElem?_cons_zero, List.getElem?_cons_succ, Option.bind_some, ↓reduceIte, if_true, if_false, Bool.false_eq_true, Bool.true_eq_false, decide_eq_true_eq, beq_self_eq_true, Bool.not_true, Bool.not_false, Bool.not_eq_true', decide_eq_false_iff_not, exists_eq_left', exists_eq_left, exists_eq, ↓x_dnT, ↓x_dnF, ↓gAsgL, ↓gMMDef, ↓gDSet, ↓gSItems, ↓x_nilL, ↓x_nilE, List.isEmpty_nil, List.isEmpty_cons, Bool.true_xor, Bool.false_xor, ↓gOrT, ↓gAndT, ↓gTryAs, ↓gTryO, ↓gRaise, ↓gCallX, ↓gMethX, ↓gMakeX, ↓gFldX, ↓x_inXs, Bool.false_xor, Bool.true_xor, ↓gOrS, ↓gSortK]
    refine ⟨⟨_, _, rfl⟩, x, rfl, by have := hP.2 x hx; omega, _, rfl, by omega, by have := hP.2 x hx; omega, ?_⟩
    simp only [T.f_Stretch_first, T.f_Stretch_behind, Mt.fg_first, Mt.fg_behind, ↓x_eqSS, ↓x_neSS, ↓gKGet, ↓x_kget, ↓x_ixE, at_last, ↓x_appE, ↓x_tyE, ↓x_itE, ↓x_lenE, ↓x_nePr, ↓x_eqPr, ↓x_neE, ↓x_lenr, ↓x_lenrI, ↓gRev, ↓x_par3, ↓x_par33, ↓x_fld, ↓x_fset, ↓x_mkF, ↓x_mk, ↓x_meth, ↓x_fldO, ↓x_fsetE, ↓x_fldE, ↓x_methO, ↓x_isiCO, ↓x_isiCN, ↓x_isiCT, ↓x_isiCLi, ↓x_isiCS, ↓x_isiCI, ↓x_own, ↓x_eqT2, ↓x_neT2, ↓x_neL4, ↓x_eqLN, ↓x_neNil, ↓x_gset, ↓x_lc, ↓x_for, ↓x_it, ↓x_rn1, ↓x_rn2, ↓x_enu, ↓x_zip, ↓x_itS, ↓x_itL, ↓x_itK, ↓x_itT, ↓x_rn1I, ↓x_rn2I, ↓x_enuL, ↓x_enuK, ↓x_zipL, ↓x_ixS0, ↓x_ixL, ↓x_ixT, ↓x_ixK, x_at0, x_at1, x_at2, x_at3, x_at4, ↓x_set00, ↓x_set01, ↓x_set02, ↓x_aug1, ↓x_aug2, ↓x_aug3, ↓x_aug4, ↓x_aug5, ↓x_aug6, ↓x_aug7, ↓x_aug8, ↓x_aug9, ↓x_aug10, ↓x_aug11, ↓x_aug12, ↓x_aug13, ↓x_aug14, ↓x_aug15, ↓x_aug16, ↓x_aug17, ↓x_aug18, ↓x_aug19, ↓x_aug20, ↓x_aug21, ↓x_aug22, ↓x_aug23, Int.reduceToNat, Int.reducePow, ↓gSeq, ↓gIfS, ↓gSet, ↓gAsg, ↓x_par, ↓x_par2, ↓gRet, ↓gRetN, ↓gNext, ↓gDrop, ↓gBreak, ↓gCont, ↓gDead, ↓gCB, ↓gB2, ↓gU, ↓gC, ↓Dl.gCons, ↓Dl.gNil, ↓Dl.gTup, ↓Dl.gLst, ↓gTest, ↓gOrB, ↓gAndB, ↓gNotB, ↓gAndV, ↓gOrV, ↓gNotV, ↓gIf, ↓gIx, ↓gSl, ↓gPart, ↓gNoP, ↓gMt, ↓gCall, ↓gArgs, ↓gIsN, ↓gNotN, ↓gChain, ↓x_fmtS, ↓x_afS, ↓x_afI, ↓x_js0, ↓x_jsc, ↓gJoined, ↓gYes, ↓x_bnm, ↓x_btp, ↓x_bn, ↓x_bc, ↓x_nnN, ↓x_nnI, ↓x_nnS, ↓x_nnB, ↓x_nnT, ↓x_nnL, ↓x_nnO, ↓x_nnl, ↓x_tyS, ↓x_tyL, ↓x_i2, ↓aSub, ↓aFdiv, ↓aMod, ↓aPow, ↓aShr, ↓aLt, ↓aLe, ↓aGt, ↓aGe, ↓x_addI, ↓x_addS, ↓x_mulI, ↓x_iaddS, ↓x_iaddI, ↓x_neg, ↓x_eqI, ↓x_neI, ↓x_eqS, ↓x_neS, ↓x_eqB, ↓x_neB, ↓x_eqNI, ↓x_neNI, ↓x_lenS, ↓x_lenL_l, ↓x_lenL_k, ↓x_lenL_t, ↓x_str, ↓x_intI, ↓x_intB, ↓x_divmod, ↓x_max2, ↓x_min2, ↓x_ixS, ↓x_slS, ↓x_slT, ↓x_slL_l, ↓x_slL_k, ↓x_inS, ↓x_newT, ↓x_newF, ↓x_si, ↓x_s1, ↓x_s0, ↓x_rpart, ↓x_part, ↓x_a1, ↓x_a2, ↓x_isiStr, ↓x_isiInt, ↓x_isiIntB, ↓x_isiIntS, ↓x_isiBB, ↓x_isiBI, ↓x_isiStrI, ↓x_isiNonI, ↓x_isiNonS, ↓x_isiT, ↓x_isiL, ↓x_var0, ↓x_varS, ↓x_ex, ↓x_aug0, gat, pick, Option.some.injEq, D.bl.injEq, D.int.injEq, D.str.injEq, D.tup.injEq, D.lst.injEq, List.cons.injEq, and_true, true_and, List.set_cons_zero, List.set_cons_succ, List.length_cons, List.length_nil, List.filterMap_cons, List.filterMap_nil, List.getElem?_cons_zero, List.getElem?_cons_succ, Option.bind_some, ↓reduceIte, if_true, if_false, Bool.false_eq_true, Bool.true_eq_false, decide_eq_true_eq, beq_self_eq_true, Bool.not_true, Bool.not_false, Bool.not_eq_true', decide_eq_false_iff_not, exists_eq_left', exists_eq_left, exists_eq, ↓x_dnT, ↓x_dnF, ↓gAsgL, ↓gMMDef, ↓gDSet, ↓gSItems, ↓x_nilL, ↓x_nilE, List.isEmpty_nil, List.isEmpty_cons, Bool.true_xor, Bool.false_xor, ↓gOrT, ↓gAndT, ↓gTryAs, ↓gTryO, ↓gRaise, ↓gCallX, ↓gMethX, ↓gMakeX, ↓gFldX, ↓x_inXs, Bool.false_xor, Bool.true_xor, ↓gOrS, ↓gSortK]
    by_cases hlt : x.1 < x.2
    · rw [if_pos hlt] at hR
      rw [if_pos (by omega)]
      exact ⟨by decide, hac, hR⟩
    · rw [if_neg hlt] at hR
      rw [if_neg (by omega)]
      simpa using hR
  · rw [x_newT, fm_if]
    refine x_sortedP ?_
    simp only [↓x_eqSS, ↓x_neSS, ↓gKGet, ↓x_kget, ↓x_ixE, at_last, ↓x_appE, ↓x_tyE, ↓x_itE, ↓x_lenE, ↓x_nePr, ↓x_eqPr, ↓x_neE, ↓x_lenr, ↓x_lenrI, ↓gRev, ↓x_par3, ↓x_par33, ↓x_fld, ↓x_fset, ↓x_mkF, ↓x_mk, ↓x_meth, ↓x_fldO, ↓x_fsetE, ↓x_fldE, ↓x_methO, ↓x_isiCO, ↓x_isiCN, ↓x_isiCT, ↓x_isiCLi, ↓x_isiCS, ↓x_isiCI, ↓x_own, ↓x_eqT2, ↓x_neT2, ↓x_neL4, ↓x_eqLN, ↓x_neNil, ↓x_gset, ↓x_lc, ↓x_for, ↓x_it, ↓x_rn1, ↓x_rn2, ↓x_enu, ↓x_zip, ↓x_itS, ↓x_itL, ↓x_itK, ↓x_itT, ↓x_rn1I, ↓x_rn2I, ↓x_enuL, ↓x_enuK, ↓x_zipL, ↓x_ixS0, ↓x_ixL, ↓x_ixT, ↓x_ixK, x_at0, x_at1, x_at2, x_at3, x_at4, ↓x_set00, ↓x_set01, ↓x_set02, ↓x_aug1, ↓x_aug2, ↓x_aug3, ↓x_aug4, ↓x_aug5, ↓x_aug6, ↓x_aug7, ↓x_aug8, ↓x_aug9, ↓x_aug10, ↓x_aug11, ↓x_aug12, ↓x_aug13, ↓x_aug14, ↓x_aug15, ↓x_aug16, ↓x_aug17, ↓x_aug18, ↓x_aug19, ↓x_aug20, ↓x_aug21, ↓x_aug22, ↓x_aug23, Int.reduceToNat, Int.reducePow, ↓gSeq, ↓gIfS, ↓gSet, ↓gAsg, ↓x_par, ↓x_par2, ↓gRet, ↓gRetN, ↓gNext, ↓gDrop, ↓gBreak, ↓gCont, ↓gDead, ↓gCB, ↓gB2, ↓gU, ↓gC, ↓Dl.gCons, ↓Dl.gNil, ↓Dl.gTup, ↓Dl.gLst, ↓gTest, ↓gOrB, ↓gAndB, ↓gNotB, ↓gAndV, ↓gOrV, ↓gNotV, ↓gIf, ↓gIx, ↓gSl, ↓gPart, ↓gNoP, ↓gMt, ↓gCall, ↓gArgs, ↓gIsN, ↓gNotN, ↓gChain, ↓x_fmtS, ↓x_afS, ↓x_afI, ↓x_js0, ↓x_jsc, ↓gJoined, ↓gYes, ↓x_bnm, ↓x_btp, ↓x_bn, ↓x_bc, ↓x_nnN, ↓x_nnI, ↓x_nnS, ↓x_nnB, ↓x_nnT, ↓x_nnL, ↓x_nnO, ↓x_nnl, ↓x_tyS, ↓x_tyL, ↓x_i2, ↓aSub, ↓aFdiv, ↓aMod, ↓aPow, ↓aShr, ↓aLt, ↓aLe, ↓aGt, ↓aGe, ↓x_addI, ↓x_addS, ↓x_mulI, ↓x_iaddS, ↓x_iaddI, ↓x_neg, ↓x_eqI, ↓x_neI, ↓x_eqS, ↓x_neS, ↓x_eqB, ↓x_neB, ↓x_eqNI, ↓x_neNI, ↓x_lenS, ↓x_lenL_l, ↓x_lenL_k, ↓x_lenL_t, ↓x_str, ↓x_intI, ↓x_intB, ↓x_divmod, ↓x_max2, ↓x_min2, ↓x_ixS, ↓x_slS, ↓x_slT, ↓x_slL_l, ↓x_slL_k, ↓x_inS, ↓x_newT, ↓x_newF, ↓x_si, ↓x_s1, ↓x_s0, ↓x_rpart, ↓x_part, ↓x_a1, ↓x_a2, ↓x_isiStr, ↓x_isiInt, ↓x_isiIntB, ↓x_isiIntS, ↓x_isiBB, ↓x_isiBI, ↓x_isiStrI, ↓x_isiNonI, ↓x_isiNonS, ↓x_isiT, ↓x_isiL, ↓x_var0, ↓x_varS, ↓x_ex, ↓x_aug0, gat, pick, Option.some.injEq, D.bl.injEq, D.int.injEq, D.str.injEq, D.tup.injEq, D.lst.injEq, List.cons.injEq, and_true, true_and, List.set_cons_zero, List.set_cons_succ, List.length_cons, List.length_nil, List.filterMap_cons, List.filterMap_nil, List.getElem?_cons_zero, List.getElem?_cons_succ, Option.bind_some, ↓reduceIte, if_true, if_false, Bool.false_eq_true, Bool.true_eq_false, decide_eq_true_eq, beq_self_eq_true, Bool.not_true, Bool.not_false, Bool.not_eq_true', decide_eq_false_iff_not, exists_eq_left', exists_eq_left, exists_eq, ↓x_dnT, ↓x_dnF, ↓gAsgL, ↓gMMDef, ↓gDSet, ↓gSItems, ↓x_nilL, ↓x_nilE, List.isEmpty_nil, List.isEmpty_cons, Bool.true_xor, Bool.false_xor, ↓gOrT, ↓gAndT, ↓gTryAs, ↓gTryO, ↓gRaise, ↓gCallX, ↓gMethX, ↓gMakeX, ↓gFldX, ↓x_inXs, Bool.false_xor, Bool.true_xor, ↓gOrS, ↓gSortK]
    have hQ := sorted_ok P
    have hJ : joinL P apart = (sortP (P.filter fun p => decide (p.1 < p.2))).foldl (joinStep apart) [] := rfl
    have hql : (sortP (P.filter fun p => decide (p.1 < p.2))).length ≤ 1000 := by
      have h1 := (sortP_perm (P.filter fun p => decide (p.1 < p.2))).length_eq
      have h2 := List.length_filter_le (fun p : Pr => decide (p.1 < p.2)) P
      have := hP.1
      omega
    revert hQ hJ hql
    generalize sortP (P.filter fun p => decide (p.1 < p.2)) = Q
    intro hQ hJ hql
    refine ⟨fun i ρ S' => S' = S ++ [some (.lst (((Q.take i).foldl (joinStep apart) []).map pD))] ∧ ∃ y3 y4, ρ = [some (.lst (P.map (sD a.C_Stretch))), some (.int apart), some (.loc S.length), y3, y4, none], ⟨rfl, _, _, rfl⟩, ?_, ?_⟩
    · rintro i d ρ S' hd ⟨rfl, y3, y4, rfl⟩
      rw [List.getElem?_map] at hd
      obtain ⟨x, hx, rfl⟩ := Option.map_eq_some_iff.mp hd
      have htake : Q.take (i + 1) = Q.take i ++ [x] := by rw [List.take_add_one, hx]; rfl
      have hi : i < Q.length := (List.getElem?_eq_some_iff.mp hx).1
      have hjl := join_len apart (Q.take i) []
      rw [List.length_take, List.length_nil] at hjl
      refine ⟨trivial, _, x_b2, ?_⟩
      simp only [htake, List.foldl_append, List.foldl_cons, List.foldl_nil]
      generalize (Q.take i).foldl (joinStep apart) [] = Fd at hjl
      simp only [↓x_eqSS, ↓x_neSS, ↓gKGet, ↓x_kget, ↓x_ixE, at_last, ↓x_appE, ↓x_tyE, ↓x_itE, ↓x_lenE, ↓x_nePr, ↓x_eqPr, ↓x_neE, ↓x_lenr, ↓x_lenrI, ↓gRev, ↓x_par3, ↓x_par33, ↓x_fld, ↓x_fset, ↓x_mkF, ↓x_mk, ↓x_meth, ↓x_fldO, ↓x_fsetE, ↓x_fldE, ↓x_methO, ↓x_isiCO, ↓x_isiCN, ↓x_isiCT, ↓x_isiCLi, ↓x_isiCS, ↓x_isiCI, ↓x_own, ↓x_eqT2, ↓x_neT2, ↓x_neL4, ↓x_eqLN, ↓x_neNil, ↓x_gset, ↓x_lc, ↓x_for, ↓x_it, ↓x_rn1, ↓x_rn2, ↓x_enu, ↓x_zip, ↓x_itS, ↓x_itL, ↓x_itK, ↓x_itT, ↓x_rn1I, ↓x_rn2I, ↓x_enuL, ↓x_enuK, ↓x_zipL, ↓x_ixS0, ↓x_ixL, ↓x_ixT, ↓x_ixK, x_at0, x_at1, x_at2, x_at3, x_at4, ↓x_set00, ↓x_set01, ↓x_set02, ↓x_aug1, ↓x_aug2, ↓x_aug3, ↓x_aug4, ↓x_aug5, ↓x_aug6, ↓x_aug7, ↓x_aug8, ↓x_aug9, ↓x_aug10, ↓x_aug11, ↓x_aug12, ↓x_aug13, ↓x_aug14, ↓x_aug15, ↓x_aug16, ↓x_aug17, ↓x_aug18, ↓x_aug19, ↓x_aug20, ↓x_aug21, ↓x_aug22, ↓x_aug23, Int.reduceToNat, Int.reducePow, ↓gSeq, ↓gIfS, ↓gSet, ↓gAsg, ↓x_par, ↓x_par2, ↓gRet, ↓gRetN, ↓gNext, ↓gDrop, ↓gBreak, ↓gCont, ↓gDead, ↓gCB, ↓gB2, ↓gU, ↓gC, ↓Dl.gCons, ↓Dl.gNil, ↓Dl.gTup, ↓Dl.gLst, ↓gTest, ↓gOrB, ↓gAndB, ↓gNotB, ↓gAndV, ↓gOrV, ↓gNotV, ↓gIf, ↓gIx, ↓gSl, ↓gPart, ↓gNoP, ↓gMt, ↓gCall, ↓gArgs, ↓gIsN, ↓gNotN, ↓gChain, ↓x_fmtS, ↓x_afS, ↓x_afI, ↓x_js0, ↓x_jsc, ↓gJoined, ↓gYes, ↓x_bnm, ↓x_btp, ↓x_bn, ↓x_bc, ↓x_nnN, ↓x_nnI, ↓x_nnS, ↓x_nnB, ↓x_nnT, ↓x_nnL, ↓x_nnO, ↓x_nnl, ↓x_tyS, ↓x_tyL, ↓x_i2, ↓aSub, ↓aFdiv, ↓aMod, ↓aPow, ↓aShr, ↓aLt, ↓aLe, ↓aGt, ↓aGe, ↓x_addI, ↓x_addS, ↓x_mulI, ↓x_iaddS, ↓x_iaddI, ↓x_neg, ↓x_eqI, ↓x_neI, ↓x_eqS, ↓x_neS, ↓x_eqB, ↓x_neB, ↓x_eqNI, ↓x_neNI, ↓x_lenS, ↓x_lenL_l, ↓x_lenL_k, ↓x_lenL_t, ↓x_str, ↓x_intI, ↓x_intB, ↓x_divmod, ↓x_max2, ↓x_min2, ↓x_ixS, ↓x_slS, ↓x_slT, ↓x_slL_l, ↓x_slL_k, ↓x_inS, ↓x_newT, ↓x_newF, ↓x_si, ↓x_s1, ↓x_s0, ↓x_rpart, ↓x_part, ↓x_a1, ↓x_a2, ↓x_isiStr, ↓x_isiInt, ↓x_isiIntB, ↓x_isiIntS, ↓x_isiBB, ↓x_isiBI, ↓x_isiStrI, ↓x_isiNonI, ↓x_isiNonS, ↓x_isiT, ↓x_isiL, ↓x_var0, ↓x_varS, ↓x_ex, ↓x_aug0, gat, pick, Option.some.injEq, D.bl.injEq, D.int.injEq, D.str.injEq, D.tup.injEq, D.lst.injEq, List.cons.injEq, and_true, true_and, List.set_cons_zero, List.set_cons_succ, List.length_cons, List.length_nil, List.filterMap_cons, List.filterMap_nil, List.getElem?_cons_zero, List.getElem?_cons_succ, Option.bind_some, ↓reduceIte, if_true, if_false, Bool.false_eq_true, Bool.true_eq_false, decide_eq_true_eq, beq_self_eq_true, Bool.not_true, Bool.not_false, Bool.not_eq_true', decide_eq_false_iff_not, exists_eq_left', exists_eq_left, exists_eq, ↓x_dnT, ↓x_dnF, ↓gAsgL, ↓gMMDef, ↓gDSet, ↓gSItems, ↓x_nilL, ↓x_nilE, List.isEmpty_nil, List.isEmpty_cons, Bool.true_xor, Bool.false_xor, ↓gOrT, ↓gAndT, ↓gTryAs, ↓gTryO, ↓gRaise, ↓gCallX, ↓gMethX, ↓gMakeX, ↓gFldX, ↓x_inXs, Bool.false_xor, Bool.true_xor, ↓gOrS, ↓gSortK]
      refine ⟨by decide, ?_⟩
      rcases last_or Fd with rfl | ⟨M, l, rfl⟩
      · rw [if_neg (by decide)]
        refine ⟨by decide, by rw [List.length_map]; omega, ?_⟩
        simp [joinStep]
      · have e0 : ((M ++ [l]).map pD).getLast? = some (pD l) := by simp
        rw [if_pos (by simp), joinStep_snoc]
        refine ⟨pD l, e0, ?_⟩
        simp only [↓x_eqSS, ↓x_neSS, ↓gKGet, ↓x_kget, ↓x_ixE, at_last, ↓x_appE, ↓x_tyE, ↓x_itE, ↓x_lenE, ↓x_nePr, ↓x_eqPr, ↓x_neE, ↓x_lenr, ↓x_lenrI, ↓gRev, ↓x_par3, ↓x_par33, ↓x_fld, ↓x_fset, ↓x_mkF, ↓x_mk, ↓x_meth, ↓x_fldO, ↓x_fsetE, ↓x_fldE, ↓x_methO, ↓x_isiCO, ↓x_isiCN, ↓x_isiCT, ↓x_isiCLi, ↓x_isiCS, ↓x_isiCI, ↓x_own, ↓x_eqT2, ↓x_neT2, ↓x_neL4, ↓x_eqLN, ↓x_neNil, ↓x_gset, ↓x_lc, ↓x_for, ↓x_it, ↓x_rn1, ↓x_rn2, ↓x_enu, ↓x_zip, ↓x_itS, ↓x_itL, ↓x_itK, ↓x_itT, ↓x_rn1I, ↓x_rn2I, ↓x_enuL, ↓x_enuK, ↓x_zipL, ↓x_ixS0, ↓x_ixL, ↓x_ixT, ↓x_ixK, x_at0, x_at1, x_at2, x_at3, x_at4, ↓x_set00, ↓x_set01, ↓x_set02, ↓x_aug1, ↓x_aug2, ↓x_aug3, ↓x_aug4, ↓x_aug5, ↓x_aug6, ↓x_aug7, ↓x_aug8, ↓x_aug9, ↓x_aug10, ↓x_aug11, ↓x_aug12, ↓x_aug13, ↓x_aug14, ↓x_aug15, ↓x_aug16, ↓x_aug17, ↓x_aug18, ↓x_aug19, ↓x_aug20, ↓x_aug21, ↓x_aug22, ↓x_aug23, Int.reduceToNat, Int.reducePow, ↓gSeq, ↓gIfS, ↓gSet, ↓gAsg, ↓x_par, ↓x_par2, ↓gRet, ↓gRetN, ↓gNext, ↓gDrop, ↓gBreak, ↓gCont, ↓gDead, ↓gCB, ↓gB2, ↓gU, ↓gC, ↓Dl.gCons, ↓Dl.gNil, ↓Dl.gTup, ↓Dl.gLst, ↓gTest, ↓gOrB, ↓gAndB, ↓gNotB, ↓gAndV, ↓gOrV, ↓gNotV, ↓gIf, ↓gIx, ↓gSl, ↓gPart, ↓gNoP, ↓gMt, ↓gCall, ↓gArgs, ↓gIsN, ↓gNotN, ↓gChain, ↓x_fmtS, ↓x_afS, ↓x_afI, ↓x_js0, ↓x_jsc, ↓gJoined, ↓gYes, ↓x_bnm, ↓x_btp, ↓x_bn, ↓x_bc, ↓x_nnN, ↓x_nnI, ↓x_nnS, ↓x_nnB, ↓x_nnT, ↓x_nnL, ↓x_nnO, ↓x_nnl, ↓x_tyS, ↓x_tyL, ↓x_i2, ↓aSub, ↓aFdiv, ↓aMod, ↓aPow, ↓aShr, ↓aLt, ↓aLe, ↓aGt, ↓aGe, ↓x_addI, ↓x_addS, ↓x_mulI, ↓x_iaddS, ↓x_iaddI, ↓x_neg, ↓x_eqI, ↓x_neI, ↓x_eqS, ↓x_neS, ↓x_eqB, ↓x_neB, ↓x_eqNI, ↓x_neNI, ↓x_lenS, ↓x_lenL_l, ↓x_lenL_k, ↓x_lenL_t, ↓x_str, ↓x_intI, ↓x_intB, ↓x_divmod, ↓x_max2, ↓x_min2, ↓x_ixS, ↓x_slS, ↓x_slT, ↓x_slL_l, ↓x_slL_k, ↓x_inS, ↓x_newT, ↓x_newF, ↓x_si, ↓x_s1, ↓x_s0, ↓x_rpart, ↓x_part, ↓x_a1, ↓x_a2, ↓x_isiStr, ↓x_isiInt, ↓x_isiIntB, ↓x_isiIntS, ↓x_isiBB, ↓x_isiBI, ↓x_isiStrI, ↓x_isiNonI, ↓x_isiNonS, ↓x_isiT, ↓x_isiL, ↓x_var0, ↓x_varS, ↓x_ex, ↓x_aug0, gat, pick, Option.some.injEq, D.bl.injEq, D.int.injEq, D.str.injEq, D.tup.injEq, D.lst.injEq, List.cons.injEq, and_true, true_and, List.set_cons_zero, List.set_cons_succ, List.length_cons, List.length_nil, List.filterMap_cons, List.filterMap_nil, List.getElem?_cons_zero, List.getElem?_cons_succ, Option.bind_some, ↓reduceIte, if_true, if_false, Bool.false_eq_true, Bool.true_eq_false, decide_eq_true_eq, beq_self_eq_true, Bool.not_true, Bool.not_false, Bool.not_eq_true', decide_eq_false_iff_not, exists_eq_left', exists_eq_left, exists_eq, ↓x_dnT, ↓x_dnF, ↓gAsgL, ↓gMMDef, ↓gDSet, ↓gSItems, ↓x_nilL, ↓x_nilE, List.isEmpty_nil, List.isEmpty_cons, Bool.true_xor, Bool.false_xor, ↓gOrT, ↓gAndT, ↓gTryAs, ↓gTryO, ↓gRaise, ↓gCallX, ↓gMethX, ↓gMakeX, ↓gFldX, ↓x_inXs, Bool.false_xor, Bool.true_xor, ↓gOrS, ↓gSortK]
        by_cases hc : x.1 - l.2 ≤ apart
        · rw [if_pos hc, if_pos hc]
          refine ⟨_, e0, ?_⟩
          simp only [↓x_eqSS, ↓x_neSS, ↓gKGet, ↓x_kget, ↓x_ixE, at_last, ↓x_appE, ↓x_tyE, ↓x_itE, ↓x_lenE, ↓x_nePr, ↓x_eqPr, ↓x_neE, ↓x_lenr, ↓x_lenrI, ↓gRev, ↓x_par3, ↓x_par33, ↓x_fld, ↓x_fset, ↓x_mkF, ↓x_mk, ↓x_meth, ↓x_fldO, ↓x_fsetE, ↓x_fldE, ↓x_methO, ↓x_isiCO, ↓x_isiCN, ↓x_isiCT, ↓x_isiCLi, ↓x_isiCS, ↓x_isiCI, ↓x_own, ↓x_eqT2, ↓x_neT2, ↓x_neL4, ↓x_eqLN, ↓x_neNil, ↓x_gset, ↓x_lc, ↓x_for, ↓x_it, ↓x_rn1, ↓x_rn2, ↓x_enu, ↓x_zip, ↓x_itS, ↓x_itL, ↓x_itK, ↓x_itT, ↓x_rn1I, ↓x_rn2I, ↓x_enuL, ↓x_enuK, ↓x_zipL, ↓x_ixS0, ↓x_ixL, ↓x_ixT, ↓x_ixK, x_at0, x_at1, x_at2, x_at3, x_at4, ↓x_set00, ↓x_set01, ↓x_set02, ↓x_aug1, ↓x_aug2, ↓x_aug3, ↓x_aug4, ↓x_aug5, ↓x_aug6, ↓x_aug7, ↓x_aug8, ↓x_aug9, ↓x_aug10, ↓x_aug11, ↓x_aug12, ↓x_aug13, ↓x_aug14, ↓x_aug15, ↓x_aug16, ↓x_aug17, ↓x_aug18, ↓x_aug19, ↓x_aug20, ↓x_aug21, ↓x_aug22, ↓x_aug23, Int.reduceToNat, Int.reducePow, ↓gSeq, ↓gIfS, ↓gSet, ↓gAsg, ↓x_par, ↓x_par2, ↓gRet, ↓gRetN, ↓gNext, ↓gDrop, ↓gBreak, ↓gCont, ↓gDead, ↓gCB, ↓gB2, ↓gU, ↓gC, ↓Dl.gCons, ↓Dl.gNil, ↓Dl.gTup, ↓Dl.gLst, ↓gTest, ↓gOrB, ↓gAndB, ↓gNotB, ↓gAndV, ↓gOrV, ↓gNotV, ↓gIf, ↓gIx, ↓gSl, ↓gPart, ↓gNoP, ↓gMt, ↓gCall, ↓gArgs, ↓gIsN, ↓gNotN, ↓gChain, ↓x_fmtS, ↓x_afS, ↓x_afI, ↓x_js0, ↓x_jsc, ↓gJoined, ↓gYes, ↓x_bnm, ↓x_btp, ↓x_bn, ↓x_bc, ↓x_nnN, ↓x_nnI, ↓x_nnS, ↓x_nnB, ↓x_nnT, ↓x_nnL, ↓x_nnO, ↓x_nnl, ↓x_tyS, ↓x_tyL, ↓x_i2, ↓aSub, ↓aFdiv, ↓aMod, ↓aPow, ↓aShr, ↓aLt, ↓aLe, ↓aGt, ↓aGe, ↓x_addI, ↓x_addS, ↓x_mulI, ↓x_iaddS, ↓x_iaddI, ↓x_neg, ↓x_eqI, ↓x_neI, ↓x_eqS, ↓x_neS, ↓x_eqB, ↓x_neB, ↓x_eqNI, ↓x_neNI, ↓x_lenS, ↓x_lenL_l, ↓x_lenL_k, ↓x_lenL_t, ↓x_str, ↓x_intI, ↓x_intB, ↓x_divmod, ↓x_max2, ↓x_min2, ↓x_ixS, ↓x_slS, ↓x_slT, ↓x_slL_l, ↓x_slL_k, ↓x_inS, ↓x_newT, ↓x_newF, ↓x_si, ↓x_s1, ↓x_s0, ↓x_rpart, ↓x_part, ↓x_a1, ↓x_a2, ↓x_isiStr, ↓x_isiInt, ↓x_isiIntB, ↓x_isiIntS, ↓x_isiBB, ↓x_isiBI, ↓x_isiStrI, ↓x_isiNonI, ↓x_isiNonS, ↓x_isiT, ↓x_isiL, ↓x_var0, ↓x_varS, ↓x_ex, ↓x_aug0, gat, pick, Option.some.injEq, D.bl.injEq, D.int.injEq, D.str.injEq, D.tup.injEq, D.lst.injEq, List.cons.injEq, and_true, true_and, List.set_cons_zero, List.set_cons_succ, List.length_cons, List.length_nil, List.filterMap_cons, List.filterMap_nil, List.getElem?_cons_zero, List.getElem?_cons_succ, Option.bind_some, ↓reduceIte, if_true, if_false, Bool.false_eq_true, Bool.true_eq_false, decide_eq_true_eq, beq_self_eq_true, Bool.not_true, Bool.not_false, Bool.not_eq_true', decide_eq_false_iff_not, exists_eq_left', exists_eq_left, exists_eq, ↓x_dnT, ↓x_dnF, ↓gAsgL, ↓gMMDef, ↓gDSet, ↓gSItems, ↓x_nilL, ↓x_nilE, List.isEmpty_nil, List.isEmpty_cons, Bool.true_xor, Bool.false_xor, ↓gOrT, ↓gAndT, ↓gTryAs, ↓gTryO, ↓gRaise, ↓gCallX, ↓gMethX, ↓gMakeX, ↓gFldX, ↓x_inXs, Bool.false_xor, Bool.true_xor, ↓gOrS, ↓gSortK]
          refine ⟨_, e0, ?_⟩
          simp only [↓x_eqSS, ↓x_neSS, ↓gKGet, ↓x_kget, ↓x_ixE, at_last, ↓x_appE, ↓x_tyE, ↓x_itE, ↓x_lenE, ↓x_nePr, ↓x_eqPr, ↓x_neE, ↓x_lenr, ↓x_lenrI, ↓gRev, ↓x_par3, ↓x_par33, ↓x_fld, ↓x_fset, ↓x_mkF, ↓x_mk, ↓x_meth, ↓x_fldO, ↓x_fsetE, ↓x_fldE, ↓x_methO, ↓x_isiCO, ↓x_isiCN, ↓x_isiCT, ↓x_isiCLi, ↓x_isiCS, ↓x_isiCI, ↓x_own, ↓x_eqT2, ↓x_neT2, ↓x_neL4, ↓x_eqLN, ↓x_neNil, ↓x_gset, ↓x_lc, ↓x_for, ↓x_it, ↓x_rn1, ↓x_rn2, ↓x_enu, ↓x_zip, ↓x_itS, ↓x_itL, ↓x_itK, ↓x_itT, ↓x_rn1I, ↓x_rn2I, ↓x_enuL, ↓x_enuK, ↓x_zipL, ↓x_ixS0, ↓x_ixL, ↓x_ixT, ↓x_ixK, x_at0, x_at1, x_at2, x_at3, x_at4, ↓x_set00, ↓x_set01, ↓x_set02, ↓x_aug1, ↓x_aug2, ↓x_aug3, ↓x_aug4, ↓x_aug5, ↓x_aug6, ↓x_aug7, ↓x_aug8, ↓x_aug9, ↓x_aug10, ↓x_aug11, ↓x_aug12, ↓x_aug13, ↓x_aug14, ↓x_aug15, ↓x_aug16, ↓x_aug17, ↓x_aug18, ↓x_aug19, ↓x_aug20, ↓x_aug21, ↓x_aug22, ↓x_aug23, Int.reduceToNat, Int.reducePow, ↓gSeq, ↓gIfS, ↓gSet, ↓gAsg, ↓x_par, ↓x_par2, ↓gRet, ↓gRetN, ↓gNext, ↓gDrop, ↓gBreak, ↓gCont, ↓gDead, ↓gCB, ↓gB2, ↓gU, ↓gC, ↓Dl.gCons, ↓Dl.gNil, ↓Dl.gTup, ↓Dl.gLst, ↓gTest, ↓gOrB, ↓gAndB, ↓gNotB, ↓gAndV, ↓gOrV, ↓gNotV, ↓gIf, ↓gIx, ↓gSl, ↓gPart, ↓gNoP, ↓gMt, ↓gCall, ↓gArgs, ↓gIsN, ↓gNotN, ↓gChain, ↓x_fmtS, ↓x_afS, ↓x_afI, ↓x_js0, ↓x_jsc, ↓gJoined, ↓gYes, ↓x_bnm, ↓x_btp, ↓x_bn, ↓x_bc, ↓x_nnN, ↓x_nnI, ↓x_nnS, ↓x_nnB, ↓x_nnT, ↓x_nnL, ↓x_nnO, ↓x_nnl, ↓x_tyS, ↓x_tyL, ↓x_i2, ↓aSub, ↓aFdiv, ↓aMod, ↓aPow, ↓aShr, ↓aLt, ↓aLe, ↓aGt, ↓aGe, ↓x_addI, ↓x_addS, ↓x_mulI, ↓x_iaddS, ↓x_iaddI, ↓x_neg, ↓x_eqI, ↓x_neI, ↓x_eqS, ↓x_neS, ↓x_eqB, ↓x_neB, ↓x_eqNI, ↓x_neNI, ↓x_lenS, ↓x_lenL_l, ↓x_lenL_k, ↓x_lenL_t, ↓x_str, ↓x_intI, ↓x_intB, ↓x_divmod, ↓x_max2, ↓x_min2, ↓x_ixS, ↓x_slS, ↓x_slT, ↓x_slL_l, ↓x_slL_k, ↓x_inS, ↓x_newT, ↓x_newF, ↓x_si, ↓x_s1, ↓x_s0, ↓x_rpart, ↓x_part, ↓x_a1, ↓x_a2, ↓x_isiStr, ↓x_isiInt, ↓x_isiIntB, ↓x_isiIntS, ↓x_isiBB, ↓x_isiBI, ↓x_isiStrI, ↓x_isiNonI, ↓x_isiNonS, ↓x_isiT, ↓x_isiL, ↓x_var0, ↓x_varS, ↓x_ex, ↓x_aug0, gat, pick, Option.some.injEq, D.bl.injEq, D.int.injEq, D.str.injEq, D.tup.injEq, D.lst.injEq, List.cons.injEq, and_true, true_and, List.set_cons_zero, List.set_cons_succ, List.length_cons, List.length_nil, List.filterMap_cons, List.filterMap_nil, List.getElem?_cons_zero, List.getElem?_cons_succ, Option.bind_some, ↓reduceIte, if_true, if_false, Bool.false_eq_true, Bool.true_eq_false, decide_eq_true_eq, beq_self_eq_true, Bool.not_true, Bool.not_false, Bool.not_eq_true', decide_eq_false_iff_not, exists_eq_left', exists_eq_left, exists_eq, ↓x_dnT, ↓x_dnF, ↓gAsgL, ↓gMMDef, ↓gDSet, ↓gSItems, ↓x_nilL, ↓x_nilE, List.isEmpty_nil, List.isEmpty_cons, Bool.true_xor, Bool.false_xor, ↓gOrT, ↓gAndT, ↓gTryAs, ↓gTryO, ↓gRaise, ↓gCallX, ↓gMethX, ↓gMakeX, ↓gFldX, ↓x_inXs, Bool.false_xor, Bool.true_xor, ↓gOrS, ↓gSortK]
          refine ⟨by decide, (x_setLE e0).mpr ?_⟩
          simp
        · rw [if_neg hc, if_neg hc]
          refine ⟨by decide, by rw [List.length_map]; omega, ?_⟩
          simp
    · rintro ρ S' ⟨rfl, y3, y4, rfl⟩
      refine ⟨trivial, ?_⟩
      simp only [List.length_map, List.take_length, ← hJ, ↓x_eqSS, ↓x_neSS, ↓gKGet, ↓x_kget, ↓x_ixE, at_last, ↓x_appE, ↓x_tyE, ↓x_itE, ↓x_lenE, ↓x_nePr, ↓x_eqPr, ↓x_neE, ↓x_lenr, ↓x_lenrI, ↓gRev, ↓x_par3, ↓x_par33, ↓x_fld, ↓x_fset, ↓x_mkF, ↓x_mk, ↓x_meth, ↓x_fldO, ↓x_fsetE, ↓x_fldE, ↓x_methO, ↓x_isiCO, ↓x_isiCN, ↓x_isiCT, ↓x_isiCLi, ↓x_isiCS, ↓x_isiCI, ↓x_own, ↓x_eqT2, ↓x_neT2, ↓x_neL4, ↓x_eqLN, ↓x_neNil, ↓x_gset, ↓x_lc, ↓x_for, ↓x_it, ↓x_rn1, ↓x_rn2, ↓x_enu, ↓x_zip, ↓x_itS, ↓x_itL, ↓x_itK, ↓x_itT, ↓x_rn1I, ↓x_rn2I, ↓x_enuL, ↓x_enuK, ↓x_zipL, ↓x_ixS0, ↓x_ixL, ↓x_ixT, ↓x_ixK, x_at0, x_at1, x_at2, x_at3, x_at4, ↓x_set00, ↓x_set01, ↓x_set02, ↓x_aug1, ↓x_aug2, ↓x_aug3, ↓x_aug4, ↓x_aug5, ↓x_aug6, ↓x_aug7, ↓x_aug8, ↓x_aug9, ↓x_aug10, ↓x_aug11, ↓x_aug12, ↓x_aug13, ↓x_aug14, ↓x_aug15, ↓x_aug16, ↓x_aug17, ↓x_aug18, ↓x_aug19, ↓x_aug20, ↓x_aug21, ↓x_aug22, ↓x_aug23, Int.reduceToNat, Int.reducePow, ↓gSeq, ↓gIfS, ↓gSet, ↓gAsg, ↓x_par, ↓x_par2, ↓gRet, ↓gRetN, ↓gNext, ↓gDrop, ↓gBreak, ↓gCont, ↓gDead, ↓gCB, ↓gB2, ↓gU, ↓gC, ↓Dl.gCons, ↓Dl.gNil, ↓Dl.gTup, ↓Dl.gLst, ↓gTest, ↓gOrB, ↓gAndB, ↓gNotB, ↓gAndV, ↓gOrV, ↓gNotV, ↓gIf, ↓gIx, ↓gSl, ↓gPart, ↓gNoP, ↓gMt, ↓gCall, ↓gArgs, ↓gIsN, ↓gNotN, ↓gChain, ↓x_fmtS, ↓x_afS, ↓x_afI, ↓x_js0, ↓x_jsc, ↓gJoined, ↓gYes, ↓x_bnm, ↓x_btp, ↓x_bn, ↓x_bc, ↓x_nnN, ↓x_nnI, ↓x_nnS, ↓x_nnB, ↓x_nnT, ↓x_nnL, ↓x_nnO, ↓x_nnl, ↓x_tyS, ↓x_tyL, ↓x_i2, ↓aSub, ↓aFdiv, ↓aMod, ↓aPow, ↓aShr, ↓aLt, ↓aLe, ↓aGt, ↓aGe, ↓x_addI, ↓x_addS, ↓x_mulI, ↓x_iaddS, ↓x_iaddI, ↓x_neg, ↓x_eqI, ↓x_neI, ↓x_eqS, ↓x_neS, ↓x_eqB, ↓x_neB, ↓x_eqNI, ↓x_neNI, ↓x_lenS, ↓x_lenL_l, ↓x_lenL_k, ↓x_lenL_t, ↓x_str, ↓x_intI, ↓x_intB, ↓x_divmod, ↓x_max2, ↓x_min2, ↓x_ixS, ↓x_slS, ↓x_slT, ↓x_slL_l, ↓x_slL_k, ↓x_inS, ↓x_newT, ↓x_newF, ↓x_si, ↓x_s1, ↓x_s0, ↓x_rpart, ↓x_part, ↓x_a1, ↓x_a2, ↓x_isiStr, ↓x_isiInt, ↓x_isiIntB, ↓x_isiIntS, ↓x_isiBB, ↓x_isiBI, ↓x_isiStrI, ↓x_isiNonI, ↓x_isiNonS, ↓x_isiT, ↓x_isiL, ↓x_var0, ↓x_varS, ↓x_ex, ↓x_aug0, gat, pick, Option.some.injEq, D.bl.injEq, D.int.injEq, D.str.injEq, D.tup.injEq, D.lst.injEq, List.cons.injEq, and_true, true_and, List.set_cons_zero, List.set_cons_succ, List.length_cons, List.length_nil, List.filterMap_cons, List.filterMap_nil, List.getElem?_cons_zero, List.getElem?_cons_succ, Option.bind_some, ↓reduceIte, if_true, if_false, Bool.false_eq_true, Bool.true_eq_false, decide_eq_true_eq, beq_self_eq_true, Bool.not_true, Bool.not_false, Bool.not_eq_true', decide_eq_false_iff_not, exists_eq_left', exists_eq_left, exists_eq, ↓x_dnT, ↓x_dnF, ↓gAsgL, ↓gMMDef, ↓gDSet, ↓gSItems, ↓x_nilL, ↓x_nilE, List.isEmpty_nil, List.isEmpty_cons, Bool.true_xor, Bool.false_xor, ↓gOrT, ↓gAndT, ↓gTryAs, ↓gTryO, ↓gRaise, ↓gCallX, ↓gMethX, ↓gMakeX, ↓gFldX, ↓x_inXs, Bool.false_xor, Bool.true_xor, ↓gOrS, ↓gSortK]
      have hJl : (joinL P apart).length ≤ 1000 := by have := joinL_len P apart; have := hP.1; omega
      refine lc_on (fun p : Pr => some (sD a.C_Stretch p)) (by simp [seqOf]) (by omega) (fun x hx acc R hac hR => ⟨_, x_b2, ?_⟩) ?_
      · simp only [wipeD, ↓x_eqSS, ↓x_neSS, ↓gKGet, ↓x_kget, ↓x_ixE, at_last, ↓x_appE, ↓x_tyE, ↓x_itE, ↓x_lenE, ↓x_nePr, ↓x_eqPr, ↓x_neE, ↓x_lenr, ↓x_lenrI, ↓gRev, ↓x_par3, ↓x_par33, ↓x_fld, ↓x_fset, ↓x_mkF, ↓x_mk, ↓x_meth, ↓x_fldO, ↓x_fsetE, ↓x_fldE, ↓x_methO, ↓x_isiCO, ↓x_isiCN, ↓x_isiCT, ↓x_isiCLi, ↓x_isiCS, ↓x_isiCI, ↓x_own, ↓x_eqT2, ↓x_neT2, ↓x_neL4, ↓x_eqLN, ↓x_neNil, ↓x_gset, ↓x_lc, ↓x_for, ↓x_it, ↓x_rn1, ↓x_rn2, ↓x_enu, ↓x_zip, ↓x_itS, ↓x_itL, ↓x_itK, ↓x_itT, ↓x_rn1I, ↓x_rn2I, ↓x_enuL, ↓x_enuK, ↓x_zipL, ↓x_ixS0, ↓x_ixL, ↓x_ixT, ↓x_ixK, x_at0, x_at1, x_at2, x_at3, x_at4, ↓x_set00, ↓x_set01, ↓x_set02, ↓x_aug1, ↓x_aug2, ↓x_aug3, ↓x_aug4, ↓x_aug5, ↓x_aug6, ↓x_aug7, ↓x_aug8, ↓x_aug9, ↓x_aug10, ↓x_aug11, ↓x_aug12, ↓x_aug13, ↓x_aug14, ↓x_aug15, ↓x_aug16, ↓x_aug17, ↓x_aug18, ↓x_aug19, ↓x_aug20, ↓x_aug21, ↓x_aug22, ↓x_aug23, Int.reduceToNat, Int.reducePow, ↓gSeq, ↓gIfS, ↓gSet, ↓gAsg, ↓x_par, ↓x_par2, ↓gRet, ↓gRetN, ↓gNext, ↓gDrop, ↓gBreak, ↓gCont, ↓gDead, ↓gCB, ↓gB2, ↓gU, ↓gC, ↓Dl.gCons, ↓Dl.gNil, ↓Dl.gTup, ↓Dl.gLst, ↓gTest, ↓gOrB, ↓gAndB, ↓gNotB, ↓gAndV, ↓gOrV, ↓gNotV, ↓gIf, ↓gIx, ↓gSl, ↓gPart, ↓gNoP, ↓gMt, ↓gCall, ↓gArgs, ↓gIsN, ↓gNotN, ↓gChain, ↓x_fmtS, ↓x_afS, ↓x_afI, ↓x_js0, ↓x_jsc, ↓gJoined, ↓gYes, ↓x_bnm, ↓x_btp, ↓x_bn, ↓x_bc, ↓x_nnN, ↓x_nnI, ↓x_nnS, ↓x_nnB, ↓x_nnT, ↓x_nnL, ↓x_nnO, ↓x_nnl, ↓x_tyS, ↓x_tyL, ↓x_i2, ↓aSub, ↓aFdiv, ↓aMod, ↓aPow, ↓aShr, ↓aLt, ↓aLe, ↓aGt, ↓aGe, ↓x_addI, ↓x_addS, ↓x_mulI, ↓x_iaddS, ↓x_iaddI, ↓x_neg, ↓x_eqI, ↓x_neI, ↓x_eqS, ↓x_neS, ↓x_eqB, ↓x_neB, ↓x_eqNI, ↓x_neNI, ↓x_lenS, ↓x_lenL_l, ↓x_lenL_k, ↓x_lenL_t, ↓x_str, ↓x_intI, ↓x_intB, ↓x_divmod, ↓x_max2, ↓x_min2, ↓x_ixS, ↓x_slS, ↓x_slT, ↓x_slL_l, ↓x_slL_k, ↓x_inS, ↓x_newT, ↓x_newF, ↓x_si, ↓x_s1, ↓x_s0, ↓x_rpart, ↓x_part, ↓x_a1, ↓x_a2, ↓x_isiStr, ↓x_isiInt, ↓x_isiIntB, ↓x_isiIntS, ↓x_isiBB, ↓x_isiBI, ↓x_isiStrI, ↓x_isiNonI, ↓x_isiNonS, ↓x_isiT, ↓x_isiL, ↓x_var0, ↓x_varS, ↓x_ex, ↓x_aug0, gat, pick, Option.some.injEq, D.bl.injEq, D.int.injEq, D.str.injEq, D.tup.injEq, D.lst.injEq, List.cons.injEq, and_true, true_and, List.set_cons_zero, List.set_cons_succ, List.length_cons, List.length_nil, List.filterMap_cons, List.filterMap_nil, List.getElem?_cons_zero, List.getElem?_cons_succ, Option.bind_some, ↓reduceIte, if_true, if_false, Bool.false_eq_true, Bool.true_eq_false, decide_eq_true_eq, beq_self_eq_true, Bool.not_true, Bool.not_false, Bool.not_eq_true', decide_eq_false_iff_not, exists_eq_left', exists_eq_left, exists_eq, ↓x_dnT, ↓x_dnF, ↓gAsgL, ↓gMMDef, ↓gDSet, ↓gSItems, ↓x_nilL, ↓x_nilE, List.isEmpty_nil, List.isEmpty_cons, Bool.true_xor, Bool.false_xor, ↓gOrT, ↓gAndT, ↓gTryAs, ↓gTryO, ↓gRaise, ↓gCallX, ↓gMethX, ↓gMakeX, ↓gFldX, ↓x_inXs, Bool.false_xor, Bool.true_xor, ↓gOrS, ↓gSortK]
        exact Mt.st_makeK (Int.le_of_lt (joinL_lt P apart x hx)) ⟨hac, hR⟩
      · rw [x_newT, fm_some]
        exact (x_finL hs).mpr ⟨und_ob, h⟩
theorem read_gaps (T : Txt K mg a) (P : List Pr) (w : Pr) (S : Sto) (nx : Env_ → Sto → Prop) (rt : D → Sto → Prop) (hP : Sml P) (h : rt (.loc S.length) (S ++ [some (.lst ((gapsL P w).map (sD a.C_Stretch)))])) : g_gaps K a { nx := nx, rt := rt } (startD N_gaps [.lst (P.map (sD a.C_Stretch)), sD a.C_Stretch w]) S := by
  rw [st_gaps]
  simp only [g_gaps, T.f_Stretch_first, T.f_Stretch_behind, Mt.fg_first, Mt.fg_behind, ↓x_eqSS, ↓x_neSS, ↓gKGet, ↓x_kget, ↓x_ixE, at_last, ↓x_appE, ↓x_tyE, ↓x_itE, ↓x_lenE, ↓x_nePr, ↓x_eqPr, ↓x_neE, ↓x_lenr, ↓x_lenrI, ↓gRev, ↓x_par3, ↓x_par33, ↓x_fld, ↓x_fset, ↓x_mkF, ↓x_mk, ↓x_meth, ↓x_fldO, ↓x_fsetE, ↓x_fldE, ↓x_methO, ↓x_isiCO, ↓x_isiCN, ↓x_isiCT, ↓x_isiCLi, ↓x_isiCS, ↓x_isiCI, ↓x_own, ↓x_eqT2, ↓x_neT2, ↓x_neL4, ↓x_eqLN, ↓x_neNil, ↓x_gset, ↓x_lc, ↓x_for, ↓x_it, ↓x_rn1, ↓x_rn2, ↓x_enu, ↓x_zip, ↓x_itS, ↓x_itL, ↓x_itK, ↓x_itT, ↓x_rn1I, ↓x_rn2I, ↓x_enuL, ↓x_enuK, ↓x_zipL, ↓x_ixS0, ↓x_ixL, ↓x_ixT, ↓x_ixK, x_at0, x_at1, x_at2, x_at3, x_at4, ↓x_set00, ↓x_set01, ↓x_set02, ↓x_aug1, ↓x_aug2, ↓x_aug3, ↓x_aug4, ↓x_aug5, ↓x_aug6, ↓x_aug7, ↓x_aug8, ↓x_aug9, ↓x_aug10, ↓x_aug11, ↓x_aug12, ↓x_aug13, ↓x_aug14, ↓x_aug15, ↓x_aug16, ↓x_aug17, ↓x_aug18, ↓x_aug19, ↓x_aug20, ↓x_aug21, ↓x_aug22, ↓x_aug23, Int.reduceToNat, Int.reducePow, ↓gSeq, ↓gIfS, ↓gSet, ↓gAsg, ↓x_par, ↓x_par2, ↓gRet, ↓gRetN, ↓gNext, ↓gDrop, ↓gBreak, ↓gCont, ↓gDead, ↓gCB, ↓gB2, ↓gU, ↓gC, ↓Dl.gCons, ↓Dl.gNil, ↓Dl.gTup, ↓Dl.gLst, ↓gTest, ↓gOrB, ↓gAndB, ↓gNotB, ↓gAndV, ↓gOrV, ↓gNotV, ↓gIf, ↓gIx, ↓gSl, ↓gPart, ↓gNoP, ↓gMt, ↓gCall, ↓gArgs, ↓gIsN, ↓gNotN, ↓gChain, ↓x_fmtS, ↓x_afS, ↓x_afI, ↓x_js0, ↓x_jsc, ↓gJoined, ↓gYes, ↓x_bnm, ↓x_btp, ↓x_bn, ↓x_bc, ↓x_nnN, ↓x_nnI, ↓x_nnS, ↓x_nnB, ↓x_nnT, ↓x_nnL, ↓x_nnO, ↓x_nnl, ↓x_tyS, ↓x_tyL, ↓x_i2, ↓aSub, ↓aFdiv, ↓aMod, ↓aPow, ↓aShr, ↓aLt, ↓aLe, ↓aGt, ↓aGe, ↓x_addI, ↓x_addS, ↓x_mulI, ↓x_iaddS, ↓x_iaddI, ↓x_neg, ↓x_eqI, ↓x_neI, ↓x_eqS, ↓x_neS, ↓x_eqB, ↓x_neB, ↓x_eqNI, ↓x_neNI, ↓x_lenS, ↓x_lenL_l, ↓x_lenL_k, ↓x_lenL_t, ↓x_str, ↓x_intI, ↓x_intB, ↓x_divmod, ↓x_max2, ↓x_min2, ↓x_ixS, ↓x_slS, ↓x_slT, ↓x_slL_l, ↓x_slL_k, ↓x_inS, ↓x_newT, ↓x_newF, ↓x_si, ↓x_s1, ↓x_s0, ↓x_rpart, ↓x_part, ↓x_a1, ↓x_a2, ↓x_isiStr, ↓x_isiInt, ↓x_isiIntB, ↓x_isiIntS, ↓x_isiBB, ↓x_isiBI, ↓x_isiStrI, ↓x_isiNonI, ↓x_isiNonS, ↓x_isiT, ↓x_isiL, ↓x_var0, ↓x_varS, ↓x_ex, ↓x_aug0, gat, pick, Option.some.injEq, D.bl.injEq, D.int.injEq, D.str.injEq, D.tup.injEq, D.lst.injEq, List.cons.injEq, and_true, true_and, List.set_cons_zero, List.set_cons_succ, List.length_cons, List.length_nil, List.filterMap_cons, List.filterMap_nil, List.getElem?_cons_zero, List.getElem?_cons_succ, Option.bind_some, ↓reduceIte, if_true, if_false, Bool.false_eq_true, Bool.true_eq_false, decide_eq_true_eq, beq_self_eq_true, Bool.not_true, Bool.not_false, Bool.not_eq_true', decide_eq_false_iff_not, exists_eq_left', exists_eq_left, exists_eq, ↓x_dnT, ↓x_dnF, ↓gAsgL, ↓gMMDef, ↓gDSet, ↓gSItems, ↓x_nilL, ↓x_nilE, List.isEmpty_nil, List.isEmpty_cons, Bool.true_xor, Bool.false_xor, ↓gOrT, ↓gAndT, ↓gTryAs, ↓gTryO, ↓gRaise, ↓gCallX, ↓gMethX, ↓gMakeX, ↓gFldX, ↓x_inXs, Bool.false_xor, Bool.true_xor, ↓gOrS, ↓gSortK]
  have hs' : 100000 ≤ sizeLine := by decide
  refine ⟨by decide, P, 0, rfl, hP, ?_⟩
  simp only [↓x_eqSS, ↓x_neSS, ↓gKGet, ↓x_kget, ↓x_ixE, at_last, ↓x_appE, ↓x_tyE, ↓x_itE, ↓x_lenE, ↓x_nePr, ↓x_eqPr, ↓x_neE, ↓x_lenr, ↓x_lenrI, ↓gRev, ↓x_par3, ↓x_par33, ↓x_fld, ↓x_fset, ↓x_mkF, ↓x_mk, ↓x_meth, ↓x_fldO, ↓x_fsetE, ↓x_fldE, ↓x_methO, ↓x_isiCO, ↓x_isiCN, ↓x_isiCT, ↓x_isiCLi, ↓x_isiCS, ↓x_isiCI, ↓x_own, ↓x_eqT2, ↓x_neT2, ↓x_neL4, ↓x_eqLN, ↓x_neNil, ↓x_gset, ↓x_lc, ↓x_for, ↓x_it, ↓x_rn1, ↓x_rn2, ↓x_enu, ↓x_zip, ↓x_itS, ↓x_itL, ↓x_itK, ↓x_itT, ↓x_rn1I, ↓x_rn2I, ↓x_enuL, ↓x_enuK, ↓x_zipL, ↓x_ixS0, ↓x_ixL, ↓x_ixT, ↓x_ixK, x_at0, x_at1, x_at2, x_at3, x_at4, ↓x_set00, ↓x_set01, ↓x_set02, ↓x_aug1, ↓x_aug2, ↓x_aug3, ↓x_aug4, ↓x_aug5, ↓x_aug6, ↓x_aug7, ↓x_aug8, ↓x_aug9, ↓x_aug10, ↓x_aug11, ↓x_aug12, ↓x_aug13, ↓x_aug14, ↓x_aug15, ↓x_aug16, ↓x_aug17, ↓x_aug18, ↓x_aug19, ↓x_aug20, ↓x_aug21, ↓x_aug22, ↓x_aug23, Int.reduceToNat, Int.reducePow, ↓gSeq, ↓gIfS, ↓gSet, ↓gAsg, ↓x_par, ↓x_par2, ↓gRet, ↓gRetN, ↓gNext, ↓gDrop, ↓gBreak, ↓gCont, ↓gDead, ↓gCB, ↓gB2, ↓gU, ↓gC, ↓Dl.gCons, ↓Dl.gNil, ↓Dl.gTup, ↓Dl.gLst, ↓gTest, ↓gOrB, ↓gAndB, ↓gNotB, ↓gAndV, ↓gOrV, ↓gNotV, ↓gIf, ↓gIx, ↓gSl, ↓gPart, ↓gNoP, ↓gMt, ↓gCall, ↓gArgs, ↓gIsN, ↓gNotN, ↓gChain, ↓x_fmtS, ↓x_afS, ↓x_afI, ↓x_js0, ↓x_jsc, ↓gJoined, ↓gYes, ↓x_bnm, ↓x_btp, ↓x_bn, ↓x_bc, ↓x_nnN, ↓x_nnI, ↓x_nnS, ↓x_nnB, ↓x_nnT, ↓x_nnL, ↓x_nnO, ↓x_nnl, ↓x_tyS, ↓x_tyL, ↓x_i2, ↓aSub, ↓aFdiv, ↓aMod, ↓aPow, ↓aShr, ↓aLt, ↓aLe, ↓aGt, ↓aGe, ↓x_addI, ↓x_addS, ↓x_mulI, ↓x_iaddS, ↓x_iaddI, ↓x_neg, ↓x_eqI, ↓x_neI, ↓x_eqS, ↓x_neS, ↓x_eqB, ↓x_neB, ↓x_eqNI, ↓x_neNI, ↓x_lenS, ↓x_lenL_l, ↓x_lenL_k, ↓x_lenL_t, ↓x_str, ↓x_intI, ↓x_intB, ↓x_divmod, ↓x_max2, ↓x_min2, ↓x_ixS, ↓x_slS, ↓x_slT, ↓x_slL_l, ↓x_slL_k, ↓x_inS, ↓x_newT, ↓x_newF, ↓x_si, ↓x_s1, ↓x_s0, ↓x_rpart, ↓x_part, ↓x_a1, ↓x_a2, ↓x_isiStr, ↓x_isiInt, ↓x_isiIntB, ↓x_isiIntS, ↓x_isiBB, ↓x_isiBI, ↓x_isiStrI, ↓x_isiNonI, ↓x_isiNonS, ↓x_isiT, ↓x_isiL, ↓x_var0, ↓x_varS, ↓x_ex, ↓x_aug0, gat, pick, Option.some.injEq, D.bl.injEq, D.int.injEq, D.str.injEq, D.tup.injEq, D.lst.injEq, List.cons.injEq, and_true, true_and, List.set_cons_zero, List.set_cons_succ, List.length_cons, List.length_nil, List.filterMap_cons, List.filterMap_nil, List.getElem?_cons_zero, List.getElem?_cons_succ, Option.bind_some, ↓reduceIte, if_true, if_false, Bool.false_eq_true, Bool.true_eq_false, decide_eq_true_eq, beq_self_eq_true, Bool.not_true, Bool.not_false, Bool.not_eq_true', decide_eq_false_iff_not, exists_eq_left', exists_eq_left, exists_eq, ↓x_dnT, ↓x_dnF, ↓gAsgL, ↓gMMDef, ↓gDSet, ↓gSItems, ↓x_nilL, ↓x_nilE, List.isEmpty_nil, List.isEmpty_cons, Bool.true_xor, Bool.false_xor, ↓gOrT, ↓gAndT, ↓gTryAs, ↓gTryO, ↓gRaise, ↓gCallX, ↓gMethX, ↓gMakeX, ↓gFldX, ↓x_inXs, Bool.false_xor, Bool.true_xor, ↓gOrS, ↓gSortK]
  have hJl : (joinL P 0).length ≤ 1000 := by have := joinL_len P 0; have := hP.1; omega
  unfold gapsL at h
  generalize joinL P 0 = J at h hJl ⊢
  refine ⟨fun i ρ S' => S' = S ++ [some (.lst (((J.take i).foldl (gapStep w.2) ([], w.1)).1.map (sD a.C_Stretch)))] ∧ ∃ y4 y5, ρ = [some (.lst (P.map (sD a.C_Stretch))), some (sD a.C_Stretch w), some (.loc S.length), some (.int ((J.take i).foldl (gapStep w.2) ([], w.1)).2), y4, y5], ⟨rfl, _, _, rfl⟩, ?_, ?_⟩
  · rintro i d ρ S' hd ⟨rfl, y4, y5, rfl⟩
    rw [List.getElem?_map] at hd
    obtain ⟨x, hx, rfl⟩ := Option.map_eq_some_iff.mp hd
    have htake : J.take (i + 1) = J.take i ++ [x] := by rw [List.take_add_one, hx]; rfl
    have hi : i < J.length := (List.getElem?_eq_some_iff.mp hx).1
    have hjl := gap_len w.2 (J.take i) ([], w.1)
    rw [List.length_take, List.length_nil] at hjl
    refine ⟨trivial, _, x_bnm, ?_⟩
    simp only [htake, List.foldl_append, List.foldl_cons, List.foldl_nil]
    generalize (J.take i).foldl (gapStep w.2) ([], w.1) = st at hjl
    simp only [T.f_Stretch_first, T.f_Stretch_behind, Mt.fg_first, Mt.fg_behind, gapStep, ↓x_eqSS, ↓x_neSS, ↓gKGet, ↓x_kget, ↓x_ixE, at_last, ↓x_appE, ↓x_tyE, ↓x_itE, ↓x_lenE, ↓x_nePr, ↓x_eqPr, ↓x_neE, ↓x_lenr, ↓x_lenrI, ↓gRev, ↓x_par3, ↓x_par33, ↓x_fld, ↓x_fset, ↓x_mkF, ↓x_mk, ↓x_meth, ↓x_fldO, ↓x_fsetE, ↓x_fldE, ↓x_methO, ↓x_isiCO, ↓x_isiCN, ↓x_isiCT, ↓x_isiCLi, ↓x_isiCS, ↓x_isiCI, ↓x_own, ↓x_eqT2, ↓x_neT2, ↓x_neL4, ↓x_eqLN, ↓x_neNil, ↓x_gset, ↓x_lc, ↓x_for, ↓x_it, ↓x_rn1, ↓x_rn2, ↓x_enu, ↓x_zip, ↓x_itS, ↓x_itL, ↓x_itK, ↓x_itT, ↓x_rn1I, ↓x_rn2I, ↓x_enuL, ↓x_enuK, ↓x_zipL, ↓x_ixS0, ↓x_ixL, ↓x_ixT, ↓x_ixK, x_at0, x_at1, x_at2, x_at3, x_at4, ↓x_set00, ↓x_set01, ↓x_set02, ↓x_aug1, ↓x_aug2, ↓x_aug3, ↓x_aug4, ↓x_aug5, ↓x_aug6, ↓x_aug7, ↓x_aug8, ↓x_aug9, ↓x_aug10, ↓x_aug11, ↓x_aug12, ↓x_aug13, ↓x_aug14, ↓x_aug15, ↓x_aug16, ↓x_aug17, ↓x_aug18, ↓x_aug19, ↓x_aug20, ↓x_aug21, ↓x_aug22, ↓x_aug23, Int.reduceToNat, Int.reducePow, ↓gSeq, ↓gIfS, ↓gSet, ↓gAsg, ↓x_par, ↓x_par2, ↓gRet, ↓gRetN, ↓gNext, ↓gDrop, ↓gBreak, ↓gCont, ↓gDead, ↓gCB, ↓gB2, ↓gU, ↓gC, ↓Dl.gCons, ↓Dl.gNil, ↓Dl.gTup, ↓Dl.gLst, ↓gTest, ↓gOrB, ↓gAndB, ↓gNotB, ↓gAndV, ↓gOrV, ↓gNotV, ↓gIf, ↓gIx, ↓gSl, ↓gPart, ↓gNoP, ↓gMt, ↓gCall, ↓gArgs, ↓gIsN, ↓gNotN, ↓gChain, ↓x_fmtS, ↓x_afS, ↓x_afI, ↓x_js0, ↓x_jsc, ↓gJoined, ↓gYes, ↓x_bnm, ↓x_btp, ↓x_bn, ↓x_bc, ↓x_nnN, ↓x_nnI, ↓x_nnS, ↓x_nnB, ↓x_nnT, ↓x_nnL, ↓x_nnO, ↓x_nnl, ↓x_tyS, ↓x_tyL, ↓x_i2, ↓aSub, ↓aFdiv, ↓aMod, ↓aPow, ↓aShr, ↓aLt, ↓aLe, ↓aGt, ↓aGe, ↓x_addI, ↓x_addS, ↓x_mulI, ↓x_iaddS, ↓x_iaddI, ↓x_neg, ↓x_eqI, ↓x_neI, ↓x_eqS, ↓x_neS, ↓x_eqB, ↓x_neB, ↓x_eqNI, ↓x_neNI, ↓x_lenS, ↓x_lenL_l, ↓x_lenL_k, ↓x_lenL_t, ↓x_str, ↓x_intI, ↓x_intB, ↓x_divmod, ↓x_max2, ↓x_min2, ↓x_ixS, ↓x_slS, ↓x_slT, ↓x_slL_l, ↓x_slL_k, ↓x_inS, ↓x_newT, ↓x_newF, ↓x_si, ↓x_s1, ↓x_s0, ↓x_rpart, ↓x_part, ↓x_a1, ↓x_a2, ↓x_isiStr, ↓x_isiInt, ↓x_isiIntB, ↓x_isiIntS, ↓x_isiBB, ↓x_isiBI, ↓x_isiStrI, ↓x_isiNonI, ↓x_isiNonS, ↓x_isiT, ↓x_isiL, ↓x_var0, ↓x_varS, ↓x_ex, ↓x_aug0, gat, pick, Option.some.injEq, D.bl.injEq, D.int.injEq, D.str.injEq, D.tup.injEq, D.lst.injEq, List.cons.injEq, and_true, true_and, List.set_cons_zero, List.set_cons_succ, List.length_cons, List.length_nil, List.filterMap_cons, List.filterMap_nil, List.getElem?_cons_zero, List.getElem?_cons_succ, Option.bind_some, ↓reduceIte, if_true, if_false, Bool.false_eq_true, Bool.true_eq_false, decide_eq_true_eq, beq_self_eq_true, Bool.not_true, Bool.not_false, Bool.not_eq_true', decide_eq_false_iff_not, exists_eq_left', exists_eq_left, exists_eq, ↓x_dnT, ↓x_dnF, ↓gAsgL, ↓gMMDef, ↓gDSet, ↓gSItems, ↓x_nilL, ↓x_nilE, List.isEmpty_nil, List.isEmpty_cons, Bool.true_xor, Bool.false_xor, ↓gOrT, ↓gAndT, ↓gTryAs, ↓gTryO, ↓gRaise, ↓gCallX, ↓gMethX, ↓gMakeX, ↓gFldX, ↓x_inXs, Bool.false_xor, Bool.true_xor, ↓gOrS, ↓gSortK]
    by_cases hc : st.2 < min x.1 w.2
    · rw [if_pos hc, if_pos hc]
      refine Mt.st_make (Int.le_of_lt hc) ?_
      simp only [T.f_Stretch_first, T.f_Stretch_behind, Mt.fg_first, Mt.fg_behind, ↓x_eqSS, ↓x_neSS, ↓gKGet, ↓x_kget, ↓x_ixE, at_last, ↓x_appE, ↓x_tyE, ↓x_itE, ↓x_lenE, ↓x_nePr, ↓x_eqPr, ↓x_neE, ↓x_lenr, ↓x_lenrI, ↓gRev, ↓x_par3, ↓x_par33, ↓x_fld, ↓x_fset, ↓x_mkF, ↓x_mk, ↓x_meth, ↓x_fldO, ↓x_fsetE, ↓x_fldE, ↓x_methO, ↓x_isiCO, ↓x_isiCN, ↓x_isiCT, ↓x_isiCLi, ↓x_isiCS, ↓x_isiCI, ↓x_own, ↓x_eqT2, ↓x_neT2, ↓x_neL4, ↓x_eqLN, ↓x_neNil, ↓x_gset, ↓x_lc, ↓x_for, ↓x_it, ↓x_rn1, ↓x_rn2, ↓x_enu, ↓x_zip, ↓x_itS, ↓x_itL, ↓x_itK, ↓x_itT, ↓x_rn1I, ↓x_rn2I, ↓x_enuL, ↓x_enuK, ↓x_zipL, ↓x_ixS0, ↓x_ixL, ↓x_ixT, ↓x_ixK, x_at0, x_at1, x_at2, x_at3, x_at4, ↓x_set00, ↓x_set01, ↓x_set02, ↓x_aug1, ↓x_aug2, ↓x_aug3, ↓x_aug4, ↓x_aug5, ↓x_aug6, ↓x_aug7, ↓x_aug8, ↓x_aug9, ↓x_aug10, ↓x_aug11, ↓x_aug12, ↓x_aug13, ↓x_aug14, ↓x_aug15, ↓x_aug16, ↓x_aug17, ↓x_aug18, ↓x_aug19, ↓x_aug20, ↓x_aug21, ↓x_aug22, ↓x_aug23, Int.reduceToNat, Int.reducePow, ↓gSeq, ↓gIfS, ↓gSet, ↓gAsg, ↓x_par, ↓x_par2, ↓gRet, ↓gRetN, ↓gNext, ↓gDrop, ↓gBreak, ↓gCont, ↓gDead, ↓gCB, ↓gB2, ↓gU, ↓gC, ↓Dl.gCons, ↓Dl.gNil, ↓Dl.gTup, ↓Dl.gLst, ↓gTest, ↓gOrB, ↓gAndB, ↓gNotB, ↓gAndV, ↓gOrV, ↓gNotV, ↓gIf, ↓gIx, ↓gSl, ↓gPart, ↓gNoP, ↓gMt, ↓gCall, ↓gArgs, ↓gIsN, ↓gNotN, ↓gChain, ↓x_fmtS, ↓x_afS, ↓x_afI, ↓x_js0, ↓x_jsc, ↓gJoined, ↓gYes, ↓x_bnm, ↓x_btp, ↓x_bn, ↓x_bc, ↓x_nnN, ↓x_nnI, ↓x_nnS, ↓x_nnB, ↓x_nnT, ↓x_nnL, ↓x_nnO, ↓x_nnl, ↓x_tyS, ↓x_tyL, ↓x_i2, ↓aSub, ↓aFdiv, ↓aMod, ↓aPow, ↓aShr, ↓aLt, ↓aLe, ↓aGt, ↓aGe, ↓x_addI, ↓x_addS, ↓x_mulI, ↓x_iaddS, ↓x_iaddI, ↓x_neg, ↓x_eqI, ↓x_neI, ↓x_eqS, ↓x_neS, ↓x_eqB, ↓x_neB, ↓x_eqNI, ↓x_neNI, ↓x_lenS, ↓x_lenL_l, ↓x_lenL_k, ↓x_lenL_t, ↓x_str, ↓x_intI, ↓x_intB, ↓x_divmod, ↓x_max2, ↓x_min2, ↓x_ixS, ↓x_slS, ↓x_slT, ↓x_slL_l, ↓x_slL_k, ↓x_inS, ↓x_newT, ↓x_newF, ↓x_si, ↓x_s1, ↓x_s0, ↓x_rpart, ↓x_part, ↓x_a1, ↓x_a2, ↓x_isiStr, ↓x_isiInt, ↓x_isiIntB, ↓x_isiIntS, ↓x_isiBB, ↓x_isiBI, ↓x_isiStrI, ↓x_isiNonI, ↓x_isiNonS, ↓x_isiT, ↓x_isiL, ↓x_var0, ↓x_varS, ↓x_ex, ↓x_aug0, gat, pick, Option.some.injEq, D.bl.injEq, D.int.injEq, D.str.injEq, D.tup.injEq, D.lst.injEq, List.cons.injEq, and_true, true_and, List.set_cons_zero, List.set_cons_succ, List.length_cons, List.length_nil, List.filterMap_cons, List.filterMap_nil, List.getElem?_cons_zero, List.getElem?_cons_succ, Option.bind_some, ↓reduceIte, if_true, if_false, Bool.false_eq_true, Bool.true_eq_false, decide_eq_true_eq, beq_self_eq_true, Bool.not_true, Bool.not_false, Bool.not_eq_true', decide_eq_false_iff_not, exists_eq_left', exists_eq_left, exists_eq, ↓x_dnT, ↓x_dnF, ↓gAsgL, ↓gMMDef, ↓gDSet, ↓gSItems, ↓x_nilL, ↓x_nilE, List.isEmpty_nil, List.isEmpty_cons, Bool.true_xor, Bool.false_xor, ↓gOrT, ↓gAndT, ↓gTryAs, ↓gTryO, ↓gRaise, ↓gCallX, ↓gMethX, ↓gMakeX, ↓gFldX, ↓x_inXs, Bool.false_xor, Bool.true_xor, ↓gOrS, ↓gSortK]
      refine ⟨by rw [List.length_map]; omega, ?_⟩
      simp
    · rw [if_neg hc, if_neg hc]
      exact ⟨rfl, _, _, rfl, rfl⟩
  · rintro ρ S' ⟨rfl, y4, y5, rfl⟩
    refine ⟨trivial, ?_⟩
    rw [List.length_map, List.take_length]
    have hjl := gap_len w.2 J ([], w.1)
    rw [List.length_nil] at hjl
    generalize J.foldl (gapStep w.2) ([], w.1) = st at h hjl
    simp only [T.f_Stretch_first, T.f_Stretch_behind, Mt.fg_first, Mt.fg_behind, ↓x_eqSS, ↓x_neSS, ↓gKGet, ↓x_kget, ↓x_ixE, at_last, ↓x_appE, ↓x_tyE, ↓x_itE, ↓x_lenE, ↓x_nePr, ↓x_eqPr, ↓x_neE, ↓x_lenr, ↓x_lenrI, ↓gRev, ↓x_par3, ↓x_par33, ↓x_fld, ↓x_fset, ↓x_mkF, ↓x_mk, ↓x_meth, ↓x_fldO, ↓x_fsetE, ↓x_fldE, ↓x_methO, ↓x_isiCO, ↓x_isiCN, ↓x_isiCT, ↓x_isiCLi, ↓x_isiCS, ↓x_isiCI, ↓x_own, ↓x_eqT2, ↓x_neT2, ↓x_neL4, ↓x_eqLN, ↓x_neNil, ↓x_gset, ↓x_lc, ↓x_for, ↓x_it, ↓x_rn1, ↓x_rn2, ↓x_enu, ↓x_zip, ↓x_itS, ↓x_itL, ↓x_itK, ↓x_itT, ↓x_rn1I, ↓x_rn2I, ↓x_enuL, ↓x_enuK, ↓x_zipL, ↓x_ixS0, ↓x_ixL, ↓x_ixT, ↓x_ixK, x_at0, x_at1, x_at2, x_at3, x_at4, ↓x_set00, ↓x_set01, ↓x_set02, ↓x_aug1, ↓x_aug2, ↓x_aug3, ↓x_aug4, ↓x_aug5, ↓x_aug6, ↓x_aug7, ↓x_aug8, ↓x_aug9, ↓x_aug10, ↓x_aug11, ↓x_aug12, ↓x_aug13, ↓x_aug14, ↓x_aug15, ↓x_aug16, ↓x_aug17, ↓x_aug18, ↓x_aug19, ↓x_aug20, ↓x_aug21, ↓x_aug22, ↓x_aug23, Int.reduceToNat, Int.reducePow, ↓gSeq, ↓gIfS, ↓gSet, ↓gAsg, ↓x_par, ↓x_par2, ↓gRet, ↓gRetN, ↓gNext, ↓gDrop, ↓gBreak, ↓gCont, ↓gDead, ↓gCB, ↓gB2, ↓gU, ↓gC, ↓Dl.gCons, ↓Dl.gNil, ↓Dl.gTup, ↓Dl.gLst, ↓gTest, ↓gOrB, ↓gAndB, ↓gNotB, ↓gAndV, ↓gOrV, ↓gNotV, ↓gIf, ↓gIx, ↓gSl, ↓gPart, ↓gNoP, ↓gMt, ↓gCall, ↓gArgs, ↓gIsN, ↓gNotN, ↓gChain, ↓x_fmtS, ↓x_afS, ↓x_afI, ↓x_js0, ↓x_jsc, ↓gJoined, ↓gYes, ↓x_bnm, ↓x_btp, ↓x_bn, ↓x_bc, ↓x_nnN, ↓x_nnI, ↓x_nnS, ↓x_nnB, ↓x_nnT, ↓x_nnL, ↓x_nnO, ↓x_nnl, ↓x_tyS, ↓x_tyL, ↓x_i2, ↓aSub, ↓aFdiv, ↓aMod, ↓aPow, ↓aShr, ↓aLt, ↓aLe, ↓aGt, ↓aGe, ↓x_addI, ↓x_addS, ↓x_mulI, ↓x_iaddS, ↓x_iaddI, ↓x_neg, ↓x_eqI, ↓x_neI, ↓x_eqS, ↓x_neS, ↓x_eqB, ↓x_neB, ↓x_eqNI, ↓x_neNI, ↓x_lenS, ↓x_lenL_l, ↓x_lenL_k, ↓x_lenL_t, ↓x_str, ↓x_intI, ↓x_intB, ↓x_divmod, ↓x_max2, ↓x_min2, ↓x_ixS, ↓x_slS, ↓x_slT, ↓x_slL_l, ↓x_slL_k, ↓x_inS, ↓x_newT, ↓x_newF, ↓x_si, ↓x_s1, ↓x_s0, ↓x_rpart, ↓x_part, ↓x_a1, ↓x_a2, ↓x_isiStr, ↓x_isiInt, ↓x_isiIntB, ↓x_isiIntS, ↓x_isiBB, ↓x_isiBI, ↓x_isiStrI, ↓x_isiNonI, ↓x_isiNonS, ↓x_isiT, ↓x_isiL, ↓x_var0, ↓x_varS, ↓x_ex, ↓x_aug0, gat, pick, Option.some.injEq, D.bl.injEq, D.int.injEq, D.str.injEq, D.tup.injEq, D.lst.injEq, List.cons.injEq, and_true, true_and, List.set_cons_zero, List.set_cons_succ, List.length_cons, List.length_nil, List.filterMap_cons, List.filterMap_nil, List.getElem?_cons_zero, List.getElem?_cons_succ, Option.bind_some, ↓reduceIte, if_true, if_false, Bool.false_eq_true, Bool.true_eq_false, decide_eq_true_eq, beq_self_eq_true, Bool.not_true, Bool.not_false, Bool.not_eq_true', decide_eq_false_iff_not, exists_eq_left', exists_eq_left, exists_eq, ↓x_dnT, ↓x_dnF, ↓gAsgL, ↓gMMDef, ↓gDSet, ↓gSItems, ↓x_nilL, ↓x_nilE, List.isEmpty_nil, List.isEmpty_cons, Bool.true_xor, Bool.false_xor, ↓gOrT, ↓gAndT, ↓gTryAs, ↓gTryO, ↓gRaise, ↓gCallX, ↓gMethX, ↓gMakeX, ↓gFldX, ↓x_inXs, Bool.false_xor, Bool.true_xor, ↓gOrS, ↓gSortK]
    by_cases hc : st.2 < w.2
    · rw [if_pos hc] at h
      rw [if_pos hc]
      refine Mt.st_make (Int.le_of_lt hc) ?_
      simp only [↓x_eqSS, ↓x_neSS, ↓gKGet, ↓x_kget, ↓x_ixE, at_last, ↓x_appE, ↓x_tyE, ↓x_itE, ↓x_lenE, ↓x_nePr, ↓x_eqPr, ↓x_neE, ↓x_lenr, ↓x_lenrI, ↓gRev, ↓x_par3, ↓x_par33, ↓x_fld, ↓x_fset, ↓x_mkF, ↓x_mk, ↓x_meth, ↓x_fldO, ↓x_fsetE, ↓x_fldE, ↓x_methO, ↓x_isiCO, ↓x_isiCN, ↓x_isiCT, ↓x_isiCLi, ↓x_isiCS, ↓x_isiCI, ↓x_own, ↓x_eqT2, ↓x_neT2, ↓x_neL4, ↓x_eqLN, ↓x_neNil, ↓x_gset, ↓x_lc, ↓x_for, ↓x_it, ↓x_rn1, ↓x_rn2, ↓x_enu, ↓x_zip, ↓x_itS, ↓x_itL, ↓x_itK, ↓x_itT, ↓x_rn1I, ↓x_rn2I, ↓x_enuL, ↓x_enuK, ↓x_zipL, ↓x_ixS0, ↓x_ixL, ↓x_ixT, ↓x_ixK, x_at0, x_at1, x_at2, x_at3, x_at4, ↓x_set00, ↓x_set01, ↓x_set02, ↓x_aug1, ↓x_aug2, ↓x_aug3, ↓x_aug4, ↓x_aug5, ↓x_aug6, ↓x_aug7, ↓x_aug8, ↓x_aug9, ↓x_aug10, ↓x_aug11, ↓x_aug12, ↓x_aug13, ↓x_aug14, ↓x_aug15, ↓x_aug16, ↓x_aug17, ↓x_aug18, ↓x_aug19, ↓x_aug20, ↓x_aug21, ↓x_aug22, ↓x_aug23, Int.reduceToNat, Int.reducePow, ↓gSeq, ↓gIfS, ↓gSet, ↓gAsg, ↓x_par, ↓x_par2, ↓gRet, ↓gRetN, ↓gNext, ↓gDrop, ↓gBreak, ↓gCont, ↓gDead, ↓gCB, ↓gB2, ↓gU, ↓gC, ↓Dl.gCons, ↓Dl.gNil, ↓Dl.gTup, ↓Dl.gLst, ↓gTest, ↓gOrB, ↓gAndB, ↓gNotB, ↓gAndV, ↓gOrV, ↓gNotV, ↓gIf, ↓gIx, ↓gSl, ↓gPart, ↓gNoP, ↓gMt, ↓gCall, ↓gArgs, ↓gIsN, ↓gNotN, ↓gChain, ↓x_fmtS, ↓x_afS, ↓x_afI, ↓x_js0, ↓x_jsc, ↓gJoined, ↓gYes, ↓x_bnm, ↓x_btp, ↓x_bn, ↓x_bc, ↓x_nnN, ↓x_nnI, ↓x_nnS, ↓x_nnB, ↓x_nnT, ↓x_nnL, ↓x_nnO, ↓x_nnl, ↓x_tyS, ↓x_tyL, ↓x_i2, ↓aSub, ↓aFdiv, ↓aMod, ↓aPow, ↓aShr, ↓aLt, ↓aLe, ↓aGt, ↓aGe, ↓x_addI, ↓x_addS, ↓x_mulI, ↓x_iaddS, ↓x_iaddI, ↓x_neg, ↓x_eqI, ↓x_neI, ↓x_eqS, ↓x_neS, ↓x_eqB, ↓x_neB, ↓x_eqNI, ↓x_neNI, ↓x_lenS, ↓x_lenL_l, ↓x_lenL_k, ↓x_lenL_t, ↓x_str, ↓x_intI, ↓x_intB, ↓x_divmod, ↓x_max2, ↓x_min2, ↓x_ixS, ↓x_slS, ↓x_slT, ↓x_slL_l, ↓x_slL_k, ↓x_inS, ↓x_newT, ↓x_newF, ↓x_si, ↓x_s1, ↓x_s0, ↓x_rpart, ↓x_part, ↓x_a1, ↓x_a2, ↓x_isiStr, ↓x_isiInt, ↓x_isiIntB, ↓x_isiIntS, ↓x_isiBB, ↓x_isiBI, ↓x_isiStrI, ↓x_isiNonI, ↓x_isiNonS, ↓x_isiT, ↓x_isiL, ↓x_var0, ↓x_varS, ↓x_ex, ↓x_aug0, gat, pick, Option.some.injEq, D.bl.injEq, D.int.injEq, D.str.injEq, D.tup.injEq, D.lst.injEq, List.cons.injEq, and_true, true_and, List.set_cons_zero, List.set_cons_succ, List.length_cons, List.length_nil, List.filterMap_cons, List.filterMap_nil, List.getElem?_cons_zero, List.getElem?_cons_succ, Option.bind_some, ↓reduceIte, if_true, if_false, Bool.false_eq_true, Bool.true_eq_false, decide_eq_true_eq, beq_self_eq_true, Bool.not_true, Bool.not_false, Bool.not_eq_true', decide_eq_false_iff_not, exists_eq_left', exists_eq_left, exists_eq, ↓x_dnT, ↓x_dnF, ↓gAsgL, ↓gMMDef, ↓gDSet, ↓gSItems, ↓x_nilL, ↓x_nilE, List.isEmpty_nil, List.isEmpty_cons, Bool.true_xor, Bool.false_xor, ↓gOrT, ↓gAndT, ↓gTryAs, ↓gTryO, ↓gRaise, ↓gCallX, ↓gMethX, ↓gMakeX, ↓gFldX, ↓x_inXs, Bool.false_xor, Bool.true_xor, ↓gOrS, ↓gSortK]
      refine ⟨by rw [List.length_map]; omega, ?_⟩
      have e : st.1.map (sD a.C_Stretch) ++ [Mt.stD a.C_Stretch st.2 w.2] = (st.1 ++ [(st.2, w.2)]).map (sD a.C_Stretch) := by simp
      rw [e]
      exact h
    · rw [if_neg hc] at h
      rw [if_neg hc]
      exact h
theorem rf_gaps (T : Txt K mg a) : ∀ ds S q, D.unders S.length ds = true → Sto.under S.length S = true → sp_gaps a ds S q → g_gaps K a { nx := fun _ S' => fin S.length q .non S', rt := fin S.length q } (startD N_gaps ds) S := by
  rintro ds S q hu hs ⟨P, w, rfl, hP, h⟩
  exact read_gaps T P w S _ _ hP ((x_finE hs).mpr ⟨und_ob, h⟩)
theorem r_minutes_in (T : Txt K mg a) : ∀ ds S q, sp_minutes_in a ds S q → g_minutes_in K a { nx := fun _ S' => q .non S', rt := q } (startD N_minutes_in ds) S := by
  rintro ds S q ⟨P, rfl, hP, h⟩
  rw [st_minutes_in]
  simp only [g_minutes_in, ↓x_eqSS, ↓x_neSS, ↓gKGet, ↓x_kget, ↓x_ixE, at_last, ↓x_appE, ↓x_tyE, ↓x_itE, ↓x_lenE, ↓x_nePr, ↓x_eqPr, ↓x_neE, ↓x_lenr, ↓x_lenrI, ↓gRev, ↓x_par3, ↓x_par33, ↓x_fld, ↓x_fset, ↓x_mkF, ↓x_mk, ↓x_meth, ↓x_fldO, ↓x_fsetE, ↓x_fldE, ↓x_methO, ↓x_isiCO, ↓x_isiCN, ↓x_isiCT, ↓x_isiCLi, ↓x_isiCS, ↓x_isiCI, ↓x_own, ↓x_eqT2, ↓x_neT2, ↓x_neL4, ↓x_eqLN, ↓x_neNil, ↓x_gset, ↓x_lc, ↓x_for, ↓x_it, ↓x_rn1, ↓x_rn2, ↓x_enu, ↓x_zip, ↓x_itS, ↓x_itL, ↓x_itK, ↓x_itT, ↓x_rn1I, ↓x_rn2I, ↓x_enuL, ↓x_enuK, ↓x_zipL, ↓x_ixS0, ↓x_ixL, ↓x_ixT, ↓x_ixK, x_at0, x_at1, x_at2, x_at3, x_at4, ↓x_set00, ↓x_set01, ↓x_set02, ↓x_aug1, ↓x_aug2, ↓x_aug3, ↓x_aug4, ↓x_aug5, ↓x_aug6, ↓x_aug7, ↓x_aug8, ↓x_aug9, ↓x_aug10, ↓x_aug11, ↓x_aug12, ↓x_aug13, ↓x_aug14, ↓x_aug15, ↓x_aug16, ↓x_aug17, ↓x_aug18, ↓x_aug19, ↓x_aug20, ↓x_aug21, ↓x_aug22, ↓x_aug23, Int.reduceToNat, Int.reducePow, ↓gSeq, ↓gIfS, ↓gSet, ↓gAsg, ↓x_par, ↓x_par2, ↓gRet, ↓gRetN, ↓gNext, ↓gDrop, ↓gBreak, ↓gCont, ↓gDead, ↓gCB, ↓gB2, ↓gU, ↓gC, ↓Dl.gCons, ↓Dl.gNil, ↓Dl.gTup, ↓Dl.gLst, ↓gTest, ↓gOrB, ↓gAndB, ↓gNotB, ↓gAndV, ↓gOrV, ↓gNotV, ↓gIf, ↓gIx, ↓gSl, ↓gPart, ↓gNoP, ↓gMt, ↓gCall, ↓gArgs, ↓gIsN, ↓gNotN, ↓gChain, ↓x_fmtS, ↓x_afS, ↓x_afI, ↓x_js0, ↓x_jsc, ↓gJoined, ↓gYes, ↓x_bnm, ↓x_btp, ↓x_bn, ↓x_bc, ↓x_nnN, ↓x_nnI, ↓x_nnS, ↓x_nnB, ↓x_nnT, ↓x_nnL, ↓x_nnO, ↓x_nnl, ↓x_tyS, ↓x_tyL, ↓x_i2, ↓aSub, ↓aFdiv, ↓aMod, ↓aPow, ↓aShr, ↓aLt, ↓aLe, ↓aGt, ↓aGe, ↓x_addI, ↓x_addS, ↓x_mulI, ↓x_iaddS, ↓x_iaddI, ↓x_neg, ↓x_eqI, ↓x_neI, ↓x_eqS, ↓x_neS, ↓x_eqB, ↓x_neB, ↓x_eqNI, ↓x_neNI, ↓x_lenS, ↓x_lenL_l, ↓x_lenL_k, ↓x_lenL_t, ↓x_str, ↓x_intI, ↓x_intB, ↓x_divmod, ↓x_max2, ↓x_min2, ↓x_ixS, ↓x_slS, ↓x_slT, ↓x_slL_l, ↓x_slL_k, ↓x_inS, ↓x_newT, ↓x_newF, ↓x_si, ↓x_s1, ↓x_s0, ↓x_rpart, ↓x_part, ↓x_a1, ↓x_a2, ↓x_isiStr, ↓x_isiInt, ↓x_isiIntB, ↓x_isiIntS, ↓x_isiBB, ↓x_isiBI, ↓x_isiStrI, ↓x_isiNonI, ↓x_isiNonS, ↓x_isiT, ↓x_isiL, ↓x_var0, ↓x_varS, ↓x_ex, ↓x_aug0, gat, pick, Option.some.injEq, D.bl.injEq, D.int.injEq, D.str.injEq, D.tup.injEq, D.lst.injEq, List.cons.injEq, and_true, true_and, List.set_cons_zero, List.set_cons_succ, List.length_cons, List.length_nil, List.filterMap_cons, List.filterMap_nil, List.getElem?_cons_zero, List.getElem?_cons_succ, Option.bind_some, ↓reduceIte, if_true, if_false, Bool.false_eq_true, Bool.true_eq_false, decide_eq_true_eq, beq_self_eq_true, Bool.not_true, Bool.not_false, Bool.not_eq_true', decide_eq_false_iff_not, exists_eq_left', exists_eq_left, exists_eq, ↓x_dnT, ↓x_dnF, ↓gAsgL, ↓gMMDef, ↓gDSet, ↓gSItems, ↓x_nilL, ↓x_nilE, List.isEmpty_nil, List.isEmpty_cons, Bool.true_xor, Bool.false_xor, ↓gOrT, ↓gAndT, ↓gTryAs, ↓gTryO, ↓gRaise, ↓gCallX, ↓gMethX, ↓gMakeX, ↓gFldX, ↓x_inXs, Bool.false_xor, Bool.true_xor, ↓gOrS, ↓gSortK]
  refine ⟨P, 0, rfl, hP, ?_⟩
  simp only [↓x_eqSS, ↓x_neSS, ↓gKGet, ↓x_kget, ↓x_ixE, at_last, ↓x_appE, ↓x_tyE, ↓x_itE, ↓x_lenE, ↓x_nePr, ↓x_eqPr, ↓x_neE, ↓x_lenr, ↓x_lenrI, ↓gRev, ↓x_par3, ↓x_par33, ↓x_fld, ↓x_fset, ↓x_mkF, ↓x_mk, ↓x_meth, ↓x_fldO, ↓x_fsetE, ↓x_fldE, ↓x_methO, ↓x_isiCO, ↓x_isiCN, ↓x_isiCT, ↓x_isiCLi, ↓x_isiCS, ↓x_isiCI, ↓x_own, ↓x_eqT2, ↓x_neT2, ↓x_neL4, ↓x_eqLN, ↓x_neNil, ↓x_gset, ↓x_lc, ↓x_for, ↓x_it, ↓x_rn1, ↓x_rn2, ↓x_enu, ↓x_zip, ↓x_itS, ↓x_itL, ↓x_itK, ↓x_itT, ↓x_rn1I, ↓x_rn2I, ↓x_enuL, ↓x_enuK, ↓x_zipL, ↓x_ixS0, ↓x_ixL, ↓x_ixT, ↓x_ixK, x_at0, x_at1, x_at2, x_at3, x_at4, ↓x_set00, ↓x_set01, ↓x_set02, ↓x_aug1, ↓x_aug2, ↓x_aug3, ↓x_aug4, ↓x_aug5, ↓x_aug6, ↓x_aug7, ↓x_aug8, ↓x_aug9, ↓x_aug10, ↓x_aug11, ↓x_aug12, ↓x_aug13, ↓x_aug14, ↓x_aug15, ↓x_aug16, ↓x_aug17, ↓x_aug18, ↓x_aug19, ↓x_aug20, ↓x_aug21, ↓x_aug22, ↓x_aug23, Int.reduceToNat, Int.reducePow, ↓gSeq, ↓gIfS, ↓gSet, ↓gAsg, ↓x_par, ↓x_par2, ↓gRet, ↓gRetN, ↓gNext, ↓gDrop, ↓gBreak, ↓gCont, ↓gDead, ↓gCB, ↓gB2, ↓gU, ↓gC, ↓Dl.gCons, ↓Dl.gNil, ↓Dl.gTup, ↓Dl.gLst, ↓gTest, ↓gOrB, ↓gAndB, ↓gNotB, ↓gAndV, ↓gOrV, ↓gNotV, ↓gIf, ↓gIx, ↓gSl, ↓gPart, ↓gNoP, ↓gMt, ↓gCall, ↓gArgs, ↓gIsN, ↓gNotN, ↓gChain, ↓x_fmtS, ↓x_afS, ↓x_afI, ↓x_js0, ↓x_jsc, ↓gJoined, ↓gYes, ↓x_bnm, ↓x_btp, ↓x_bn, ↓x_bc, ↓x_nnN, ↓x_nnI, ↓x_nnS, ↓x_nnB, ↓x_nnT, ↓x_nnL, ↓x_nnO, ↓x_nnl, ↓x_tyS, ↓x_tyL, ↓x_i2, ↓aSub, ↓aFdiv, ↓aMod, ↓aPow, ↓aShr, ↓aLt, ↓aLe, ↓aGt, ↓aGe, ↓x_addI, ↓x_addS, ↓x_mulI, ↓x_iaddS, ↓x_iaddI, ↓x_neg, ↓x_eqI, ↓x_neI, ↓x_eqS, ↓x_neS, ↓x_eqB, ↓x_neB, ↓x_eqNI, ↓x_neNI, ↓x_lenS, ↓x_lenL_l, ↓x_lenL_k, ↓x_lenL_t, ↓x_str, ↓x_intI, ↓x_intB, ↓x_divmod, ↓x_max2, ↓x_min2, ↓x_ixS, ↓x_slS, ↓x_slT, ↓x_slL_l, ↓x_slL_k, ↓x_inS, ↓x_newT, ↓x_newF, ↓x_si, ↓x_s1, ↓x_s0, ↓x_rpart, ↓x_part, ↓x_a1, ↓x_a2, ↓x_isiStr, ↓x_isiInt, ↓x_isiIntB, ↓x_isiIntS, ↓x_isiBB, ↓x_isiBI, ↓x_isiStrI, ↓x_isiNonI, ↓x_isiNonS, ↓x_isiT, ↓x_isiL, ↓x_var0, ↓x_varS, ↓x_ex, ↓x_aug0, gat, pick, Option.some.injEq, D.bl.injEq, D.int.injEq, D.str.injEq, D.tup.injEq, D.lst.injEq, List.cons.injEq, and_true, true_and, List.set_cons_zero, List.set_cons_succ, List.length_cons, List.length_nil, List.filterMap_cons, List.filterMap_nil, List.getElem?_cons_zero, List.getElem?_cons_succ, Option.bind_some, ↓reduceIte, if_true, if_false, Bool.false_eq_true, Bool.true_eq_false, decide_eq_true_eq, beq_self_eq_true, Bool.not_true, Bool.not_false, Bool.not_eq_true', decide_eq_false_iff_not, exists_eq_left', exists_eq_left, exists_eq, ↓x_dnT, ↓x_dnF, ↓gAsgL, ↓gMMDef, ↓gDSet, ↓gSItems, ↓x_nilL, ↓x_nilE, List.isEmpty_nil, List.isEmpty_cons, Bool.true_xor, Bool.false_xor, ↓gOrT, ↓gAndT, ↓gTryAs, ↓gTryO, ↓gRaise, ↓gCallX, ↓gMethX, ↓gMakeX, ↓gFldX, ↓x_inXs, Bool.false_xor, Bool.true_xor, ↓gOrS, ↓gSortK]
  have hl := joinL_len P 0
  have hlt := joinL_lt P 0
  have hb := joinL_bd (apart := 0) hP.2
  have hs : 100000 ≤ sizeLine := by decide
  refine lc_on (fun p : Pr => some (.int (max 0 (p.2 - p.1)))) trivial (by have := hP.1; omega) (fun x hx acc R hac hR => ⟨_, x_bnm, ?_⟩) ?_
  · simp only [wipeD, ↓x_eqSS, ↓x_neSS, ↓gKGet, ↓x_kget, ↓x_ixE, at_last, ↓x_appE, ↓x_tyE, ↓x_itE, ↓x_lenE, ↓x_nePr, ↓x_eqPr, ↓x_neE, ↓x_lenr, ↓x_lenrI, ↓gRev, ↓x_par3, ↓x_par33, ↓x_fld, ↓x_fset, ↓x_mkF, ↓x_mk, ↓x_meth, ↓x_fldO, ↓x_fsetE, ↓x_fldE, ↓x_methO, ↓x_isiCO, ↓x_isiCN, ↓x_isiCT, ↓x_isiCLi, ↓x_isiCS, ↓x_isiCI, ↓x_own, ↓x_eqT2, ↓x_neT2, ↓x_neL4, ↓x_eqLN, ↓x_neNil, ↓x_gset, ↓x_lc, ↓x_for, ↓x_it, ↓x_rn1, ↓x_rn2, ↓x_enu, ↓x_zip, ↓x_itS, ↓x_itL, ↓x_itK, ↓x_itT, ↓x_rn1I, ↓x_rn2I, ↓x_enuL, ↓x_enuK, ↓x_zipL, ↓x_ixS0, ↓x_ixL, ↓x_ixT, ↓x_ixK, x_at0, x_at1, x_at2, x_at3, x_at4, ↓x_set00, ↓x_set01, ↓x_set02, ↓x_aug1, ↓x_aug2, ↓x_aug3, ↓x_aug4, ↓x_aug5, ↓x_aug6, ↓x_aug7, ↓x_aug8, ↓x_aug9, ↓x_aug10, ↓x_aug11, ↓x_aug12, ↓x_aug13, ↓x_aug14, ↓x_aug15, ↓x_aug16, ↓x_aug17, ↓x_aug18, ↓x_aug19, ↓x_aug20, ↓x_aug21, ↓x_aug22, ↓x_aug23, Int.reduceToNat, Int.reducePow, ↓gSeq, ↓gIfS, ↓gSet, ↓gAsg, ↓x_par, ↓x_par2, ↓gRet, ↓gRetN, ↓gNext, ↓gDrop, ↓gBreak, ↓gCont, ↓gDead, ↓gCB, ↓gB2, ↓gU, ↓gC, ↓Dl.gCons, ↓Dl.gNil, ↓Dl.gTup, ↓Dl.gLst, ↓gTest, ↓gOrB, ↓gAndB, ↓gNotB, ↓gAndV, ↓gOrV, ↓gNotV, ↓gIf, ↓gIx, ↓gSl, ↓gPart, ↓gNoP, ↓gMt, ↓gCall, ↓gArgs, ↓gIsN, ↓gNotN, ↓gChain, ↓x_fmtS, ↓x_afS, ↓x_afI, ↓x_js0, ↓x_jsc, ↓gJoined, ↓gYes, ↓x_bnm, ↓x_btp, ↓x_bn, ↓x_bc, ↓x_nnN, ↓x_nnI, ↓x_nnS, ↓x_nnB, ↓x_nnT, ↓x_nnL, ↓x_nnO, ↓x_nnl, ↓x_tyS, ↓x_tyL, ↓x_i2, ↓aSub, ↓aFdiv, ↓aMod, ↓aPow, ↓aShr, ↓aLt, ↓aLe, ↓aGt, ↓aGe, ↓x_addI, ↓x_addS, ↓x_mulI, ↓x_iaddS, ↓x_iaddI, ↓x_neg, ↓x_eqI, ↓x_neI, ↓x_eqS, ↓x_neS, ↓x_eqB, ↓x_neB, ↓x_eqNI, ↓x_neNI, ↓x_lenS, ↓x_lenL_l, ↓x_lenL_k, ↓x_lenL_t, ↓x_str, ↓x_intI, ↓x_intB, ↓x_divmod, ↓x_max2, ↓x_min2, ↓x_ixS, ↓x_slS, ↓x_slT, ↓x_slL_l, ↓x_slL_k, ↓x_inS, ↓x_newT, ↓x_newF, ↓x_si, ↓x_s1, ↓x_s0, ↓x_rpart, ↓x_part, ↓x_a1, ↓x_a2, ↓x_isiStr, ↓x_isiInt, ↓x_isiIntB, ↓x_isiIntS, ↓x_isiBB, ↓x_isiBI, ↓x_isiStrI, ↓x_isiNonI, ↓x_isiNonS, ↓x_isiT, ↓x_isiL, ↓x_var0, ↓x_varS, ↓x_ex, ↓x_aug0, gat, pick, Option.some.injEq, D.bl.injEq, D.int.injEq, D.str.injEq, D.tup.injEq, D.lst.injEq, List.cons.injEq, and_true, true_and, List.set_cons_zero, List.set_cons_succ, List.length_cons, List.length_nil, List.filterMap_cons, List.filterMap_nil, List.getElem?_cons_zero, List.getElem?_cons_succ, Option.bind_some, ↓reduceIte, if_true, if_false, Bool.false_eq_true, Bool.true_eq_false, decide_eq_true_eq, beq_self_eq_true, Bool.not_true, Bool.not_false, Bool.not_eq_true', decide_eq_false_iff_not, exists_eq_left', exists_eq_left, exists_eq, ↓x_dnT, ↓x_dnF, ↓gAsgL, ↓gMMDef, ↓gDSet, ↓gSItems, ↓x_nilL, ↓x_nilE, List.isEmpty_nil, List.isEmpty_cons, Bool.true_xor, Bool.false_xor, ↓gOrT, ↓gAndT, ↓gTryAs, ↓gTryO, ↓gRaise, ↓gCallX, ↓gMethX, ↓gMakeX, ↓gFldX, ↓x_inXs, Bool.false_xor, Bool.true_xor, ↓gOrS, ↓gSortK]
    refine ⟨⟨_, _, rfl⟩, x, rfl, by have := hb x hx; omega, _, rfl, by omega, by have := hb x hx; omega, hac, hR⟩
  · rw [x_newT, fm_some]
    refine x_sum (ns := (joinL P 0).map fun p => max 0 (p.2 - p.1)) rfl (by simp [seqOf, List.map_map]) ?_
    exact h
theorem r__law_pick : ∀ ds S q, sp__law_pick a ds S q → g__law_pick K a { nx := fun _ S' => q .non S', rt := q } (startD N__law_pick ds) S := by
  rintro ds S q ⟨d, es, h1, h2, o, R0, B, rfl, rfl, ht, hb, hd, h⟩
  rw [st__law_pick]
  simp only [g__law_pick, ↓x_eqSS, ↓x_neSS, ↓gKGet, ↓x_kget, ↓x_ixE, at_last, ↓x_appE, ↓x_tyE, ↓x_itE, ↓x_lenE, ↓x_nePr, ↓x_eqPr, ↓x_neE, ↓x_lenr, ↓x_lenrI, ↓gRev, ↓x_par3, ↓x_par33, ↓x_fld, ↓x_fset, ↓x_mkF, ↓x_mk, ↓x_meth, ↓x_fldO, ↓x_fsetE, ↓x_fldE, ↓x_methO, ↓x_isiCO, ↓x_isiCN, ↓x_isiCT, ↓x_isiCLi, ↓x_isiCS, ↓x_isiCI, ↓x_own, ↓x_eqT2, ↓x_neT2, ↓x_neL4, ↓x_eqLN, ↓x_neNil, ↓x_gset, ↓x_lc, ↓x_for, ↓x_it, ↓x_rn1, ↓x_rn2, ↓x_enu, ↓x_zip, ↓x_itS, ↓x_itL, ↓x_itK, ↓x_itT, ↓x_rn1I, ↓x_rn2I, ↓x_enuL, ↓x_enuK, ↓x_zipL, ↓x_ixS0, ↓x_ixL, ↓x_ixT, ↓x_ixK, x_at0, x_at1, x_at2, x_at3, x_at4, ↓x_set00, ↓x_set01, ↓x_set02, ↓x_aug1, ↓x_aug2, ↓x_aug3, ↓x_aug4, ↓x_aug5, ↓x_aug6, ↓x_aug7, ↓x_aug8, ↓x_aug9, ↓x_aug10, ↓x_aug11, ↓x_aug12, ↓x_aug13, ↓x_aug14, ↓x_aug15, ↓x_aug16, ↓x_aug17, ↓x_aug18, ↓x_aug19, ↓x_aug20, ↓x_aug21, ↓x_aug22, ↓x_aug23, Int.reduceToNat, Int.reducePow, ↓gSeq, ↓gIfS, ↓gSet, ↓gAsg, ↓x_par, ↓x_par2, ↓gRet, ↓gRetN, ↓gNext, ↓gDrop, ↓gBreak, ↓gCont, ↓gDead, ↓gCB, ↓gB2, ↓gU, ↓gC, ↓Dl.gCons, ↓Dl.gNil, ↓Dl.gTup, ↓Dl.gLst, ↓gTest, ↓gOrB, ↓gAndB, ↓gNotB, ↓gAndV, ↓gOrV, ↓gNotV, ↓gIf, ↓gIx, ↓gSl, ↓gPart, ↓gNoP, ↓gMt, ↓gCall, ↓gArgs, ↓gIsN, ↓gNotN, ↓gChain, ↓x_fmtS, ↓x_afS, ↓x_afI, ↓x_js0, ↓x_jsc, ↓gJoined, ↓gYes, ↓x_bnm, ↓x_btp, ↓x_bn, ↓x_bc, ↓x_nnN, ↓x_nnI, ↓x_nnS, ↓x_nnB, ↓x_nnT, ↓x_nnL, ↓x_nnO, ↓x_nnl, ↓x_tyS, ↓x_tyL, ↓x_i2, ↓aSub, ↓aFdiv, ↓aMod, ↓aPow, ↓aShr, ↓aLt, ↓aLe, ↓aGt, ↓aGe, ↓x_addI, ↓x_addS, ↓x_mulI, ↓x_iaddS, ↓x_iaddI, ↓x_neg, ↓x_eqI, ↓x_neI, ↓x_eqS, ↓x_neS, ↓x_eqB, ↓x_neB, ↓x_eqNI, ↓x_neNI, ↓x_lenS, ↓x_lenL_l, ↓x_lenL_k, ↓x_lenL_t, ↓x_str, ↓x_intI, ↓x_intB, ↓x_divmod, ↓x_max2, ↓x_min2, ↓x_ixS, ↓x_slS, ↓x_slT, ↓x_slL_l, ↓x_slL_k, ↓x_inS, ↓x_newT, ↓x_newF, ↓x_si, ↓x_s1, ↓x_s0, ↓x_rpart, ↓x_part, ↓x_a1, ↓x_a2, ↓x_isiStr, ↓x_isiInt, ↓x_isiIntB, ↓x_isiIntS, ↓x_isiBB, ↓x_isiBI, ↓x_isiStrI, ↓x_isiNonI, ↓x_isiNonS, ↓x_isiT, ↓x_isiL, ↓x_var0, ↓x_varS, ↓x_ex, ↓x_aug0, gat, pick, Option.some.injEq, D.bl.injEq, D.int.injEq, D.str.injEq, D.tup.injEq, D.lst.injEq, List.cons.injEq, and_true, true_and, List.set_cons_zero, List.set_cons_succ, List.length_cons, List.length_nil, List.filterMap_cons, List.filterMap_nil, List.getElem?_cons_zero, List.getElem?_cons_succ, Option.bind_some, ↓reduceIte, if_true, if_false, Bool.false_eq_true, Bool.true_eq_false, decide_eq_true_eq, beq_self_eq_true, Bool.not_true, Bool.not_false, Bool.not_eq_true', decide_eq_false_iff_not, exists_eq_left', exists_eq_left, exists_eq, ↓x_dnT, ↓x_dnF, ↓gAsgL, ↓gMMDef, ↓gDSet, ↓gSItems, ↓x_nilL, ↓x_nilE, List.isEmpty_nil, List.isEmpty_cons, Bool.true_xor, Bool.false_xor, ↓gOrT, ↓gAndT, ↓gTryAs, ↓gTryO, ↓gRaise, ↓gCallX, ↓gMethX, ↓gMakeX, ↓gFldX, ↓x_inXs, Bool.false_xor, Bool.true_xor, ↓gOrS, ↓gSortK]
  rw [x_lenL (hd o)]
  refine Mt.draw_in (by omega) h2 ht hb fun x o' h3 h4 h5 => ?_
  obtain ⟨e, he⟩ : ∃ e, es[x.toNat]? = some e := ⟨es[x.toNat]'(by omega), by simp⟩
  have hat := atI_lit he
  rw [show ((x.toNat : Nat) : Int) = x by omega] at hat
  rw [x_ix (hd o') hat]
  exact h e o' (List.mem_of_getElem? he) h5
theorem under_cons {n : Nat} {o : Option MO} {S : Sto} : Sto.under n (o :: S) = ((match o with | none => true | some x => x.under n) && Sto.under n S) := by
  unfold Sto.under
  rw [List.all_cons]
  all_goals (cases o <;> rfl)
theorem und_int {n : Nat} : ∀ {P : List Int}, D.unders n (P.map D.int) = true
  | [] => rfl
  | p :: P => by
    rw [List.map_cons, D.unders, und_int (P := P)]
    rfl
theorem tape_under {o o' : Option MO} {R0 : Sto} {B : Int} (h : Mt.Tp B o') (hs : Sto.under (R0.length + 1) (o :: R0) = true) : Sto.under (o' :: R0).length (o' :: R0) = true := by
  obtain ⟨ns, t, r, rfl, _⟩ := h
  rw [under_cons, Bool.and_eq_true] at hs
  rw [under_cons, Bool.and_eq_true]
  refine ⟨?_, hs.2⟩
  show D.unders _ [.lst (ns.map D.int), .int t, .int r] = true
  simp [D.unders, D.under, und_int]
theorem r_meet (T : Txt K mg a) : ∀ ds S q, sp_meet a ds S q → g_meet K a { nx := fun _ S' => q .non S', rt := q } (startD N_meet ds) S := by
  rintro ds S q ⟨p, w, rfl, h⟩
  rw [st_meet]
  unfold meetD meetP at h
  simp only [g_meet, T.f_Stretch_first, T.f_Stretch_behind, Mt.fg_first, Mt.fg_behind, ↓x_eqSS, ↓x_neSS, ↓gKGet, ↓x_kget, ↓x_ixE, at_last, ↓x_appE, ↓x_tyE, ↓x_itE, ↓x_lenE, ↓x_nePr, ↓x_eqPr, ↓x_neE, ↓x_lenr, ↓x_lenrI, ↓gRev, ↓x_par3, ↓x_par33, ↓x_fld, ↓x_fset, ↓x_mkF, ↓x_mk, ↓x_meth, ↓x_fldO, ↓x_fsetE, ↓x_fldE, ↓x_methO, ↓x_isiCO, ↓x_isiCN, ↓x_isiCT, ↓x_isiCLi, ↓x_isiCS, ↓x_isiCI, ↓x_own, ↓x_eqT2, ↓x_neT2, ↓x_neL4, ↓x_eqLN, ↓x_neNil, ↓x_gset, ↓x_lc, ↓x_for, ↓x_it, ↓x_rn1, ↓x_rn2, ↓x_enu, ↓x_zip, ↓x_itS, ↓x_itL, ↓x_itK, ↓x_itT, ↓x_rn1I, ↓x_rn2I, ↓x_enuL, ↓x_enuK, ↓x_zipL, ↓x_ixS0, ↓x_ixL, ↓x_ixT, ↓x_ixK, x_at0, x_at1, x_at2, x_at3, x_at4, ↓x_set00, ↓x_set01, ↓x_set02, ↓x_aug1, ↓x_aug2, ↓x_aug3, ↓x_aug4, ↓x_aug5, ↓x_aug6, ↓x_aug7, ↓x_aug8, ↓x_aug9, ↓x_aug10, ↓x_aug11, ↓x_aug12, ↓x_aug13, ↓x_aug14, ↓x_aug15, ↓x_aug16, ↓x_aug17, ↓x_aug18, ↓x_aug19, ↓x_aug20, ↓x_aug21, ↓x_aug22, ↓x_aug23, Int.reduceToNat, Int.reducePow, ↓gSeq, ↓gIfS, ↓gSet, ↓gAsg, ↓x_par, ↓x_par2, ↓gRet, ↓gRetN, ↓gNext, ↓gDrop, ↓gBreak, ↓gCont, ↓gDead, ↓gCB, ↓gB2, ↓gU, ↓gC, ↓Dl.gCons, ↓Dl.gNil, ↓Dl.gTup, ↓Dl.gLst, ↓gTest, ↓gOrB, ↓gAndB, ↓gNotB, ↓gAndV, ↓gOrV, ↓gNotV, ↓gIf, ↓gIx, ↓gSl, ↓gPart, ↓gNoP, ↓gMt, ↓gCall, ↓gArgs, ↓gIsN, ↓gNotN, ↓gChain, ↓x_fmtS, ↓x_afS, ↓x_afI, ↓x_js0, ↓x_jsc, ↓gJoined, ↓gYes, ↓x_bnm, ↓x_btp, ↓x_bn, ↓x_bc, ↓x_nnN, ↓x_nnI, ↓x_nnS, ↓x_nnB, ↓x_nnT, ↓x_nnL, ↓x_nnO, ↓x_nnl, ↓x_tyS, ↓x_tyL, ↓x_i2, ↓aSub, ↓aFdiv, ↓aMod, ↓aPow, ↓aShr, ↓aLt, ↓aLe, ↓aGt, ↓aGe, ↓x_addI, ↓x_addS, ↓x_mulI, ↓x_iaddS, ↓x_iaddI, ↓x_neg, ↓x_eqI, ↓x_neI, ↓x_eqS, ↓x_neS, ↓x_eqB, ↓x_neB, ↓x_eqNI, ↓x_neNI, ↓x_lenS, ↓x_lenL_l, ↓x_lenL_k, ↓x_lenL_t, ↓x_str, ↓x_intI, ↓x_intB, ↓x_divmod, ↓x_max2, ↓x_min2, ↓x_ixS, ↓x_slS, ↓x_slT, ↓x_slL_l, ↓x_slL_k, ↓x_inS, ↓x_newT, ↓x_newF, ↓x_si, ↓x_s1, ↓x_s0, ↓x_rpart, ↓x_part, ↓x_a1, ↓x_a2, ↓x_isiStr, ↓x_isiInt, ↓x_isiIntB, ↓x_isiIntS, ↓x_isiBB, ↓x_isiBI, ↓x_isiStrI, ↓x_isiNonI, ↓x_isiNonS, ↓x_isiT, ↓x_isiL, ↓x_var0, ↓x_varS, ↓x_ex, ↓x_aug0, gat, pick, Option.some.injEq, D.bl.injEq, D.int.injEq, D.str.injEq, D.tup.injEq, D.lst.injEq, List.cons.injEq, and_true, true_and, List.set_cons_zero, List.set_cons_succ, List.length_cons, List.length_nil, List.filterMap_cons, List.filterMap_nil, List.getElem?_cons_zero, List.getElem?_cons_succ, Option.bind_some, ↓reduceIte, if_true, if_false, Bool.false_eq_true, Bool.true_eq_false, decide_eq_true_eq, beq_self_eq_true, Bool.not_true, Bool.not_false, Bool.not_eq_true', decide_eq_false_iff_not, exists_eq_left', exists_eq_left, exists_eq, ↓x_dnT, ↓x_dnF, ↓gAsgL, ↓gMMDef, ↓gDSet, ↓gSItems, ↓x_nilL, ↓x_nilE, List.isEmpty_nil, List.isEmpty_cons, Bool.true_xor, Bool.false_xor, ↓gOrT, ↓gAndT, ↓gTryAs, ↓gTryO, ↓gRaise, ↓gCallX, ↓gMethX, ↓gMakeX, ↓gFldX, ↓x_inXs, Bool.false_xor, Bool.true_xor, ↓gOrS, ↓gSortK]
  by_cases hc : max p.1 w.1 < min p.2 w.2
  · rw [if_pos hc] at h
    simp [hc]
    exact Mt.st_make (Int.le_of_lt hc) h
  · rw [if_neg hc] at h
    simp [hc]
    exact h
theorem r__law_inside (T : Txt K mg a) : ∀ ds S q, sp__law_inside a ds S q → g__law_inside K a { nx := fun _ S' => q .non S', rt := q } (startD N__law_inside ds) S := by
  rintro ds S q ⟨p, o, rfl, h⟩
  rw [st__law_inside]
  simp only [g__law_inside, T.f_Stretch_first, T.f_Stretch_behind, Mt.fg_first, Mt.fg_behind, ↓x_eqSS, ↓x_neSS, ↓gKGet, ↓x_kget, ↓x_ixE, at_last, ↓x_appE, ↓x_tyE, ↓x_itE, ↓x_lenE, ↓x_nePr, ↓x_eqPr, ↓x_neE, ↓x_lenr, ↓x_lenrI, ↓gRev, ↓x_par3, ↓x_par33, ↓x_fld, ↓x_fset, ↓x_mkF, ↓x_mk, ↓x_meth, ↓x_fldO, ↓x_fsetE, ↓x_fldE, ↓x_methO, ↓x_isiCO, ↓x_isiCN, ↓x_isiCT, ↓x_isiCLi, ↓x_isiCS, ↓x_isiCI, ↓x_own, ↓x_eqT2, ↓x_neT2, ↓x_neL4, ↓x_eqLN, ↓x_neNil, ↓x_gset, ↓x_lc, ↓x_for, ↓x_it, ↓x_rn1, ↓x_rn2, ↓x_enu, ↓x_zip, ↓x_itS, ↓x_itL, ↓x_itK, ↓x_itT, ↓x_rn1I, ↓x_rn2I, ↓x_enuL, ↓x_enuK, ↓x_zipL, ↓x_ixS0, ↓x_ixL, ↓x_ixT, ↓x_ixK, x_at0, x_at1, x_at2, x_at3, x_at4, ↓x_set00, ↓x_set01, ↓x_set02, ↓x_aug1, ↓x_aug2, ↓x_aug3, ↓x_aug4, ↓x_aug5, ↓x_aug6, ↓x_aug7, ↓x_aug8, ↓x_aug9, ↓x_aug10, ↓x_aug11, ↓x_aug12, ↓x_aug13, ↓x_aug14, ↓x_aug15, ↓x_aug16, ↓x_aug17, ↓x_aug18, ↓x_aug19, ↓x_aug20, ↓x_aug21, ↓x_aug22, ↓x_aug23, Int.reduceToNat, Int.reducePow, ↓gSeq, ↓gIfS, ↓gSet, ↓gAsg, ↓x_par, ↓x_par2, ↓gRet, ↓gRetN, ↓gNext, ↓gDrop, ↓gBreak, ↓gCont, ↓gDead, ↓gCB, ↓gB2, ↓gU, ↓gC, ↓Dl.gCons, ↓Dl.gNil, ↓Dl.gTup, ↓Dl.gLst, ↓gTest, ↓gOrB, ↓gAndB, ↓gNotB, ↓gAndV, ↓gOrV, ↓gNotV, ↓gIf, ↓gIx, ↓gSl, ↓gPart, ↓gNoP, ↓gMt, ↓gCall, ↓gArgs, ↓gIsN, ↓gNotN, ↓gChain, ↓x_fmtS, ↓x_afS, ↓x_afI, ↓x_js0, ↓x_jsc, ↓gJoined, ↓gYes, ↓x_bnm, ↓x_btp, ↓x_bn, ↓x_bc, ↓x_nnN, ↓x_nnI, ↓x_nnS, ↓x_nnB, ↓x_nnT, ↓x_nnL, ↓x_nnO, ↓x_nnl, ↓x_tyS, ↓x_tyL, ↓x_i2, ↓aSub, ↓aFdiv, ↓aMod, ↓aPow, ↓aShr, ↓aLt, ↓aLe, ↓aGt, ↓aGe, ↓x_addI, ↓x_addS, ↓x_mulI, ↓x_iaddS, ↓x_iaddI, ↓x_neg, ↓x_eqI, ↓x_neI, ↓x_eqS, ↓x_neS, ↓x_eqB, ↓x_neB, ↓x_eqNI, ↓x_neNI, ↓x_lenS, ↓x_lenL_l, ↓x_lenL_k, ↓x_lenL_t, ↓x_str, ↓x_intI, ↓x_intB, ↓x_divmod, ↓x_max2, ↓x_min2, ↓x_ixS, ↓x_slS, ↓x_slT, ↓x_slL_l, ↓x_slL_k, ↓x_inS, ↓x_newT, ↓x_newF, ↓x_si, ↓x_s1, ↓x_s0, ↓x_rpart, ↓x_part, ↓x_a1, ↓x_a2, ↓x_isiStr, ↓x_isiInt, ↓x_isiIntB, ↓x_isiIntS, ↓x_isiBB, ↓x_isiBI, ↓x_isiStrI, ↓x_isiNonI, ↓x_isiNonS, ↓x_isiT, ↓x_isiL, ↓x_var0, ↓x_varS, ↓x_ex, ↓x_aug0, gat, pick, Option.some.injEq, D.bl.injEq, D.int.injEq, D.str.injEq, D.tup.injEq, D.lst.injEq, List.cons.injEq, and_true, true_and, List.set_cons_zero, List.set_cons_succ, List.length_cons, List.length_nil, List.filterMap_cons, List.filterMap_nil, List.getElem?_cons_zero, List.getElem?_cons_succ, Option.bind_some, ↓reduceIte, if_true, if_false, Bool.false_eq_true, Bool.true_eq_false, decide_eq_true_eq, beq_self_eq_true, Bool.not_true, Bool.not_false, Bool.not_eq_true', decide_eq_false_iff_not, exists_eq_left', exists_eq_left, exists_eq, ↓x_dnT, ↓x_dnF, ↓gAsgL, ↓gMMDef, ↓gDSet, ↓gSItems, ↓x_nilL, ↓x_nilE, List.isEmpty_nil, List.isEmpty_cons, Bool.true_xor, Bool.false_xor, ↓gOrT, ↓gAndT, ↓gTryAs, ↓gTryO, ↓gRaise, ↓gCallX, ↓gMethX, ↓gMakeX, ↓gFldX, ↓x_inXs, Bool.false_xor, Bool.true_xor, ↓gOrS, ↓gSortK]
  by_cases hc : o.1 ≤ p.1
  · simpa [hc] using h
  · simpa [hc] using h
theorem r__law_beside (T : Txt K mg a) : ∀ ds S q, sp__law_beside a ds S q → g__law_beside K a { nx := fun _ S' => q .non S', rt := q } (startD N__law_beside ds) S := by
  rintro ds S q ⟨P, w, rfl, hl, hb, h⟩
  rw [st__law_beside]
  simp only [g__law_beside, T.f_Stretch_first, T.f_Stretch_behind, Mt.fg_first, Mt.fg_behind, ↓x_eqSS, ↓x_neSS, ↓gKGet, ↓x_kget, ↓x_ixE, at_last, ↓x_appE, ↓x_tyE, ↓x_itE, ↓x_lenE, ↓x_nePr, ↓x_eqPr, ↓x_neE, ↓x_lenr, ↓x_lenrI, ↓gRev, ↓x_par3, ↓x_par33, ↓x_fld, ↓x_fset, ↓x_mkF, ↓x_mk, ↓x_meth, ↓x_fldO, ↓x_fsetE, ↓x_fldE, ↓x_methO, ↓x_isiCO, ↓x_isiCN, ↓x_isiCT, ↓x_isiCLi, ↓x_isiCS, ↓x_isiCI, ↓x_own, ↓x_eqT2, ↓x_neT2, ↓x_neL4, ↓x_eqLN, ↓x_neNil, ↓x_gset, ↓x_lc, ↓x_for, ↓x_it, ↓x_rn1, ↓x_rn2, ↓x_enu, ↓x_zip, ↓x_itS, ↓x_itL, ↓x_itK, ↓x_itT, ↓x_rn1I, ↓x_rn2I, ↓x_enuL, ↓x_enuK, ↓x_zipL, ↓x_ixS0, ↓x_ixL, ↓x_ixT, ↓x_ixK, x_at0, x_at1, x_at2, x_at3, x_at4, ↓x_set00, ↓x_set01, ↓x_set02, ↓x_aug1, ↓x_aug2, ↓x_aug3, ↓x_aug4, ↓x_aug5, ↓x_aug6, ↓x_aug7, ↓x_aug8, ↓x_aug9, ↓x_aug10, ↓x_aug11, ↓x_aug12, ↓x_aug13, ↓x_aug14, ↓x_aug15, ↓x_aug16, ↓x_aug17, ↓x_aug18, ↓x_aug19, ↓x_aug20, ↓x_aug21, ↓x_aug22, ↓x_aug23, Int.reduceToNat, Int.reducePow, ↓gSeq, ↓gIfS, ↓gSet, ↓gAsg, ↓x_par, ↓x_par2, ↓gRet, ↓gRetN, ↓gNext, ↓gDrop, ↓gBreak, ↓gCont, ↓gDead, ↓gCB, ↓gB2, ↓gU, ↓gC, ↓Dl.gCons, ↓Dl.gNil, ↓Dl.gTup, ↓Dl.gLst, ↓gTest, ↓gOrB, ↓gAndB, ↓gNotB, ↓gAndV, ↓gOrV, ↓gNotV, ↓gIf, ↓gIx, ↓gSl, ↓gPart, ↓gNoP, ↓gMt, ↓gCall, ↓gArgs, ↓gIsN, ↓gNotN, ↓gChain, ↓x_fmtS, ↓x_afS, ↓x_afI, ↓x_js0, ↓x_jsc, ↓gJoined, ↓gYes, ↓x_bnm, ↓x_btp, ↓x_bn, ↓x_bc, ↓x_nnN, ↓x_nnI, ↓x_nnS, ↓x_nnB, ↓x_nnT, ↓x_nnL, ↓x_nnO, ↓x_nnl, ↓x_tyS, ↓x_tyL, ↓x_i2, ↓aSub, ↓aFdiv, ↓aMod, ↓aPow, ↓aShr, ↓aLt, ↓aLe, ↓aGt, ↓aGe, ↓x_addI, ↓x_addS, ↓x_mulI, ↓x_iaddS, ↓x_iaddI, ↓x_neg, ↓x_eqI, ↓x_neI, ↓x_eqS, ↓x_neS, ↓x_eqB, ↓x_neB, ↓x_eqNI, ↓x_neNI, ↓x_lenS, ↓x_lenL_l, ↓x_lenL_k, ↓x_lenL_t, ↓x_str, ↓x_intI, ↓x_intB, ↓x_divmod, ↓x_max2, ↓x_min2, ↓x_ixS, ↓x_slS, ↓x_slT, ↓x_slL_l, ↓x_slL_k, ↓x_inS, ↓x_newT, ↓x_newF, ↓x_si, ↓x_s1, ↓x_s0, ↓x_rpart, ↓x_part, ↓x_a1, ↓x_a2, ↓x_isiStr, ↓x_isiInt, ↓x_isiIntB, ↓x_isiIntS, ↓x_isiBB, ↓x_isiBI, ↓x_isiStrI, ↓x_isiNonI, ↓x_isiNonS, ↓x_isiT, ↓x_isiL, ↓x_var0, ↓x_varS, ↓x_ex, ↓x_aug0, gat, pick, Option.some.injEq, D.bl.injEq, D.int.injEq, D.str.injEq, D.tup.injEq, D.lst.injEq, List.cons.injEq, and_true, true_and, List.set_cons_zero, List.set_cons_succ, List.length_cons, List.length_nil, List.filterMap_cons, List.filterMap_nil, List.getElem?_cons_zero, List.getElem?_cons_succ, Option.bind_some, ↓reduceIte, if_true, if_false, Bool.false_eq_true, Bool.true_eq_false, decide_eq_true_eq, beq_self_eq_true, Bool.not_true, Bool.not_false, Bool.not_eq_true', decide_eq_false_iff_not, exists_eq_left', exists_eq_left, exists_eq, ↓x_dnT, ↓x_dnF, ↓gAsgL, ↓gMMDef, ↓gDSet, ↓gSItems, ↓x_nilL, ↓x_nilE, List.isEmpty_nil, List.isEmpty_cons, Bool.true_xor, Bool.false_xor, ↓gOrT, ↓gAndT, ↓gTryAs, ↓gTryO, ↓gRaise, ↓gCallX, ↓gMethX, ↓gMakeX, ↓gFldX, ↓x_inXs, Bool.false_xor, Bool.true_xor, ↓gOrS, ↓gSortK]
  refine ⟨fun i ρ S' => S' = S ∧ ∃ (here : Int) (y3 : Option D), ρ = [some (.lst (P.map (sD a.C_Stretch))), some (sD a.C_Stretch w), some (.int here), y3] ∧ tiles w.2 w.1 P = tiles w.2 here (P.drop i), ⟨rfl, _, _, rfl, rfl⟩, ?_, ?_⟩
  · rintro i d ρ S' hd ⟨rfl, here, y3, rfl, ht⟩
    rw [List.getElem?_map] at hd
    obtain ⟨x, hx, rfl⟩ := Option.map_eq_some_iff.mp hd
    have hi : i < P.length := (List.getElem?_eq_some_iff.mp hx).1
    have hdrop : P.drop i = x :: P.drop (i + 1) := by
      rw [List.drop_eq_getElem_cons hi]
      congr 1
      rw [List.getElem?_eq_getElem hi] at hx
      exact Option.some.inj hx
    rw [hdrop] at ht
    have hx2 := hb x (List.mem_of_getElem? hx)
    refine ⟨trivial, _, x_bnm, ?_⟩
    simp only [T.f_Stretch_first, T.f_Stretch_behind, Mt.fg_first, Mt.fg_behind, ↓x_eqSS, ↓x_neSS, ↓gKGet, ↓x_kget, ↓x_ixE, at_last, ↓x_appE, ↓x_tyE, ↓x_itE, ↓x_lenE, ↓x_nePr, ↓x_eqPr, ↓x_neE, ↓x_lenr, ↓x_lenrI, ↓gRev, ↓x_par3, ↓x_par33, ↓x_fld, ↓x_fset, ↓x_mkF, ↓x_mk, ↓x_meth, ↓x_fldO, ↓x_fsetE, ↓x_fldE, ↓x_methO, ↓x_isiCO, ↓x_isiCN, ↓x_isiCT, ↓x_isiCLi, ↓x_isiCS, ↓x_isiCI, ↓x_own, ↓x_eqT2, ↓x_neT2, ↓x_neL4, ↓x_eqLN, ↓x_neNil, ↓x_gset, ↓x_lc, ↓x_for, ↓x_it, ↓x_rn1, ↓x_rn2, ↓x_enu, ↓x_zip, ↓x_itS, ↓x_itL, ↓x_itK, ↓x_itT, ↓x_rn1I, ↓x_rn2I, ↓x_enuL, ↓x_enuK, ↓x_zipL, ↓x_ixS0, ↓x_ixL, ↓x_ixT, ↓x_ixK, x_at0, x_at1, x_at2, x_at3, x_at4, ↓x_set00, ↓x_set01, ↓x_set02, ↓x_aug1, ↓x_aug2, ↓x_aug3, ↓x_aug4, ↓x_aug5, ↓x_aug6, ↓x_aug7, ↓x_aug8, ↓x_aug9, ↓x_aug10, ↓x_aug11, ↓x_aug12, ↓x_aug13, ↓x_aug14, ↓x_aug15, ↓x_aug16, ↓x_aug17, ↓x_aug18, ↓x_aug19, ↓x_aug20, ↓x_aug21, ↓x_aug22, ↓x_aug23, Int.reduceToNat, Int.reducePow, ↓gSeq, ↓gIfS, ↓gSet, ↓gAsg, ↓x_par, ↓x_par2, ↓gRet, ↓gRetN, ↓gNext, ↓gDrop, ↓gBreak, ↓gCont, ↓gDead, ↓gCB, ↓gB2, ↓gU, ↓gC, ↓Dl.gCons, ↓Dl.gNil, ↓Dl.gTup, ↓Dl.gLst, ↓gTest, ↓gOrB, ↓gAndB, ↓gNotB, ↓gAndV, ↓gOrV, ↓gNotV, ↓gIf, ↓gIx, ↓gSl, ↓gPart, ↓gNoP, ↓gMt, ↓gCall, ↓gArgs, ↓gIsN, ↓gNotN, ↓gChain, ↓x_fmtS, ↓x_afS, ↓x_afI, ↓x_js0, ↓x_jsc, ↓gJoined, ↓gYes, ↓x_bnm, ↓x_btp, ↓x_bn, ↓x_bc, ↓x_nnN, ↓x_nnI, ↓x_nnS, ↓x_nnB, ↓x_nnT, ↓x_nnL, ↓x_nnO, ↓x_nnl, ↓x_tyS, ↓x_tyL, ↓x_i2, ↓aSub, ↓aFdiv, ↓aMod, ↓aPow, ↓aShr, ↓aLt, ↓aLe, ↓aGt, ↓aGe, ↓x_addI, ↓x_addS, ↓x_mulI, ↓x_iaddS, ↓x_iaddI, ↓x_neg, ↓x_eqI, ↓x_neI, ↓x_eqS, ↓x_neS, ↓x_eqB, ↓x_neB, ↓x_eqNI, ↓x_neNI, ↓x_lenS, ↓x_lenL_l, ↓x_lenL_k, ↓x_lenL_t, ↓x_str, ↓x_intI, ↓x_intB, ↓x_divmod, ↓x_max2, ↓x_min2, ↓x_ixS, ↓x_slS, ↓x_slT, ↓x_slL_l, ↓x_slL_k, ↓x_inS, ↓x_newT, ↓x_newF, ↓x_si, ↓x_s1, ↓x_s0, ↓x_rpart, ↓x_part, ↓x_a1, ↓x_a2, ↓x_isiStr, ↓x_isiInt, ↓x_isiIntB, ↓x_isiIntS, ↓x_isiBB, ↓x_isiBI, ↓x_isiStrI, ↓x_isiNonI, ↓x_isiNonS, ↓x_isiT, ↓x_isiL, ↓x_var0, ↓x_varS, ↓x_ex, ↓x_aug0, gat, pick, Option.some.injEq, D.bl.injEq, D.int.injEq, D.str.injEq, D.tup.injEq, D.lst.injEq, List.cons.injEq, and_true, true_and, List.set_cons_zero, List.set_cons_succ, List.length_cons, List.length_nil, List.filterMap_cons, List.filterMap_nil, List.getElem?_cons_zero, List.getElem?_cons_succ, Option.bind_some, ↓reduceIte, if_true, if_false, Bool.false_eq_true, Bool.true_eq_false, decide_eq_true_eq, beq_self_eq_true, Bool.not_true, Bool.not_false, Bool.not_eq_true', decide_eq_false_iff_not, exists_eq_left', exists_eq_left, exists_eq, ↓x_dnT, ↓x_dnF, ↓gAsgL, ↓gMMDef, ↓gDSet, ↓gSItems, ↓x_nilL, ↓x_nilE, List.isEmpty_nil, List.isEmpty_cons, Bool.true_xor, Bool.false_xor, ↓gOrT, ↓gAndT, ↓gTryAs, ↓gTryO, ↓gRaise, ↓gCallX, ↓gMethX, ↓gMakeX, ↓gFldX, ↓x_inXs, Bool.false_xor, Bool.true_xor, ↓gOrS, ↓gSortK]
    have ht2 : tiles w.2 w.1 P = (decide (x.1 = here) && (decide (x.1 < x.2) && tiles w.2 x.2 (P.drop (i + 1)))) := ht
    by_cases h1 : x.1 = here
    · rw [if_neg (fun z => z h1)]
      refine ⟨⟨_, _, rfl⟩, x, rfl, hx2, ?_⟩
      refine ⟨_, rfl, by omega, by omega, ?_⟩
      (try simp only [↓x_eqSS, ↓x_neSS, ↓gKGet, ↓x_kget, ↓x_ixE, at_last, ↓x_appE, ↓x_tyE, ↓x_itE, ↓x_lenE, ↓x_nePr, ↓x_eqPr, ↓x_neE, ↓x_lenr, ↓x_lenrI, ↓gRev, ↓x_par3, ↓x_par33, ↓x_fld, ↓x_fset, ↓x_mkF, ↓x_mk, ↓x_meth, ↓x_fldO, ↓x_fsetE, ↓x_fldE, ↓x_methO, ↓x_isiCO, ↓x_isiCN, ↓x_isiCT, ↓x_isiCLi, ↓x_isiCS, ↓x_isiCI, ↓x_own, ↓x_eqT2, ↓x_neT2, ↓x_neL4, ↓x_eqLN, ↓x_neNil, ↓x_gset, ↓x_lc, ↓x_for, ↓x_it, ↓x_rn1, ↓x_rn2, ↓x_enu, ↓x_zip, ↓x_itS, ↓x_itL, ↓x_itK, ↓x_itT, ↓x_rn1I, ↓x_rn2I, ↓x_enuL, ↓x_enuK, ↓x_zipL, ↓x_ixS0, ↓x_ixL, ↓x_ixT, ↓x_ixK, x_at0, x_at1, x_at2, x_at3, x_at4, ↓x_set00, ↓x_set01, ↓x_set02, ↓x_aug1, ↓x_aug2, ↓x_aug3, ↓x_aug4, ↓x_aug5, ↓x_aug6, ↓x_aug7, ↓x_aug8, ↓x_aug9, ↓x_aug10, ↓x_aug11, ↓x_aug12, ↓x_aug13, ↓x_aug14, ↓x_aug15, ↓x_aug16, ↓x_aug17, ↓x_aug18, ↓x_aug19, ↓x_aug20, ↓x_aug21, ↓x_aug22, ↓x_aug23, Int.reduceToNat, Int.reducePow, ↓gSeq, ↓gIfS, ↓gSet, ↓gAsg, ↓x_par, ↓x_par2, ↓gRet, ↓gRetN, ↓gNext, ↓gDrop, ↓gBreak, ↓gCont, ↓gDead, ↓gCB, ↓gB2, ↓gU, ↓gC, ↓Dl.gCons, ↓Dl.gNil, ↓Dl.gTup, ↓Dl.gLst, ↓gTest, ↓gOrB, ↓gAndB, ↓gNotB, ↓gAndV, ↓gOrV, ↓gNotV, ↓gIf, ↓gIx, ↓gSl, ↓gPart, ↓gNoP, ↓gMt, ↓gCall, ↓gArgs, ↓gIsN, ↓gNotN, ↓gChain, ↓x_fmtS, ↓x_afS, ↓x_afI, ↓x_js0, ↓x_jsc, ↓gJoined, ↓gYes, ↓x_bnm, ↓x_btp, ↓x_bn, ↓x_bc, ↓x_nnN, ↓x_nnI, ↓x_nnS, ↓x_nnB, ↓x_nnT, ↓x_nnL, ↓x_nnO, ↓x_nnl, ↓x_tyS, ↓x_tyL, ↓x_i2, ↓aSub, ↓aFdiv, ↓aMod, ↓aPow, ↓aShr, ↓aLt, ↓aLe, ↓aGt, ↓aGe, ↓x_addI, ↓x_addS, ↓x_mulI, ↓x_iaddS, ↓x_iaddI, ↓x_neg, ↓x_eqI, ↓x_neI, ↓x_eqS, ↓x_neS, ↓x_eqB, ↓x_neB, ↓x_eqNI, ↓x_neNI, ↓x_lenS, ↓x_lenL_l, ↓x_lenL_k, ↓x_lenL_t, ↓x_str, ↓x_intI, ↓x_intB, ↓x_divmod, ↓x_max2, ↓x_min2, ↓x_ixS, ↓x_slS, ↓x_slT, ↓x_slL_l, ↓x_slL_k, ↓x_inS, ↓x_newT, ↓x_newF, ↓x_si, ↓x_s1, ↓x_s0, ↓x_rpart, ↓x_part, ↓x_a1, ↓x_a2, ↓x_isiStr, ↓x_isiInt, ↓x_isiIntB, ↓x_isiIntS, ↓x_isiBB, ↓x_isiBI, ↓x_isiStrI, ↓x_isiNonI, ↓x_isiNonS, ↓x_isiT, ↓x_isiL, ↓x_var0, ↓x_varS, ↓x_ex, ↓x_aug0, gat, pick, Option.some.injEq, D.bl.injEq, D.int.injEq, D.str.injEq, D.tup.injEq, D.lst.injEq, List.cons.injEq, and_true, true_and, List.set_cons_zero, List.set_cons_succ, List.length_cons, List.length_nil, List.filterMap_cons, List.filterMap_nil, List.getElem?_cons_zero, List.getElem?_cons_succ, Option.bind_some, ↓reduceIte, if_true, if_false, Bool.false_eq_true, Bool.true_eq_false, decide_eq_true_eq, beq_self_eq_true, Bool.not_true, Bool.not_false, Bool.not_eq_true', decide_eq_false_iff_not, exists_eq_left', exists_eq_left, exists_eq, ↓x_dnT, ↓x_dnF, ↓gAsgL, ↓gMMDef, ↓gDSet, ↓gSItems, ↓x_nilL, ↓x_nilE, List.isEmpty_nil, List.isEmpty_cons, Bool.true_xor, Bool.false_xor, ↓gOrT, ↓gAndT, ↓gTryAs, ↓gTryO, ↓gRaise, ↓gCallX, ↓gMethX, ↓gMakeX, ↓gFldX, ↓x_inXs, Bool.false_xor, Bool.true_xor, ↓gOrS, ↓gSortK])
      by_cases h2 : x.1 < x.2
      · rw [if_neg (by omega)]
        refine ⟨_, _, ⟨rfl, rfl⟩, ?_⟩
        rw [ht2, decide_eq_true h1, decide_eq_true h2]
        rfl
      · rw [if_pos (by omega)]
        rw [ht2, decide_eq_false h2, Bool.false_and, Bool.and_false] at h
        exact h
    · rw [if_pos h1]
      rw [ht2, decide_eq_false h1, Bool.false_and] at h
      exact h
  · rintro ρ S' ⟨rfl, here, y3, rfl, ht⟩
    refine ⟨trivial, ?_⟩
    rw [List.length_map, List.drop_length] at ht
    simp only [T.f_Stretch_first, T.f_Stretch_behind, Mt.fg_first, Mt.fg_behind, ↓x_eqSS, ↓x_neSS, ↓gKGet, ↓x_kget, ↓x_ixE, at_last, ↓x_appE, ↓x_tyE, ↓x_itE, ↓x_lenE, ↓x_nePr, ↓x_eqPr, ↓x_neE, ↓x_lenr, ↓x_lenrI, ↓gRev, ↓x_par3, ↓x_par33, ↓x_fld, ↓x_fset, ↓x_mkF, ↓x_mk, ↓x_meth, ↓x_fldO, ↓x_fsetE, ↓x_fldE, ↓x_methO, ↓x_isiCO, ↓x_isiCN, ↓x_isiCT, ↓x_isiCLi, ↓x_isiCS, ↓x_isiCI, ↓x_own, ↓x_eqT2, ↓x_neT2, ↓x_neL4, ↓x_eqLN, ↓x_neNil, ↓x_gset, ↓x_lc, ↓x_for, ↓x_it, ↓x_rn1, ↓x_rn2, ↓x_enu, ↓x_zip, ↓x_itS, ↓x_itL, ↓x_itK, ↓x_itT, ↓x_rn1I, ↓x_rn2I, ↓x_enuL, ↓x_enuK, ↓x_zipL, ↓x_ixS0, ↓x_ixL, ↓x_ixT, ↓x_ixK, x_at0, x_at1, x_at2, x_at3, x_at4, ↓x_set00, ↓x_set01, ↓x_set02, ↓x_aug1, ↓x_aug2, ↓x_aug3, ↓x_aug4, ↓x_aug5, ↓x_aug6, ↓x_aug7, ↓x_aug8, ↓x_aug9, ↓x_aug10, ↓x_aug11, ↓x_aug12, ↓x_aug13, ↓x_aug14, ↓x_aug15, ↓x_aug16, ↓x_aug17, ↓x_aug18, ↓x_aug19, ↓x_aug20, ↓x_aug21, ↓x_aug22, ↓x_aug23, Int.reduceToNat, Int.reducePow, ↓gSeq, ↓gIfS, ↓gSet, ↓gAsg, ↓x_par, ↓x_par2, ↓gRet, ↓gRetN, ↓gNext, ↓gDrop, ↓gBreak, ↓gCont, ↓gDead, ↓gCB, ↓gB2, ↓gU, ↓gC, ↓Dl.gCons, ↓Dl.gNil, ↓Dl.gTup, ↓Dl.gLst, ↓gTest, ↓gOrB, ↓gAndB, ↓gNotB, ↓gAndV, ↓gOrV, ↓gNotV, ↓gIf, ↓gIx, ↓gSl, ↓gPart, ↓gNoP, ↓gMt, ↓gCall, ↓gArgs, ↓gIsN, ↓gNotN, ↓gChain, ↓x_fmtS, ↓x_afS, ↓x_afI, ↓x_js0, ↓x_jsc, ↓gJoined, ↓gYes, ↓x_bnm, ↓x_btp, ↓x_bn, ↓x_bc, ↓x_nnN, ↓x_nnI, ↓x_nnS, ↓x_nnB, ↓x_nnT, ↓x_nnL, ↓x_nnO, ↓x_nnl, ↓x_tyS, ↓x_tyL, ↓x_i2, ↓aSub, ↓aFdiv, ↓aMod, ↓aPow, ↓aShr, ↓aLt, ↓aLe, ↓aGt, ↓aGe, ↓x_addI, ↓x_addS, ↓x_mulI, ↓x_iaddS, ↓x_iaddI, ↓x_neg, ↓x_eqI, ↓x_neI, ↓x_eqS, ↓x_neS, ↓x_eqB, ↓x_neB, ↓x_eqNI, ↓x_neNI, ↓x_lenS, ↓x_lenL_l, ↓x_lenL_k, ↓x_lenL_t, ↓x_str, ↓x_intI, ↓x_intB, ↓x_divmod, ↓x_max2, ↓x_min2, ↓x_ixS, ↓x_slS, ↓x_slT, ↓x_slL_l, ↓x_slL_k, ↓x_inS, ↓x_newT, ↓x_newF, ↓x_si, ↓x_s1, ↓x_s0, ↓x_rpart, ↓x_part, ↓x_a1, ↓x_a2, ↓x_isiStr, ↓x_isiInt, ↓x_isiIntB, ↓x_isiIntS, ↓x_isiBB, ↓x_isiBI, ↓x_isiStrI, ↓x_isiNonI, ↓x_isiNonS, ↓x_isiT, ↓x_isiL, ↓x_var0, ↓x_varS, ↓x_ex, ↓x_aug0, gat, pick, Option.some.injEq, D.bl.injEq, D.int.injEq, D.str.injEq, D.tup.injEq, D.lst.injEq, List.cons.injEq, and_true, true_and, List.set_cons_zero, List.set_cons_succ, List.length_cons, List.length_nil, List.filterMap_cons, List.filterMap_nil, List.getElem?_cons_zero, List.getElem?_cons_succ, Option.bind_some, ↓reduceIte, if_true, if_false, Bool.false_eq_true, Bool.true_eq_false, decide_eq_true_eq, beq_self_eq_true, Bool.not_true, Bool.not_false, Bool.not_eq_true', decide_eq_false_iff_not, exists_eq_left', exists_eq_left, exists_eq, ↓x_dnT, ↓x_dnF, ↓gAsgL, ↓gMMDef, ↓gDSet, ↓gSItems, ↓x_nilL, ↓x_nilE, List.isEmpty_nil, List.isEmpty_cons, Bool.true_xor, Bool.false_xor, ↓gOrT, ↓gAndT, ↓gTryAs, ↓gTryO, ↓gRaise, ↓gCallX, ↓gMethX, ↓gMakeX, ↓gFldX, ↓x_inXs, Bool.false_xor, Bool.true_xor, ↓gOrS, ↓gSortK]
    rw [ht] at h
    exact h
theorem rf__law_made (T : Txt K mg a) : ∀ ds S q, D.unders S.length ds = true → Sto.under S.length S = true → sp__law_made a ds S q → g__law_made K a { nx := fun _ S' => fin S.length q .non S', rt := fin S.length q } (startD N__law_made ds) S := by
  rintro ds S q hu hs ⟨o, R0, B, rfl, rfl, ht, hb, h⟩
  rw [st__law_made]
  simp only [g__law_made, ↓x_eqSS, ↓x_neSS, ↓gKGet, ↓x_kget, ↓x_ixE, at_last, ↓x_appE, ↓x_tyE, ↓x_itE, ↓x_lenE, ↓x_nePr, ↓x_eqPr, ↓x_neE, ↓x_lenr, ↓x_lenrI, ↓gRev, ↓x_par3, ↓x_par33, ↓x_fld, ↓x_fset, ↓x_mkF, ↓x_mk, ↓x_meth, ↓x_fldO, ↓x_fsetE, ↓x_fldE, ↓x_methO, ↓x_isiCO, ↓x_isiCN, ↓x_isiCT, ↓x_isiCLi, ↓x_isiCS, ↓x_isiCI, ↓x_own, ↓x_eqT2, ↓x_neT2, ↓x_neL4, ↓x_eqLN, ↓x_neNil, ↓x_gset, ↓x_lc, ↓x_for, ↓x_it, ↓x_rn1, ↓x_rn2, ↓x_enu, ↓x_zip, ↓x_itS, ↓x_itL, ↓x_itK, ↓x_itT, ↓x_rn1I, ↓x_rn2I, ↓x_enuL, ↓x_enuK, ↓x_zipL, ↓x_ixS0, ↓x_ixL, ↓x_ixT, ↓x_ixK, x_at0, x_at1, x_at2, x_at3, x_at4, ↓x_set00, ↓x_set01, ↓x_set02, ↓x_aug1, ↓x_aug2, ↓x_aug3, ↓x_aug4, ↓x_aug5, ↓x_aug6, ↓x_aug7, ↓x_aug8, ↓x_aug9, ↓x_aug10, ↓x_aug11, ↓x_aug12, ↓x_aug13, ↓x_aug14, ↓x_aug15, ↓x_aug16, ↓x_aug17, ↓x_aug18, ↓x_aug19, ↓x_aug20, ↓x_aug21, ↓x_aug22, ↓x_aug23, Int.reduceToNat, Int.reducePow, ↓gSeq, ↓gIfS, ↓gSet, ↓gAsg, ↓x_par, ↓x_par2, ↓gRet, ↓gRetN, ↓gNext, ↓gDrop, ↓gBreak, ↓gCont, ↓gDead, ↓gCB, ↓gB2, ↓gU, ↓gC, ↓Dl.gCons, ↓Dl.gNil, ↓Dl.gTup, ↓Dl.gLst, ↓gTest, ↓gOrB, ↓gAndB, ↓gNotB, ↓gAndV, ↓gOrV, ↓gNotV, ↓gIf, ↓gIx, ↓gSl, ↓gPart, ↓gNoP, ↓gMt, ↓gCall, ↓gArgs, ↓gIsN, ↓gNotN, ↓gChain, ↓x_fmtS, ↓x_afS, ↓x_afI, ↓x_js0, ↓x_jsc, ↓gJoined, ↓gYes, ↓x_bnm, ↓x_btp, ↓x_bn, ↓x_bc, ↓x_nnN, ↓x_nnI, ↓x_nnS, ↓x_nnB, ↓x_nnT, ↓x_nnL, ↓x_nnO, ↓x_nnl, ↓x_tyS, ↓x_tyL, ↓x_i2, ↓aSub, ↓aFdiv, ↓aMod, ↓aPow, ↓aShr, ↓aLt, ↓aLe, ↓aGt, ↓aGe, ↓x_addI, ↓x_addS, ↓x_mulI, ↓x_iaddS, ↓x_iaddI, ↓x_neg, ↓x_eqI, ↓x_neI, ↓x_eqS, ↓x_neS, ↓x_eqB, ↓x_neB, ↓x_eqNI, ↓x_neNI, ↓x_lenS, ↓x_lenL_l, ↓x_lenL_k, ↓x_lenL_t, ↓x_str, ↓x_intI, ↓x_intB, ↓x_divmod, ↓x_max2, ↓x_min2, ↓x_ixS, ↓x_slS, ↓x_slT, ↓x_slL_l, ↓x_slL_k, ↓x_inS, ↓x_newT, ↓x_newF, ↓x_si, ↓x_s1, ↓x_s0, ↓x_rpart, ↓x_part, ↓x_a1, ↓x_a2, ↓x_isiStr, ↓x_isiInt, ↓x_isiIntB, ↓x_isiIntS, ↓x_isiBB, ↓x_isiBI, ↓x_isiStrI, ↓x_isiNonI, ↓x_isiNonS, ↓x_isiT, ↓x_isiL, ↓x_var0, ↓x_varS, ↓x_ex, ↓x_aug0, gat, pick, Option.some.injEq, D.bl.injEq, D.int.injEq, D.str.injEq, D.tup.injEq, D.lst.injEq, List.cons.injEq, and_true, true_and, List.set_cons_zero, List.set_cons_succ, List.length_cons, List.length_nil, List.filterMap_cons, List.filterMap_nil, List.getElem?_cons_zero, List.getElem?_cons_succ, Option.bind_some, ↓reduceIte, if_true, if_false, Bool.false_eq_true, Bool.true_eq_false, decide_eq_true_eq, beq_self_eq_true, Bool.not_true, Bool.not_false, Bool.not_eq_true', decide_eq_false_iff_not, exists_eq_left', exists_eq_left, exists_eq, ↓x_dnT, ↓x_dnF, ↓gAsgL, ↓gMMDef, ↓gDSet, ↓gSItems, ↓x_nilL, ↓x_nilE, List.isEmpty_nil, List.isEmpty_cons, Bool.true_xor, Bool.false_xor, ↓gOrT, ↓gAndT, ↓gTryAs, ↓gTryO, ↓gRaise, ↓gCallX, ↓gMethX, ↓gMakeX, ↓gFldX, ↓x_inXs, Bool.false_xor, Bool.true_xor, ↓gOrS, ↓gSortK]
  have hs' : 1000 ≤ sizeLine := by decide
  have t15 := Mt.ten15
  refine ⟨by decide, by decide, Mt.pickL_in (R0 := R0 ++ [some (.lst [])]) (by simp) (by simp) ht (by omega) fun e o0 he ht0 => ?_⟩
  obtain ⟨mx, rfl, m1, m2⟩ : ∃ z, e = .int z ∧ 0 < z ∧ z ≤ 61 := by
    simp only [List.mem_cons, List.not_mem_nil, or_false] at he
    rcases he with rfl | rfl | rfl
    · exact ⟨_, rfl, by decide, by decide⟩
    · exact ⟨_, rfl, by decide, by decide⟩
    · exact ⟨_, rfl, by decide, by decide⟩
  (try simp only [↓x_eqSS, ↓x_neSS, ↓gKGet, ↓x_kget, ↓x_ixE, at_last, ↓x_appE, ↓x_tyE, ↓x_itE, ↓x_lenE, ↓x_nePr, ↓x_eqPr, ↓x_neE, ↓x_lenr, ↓x_lenrI, ↓gRev, ↓x_par3, ↓x_par33, ↓x_fld, ↓x_fset, ↓x_mkF, ↓x_mk, ↓x_meth, ↓x_fldO, ↓x_fsetE, ↓x_fldE, ↓x_methO, ↓x_isiCO, ↓x_isiCN, ↓x_isiCT, ↓x_isiCLi, ↓x_isiCS, ↓x_isiCI, ↓x_own, ↓x_eqT2, ↓x_neT2, ↓x_neL4, ↓x_eqLN, ↓x_neNil, ↓x_gset, ↓x_lc, ↓x_for, ↓x_it, ↓x_rn1, ↓x_rn2, ↓x_enu, ↓x_zip, ↓x_itS, ↓x_itL, ↓x_itK, ↓x_itT, ↓x_rn1I, ↓x_rn2I, ↓x_enuL, ↓x_enuK, ↓x_zipL, ↓x_ixS0, ↓x_ixL, ↓x_ixT, ↓x_ixK, x_at0, x_at1, x_at2, x_at3, x_at4, ↓x_set00, ↓x_set01, ↓x_set02, ↓x_aug1, ↓x_aug2, ↓x_aug3, ↓x_aug4, ↓x_aug5, ↓x_aug6, ↓x_aug7, ↓x_aug8, ↓x_aug9, ↓x_aug10, ↓x_aug11, ↓x_aug12, ↓x_aug13, ↓x_aug14, ↓x_aug15, ↓x_aug16, ↓x_aug17, ↓x_aug18, ↓x_aug19, ↓x_aug20, ↓x_aug21, ↓x_aug22, ↓x_aug23, Int.reduceToNat, Int.reducePow, ↓gSeq, ↓gIfS, ↓gSet, ↓gAsg, ↓x_par, ↓x_par2, ↓gRet, ↓gRetN, ↓gNext, ↓gDrop, ↓gBreak, ↓gCont, ↓gDead, ↓gCB, ↓gB2, ↓gU, ↓gC, ↓Dl.gCons, ↓Dl.gNil, ↓Dl.gTup, ↓Dl.gLst, ↓gTest, ↓gOrB, ↓gAndB, ↓gNotB, ↓gAndV, ↓gOrV, ↓gNotV, ↓gIf, ↓gIx, ↓gSl, ↓gPart, ↓gNoP, ↓gMt, ↓gCall, ↓gArgs, ↓gIsN, ↓gNotN, ↓gChain, ↓x_fmtS, ↓x_afS, ↓x_afI, ↓x_js0, ↓x_jsc, ↓gJoined, ↓gYes, ↓x_bnm, ↓x_btp, ↓x_bn, ↓x_bc, ↓x_nnN, ↓x_nnI, ↓x_nnS, ↓x_nnB, ↓x_nnT, ↓x_nnL, ↓x_nnO, ↓x_nnl, ↓x_tyS, ↓x_tyL, ↓x_i2, ↓aSub, ↓aFdiv, ↓aMod, ↓aPow, ↓aShr, ↓aLt, ↓aLe, ↓aGt, ↓aGe, ↓x_addI, ↓x_addS, ↓x_mulI, ↓x_iaddS, ↓x_iaddI, ↓x_neg, ↓x_eqI, ↓x_neI, ↓x_eqS, ↓x_neS, ↓x_eqB, ↓x_neB, ↓x_eqNI, ↓x_neNI, ↓x_lenS, ↓x_lenL_l, ↓x_lenL_k, ↓x_lenL_t, ↓x_str, ↓x_intI, ↓x_intB, ↓x_divmod, ↓x_max2, ↓x_min2, ↓x_ixS, ↓x_slS, ↓x_slT, ↓x_slL_l, ↓x_slL_k, ↓x_inS, ↓x_newT, ↓x_newF, ↓x_si, ↓x_s1, ↓x_s0, ↓x_rpart, ↓x_part, ↓x_a1, ↓x_a2, ↓x_isiStr, ↓x_isiInt, ↓x_isiIntB, ↓x_isiIntS, ↓x_isiBB, ↓x_isiBI, ↓x_isiStrI, ↓x_isiNonI, ↓x_isiNonS, ↓x_isiT, ↓x_isiL, ↓x_var0, ↓x_varS, ↓x_ex, ↓x_aug0, gat, pick, Option.some.injEq, D.bl.injEq, D.int.injEq, D.str.injEq, D.tup.injEq, D.lst.injEq, List.cons.injEq, and_true, true_and, List.set_cons_zero, List.set_cons_succ, List.length_cons, List.length_nil, List.filterMap_cons, List.filterMap_nil, List.getElem?_cons_zero, List.getElem?_cons_succ, Option.bind_some, ↓reduceIte, if_true, if_false, Bool.false_eq_true, Bool.true_eq_false, decide_eq_true_eq, beq_self_eq_true, Bool.not_true, Bool.not_false, Bool.not_eq_true', decide_eq_false_iff_not, exists_eq_left', exists_eq_left, exists_eq, ↓x_dnT, ↓x_dnF, ↓gAsgL, ↓gMMDef, ↓gDSet, ↓gSItems, ↓x_nilL, ↓x_nilE, List.isEmpty_nil, List.isEmpty_cons, Bool.true_xor, Bool.false_xor, ↓gOrT, ↓gAndT, ↓gTryAs, ↓gTryO, ↓gRaise, ↓gCallX, ↓gMethX, ↓gMakeX, ↓gFldX, ↓x_inXs, Bool.false_xor, Bool.true_xor, ↓gOrS, ↓gSortK])
  refine Mt.draw_in (R0 := R0 ++ [some (.lst [])]) (by omega) (by omega) ht0 (by omega) fun c o1 hc1 hc2 ht1 => ?_
  simp only [↓x_eqSS, ↓x_neSS, ↓gKGet, ↓x_kget, ↓x_ixE, at_last, ↓x_appE, ↓x_tyE, ↓x_itE, ↓x_lenE, ↓x_nePr, ↓x_eqPr, ↓x_neE, ↓x_lenr, ↓x_lenrI, ↓gRev, ↓x_par3, ↓x_par33, ↓x_fld, ↓x_fset, ↓x_mkF, ↓x_mk, ↓x_meth, ↓x_fldO, ↓x_fsetE, ↓x_fldE, ↓x_methO, ↓x_isiCO, ↓x_isiCN, ↓x_isiCT, ↓x_isiCLi, ↓x_isiCS, ↓x_isiCI, ↓x_own, ↓x_eqT2, ↓x_neT2, ↓x_neL4, ↓x_eqLN, ↓x_neNil, ↓x_gset, ↓x_lc, ↓x_for, ↓x_it, ↓x_rn1, ↓x_rn2, ↓x_enu, ↓x_zip, ↓x_itS, ↓x_itL, ↓x_itK, ↓x_itT, ↓x_rn1I, ↓x_rn2I, ↓x_enuL, ↓x_enuK, ↓x_zipL, ↓x_ixS0, ↓x_ixL, ↓x_ixT, ↓x_ixK, x_at0, x_at1, x_at2, x_at3, x_at4, ↓x_set00, ↓x_set01, ↓x_set02, ↓x_aug1, ↓x_aug2, ↓x_aug3, ↓x_aug4, ↓x_aug5, ↓x_aug6, ↓x_aug7, ↓x_aug8, ↓x_aug9, ↓x_aug10, ↓x_aug11, ↓x_aug12, ↓x_aug13, ↓x_aug14, ↓x_aug15, ↓x_aug16, ↓x_aug17, ↓x_aug18, ↓x_aug19, ↓x_aug20, ↓x_aug21, ↓x_aug22, ↓x_aug23, Int.reduceToNat, Int.reducePow, ↓gSeq, ↓gIfS, ↓gSet, ↓gAsg, ↓x_par, ↓x_par2, ↓gRet, ↓gRetN, ↓gNext, ↓gDrop, ↓gBreak, ↓gCont, ↓gDead, ↓gCB, ↓gB2, ↓gU, ↓gC, ↓Dl.gCons, ↓Dl.gNil, ↓Dl.gTup, ↓Dl.gLst, ↓gTest, ↓gOrB, ↓gAndB, ↓gNotB, ↓gAndV, ↓gOrV, ↓gNotV, ↓gIf, ↓gIx, ↓gSl, ↓gPart, ↓gNoP, ↓gMt, ↓gCall, ↓gArgs, ↓gIsN, ↓gNotN, ↓gChain, ↓x_fmtS, ↓x_afS, ↓x_afI, ↓x_js0, ↓x_jsc, ↓gJoined, ↓gYes, ↓x_bnm, ↓x_btp, ↓x_bn, ↓x_bc, ↓x_nnN, ↓x_nnI, ↓x_nnS, ↓x_nnB, ↓x_nnT, ↓x_nnL, ↓x_nnO, ↓x_nnl, ↓x_tyS, ↓x_tyL, ↓x_i2, ↓aSub, ↓aFdiv, ↓aMod, ↓aPow, ↓aShr, ↓aLt, ↓aLe, ↓aGt, ↓aGe, ↓x_addI, ↓x_addS, ↓x_mulI, ↓x_iaddS, ↓x_iaddI, ↓x_neg, ↓x_eqI, ↓x_neI, ↓x_eqS, ↓x_neS, ↓x_eqB, ↓x_neB, ↓x_eqNI, ↓x_neNI, ↓x_lenS, ↓x_lenL_l, ↓x_lenL_k, ↓x_lenL_t, ↓x_str, ↓x_intI, ↓x_intB, ↓x_divmod, ↓x_max2, ↓x_min2, ↓x_ixS, ↓x_slS, ↓x_slT, ↓x_slL_l, ↓x_slL_k, ↓x_inS, ↓x_newT, ↓x_newF, ↓x_si, ↓x_s1, ↓x_s0, ↓x_rpart, ↓x_part, ↓x_a1, ↓x_a2, ↓x_isiStr, ↓x_isiInt, ↓x_isiIntB, ↓x_isiIntS, ↓x_isiBB, ↓x_isiBI, ↓x_isiStrI, ↓x_isiNonI, ↓x_isiNonS, ↓x_isiT, ↓x_isiL, ↓x_var0, ↓x_varS, ↓x_ex, ↓x_aug0, gat, pick, Option.some.injEq, D.bl.injEq, D.int.injEq, D.str.injEq, D.tup.injEq, D.lst.injEq, List.cons.injEq, and_true, true_and, List.set_cons_zero, List.set_cons_succ, List.length_cons, List.length_nil, List.filterMap_cons, List.filterMap_nil, List.getElem?_cons_zero, List.getElem?_cons_succ, Option.bind_some, ↓reduceIte, if_true, if_false, Bool.false_eq_true, Bool.true_eq_false, decide_eq_true_eq, beq_self_eq_true, Bool.not_true, Bool.not_false, Bool.not_eq_true', decide_eq_false_iff_not, exists_eq_left', exists_eq_left, exists_eq, ↓x_dnT, ↓x_dnF, ↓gAsgL, ↓gMMDef, ↓gDSet, ↓gSItems, ↓x_nilL, ↓x_nilE, List.isEmpty_nil, List.isEmpty_cons, Bool.true_xor, Bool.false_xor, ↓gOrT, ↓gAndT, ↓gTryAs, ↓gTryO, ↓gRaise, ↓gCallX, ↓gMethX, ↓gMakeX, ↓gFldX, ↓x_inXs, Bool.false_xor, Bool.true_xor, ↓gOrS, ↓gSortK]
  refine ⟨by omega, by omega, ?_⟩
  refine ⟨fun i ρ S' => ∃ (F : List Pr) (o' : Option MO) (y2 y3 : Option D), F.length = i ∧ (∀ p ∈ F, 0 ≤ p.1 ∧ p.1 ≤ p.2 ∧ p.2 ≤ 90000 + 1445 * i) ∧ Mt.Tp (B + 2 + 9 * i) o' ∧ S' = o' :: (R0 ++ [some (.lst (F.map (sD a.C_Stretch)))]) ∧
    ρ = [some (.loc 0), some (.loc (R0.length + 1)), y2, y3], ⟨[], o1, _, _, rfl, fun p hp => (by cases hp), ht1.mono (by omega), rfl, rfl⟩, ?_, ?_⟩
  · rintro i d ρ S' hd ⟨F, o', y2, y3, hFl, hF, ht', rfl, rfl⟩
    have hi : i < c.toNat := by
      have := (List.getElem?_eq_some_iff.mp hd).1
      rwa [x_rngL] at this
    refine ⟨trivial, _, x_bnm, ?_⟩
    simp only [↓x_eqSS, ↓x_neSS, ↓gKGet, ↓x_kget, ↓x_ixE, at_last, ↓x_appE, ↓x_tyE, ↓x_itE, ↓x_lenE, ↓x_nePr, ↓x_eqPr, ↓x_neE, ↓x_lenr, ↓x_lenrI, ↓gRev, ↓x_par3, ↓x_par33, ↓x_fld, ↓x_fset, ↓x_mkF, ↓x_mk, ↓x_meth, ↓x_fldO, ↓x_fsetE, ↓x_fldE, ↓x_methO, ↓x_isiCO, ↓x_isiCN, ↓x_isiCT, ↓x_isiCLi, ↓x_isiCS, ↓x_isiCI, ↓x_own, ↓x_eqT2, ↓x_neT2, ↓x_neL4, ↓x_eqLN, ↓x_neNil, ↓x_gset, ↓x_lc, ↓x_for, ↓x_it, ↓x_rn1, ↓x_rn2, ↓x_enu, ↓x_zip, ↓x_itS, ↓x_itL, ↓x_itK, ↓x_itT, ↓x_rn1I, ↓x_rn2I, ↓x_enuL, ↓x_enuK, ↓x_zipL, ↓x_ixS0, ↓x_ixL, ↓x_ixT, ↓x_ixK, x_at0, x_at1, x_at2, x_at3, x_at4, ↓x_set00, ↓x_set01, ↓x_set02, ↓x_aug1, ↓x_aug2, ↓x_aug3, ↓x_aug4, ↓x_aug5, ↓x_aug6, ↓x_aug7, ↓x_aug8, ↓x_aug9, ↓x_aug10, ↓x_aug11, ↓x_aug12, ↓x_aug13, ↓x_aug14, ↓x_aug15, ↓x_aug16, ↓x_aug17, ↓x_aug18, ↓x_aug19, ↓x_aug20, ↓x_aug21, ↓x_aug22, ↓x_aug23, Int.reduceToNat, Int.reducePow, ↓gSeq, ↓gIfS, ↓gSet, ↓gAsg, ↓x_par, ↓x_par2, ↓gRet, ↓gRetN, ↓gNext, ↓gDrop, ↓gBreak, ↓gCont, ↓gDead, ↓gCB, ↓gB2, ↓gU, ↓gC, ↓Dl.gCons, ↓Dl.gNil, ↓Dl.gTup, ↓Dl.gLst, ↓gTest, ↓gOrB, ↓gAndB, ↓gNotB, ↓gAndV, ↓gOrV, ↓gNotV, ↓gIf, ↓gIx, ↓gSl, ↓gPart, ↓gNoP, ↓gMt, ↓gCall, ↓gArgs, ↓gIsN, ↓gNotN, ↓gChain, ↓x_fmtS, ↓x_afS, ↓x_afI, ↓x_js0, ↓x_jsc, ↓gJoined, ↓gYes, ↓x_bnm, ↓x_btp, ↓x_bn, ↓x_bc, ↓x_nnN, ↓x_nnI, ↓x_nnS, ↓x_nnB, ↓x_nnT, ↓x_nnL, ↓x_nnO, ↓x_nnl, ↓x_tyS, ↓x_tyL, ↓x_i2, ↓aSub, ↓aFdiv, ↓aMod, ↓aPow, ↓aShr, ↓aLt, ↓aLe, ↓aGt, ↓aGe, ↓x_addI, ↓x_addS, ↓x_mulI, ↓x_iaddS, ↓x_iaddI, ↓x_neg, ↓x_eqI, ↓x_neI, ↓x_eqS, ↓x_neS, ↓x_eqB, ↓x_neB, ↓x_eqNI, ↓x_neNI, ↓x_lenS, ↓x_lenL_l, ↓x_lenL_k, ↓x_lenL_t, ↓x_str, ↓x_intI, ↓x_intB, ↓x_divmod, ↓x_max2, ↓x_min2, ↓x_ixS, ↓x_slS, ↓x_slT, ↓x_slL_l, ↓x_slL_k, ↓x_inS, ↓x_newT, ↓x_newF, ↓x_si, ↓x_s1, ↓x_s0, ↓x_rpart, ↓x_part, ↓x_a1, ↓x_a2, ↓x_isiStr, ↓x_isiInt, ↓x_isiIntB, ↓x_isiIntS, ↓x_isiBB, ↓x_isiBI, ↓x_isiStrI, ↓x_isiNonI, ↓x_isiNonS, ↓x_isiT, ↓x_isiL, ↓x_var0, ↓x_varS, ↓x_ex, ↓x_aug0, gat, pick, Option.some.injEq, D.bl.injEq, D.int.injEq, D.str.injEq, D.tup.injEq, D.lst.injEq, List.cons.injEq, and_true, true_and, List.set_cons_zero, List.set_cons_succ, List.length_cons, List.length_nil, List.filterMap_cons, List.filterMap_nil, List.getElem?_cons_zero, List.getElem?_cons_succ, Option.bind_some, ↓reduceIte, if_true, if_false, Bool.false_eq_true, Bool.true_eq_false, decide_eq_true_eq, beq_self_eq_true, Bool.not_true, Bool.not_false, Bool.not_eq_true', decide_eq_false_iff_not, exists_eq_left', exists_eq_left, exists_eq, ↓x_dnT, ↓x_dnF, ↓gAsgL, ↓gMMDef, ↓gDSet, ↓gSItems, ↓x_nilL, ↓x_nilE, List.isEmpty_nil, List.isEmpty_cons, Bool.true_xor, Bool.false_xor, ↓gOrT, ↓gAndT, ↓gTryAs, ↓gTryO, ↓gRaise, ↓gCallX, ↓gMethX, ↓gMakeX, ↓gFldX, ↓x_inXs, Bool.false_xor, Bool.true_xor, ↓gOrS, ↓gSortK]
    have hgetS : ∀ (o2 : Option MO) (ds : List D), (o2 :: (R0 ++ [some (MO.lst ds)]))[R0.length + 1]? = some (some (MO.lst ds)) := fun o2 ds => by simp
    refine Mt.draw_in (by omega) (by omega) ht' (by omega) fun f o2 hf1 hf2 ht2 => ?_
    (try simp only [↓x_eqSS, ↓x_neSS, ↓gKGet, ↓x_kget, ↓x_ixE, at_last, ↓x_appE, ↓x_tyE, ↓x_itE, ↓x_lenE, ↓x_nePr, ↓x_eqPr, ↓x_neE, ↓x_lenr, ↓x_lenrI, ↓gRev, ↓x_par3, ↓x_par33, ↓x_fld, ↓x_fset, ↓x_mkF, ↓x_mk, ↓x_meth, ↓x_fldO, ↓x_fsetE, ↓x_fldE, ↓x_methO, ↓x_isiCO, ↓x_isiCN, ↓x_isiCT, ↓x_isiCLi, ↓x_isiCS, ↓x_isiCI, ↓x_own, ↓x_eqT2, ↓x_neT2, ↓x_neL4, ↓x_eqLN, ↓x_neNil, ↓x_gset, ↓x_lc, ↓x_for, ↓x_it, ↓x_rn1, ↓x_rn2, ↓x_enu, ↓x_zip, ↓x_itS, ↓x_itL, ↓x_itK, ↓x_itT, ↓x_rn1I, ↓x_rn2I, ↓x_enuL, ↓x_enuK, ↓x_zipL, ↓x_ixS0, ↓x_ixL, ↓x_ixT, ↓x_ixK, x_at0, x_at1, x_at2, x_at3, x_at4, ↓x_set00, ↓x_set01, ↓x_set02, ↓x_aug1, ↓x_aug2, ↓x_aug3, ↓x_aug4, ↓x_aug5, ↓x_aug6, ↓x_aug7, ↓x_aug8, ↓x_aug9, ↓x_aug10, ↓x_aug11, ↓x_aug12, ↓x_aug13, ↓x_aug14, ↓x_aug15, ↓x_aug16, ↓x_aug17, ↓x_aug18, ↓x_aug19, ↓x_aug20, ↓x_aug21, ↓x_aug22, ↓x_aug23, Int.reduceToNat, Int.reducePow, ↓gSeq, ↓gIfS, ↓gSet, ↓gAsg, ↓x_par, ↓x_par2, ↓gRet, ↓gRetN, ↓gNext, ↓gDrop, ↓gBreak, ↓gCont, ↓gDead, ↓gCB, ↓gB2, ↓gU, ↓gC, ↓Dl.gCons, ↓Dl.gNil, ↓Dl.gTup, ↓Dl.gLst, ↓gTest, ↓gOrB, ↓gAndB, ↓gNotB, ↓gAndV, ↓gOrV, ↓gNotV, ↓gIf, ↓gIx, ↓gSl, ↓gPart, ↓gNoP, ↓gMt, ↓gCall, ↓gArgs, ↓gIsN, ↓gNotN, ↓gChain, ↓x_fmtS, ↓x_afS, ↓x_afI, ↓x_js0, ↓x_jsc, ↓gJoined, ↓gYes, ↓x_bnm, ↓x_btp, ↓x_bn, ↓x_bc, ↓x_nnN, ↓x_nnI, ↓x_nnS, ↓x_nnB, ↓x_nnT, ↓x_nnL, ↓x_nnO, ↓x_nnl, ↓x_tyS, ↓x_tyL, ↓x_i2, ↓aSub, ↓aFdiv, ↓aMod, ↓aPow, ↓aShr, ↓aLt, ↓aLe, ↓aGt, ↓aGe, ↓x_addI, ↓x_addS, ↓x_mulI, ↓x_iaddS, ↓x_iaddI, ↓x_neg, ↓x_eqI, ↓x_neI, ↓x_eqS, ↓x_neS, ↓x_eqB, ↓x_neB, ↓x_eqNI, ↓x_neNI, ↓x_lenS, ↓x_lenL_l, ↓x_lenL_k, ↓x_lenL_t, ↓x_str, ↓x_intI, ↓x_intB, ↓x_divmod, ↓x_max2, ↓x_min2, ↓x_ixS, ↓x_slS, ↓x_slT, ↓x_slL_l, ↓x_slL_k, ↓x_inS, ↓x_newT, ↓x_newF, ↓x_si, ↓x_s1, ↓x_s0, ↓x_rpart, ↓x_part, ↓x_a1, ↓x_a2, ↓x_isiStr, ↓x_isiInt, ↓x_isiIntB, ↓x_isiIntS, ↓x_isiBB, ↓x_isiBI, ↓x_isiStrI, ↓x_isiNonI, ↓x_isiNonS, ↓x_isiT, ↓x_isiL, ↓x_var0, ↓x_varS, ↓x_ex, ↓x_aug0, gat, pick, Option.some.injEq, D.bl.injEq, D.int.injEq, D.str.injEq, D.tup.injEq, D.lst.injEq, List.cons.injEq, and_true, true_and, List.set_cons_zero, List.set_cons_succ, List.length_cons, List.length_nil, List.filterMap_cons, List.filterMap_nil, List.getElem?_cons_zero, List.getElem?_cons_succ, Option.bind_some, ↓reduceIte, if_true, if_false, Bool.false_eq_true, Bool.true_eq_false, decide_eq_true_eq, beq_self_eq_true, Bool.not_true, Bool.not_false, Bool.not_eq_true', decide_eq_false_iff_not, exists_eq_left', exists_eq_left, exists_eq, ↓x_dnT, ↓x_dnF, ↓gAsgL, ↓gMMDef, ↓gDSet, ↓gSItems, ↓x_nilL, ↓x_nilE, List.isEmpty_nil, List.isEmpty_cons, Bool.true_xor, Bool.false_xor, ↓gOrT, ↓gAndT, ↓gTryAs, ↓gTryO, ↓gRaise, ↓gCallX, ↓gMethX, ↓gMakeX, ↓gFldX, ↓x_inXs, Bool.false_xor, Bool.true_xor, ↓gOrS, ↓gSortK])
    refine ⟨by decide, ⟨F.map (sD a.C_Stretch), by simp [lstOf], rfl, ?_⟩⟩
    (try simp only [↓x_eqSS, ↓x_neSS, ↓gKGet, ↓x_kget, ↓x_ixE, at_last, ↓x_appE, ↓x_tyE, ↓x_itE, ↓x_lenE, ↓x_nePr, ↓x_eqPr, ↓x_neE, ↓x_lenr, ↓x_lenrI, ↓gRev, ↓x_par3, ↓x_par33, ↓x_fld, ↓x_fset, ↓x_mkF, ↓x_mk, ↓x_meth, ↓x_fldO, ↓x_fsetE, ↓x_fldE, ↓x_methO, ↓x_isiCO, ↓x_isiCN, ↓x_isiCT, ↓x_isiCLi, ↓x_isiCS, ↓x_isiCI, ↓x_own, ↓x_eqT2, ↓x_neT2, ↓x_neL4, ↓x_eqLN, ↓x_neNil, ↓x_gset, ↓x_lc, ↓x_for, ↓x_it, ↓x_rn1, ↓x_rn2, ↓x_enu, ↓x_zip, ↓x_itS, ↓x_itL, ↓x_itK, ↓x_itT, ↓x_rn1I, ↓x_rn2I, ↓x_enuL, ↓x_enuK, ↓x_zipL, ↓x_ixS0, ↓x_ixL, ↓x_ixT, ↓x_ixK, x_at0, x_at1, x_at2, x_at3, x_at4, ↓x_set00, ↓x_set01, ↓x_set02, ↓x_aug1, ↓x_aug2, ↓x_aug3, ↓x_aug4, ↓x_aug5, ↓x_aug6, ↓x_aug7, ↓x_aug8, ↓x_aug9, ↓x_aug10, ↓x_aug11, ↓x_aug12, ↓x_aug13, ↓x_aug14, ↓x_aug15, ↓x_aug16, ↓x_aug17, ↓x_aug18, ↓x_aug19, ↓x_aug20, ↓x_aug21, ↓x_aug22, ↓x_aug23, Int.reduceToNat, Int.reducePow, ↓gSeq, ↓gIfS, ↓gSet, ↓gAsg, ↓x_par, ↓x_par2, ↓gRet, ↓gRetN, ↓gNext, ↓gDrop, ↓gBreak, ↓gCont, ↓gDead, ↓gCB, ↓gB2, ↓gU, ↓gC, ↓Dl.gCons, ↓Dl.gNil, ↓Dl.gTup, ↓Dl.gLst, ↓gTest, ↓gOrB, ↓gAndB, ↓gNotB, ↓gAndV, ↓gOrV, ↓gNotV, ↓gIf, ↓gIx, ↓gSl, ↓gPart, ↓gNoP, ↓gMt, ↓gCall, ↓gArgs, ↓gIsN, ↓gNotN, ↓gChain, ↓x_fmtS, ↓x_afS, ↓x_afI, ↓x_js0, ↓x_jsc, ↓gJoined, ↓gYes, ↓x_bnm, ↓x_btp, ↓x_bn, ↓x_bc, ↓x_nnN, ↓x_nnI, ↓x_nnS, ↓x_nnB, ↓x_nnT, ↓x_nnL, ↓x_nnO, ↓x_nnl, ↓x_tyS, ↓x_tyL, ↓x_i2, ↓aSub, ↓aFdiv, ↓aMod, ↓aPow, ↓aShr, ↓aLt, ↓aLe, ↓aGt, ↓aGe, ↓x_addI, ↓x_addS, ↓x_mulI, ↓x_iaddS, ↓x_iaddI, ↓x_neg, ↓x_eqI, ↓x_neI, ↓x_eqS, ↓x_neS, ↓x_eqB, ↓x_neB, ↓x_eqNI, ↓x_neNI, ↓x_lenS, ↓x_lenL_l, ↓x_lenL_k, ↓x_lenL_t, ↓x_str, ↓x_intI, ↓x_intB, ↓x_divmod, ↓x_max2, ↓x_min2, ↓x_ixS, ↓x_slS, ↓x_slT, ↓x_slL_l, ↓x_slL_k, ↓x_inS, ↓x_newT, ↓x_newF, ↓x_si, ↓x_s1, ↓x_s0, ↓x_rpart, ↓x_part, ↓x_a1, ↓x_a2, ↓x_isiStr, ↓x_isiInt, ↓x_isiIntB, ↓x_isiIntS, ↓x_isiBB, ↓x_isiBI, ↓x_isiStrI, ↓x_isiNonI, ↓x_isiNonS, ↓x_isiT, ↓x_isiL, ↓x_var0, ↓x_varS, ↓x_ex, ↓x_aug0, gat, pick, Option.some.injEq, D.bl.injEq, D.int.injEq, D.str.injEq, D.tup.injEq, D.lst.injEq, List.cons.injEq, and_true, true_and, List.set_cons_zero, List.set_cons_succ, List.length_cons, List.length_nil, List.filterMap_cons, List.filterMap_nil, List.getElem?_cons_zero, List.getElem?_cons_succ, Option.bind_some, ↓reduceIte, if_true, if_false, Bool.false_eq_true, Bool.true_eq_false, decide_eq_true_eq, beq_self_eq_true, Bool.not_true, Bool.not_false, Bool.not_eq_true', decide_eq_false_iff_not, exists_eq_left', exists_eq_left, exists_eq, ↓x_dnT, ↓x_dnF, ↓gAsgL, ↓gMMDef, ↓gDSet, ↓gSItems, ↓x_nilL, ↓x_nilE, List.isEmpty_nil, List.isEmpty_cons, Bool.true_xor, Bool.false_xor, ↓gOrT, ↓gAndT, ↓gTryAs, ↓gTryO, ↓gRaise, ↓gCallX, ↓gMethX, ↓gMakeX, ↓gFldX, ↓x_inXs, Bool.false_xor, Bool.true_xor, ↓gOrS, ↓gSortK])
    have tail : ∀ (g : Int) (o3 : Option MO), 0 ≤ g → g ≤ 90000 + 1445 * (i : Int) + 2 → Mt.Tp (B + 2 + 9 * (i : Int) + 4) o3 → (isTy "list" (o3 :: (R0 ++ [some (MO.lst (List.map (sD a.C_Stretch) F))])) (D.loc (R0.length + 1)) = true ∧
        sp__law_draw a [D.loc 0, D.int 1441] (o3 :: (R0 ++ [some (MO.lst (List.map (sD a.C_Stretch) F))])) fun a_1 S1 =>
          sp__law_draw a [D.loc 0, D.int 60] S1 fun a_2 S1 =>
            0 + 1 + 1 + 1 + 1 ≤ sizeLine ∧
              sp__law_pick a [D.loc 0, D.lst [D.int 0, D.int 1, a_1, a_2]] S1 fun b S2 =>
                aAdd true (D.int g) b S2 fun a_3 S1 =>
                  aMakeF a.C_Stretch 2 0 [Src.p 0, Src.p 1, Src.p 2] [D.non] (sp_Stretch_init a) [D.int g, a_3] [] S1 fun a_4 S1 =>
                    aAppend (D.loc (R0.length + 1)) [a_4] S1 fun x S1 =>
                      ∃ (F : List Pr) (o' : Option MO) (y2 y3 : Option D),
                        F.length = i + 1 ∧
                          (∀ (p : Pr), p ∈ F → 0 ≤ p.fst ∧ p.fst ≤ p.snd ∧ p.snd ≤ 90000 + 1445 * ((i + 1 : Nat) : Int)) ∧
                            Mt.Tp (B + 2 + 9 * ((i + 1 : Nat) : Int)) o' ∧
                              S1 = o' :: (R0 ++ [some (MO.lst (List.map (sD a.C_Stretch) F))]) ∧
                                some d = y2 ∧ some (D.int g) = y3) := by
      intro g o3 hg1 hg2 ht3
      refine ⟨x_tyO (hgetS _ _), Mt.draw_in (by decide) (by decide) ht3 (by omega) fun u o4 hu1 hu2 ht4 => Mt.draw_in (by decide) (by decide) ht4 (by omega) fun v o5 hv1 hv2 ht5 => ⟨by decide, Mt.pickL_in (by simp) (by simp) ht5 (by omega) fun e o6 he ht6 => ?_⟩⟩
      obtain ⟨z, rfl, hz1, hz2⟩ : ∃ z, e = .int z ∧ 0 ≤ z ∧ z ≤ 1440 := by
        simp only [List.mem_cons, List.not_mem_nil, or_false] at he
        rcases he with rfl | rfl | rfl | rfl
        · exact ⟨_, rfl, by decide, by decide⟩
        · exact ⟨_, rfl, by decide, by decide⟩
        · exact ⟨_, rfl, by omega, by omega⟩
        · exact ⟨_, rfl, by omega, by omega⟩
      simp only [↓x_eqSS, ↓x_neSS, ↓gKGet, ↓x_kget, ↓x_ixE, at_last, ↓x_appE, ↓x_tyE, ↓x_itE, ↓x_lenE, ↓x_nePr, ↓x_eqPr, ↓x_neE, ↓x_lenr, ↓x_lenrI, ↓gRev, ↓x_par3, ↓x_par33, ↓x_fld, ↓x_fset, ↓x_mkF, ↓x_mk, ↓x_meth, ↓x_fldO, ↓x_fsetE, ↓x_fldE, ↓x_methO, ↓x_isiCO, ↓x_isiCN, ↓x_isiCT, ↓x_isiCLi, ↓x_isiCS, ↓x_isiCI, ↓x_own, ↓x_eqT2, ↓x_neT2, ↓x_neL4, ↓x_eqLN, ↓x_neNil, ↓x_gset, ↓x_lc, ↓x_for, ↓x_it, ↓x_rn1, ↓x_rn2, ↓x_enu, ↓x_zip, ↓x_itS, ↓x_itL, ↓x_itK, ↓x_itT, ↓x_rn1I, ↓x_rn2I, ↓x_enuL, ↓x_enuK, ↓x_zipL, ↓x_ixS0, ↓x_ixL, ↓x_ixT, ↓x_ixK, x_at0, x_at1, x_at2, x_at3, x_at4, ↓x_set00, ↓x_set01, ↓x_set02, ↓x_aug1, ↓x_aug2, ↓x_aug3, ↓x_aug4, ↓x_aug5, ↓x_aug6, ↓x_aug7, ↓x_aug8, ↓x_aug9, ↓x_aug10, ↓x_aug11, ↓x_aug12, ↓x_aug13, ↓x_aug14, ↓x_aug15, ↓x_aug16, ↓x_aug17, ↓x_aug18, ↓x_aug19, ↓x_aug20, ↓x_aug21, ↓x_aug22, ↓x_aug23, Int.reduceToNat, Int.reducePow, ↓gSeq, ↓gIfS, ↓gSet, ↓gAsg, ↓x_par, ↓x_par2, ↓gRet, ↓gRetN, ↓gNext, ↓gDrop, ↓gBreak, ↓gCont, ↓gDead, ↓gCB, ↓gB2, ↓gU, ↓gC, ↓Dl.gCons, ↓Dl.gNil, ↓Dl.gTup, ↓Dl.gLst, ↓gTest, ↓gOrB, ↓gAndB, ↓gNotB, ↓gAndV, ↓gOrV, ↓gNotV, ↓gIf, ↓gIx, ↓gSl, ↓gPart, ↓gNoP, ↓gMt, ↓gCall, ↓gArgs, ↓gIsN, ↓gNotN, ↓gChain, ↓x_fmtS, ↓x_afS, ↓x_afI, ↓x_js0, ↓x_jsc, ↓gJoined, ↓gYes, ↓x_bnm, ↓x_btp, ↓x_bn, ↓x_bc, ↓x_nnN, ↓x_nnI, ↓x_nnS, ↓x_nnB, ↓x_nnT, ↓x_nnL, ↓x_nnO, ↓x_nnl, ↓x_tyS, ↓x_tyL, ↓x_i2, ↓aSub, ↓aFdiv, ↓aMod, ↓aPow, ↓aShr, ↓aLt, ↓aLe, ↓aGt, ↓aGe, ↓x_addI, ↓x_addS, ↓x_mulI, ↓x_iaddS, ↓x_iaddI, ↓x_neg, ↓x_eqI, ↓x_neI, ↓x_eqS, ↓x_neS, ↓x_eqB, ↓x_neB, ↓x_eqNI, ↓x_neNI, ↓x_lenS, ↓x_lenL_l, ↓x_lenL_k, ↓x_lenL_t, ↓x_str, ↓x_intI, ↓x_intB, ↓x_divmod, ↓x_max2, ↓x_min2, ↓x_ixS, ↓x_slS, ↓x_slT, ↓x_slL_l, ↓x_slL_k, ↓x_inS, ↓x_newT, ↓x_newF, ↓x_si, ↓x_s1, ↓x_s0, ↓x_rpart, ↓x_part, ↓x_a1, ↓x_a2, ↓x_isiStr, ↓x_isiInt, ↓x_isiIntB, ↓x_isiIntS, ↓x_isiBB, ↓x_isiBI, ↓x_isiStrI, ↓x_isiNonI, ↓x_isiNonS, ↓x_isiT, ↓x_isiL, ↓x_var0, ↓x_varS, ↓x_ex, ↓x_aug0, gat, pick, Option.some.injEq, D.bl.injEq, D.int.injEq, D.str.injEq, D.tup.injEq, D.lst.injEq, List.cons.injEq, and_true, true_and, List.set_cons_zero, List.set_cons_succ, List.length_cons, List.length_nil, List.filterMap_cons, List.filterMap_nil, List.getElem?_cons_zero, List.getElem?_cons_succ, Option.bind_some, ↓reduceIte, if_true, if_false, Bool.false_eq_true, Bool.true_eq_false, decide_eq_true_eq, beq_self_eq_true, Bool.not_true, Bool.not_false, Bool.not_eq_true', decide_eq_false_iff_not, exists_eq_left', exists_eq_left, exists_eq, ↓x_dnT, ↓x_dnF, ↓gAsgL, ↓gMMDef, ↓gDSet, ↓gSItems, ↓x_nilL, ↓x_nilE, List.isEmpty_nil, List.isEmpty_cons, Bool.true_xor, Bool.false_xor, ↓gOrT, ↓gAndT, ↓gTryAs, ↓gTryO, ↓gRaise, ↓gCallX, ↓gMethX, ↓gMakeX, ↓gFldX, ↓x_inXs, Bool.false_xor, Bool.true_xor, ↓gOrS, ↓gSortK]
      refine Mt.st_make (by omega) ((x_app (hgetS _ _)).mpr ⟨by rw [List.length_map]; omega, F ++ [(g, g + z)], o6, _, _, by rw [List.length_append, hFl]; rfl, fun p hp => ?_, ht6.mono (by omega), by simp, rfl, rfl⟩)
      rcases List.mem_append.mp hp with hp | hp
      · have := hF p hp; omega
      · rw [List.mem_singleton.mp hp]; dsimp only; omega
    by_cases hFn : F = []
    · subst hFn
      rw [if_neg (fun z => by cases z)]
      exact tail f o2 hf1 (by omega) (ht2.mono (by omega))
    · rw [if_pos (by cases F with | nil => exact absurd rfl hFn | cons _ _ => rfl)]
      refine Mt.draw_in (by decide) (by decide) ht2 (by omega) fun g o3 hg1 hg2 ht3 => ?_
      (try simp only [↓x_eqSS, ↓x_neSS, ↓gKGet, ↓x_kget, ↓x_ixE, at_last, ↓x_appE, ↓x_tyE, ↓x_itE, ↓x_lenE, ↓x_nePr, ↓x_eqPr, ↓x_neE, ↓x_lenr, ↓x_lenrI, ↓gRev, ↓x_par3, ↓x_par33, ↓x_fld, ↓x_fset, ↓x_mkF, ↓x_mk, ↓x_meth, ↓x_fldO, ↓x_fsetE, ↓x_fldE, ↓x_methO, ↓x_isiCO, ↓x_isiCN, ↓x_isiCT, ↓x_isiCLi, ↓x_isiCS, ↓x_isiCI, ↓x_own, ↓x_eqT2, ↓x_neT2, ↓x_neL4, ↓x_eqLN, ↓x_neNil, ↓x_gset, ↓x_lc, ↓x_for, ↓x_it, ↓x_rn1, ↓x_rn2, ↓x_enu, ↓x_zip, ↓x_itS, ↓x_itL, ↓x_itK, ↓x_itT, ↓x_rn1I, ↓x_rn2I, ↓x_enuL, ↓x_enuK, ↓x_zipL, ↓x_ixS0, ↓x_ixL, ↓x_ixT, ↓x_ixK, x_at0, x_at1, x_at2, x_at3, x_at4, ↓x_set00, ↓x_set01, ↓x_set02, ↓x_aug1, ↓x_aug2, ↓x_aug3, ↓x_aug4, ↓x_aug5, ↓x_aug6, ↓x_aug7, ↓x_aug8, ↓x_aug9, ↓x_aug10, ↓x_aug11, ↓x_aug12, ↓x_aug13, ↓x_aug14, ↓x_aug15, ↓x_aug16, ↓x_aug17, ↓x_aug18, ↓x_aug19, ↓x_aug20, ↓x_aug21, ↓x_aug22, ↓x_aug23, Int.reduceToNat, Int.reducePow, ↓gSeq, ↓gIfS, ↓gSet, ↓gAsg, ↓x_par, ↓x_par2, ↓gRet, ↓gRetN, ↓gNext, ↓gDrop, ↓gBreak, ↓gCont, ↓gDead, ↓gCB, ↓gB2, ↓gU, ↓gC, ↓Dl.gCons, ↓Dl.gNil, ↓Dl.gTup, ↓Dl.gLst, ↓gTest, ↓gOrB, ↓gAndB, ↓gNotB, ↓gAndV, ↓gOrV, ↓gNotV, ↓gIf, ↓gIx, ↓gSl, ↓gPart, ↓gNoP, ↓gMt, ↓gCall, ↓gArgs, ↓gIsN, ↓gNotN, ↓gChain, ↓x_fmtS, ↓x_afS, ↓x_afI, ↓x_js0, ↓x_jsc, ↓gJoined, ↓gYes, ↓x_bnm, ↓x_btp, ↓x_bn, ↓x_bc, ↓x_nnN, ↓x_nnI, ↓x_nnS, ↓x_nnB, ↓x_nnT, ↓x_nnL, ↓x_nnO, ↓x_nnl, ↓x_tyS, ↓x_tyL, ↓x_i2, ↓aSub, ↓aFdiv, ↓aMod, ↓aPow, ↓aShr, ↓aLt, ↓aLe, ↓aGt, ↓aGe, ↓x_addI, ↓x_addS, ↓x_mulI, ↓x_iaddS, ↓x_iaddI, ↓x_neg, ↓x_eqI, ↓x_neI, ↓x_eqS, ↓x_neS, ↓x_eqB, ↓x_neB, ↓x_eqNI, ↓x_neNI, ↓x_lenS, ↓x_lenL_l, ↓x_lenL_k, ↓x_lenL_t, ↓x_str, ↓x_intI, ↓x_intB, ↓x_divmod, ↓x_max2, ↓x_min2, ↓x_ixS, ↓x_slS, ↓x_slT, ↓x_slL_l, ↓x_slL_k, ↓x_inS, ↓x_newT, ↓x_newF, ↓x_si, ↓x_s1, ↓x_s0, ↓x_rpart, ↓x_part, ↓x_a1, ↓x_a2, ↓x_isiStr, ↓x_isiInt, ↓x_isiIntB, ↓x_isiIntS, ↓x_isiBB, ↓x_isiBI, ↓x_isiStrI, ↓x_isiNonI, ↓x_isiNonS, ↓x_isiT, ↓x_isiL, ↓x_var0, ↓x_varS, ↓x_ex, ↓x_aug0, gat, pick, Option.some.injEq, D.bl.injEq, D.int.injEq, D.str.injEq, D.tup.injEq, D.lst.injEq, List.cons.injEq, and_true, true_and, List.set_cons_zero, List.set_cons_succ, List.length_cons, List.length_nil, List.filterMap_cons, List.filterMap_nil, List.getElem?_cons_zero, List.getElem?_cons_succ, Option.bind_some, ↓reduceIte, if_true, if_false, Bool.false_eq_true, Bool.true_eq_false, decide_eq_true_eq, beq_self_eq_true, Bool.not_true, Bool.not_false, Bool.not_eq_true', decide_eq_false_iff_not, exists_eq_left', exists_eq_left, exists_eq, ↓x_dnT, ↓x_dnF, ↓gAsgL, ↓gMMDef, ↓gDSet, ↓gSItems, ↓x_nilL, ↓x_nilE, List.isEmpty_nil, List.isEmpty_cons, Bool.true_xor, Bool.false_xor, ↓gOrT, ↓gAndT, ↓gTryAs, ↓gTryO, ↓gRaise, ↓gCallX, ↓gMethX, ↓gMakeX, ↓gFldX, ↓x_inXs, Bool.false_xor, Bool.true_xor, ↓gOrS, ↓gSortK])
      by_cases hg : g = 0
      · rw [if_pos hg]
        have hFp : 0 < F.length := List.length_pos_iff.mpr hFn
        refine Mt.pickL_loc (es := F.map (sD a.C_Stretch)) (by simp) (by rw [List.length_map]; omega) (by rw [List.length_map]; omega) ht3 (by omega) fun e o4 he ht4 => ?_
        obtain ⟨p, hp, rfl⟩ := List.mem_map.mp he
        have hpb := hF p hp
        simp only [T.f_Stretch_first, T.f_Stretch_behind, Mt.fg_first, Mt.fg_behind, ↓x_eqSS, ↓x_neSS, ↓gKGet, ↓x_kget, ↓x_ixE, at_last, ↓x_appE, ↓x_tyE, ↓x_itE, ↓x_lenE, ↓x_nePr, ↓x_eqPr, ↓x_neE, ↓x_lenr, ↓x_lenrI, ↓gRev, ↓x_par3, ↓x_par33, ↓x_fld, ↓x_fset, ↓x_mkF, ↓x_mk, ↓x_meth, ↓x_fldO, ↓x_fsetE, ↓x_fldE, ↓x_methO, ↓x_isiCO, ↓x_isiCN, ↓x_isiCT, ↓x_isiCLi, ↓x_isiCS, ↓x_isiCI, ↓x_own, ↓x_eqT2, ↓x_neT2, ↓x_neL4, ↓x_eqLN, ↓x_neNil, ↓x_gset, ↓x_lc, ↓x_for, ↓x_it, ↓x_rn1, ↓x_rn2, ↓x_enu, ↓x_zip, ↓x_itS, ↓x_itL, ↓x_itK, ↓x_itT, ↓x_rn1I, ↓x_rn2I, ↓x_enuL, ↓x_enuK, ↓x_zipL, ↓x_ixS0, ↓x_ixL, ↓x_ixT, ↓x_ixK, x_at0, x_at1, x_at2, x_at3, x_at4, ↓x_set00, ↓x_set01, ↓x_set02, ↓x_aug1, ↓x_aug2, ↓x_aug3, ↓x_aug4, ↓x_aug5, ↓x_aug6, ↓x_aug7, ↓x_aug8, ↓x_aug9, ↓x_aug10, ↓x_aug11, ↓x_aug12, ↓x_aug13, ↓x_aug14, ↓x_aug15, ↓x_aug16, ↓x_aug17, ↓x_aug18, ↓x_aug19, ↓x_aug20, ↓x_aug21, ↓x_aug22, ↓x_aug23, Int.reduceToNat, Int.reducePow, ↓gSeq, ↓gIfS, ↓gSet, ↓gAsg, ↓x_par, ↓x_par2, ↓gRet, ↓gRetN, ↓gNext, ↓gDrop, ↓gBreak, ↓gCont, ↓gDead, ↓gCB, ↓gB2, ↓gU, ↓gC, ↓Dl.gCons, ↓Dl.gNil, ↓Dl.gTup, ↓Dl.gLst, ↓gTest, ↓gOrB, ↓gAndB, ↓gNotB, ↓gAndV, ↓gOrV, ↓gNotV, ↓gIf, ↓gIx, ↓gSl, ↓gPart, ↓gNoP, ↓gMt, ↓gCall, ↓gArgs, ↓gIsN, ↓gNotN, ↓gChain, ↓x_fmtS, ↓x_afS, ↓x_afI, ↓x_js0, ↓x_jsc, ↓gJoined, ↓gYes, ↓x_bnm, ↓x_btp, ↓x_bn, ↓x_bc, ↓x_nnN, ↓x_nnI, ↓x_nnS, ↓x_nnB, ↓x_nnT, ↓x_nnL, ↓x_nnO, ↓x_nnl, ↓x_tyS, ↓x_tyL, ↓x_i2, ↓aSub, ↓aFdiv, ↓aMod, ↓aPow, ↓aShr, ↓aLt, ↓aLe, ↓aGt, ↓aGe, ↓x_addI, ↓x_addS, ↓x_mulI, ↓x_iaddS, ↓x_iaddI, ↓x_neg, ↓x_eqI, ↓x_neI, ↓x_eqS, ↓x_neS, ↓x_eqB, ↓x_neB, ↓x_eqNI, ↓x_neNI, ↓x_lenS, ↓x_lenL_l, ↓x_lenL_k, ↓x_lenL_t, ↓x_str, ↓x_intI, ↓x_intB, ↓x_divmod, ↓x_max2, ↓x_min2, ↓x_ixS, ↓x_slS, ↓x_slT, ↓x_slL_l, ↓x_slL_k, ↓x_inS, ↓x_newT, ↓x_newF, ↓x_si, ↓x_s1, ↓x_s0, ↓x_rpart, ↓x_part, ↓x_a1, ↓x_a2, ↓x_isiStr, ↓x_isiInt, ↓x_isiIntB, ↓x_isiIntS, ↓x_isiBB, ↓x_isiBI, ↓x_isiStrI, ↓x_isiNonI, ↓x_isiNonS, ↓x_isiT, ↓x_isiL, ↓x_var0, ↓x_varS, ↓x_ex, ↓x_aug0, gat, pick, Option.some.injEq, D.bl.injEq, D.int.injEq, D.str.injEq, D.tup.injEq, D.lst.injEq, List.cons.injEq, and_true, true_and, List.set_cons_zero, List.set_cons_succ, List.length_cons, List.length_nil, List.filterMap_cons, List.filterMap_nil, List.getElem?_cons_zero, List.getElem?_cons_succ, Option.bind_some, ↓reduceIte, if_true, if_false, Bool.false_eq_true, Bool.true_eq_false, decide_eq_true_eq, beq_self_eq_true, Bool.not_true, Bool.not_false, Bool.not_eq_true', decide_eq_false_iff_not, exists_eq_left', exists_eq_left, exists_eq, ↓x_dnT, ↓x_dnF, ↓gAsgL, ↓gMMDef, ↓gDSet, ↓gSItems, ↓x_nilL, ↓x_nilE, List.isEmpty_nil, List.isEmpty_cons, Bool.true_xor, Bool.false_xor, ↓gOrT, ↓gAndT, ↓gTryAs, ↓gTryO, ↓gRaise, ↓gCallX, ↓gMethX, ↓gMakeX, ↓gFldX, ↓x_inXs, Bool.false_xor, Bool.true_xor, ↓gOrS, ↓gSortK]
        refine Mt.draw_in (by decide) (by decide) ht4 (by omega) fun z o5 hz1 hz2 ht5 => ?_
        simp only [↓x_eqSS, ↓x_neSS, ↓gKGet, ↓x_kget, ↓x_ixE, at_last, ↓x_appE, ↓x_tyE, ↓x_itE, ↓x_lenE, ↓x_nePr, ↓x_eqPr, ↓x_neE, ↓x_lenr, ↓x_lenrI, ↓gRev, ↓x_par3, ↓x_par33, ↓x_fld, ↓x_fset, ↓x_mkF, ↓x_mk, ↓x_meth, ↓x_fldO, ↓x_fsetE, ↓x_fldE, ↓x_methO, ↓x_isiCO, ↓x_isiCN, ↓x_isiCT, ↓x_isiCLi, ↓x_isiCS, ↓x_isiCI, ↓x_own, ↓x_eqT2, ↓x_neT2, ↓x_neL4, ↓x_eqLN, ↓x_neNil, ↓x_gset, ↓x_lc, ↓x_for, ↓x_it, ↓x_rn1, ↓x_rn2, ↓x_enu, ↓x_zip, ↓x_itS, ↓x_itL, ↓x_itK, ↓x_itT, ↓x_rn1I, ↓x_rn2I, ↓x_enuL, ↓x_enuK, ↓x_zipL, ↓x_ixS0, ↓x_ixL, ↓x_ixT, ↓x_ixK, x_at0, x_at1, x_at2, x_at3, x_at4, ↓x_set00, ↓x_set01, ↓x_set02, ↓x_aug1, ↓x_aug2, ↓x_aug3, ↓x_aug4, ↓x_aug5, ↓x_aug6, ↓x_aug7, ↓x_aug8, ↓x_aug9, ↓x_aug10, ↓x_aug11, ↓x_aug12, ↓x_aug13, ↓x_aug14, ↓x_aug15, ↓x_aug16, ↓x_aug17, ↓x_aug18, ↓x_aug19, ↓x_aug20, ↓x_aug21, ↓x_aug22, ↓x_aug23, Int.reduceToNat, Int.reducePow, ↓gSeq, ↓gIfS, ↓gSet, ↓gAsg, ↓x_par, ↓x_par2, ↓gRet, ↓gRetN, ↓gNext, ↓gDrop, ↓gBreak, ↓gCont, ↓gDead, ↓gCB, ↓gB2, ↓gU, ↓gC, ↓Dl.gCons, ↓Dl.gNil, ↓Dl.gTup, ↓Dl.gLst, ↓gTest, ↓gOrB, ↓gAndB, ↓gNotB, ↓gAndV, ↓gOrV, ↓gNotV, ↓gIf, ↓gIx, ↓gSl, ↓gPart, ↓gNoP, ↓gMt, ↓gCall, ↓gArgs, ↓gIsN, ↓gNotN, ↓gChain, ↓x_fmtS, ↓x_afS, ↓x_afI, ↓x_js0, ↓x_jsc, ↓gJoined, ↓gYes, ↓x_bnm, ↓x_btp, ↓x_bn, ↓x_bc, ↓x_nnN, ↓x_nnI, ↓x_nnS, ↓x_nnB, ↓x_nnT, ↓x_nnL, ↓x_nnO, ↓x_nnl, ↓x_tyS, ↓x_tyL, ↓x_i2, ↓aSub, ↓aFdiv, ↓aMod, ↓aPow, ↓aShr, ↓aLt, ↓aLe, ↓aGt, ↓aGe, ↓x_addI, ↓x_addS, ↓x_mulI, ↓x_iaddS, ↓x_iaddI, ↓x_neg, ↓x_eqI, ↓x_neI, ↓x_eqS, ↓x_neS, ↓x_eqB, ↓x_neB, ↓x_eqNI, ↓x_neNI, ↓x_lenS, ↓x_lenL_l, ↓x_lenL_k, ↓x_lenL_t, ↓x_str, ↓x_intI, ↓x_intB, ↓x_divmod, ↓x_max2, ↓x_min2, ↓x_ixS, ↓x_slS, ↓x_slT, ↓x_slL_l, ↓x_slL_k, ↓x_inS, ↓x_newT, ↓x_newF, ↓x_si, ↓x_s1, ↓x_s0, ↓x_rpart, ↓x_part, ↓x_a1, ↓x_a2, ↓x_isiStr, ↓x_isiInt, ↓x_isiIntB, ↓x_isiIntS, ↓x_isiBB, ↓x_isiBI, ↓x_isiStrI, ↓x_isiNonI, ↓x_isiNonS, ↓x_isiT, ↓x_isiL, ↓x_var0, ↓x_varS, ↓x_ex, ↓x_aug0, gat, pick, Option.some.injEq, D.bl.injEq, D.int.injEq, D.str.injEq, D.tup.injEq, D.lst.injEq, List.cons.injEq, and_true, true_and, List.set_cons_zero, List.set_cons_succ, List.length_cons, List.length_nil, List.filterMap_cons, List.filterMap_nil, List.getElem?_cons_zero, List.getElem?_cons_succ, Option.bind_some, ↓reduceIte, if_true, if_false, Bool.false_eq_true, Bool.true_eq_false, decide_eq_true_eq, beq_self_eq_true, Bool.not_true, Bool.not_false, Bool.not_eq_true', decide_eq_false_iff_not, exists_eq_left', exists_eq_left, exists_eq, ↓x_dnT, ↓x_dnF, ↓gAsgL, ↓gMMDef, ↓gDSet, ↓gSItems, ↓x_nilL, ↓x_nilE, List.isEmpty_nil, List.isEmpty_cons, Bool.true_xor, Bool.false_xor, ↓gOrT, ↓gAndT, ↓gTryAs, ↓gTryO, ↓gRaise, ↓gCallX, ↓gMethX, ↓gMakeX, ↓gFldX, ↓x_inXs, Bool.false_xor, Bool.true_xor, ↓gOrS, ↓gSortK]
        exact tail (p.2 + z) o5 (by omega) (by omega) (ht5.mono (by omega))
      · rw [if_neg hg]
        exact tail f o3 hf1 (by omega) (ht3.mono (by omega))
  · rintro ρ S' ⟨F, o', y2, y3, hFl, hF, ht', rfl, rfl⟩
    refine ⟨trivial, ?_⟩
    simp only [↓x_eqSS, ↓x_neSS, ↓gKGet, ↓x_kget, ↓x_ixE, at_last, ↓x_appE, ↓x_tyE, ↓x_itE, ↓x_lenE, ↓x_nePr, ↓x_eqPr, ↓x_neE, ↓x_lenr, ↓x_lenrI, ↓gRev, ↓x_par3, ↓x_par33, ↓x_fld, ↓x_fset, ↓x_mkF, ↓x_mk, ↓x_meth, ↓x_fldO, ↓x_fsetE, ↓x_fldE, ↓x_methO, ↓x_isiCO, ↓x_isiCN, ↓x_isiCT, ↓x_isiCLi, ↓x_isiCS, ↓x_isiCI, ↓x_own, ↓x_eqT2, ↓x_neT2, ↓x_neL4, ↓x_eqLN, ↓x_neNil, ↓x_gset, ↓x_lc, ↓x_for, ↓x_it, ↓x_rn1, ↓x_rn2, ↓x_enu, ↓x_zip, ↓x_itS, ↓x_itL, ↓x_itK, ↓x_itT, ↓x_rn1I, ↓x_rn2I, ↓x_enuL, ↓x_enuK, ↓x_zipL, ↓x_ixS0, ↓x_ixL, ↓x_ixT, ↓x_ixK, x_at0, x_at1, x_at2, x_at3, x_at4, ↓x_set00, ↓x_set01, ↓x_set02, ↓x_aug1, ↓x_aug2, ↓x_aug3, ↓x_aug4, ↓x_aug5, ↓x_aug6, ↓x_aug7, ↓x_aug8, ↓x_aug9, ↓x_aug10, ↓x_aug11, ↓x_aug12, ↓x_aug13, ↓x_aug14, ↓x_aug15, ↓x_aug16, ↓x_aug17, ↓x_aug18, ↓x_aug19, ↓x_aug20, ↓x_aug21, ↓x_aug22, ↓x_aug23, Int.reduceToNat, Int.reducePow, ↓gSeq, ↓gIfS, ↓gSet, ↓gAsg, ↓x_par, ↓x_par2, ↓gRet, ↓gRetN, ↓gNext, ↓gDrop, ↓gBreak, ↓gCont, ↓gDead, ↓gCB, ↓gB2, ↓gU, ↓gC, ↓Dl.gCons, ↓Dl.gNil, ↓Dl.gTup, ↓Dl.gLst, ↓gTest, ↓gOrB, ↓gAndB, ↓gNotB, ↓gAndV, ↓gOrV, ↓gNotV, ↓gIf, ↓gIx, ↓gSl, ↓gPart, ↓gNoP, ↓gMt, ↓gCall, ↓gArgs, ↓gIsN, ↓gNotN, ↓gChain, ↓x_fmtS, ↓x_afS, ↓x_afI, ↓x_js0, ↓x_jsc, ↓gJoined, ↓gYes, ↓x_bnm, ↓x_btp, ↓x_bn, ↓x_bc, ↓x_nnN, ↓x_nnI, ↓x_nnS, ↓x_nnB, ↓x_nnT, ↓x_nnL, ↓x_nnO, ↓x_nnl, ↓x_tyS, ↓x_tyL, ↓x_i2, ↓aSub, ↓aFdiv, ↓aMod, ↓aPow, ↓aShr, ↓aLt, ↓aLe, ↓aGt, ↓aGe, ↓x_addI, ↓x_addS, ↓x_mulI, ↓x_iaddS, ↓x_iaddI, ↓x_neg, ↓x_eqI, ↓x_neI, ↓x_eqS, ↓x_neS, ↓x_eqB, ↓x_neB, ↓x_eqNI, ↓x_neNI, ↓x_lenS, ↓x_lenL_l, ↓x_lenL_k, ↓x_lenL_t, ↓x_str, ↓x_intI, ↓x_intB, ↓x_divmod, ↓x_max2, ↓x_min2, ↓x_ixS, ↓x_slS, ↓x_slT, ↓x_slL_l, ↓x_slL_k, ↓x_inS, ↓x_newT, ↓x_newF, ↓x_si, ↓x_s1, ↓x_s0, ↓x_rpart, ↓x_part, ↓x_a1, ↓x_a2, ↓x_isiStr, ↓x_isiInt, ↓x_isiIntB, ↓x_isiIntS, ↓x_isiBB, ↓x_isiBI, ↓x_isiStrI, ↓x_isiNonI, ↓x_isiNonS, ↓x_isiT, ↓x_isiL, ↓x_var0, ↓x_varS, ↓x_ex, ↓x_aug0, gat, pick, Option.some.injEq, D.bl.injEq, D.int.injEq, D.str.injEq, D.tup.injEq, D.lst.injEq, List.cons.injEq, and_true, true_and, List.set_cons_zero, List.set_cons_succ, List.length_cons, List.length_nil, List.filterMap_cons, List.filterMap_nil, List.getElem?_cons_zero, List.getElem?_cons_succ, Option.bind_some, ↓reduceIte, if_true, if_false, Bool.false_eq_true, Bool.true_eq_false, decide_eq_true_eq, beq_self_eq_true, Bool.not_true, Bool.not_false, Bool.not_eq_true', decide_eq_false_iff_not, exists_eq_left', exists_eq_left, exists_eq, ↓x_dnT, ↓x_dnF, ↓gAsgL, ↓gMMDef, ↓gDSet, ↓gSItems, ↓x_nilL, ↓x_nilE, List.isEmpty_nil, List.isEmpty_cons, Bool.true_xor, Bool.false_xor, ↓gOrT, ↓gAndT, ↓gTryAs, ↓gTryO, ↓gRaise, ↓gCallX, ↓gMethX, ↓gMakeX, ↓gFldX, ↓x_inXs, Bool.false_xor, Bool.true_xor, ↓gOrS, ↓gSortK]
    rw [x_rngL] at hFl hF ht'
    have hs2 : Sto.under (o' :: R0).length (o' :: R0) = true := tape_under ht' (by simpa using hs)
    have hq := h (.lst (F.map (sD a.C_Stretch))) o' ⟨F, rfl, by omega, fun p hp => by have := hF p hp; omega⟩ (ht'.mono (by omega))
    exact (x_finE (S0 := o' :: R0) hs2).mpr ⟨und_ob, hq⟩
end
end Lw
namespace Lw
open PySem L2 Dl Mj
section
variable {P : Program} {w : World} {K : PySem.W.Frag} {mg : Str → Option Value} {base : Heap} {a : Ad}
theorem all_true : ∀ n : Nat, (List.range n).all (fun _ => true) = true := fun n => List.all_eq_true.mpr fun _ _ => rfl
theorem eqlo_same {neg : Bool} {P : List Pr} {S : Sto} {q : D → Sto → Prop} (hq : q (.bl (xor neg true)) S) : aEqLO neg a.C_Stretch (sp_Stretch_eq a) (.lst (P.map (sD a.C_Stretch))) (.lst (P.map (sD a.C_Stretch))) S q := by
  refine ⟨_, _, rfl, rfl, .inr ⟨rfl, fun _ => true, ?_, ?_⟩⟩
  · intro j d e hd he
    rw [hd] at he
    cases he
    rw [List.getElem?_map] at hd
    obtain ⟨x, hx, rfl⟩ := Option.map_eq_some_iff.mp hd
    exact ⟨⟨_, _, rfl, rfl⟩, ⟨_, _, rfl, rfl⟩, fun _ => rfl, fun S' => ⟨x.1, x.2, _, true, rfl, .inl ⟨x.1, x.2, rfl, by simp⟩, rfl, rfl⟩⟩
  · rw [all_true]; exact hq
abbrev csS (a : Ad) : List EqE := [⟨a.C_Stretch, 1, sp_Stretch_eq a⟩]
theorem obj_inj {C : Addr} {x y u v : Int} (hne : ¬ (x = u ∧ y = v)) : NotSame (stD C x y) (stD C u v) := fun K m N Hv z _ r1 r2 => by
  rw [Rep] at r1 r2
  obtain ⟨x, dx, vs, rfl, h1, l1, q1⟩ := r1
  obtain ⟨y, dy, us, e, h2, l2, q2⟩ := r2
  cases e
  rw [h1] at h2
  have ez := HO.ins.inj (Option.some.inj h2)
  obtain ⟨_, ev⟩ := zip_inj ez.2.2 l1 l2
  subst ev
  have := flats_inj q1 q2 rfl rfl
  simp only [List.cons.injEq, D.int.injEq, and_true] at this
  exact hne this
theorem eqB {x y u v : Int} : EqJ K (csS a) 3 (stD a.C_Stretch x y) (stD a.C_Stretch u v) (decide (x = u ∧ y = v)) := by
  refine EqJ.own (c := ⟨a.C_Stretch, 1, sp_Stretch_eq a⟩) (List.mem_singleton.mpr rfl) (show 1 ≤ 3 by decide) (.inr ⟨_, _, _, rfl, .inl rfl⟩) (fun S' => ⟨x, y, _, _, rfl, .inl ⟨u, v, rfl, rfl⟩, rfl, rfl⟩) ?_
  by_cases c : x = u ∧ y = v
  · exact .inl (decide_eq_true c)
  · exact .inr (.inr (obj_inj c))
theorem eqR {x y : Int} {e : D} {t : String} (h : e.bk = some t) : EqJ K (csS a) 3 e (stD a.C_Stretch x y) false :=
  EqJ.rev (c := ⟨a.C_Stretch, 1, sp_Stretch_eq a⟩) (List.mem_singleton.mpr rfl) (show 1 ≤ 3 by decide) h (fun S' => ⟨x, y, _, _, rfl, .inr ⟨⟨t, h⟩, rfl⟩, rfl, rfl⟩)
theorem meet_isN {C : Addr} {p w : Pr} : (meetD C p w).isNon = !decide ((meetP p w).1 < (meetP p w).2) := by
  unfold meetD
  by_cases c : (meetP p w).1 < (meetP p w).2
  · rw [if_pos c, decide_eq_true c]; rfl
  · rw [if_neg c, decide_eq_false c]; rfl
theorem joined_sml {P : List Pr} {ap : Int} (h : Sml P) : Sml (joinL P ap) := ⟨by have := joinL_len P ap; have := h.1; omega, fun p hp => by
  have h1 := joinL_bd (apart := ap) h.2 p hp
  have h2 := joinL_lt P ap p hp
  omega⟩
theorem gaps_len (P : List Pr) (w : Pr) : (gapsL P w).length ≤ (joinL P 0).length + 1 := by
  have h := gap_len w.2 (joinL P 0) ([], w.1)
  unfold gapsL
  rw [List.length_nil] at h
  split
  · rw [List.length_append, List.length_singleton]; omega
  · omega
theorem gaps_sml {P : List Pr} {w : Pr} (h : Sml P) (hl : P.length ≤ 100) (hw : 0 ≤ w.1 ∧ w.2 ≤ 1000000000) : Sml (gapsL P w) := by
  refine ⟨by have := gaps_len P w; have := joinL_len P 0; omega, fun p hp => ?_⟩
  obtain ⟨g1, g2⟩ := gaps_ok P w
  have hlt := g1.2 p hp
  have c1 := (g2 p.1).mp ⟨p, hp, Int.le_refl _, hlt⟩
  have c2 := (g2 (p.2 - 1)).mp ⟨p, hp, by omega, by omega⟩
  omega
theorem kept_len (P : List Pr) (w : Pr) : (keptL P w).length ≤ P.length := by
  unfold keptL
  have := List.length_filter_le (fun p : Pr => decide (p.1 < p.2)) (P.map fun p => meetP p w)
  rwa [List.length_map] at this
theorem kept_sml {P : List Pr} {w : Pr} (h : Sml P) : Sml (keptL P w) := by
  refine ⟨by have := kept_len P w; have := h.1; omega, fun p hp => ?_⟩
  obtain ⟨⟨x, hx, rfl⟩, hlt⟩ := kept_mem.mp hp
  have := h.2 x hx
  unfold meetP at hlt ⊢
  dsimp only at hlt ⊢
  omega
theorem kept_eq {C : Addr} {P : List Pr} {w : Pr} : (P.filter fun p => decide ((meetP p w).1 < (meetP p w).2)).map (fun p => sD C (meetP p w)) = (keptL P w).map (sD C) := by
  unfold keptL
  rw [List.filter_map, List.map_map]
  rfl
theorem r_law (T : Txt K mg a) : ∀ ds S q, sp_law ds S q → g_law K a { nx := fun _ S' => q .non S', rt := q } (startD N_law ds) S := by
  rintro ds S q ⟨ns, rfl, rfl, h⟩
  rw [st_law]
  simp only [g_law, ↓x_eqSS, ↓x_neSS, ↓gKGet, ↓x_kget, ↓x_ixE, at_last, ↓x_appE, ↓x_tyE, ↓x_itE, ↓x_lenE, ↓x_nePr, ↓x_eqPr, ↓x_neE, ↓x_lenr, ↓x_lenrI, ↓gRev, ↓x_par3, ↓x_par33, ↓x_fld, ↓x_fset, ↓x_mkF, ↓x_mk, ↓x_meth, ↓x_fldO, ↓x_fsetE, ↓x_fldE, ↓x_methO, ↓x_isiCO, ↓x_isiCN, ↓x_isiCT, ↓x_isiCLi, ↓x_isiCS, ↓x_isiCI, ↓x_own, ↓x_eqT2, ↓x_neT2, ↓x_neL4, ↓x_eqLN, ↓x_neNil, ↓x_gset, ↓x_lc, ↓x_for, ↓x_it, ↓x_rn1, ↓x_rn2, ↓x_enu, ↓x_zip, ↓x_itS, ↓x_itL, ↓x_itK, ↓x_itT, ↓x_rn1I, ↓x_rn2I, ↓x_enuL, ↓x_enuK, ↓x_zipL, ↓x_ixS0, ↓x_ixL, ↓x_ixT, ↓x_ixK, x_at0, x_at1, x_at2, x_at3, x_at4, ↓x_set00, ↓x_set01, ↓x_set02, ↓x_aug1, ↓x_aug2, ↓x_aug3, ↓x_aug4, ↓x_aug5, ↓x_aug6, ↓x_aug7, ↓x_aug8, ↓x_aug9, ↓x_aug10, ↓x_aug11, ↓x_aug12, ↓x_aug13, ↓x_aug14, ↓x_aug15, ↓x_aug16, ↓x_aug17, ↓x_aug18, ↓x_aug19, ↓x_aug20, ↓x_aug21, ↓x_aug22, ↓x_aug23, Int.reduceToNat, Int.reducePow, ↓gSeq, ↓gIfS, ↓gSet, ↓gAsg, ↓x_par, ↓x_par2, ↓gRet, ↓gRetN, ↓gNext, ↓gDrop, ↓gBreak, ↓gCont, ↓gDead, ↓gCB, ↓gB2, ↓gU, ↓gC, ↓Dl.gCons, ↓Dl.gNil, ↓Dl.gTup, ↓Dl.gLst, ↓gTest, ↓gOrB, ↓gAndB, ↓gNotB, ↓gAndV, ↓gOrV, ↓gNotV, ↓gIf, ↓gIx, ↓gSl, ↓gPart, ↓gNoP, ↓gMt, ↓gCall, ↓gArgs, ↓gIsN, ↓gNotN, ↓gChain, ↓x_fmtS, ↓x_afS, ↓x_afI, ↓x_js0, ↓x_jsc, ↓gJoined, ↓gYes, ↓x_bnm, ↓x_btp, ↓x_bn, ↓x_bc, ↓x_nnN, ↓x_nnI, ↓x_nnS, ↓x_nnB, ↓x_nnT, ↓x_nnL, ↓x_nnO, ↓x_nnl, ↓x_tyS, ↓x_tyL, ↓x_i2, ↓aSub, ↓aFdiv, ↓aMod, ↓aPow, ↓aShr, ↓aLt, ↓aLe, ↓aGt, ↓aGe, ↓x_addI, ↓x_addS, ↓x_mulI, ↓x_iaddS, ↓x_iaddI, ↓x_neg, ↓x_eqI, ↓x_neI, ↓x_eqS, ↓x_neS, ↓x_eqB, ↓x_neB, ↓x_eqNI, ↓x_neNI, ↓x_lenS, ↓x_lenL_l, ↓x_lenL_k, ↓x_lenL_t, ↓x_str, ↓x_intI, ↓x_intB, ↓x_divmod, ↓x_max2, ↓x_min2, ↓x_ixS, ↓x_slS, ↓x_slT, ↓x_slL_l, ↓x_slL_k, ↓x_inS, ↓x_newT, ↓x_newF, ↓x_si, ↓x_s1, ↓x_s0, ↓x_rpart, ↓x_part, ↓x_a1, ↓x_a2, ↓x_isiStr, ↓x_isiInt, ↓x_isiIntB, ↓x_isiIntS, ↓x_isiBB, ↓x_isiBI, ↓x_isiStrI, ↓x_isiNonI, ↓x_isiNonS, ↓x_isiT, ↓x_isiL, ↓x_var0, ↓x_varS, ↓x_ex, ↓x_aug0, gat, pick, Option.some.injEq, D.bl.injEq, D.int.injEq, D.str.injEq, D.tup.injEq, D.lst.injEq, List.cons.injEq, and_true, true_and, List.set_cons_zero, List.set_cons_succ, List.length_cons, List.length_nil, List.filterMap_cons, List.filterMap_nil, List.getElem?_cons_zero, List.getElem?_cons_succ, Option.bind_some, ↓reduceIte, if_true, if_false, Bool.false_eq_true, Bool.true_eq_false, decide_eq_true_eq, beq_self_eq_true, Bool.not_true, Bool.not_false, Bool.not_eq_true', decide_eq_false_iff_not, exists_eq_left', exists_eq_left, exists_eq, ↓x_dnT, ↓x_dnF, ↓gAsgL, ↓gMMDef, ↓gDSet, ↓gSItems, ↓x_nilL, ↓x_nilE, List.isEmpty_nil, List.isEmpty_cons, Bool.true_xor, Bool.false_xor, ↓gOrT, ↓gAndT, ↓gTryAs, ↓gTryO, ↓gRaise, ↓gCallX, ↓gMethX, ↓gMakeX, ↓gFldX, ↓x_inXs, Bool.false_xor, Bool.true_xor, ↓gOrS, ↓gSortK]
  refine ⟨ns, rfl, rfl, ?_⟩
  refine ⟨by omega, by omega, ?_⟩
  have t15 := Mt.ten15
  have hs' : 100000 ≤ sizeLine := by decide
  refine ⟨fun i ρ S => ∃ (o : Option MO) (R0 : Sto) (x2 x3 x4 x5 x6 x7 x8 x9 x10 x11 x12 x13 x14 : Option D), Mt.Tp (2000 * i) o ∧ S = o :: R0 ∧ ρ = [some (.ksq (ns.map .int)), some (.loc 0), x2, x3, x4, x5, x6, x7, x8, x9, x10, x11, x12, x13, x14], ?_, ?_, ?_⟩
  · exact ⟨_, [], _, _, _, _, _, _, _, _, _, _, _, _, _, ⟨_, 0, 0, rfl, by decide, by decide, by decide⟩, rfl, rfl⟩
  · rintro i d ρ S hd ⟨o, R0, x2, x3, x4, x5, x6, x7, x8, x9, x10, x11, x12, x13, x14, ht, rfl, rfl⟩
    have hi : i < (rngD 0 (max 4 (min ((List.map D.int ns).length : Int) 12)).toNat).length := (List.getElem?_eq_some_iff.mp hd).1
    rw [x_rngL] at hi
    refine ⟨trivial, _, x_bnm, ?_⟩
    simp only [↓x_eqSS, ↓x_neSS, ↓gKGet, ↓x_kget, ↓x_ixE, at_last, ↓x_appE, ↓x_tyE, ↓x_itE, ↓x_lenE, ↓x_nePr, ↓x_eqPr, ↓x_neE, ↓x_lenr, ↓x_lenrI, ↓gRev, ↓x_par3, ↓x_par33, ↓x_fld, ↓x_fset, ↓x_mkF, ↓x_mk, ↓x_meth, ↓x_fldO, ↓x_fsetE, ↓x_fldE, ↓x_methO, ↓x_isiCO, ↓x_isiCN, ↓x_isiCT, ↓x_isiCLi, ↓x_isiCS, ↓x_isiCI, ↓x_own, ↓x_eqT2, ↓x_neT2, ↓x_neL4, ↓x_eqLN, ↓x_neNil, ↓x_gset, ↓x_lc, ↓x_for, ↓x_it, ↓x_rn1, ↓x_rn2, ↓x_enu, ↓x_zip, ↓x_itS, ↓x_itL, ↓x_itK, ↓x_itT, ↓x_rn1I, ↓x_rn2I, ↓x_enuL, ↓x_enuK, ↓x_zipL, ↓x_ixS0, ↓x_ixL, ↓x_ixT, ↓x_ixK, x_at0, x_at1, x_at2, x_at3, x_at4, ↓x_set00, ↓x_set01, ↓x_set02, ↓x_aug1, ↓x_aug2, ↓x_aug3, ↓x_aug4, ↓x_aug5, ↓x_aug6, ↓x_aug7, ↓x_aug8, ↓x_aug9, ↓x_aug10, ↓x_aug11, ↓x_aug12, ↓x_aug13, ↓x_aug14, ↓x_aug15, ↓x_aug16, ↓x_aug17, ↓x_aug18, ↓x_aug19, ↓x_aug20, ↓x_aug21, ↓x_aug22, ↓x_aug23, Int.reduceToNat, Int.reducePow, ↓gSeq, ↓gIfS, ↓gSet, ↓gAsg, ↓x_par, ↓x_par2, ↓gRet, ↓gRetN, ↓gNext, ↓gDrop, ↓gBreak, ↓gCont, ↓gDead, ↓gCB, ↓gB2, ↓gU, ↓gC, ↓Dl.gCons, ↓Dl.gNil, ↓Dl.gTup, ↓Dl.gLst, ↓gTest, ↓gOrB, ↓gAndB, ↓gNotB, ↓gAndV, ↓gOrV, ↓gNotV, ↓gIf, ↓gIx, ↓gSl, ↓gPart, ↓gNoP, ↓gMt, ↓gCall, ↓gArgs, ↓gIsN, ↓gNotN, ↓gChain, ↓x_fmtS, ↓x_afS, ↓x_afI, ↓x_js0, ↓x_jsc, ↓gJoined, ↓gYes, ↓x_bnm, ↓x_btp, ↓x_bn, ↓x_bc, ↓x_nnN, ↓x_nnI, ↓x_nnS, ↓x_nnB, ↓x_nnT, ↓x_nnL, ↓x_nnO, ↓x_nnl, ↓x_tyS, ↓x_tyL, ↓x_i2, ↓aSub, ↓aFdiv, ↓aMod, ↓aPow, ↓aShr, ↓aLt, ↓aLe, ↓aGt, ↓aGe, ↓x_addI, ↓x_addS, ↓x_mulI, ↓x_iaddS, ↓x_iaddI, ↓x_neg, ↓x_eqI, ↓x_neI, ↓x_eqS, ↓x_neS, ↓x_eqB, ↓x_neB, ↓x_eqNI, ↓x_neNI, ↓x_lenS, ↓x_lenL_l, ↓x_lenL_k, ↓x_lenL_t, ↓x_str, ↓x_intI, ↓x_intB, ↓x_divmod, ↓x_max2, ↓x_min2, ↓x_ixS, ↓x_slS, ↓x_slT, ↓x_slL_l, ↓x_slL_k, ↓x_inS, ↓x_newT, ↓x_newF, ↓x_si, ↓x_s1, ↓x_s0, ↓x_rpart, ↓x_part, ↓x_a1, ↓x_a2, ↓x_isiStr, ↓x_isiInt, ↓x_isiIntB, ↓x_isiIntS, ↓x_isiBB, ↓x_isiBI, ↓x_isiStrI, ↓x_isiNonI, ↓x_isiNonS, ↓x_isiT, ↓x_isiL, ↓x_var0, ↓x_varS, ↓x_ex, ↓x_aug0, gat, pick, Option.some.injEq, D.bl.injEq, D.int.injEq, D.str.injEq, D.tup.injEq, D.lst.injEq, List.cons.injEq, and_true, true_and, List.set_cons_zero, List.set_cons_succ, List.length_cons, List.length_nil, List.filterMap_cons, List.filterMap_nil, List.getElem?_cons_zero, List.getElem?_cons_succ, Option.bind_some, ↓reduceIte, if_true, if_false, Bool.false_eq_true, Bool.true_eq_false, decide_eq_true_eq, beq_self_eq_true, Bool.not_true, Bool.not_false, Bool.not_eq_true', decide_eq_false_iff_not, exists_eq_left', exists_eq_left, exists_eq, ↓x_dnT, ↓x_dnF, ↓gAsgL, ↓gMMDef, ↓gDSet, ↓gSItems, ↓x_nilL, ↓x_nilE, List.isEmpty_nil, List.isEmpty_cons, Bool.true_xor, Bool.false_xor, ↓gOrT, ↓gAndT, ↓gTryAs, ↓gTryO, ↓gRaise, ↓gCallX, ↓gMethX, ↓gMakeX, ↓gFldX, ↓x_inXs, Bool.false_xor, Bool.true_xor, ↓gOrS, ↓gSortK]
    refine Mt.tk_in ht (by omega) fun e o1 ⟨P, he, hP⟩ ht1 => ?_
    subst he
    (try simp only [↓x_eqSS, ↓x_neSS, ↓gKGet, ↓x_kget, ↓x_ixE, at_last, ↓x_appE, ↓x_tyE, ↓x_itE, ↓x_lenE, ↓x_nePr, ↓x_eqPr, ↓x_neE, ↓x_lenr, ↓x_lenrI, ↓gRev, ↓x_par3, ↓x_par33, ↓x_fld, ↓x_fset, ↓x_mkF, ↓x_mk, ↓x_meth, ↓x_fldO, ↓x_fsetE, ↓x_fldE, ↓x_methO, ↓x_isiCO, ↓x_isiCN, ↓x_isiCT, ↓x_isiCLi, ↓x_isiCS, ↓x_isiCI, ↓x_own, ↓x_eqT2, ↓x_neT2, ↓x_neL4, ↓x_eqLN, ↓x_neNil, ↓x_gset, ↓x_lc, ↓x_for, ↓x_it, ↓x_rn1, ↓x_rn2, ↓x_enu, ↓x_zip, ↓x_itS, ↓x_itL, ↓x_itK, ↓x_itT, ↓x_rn1I, ↓x_rn2I, ↓x_enuL, ↓x_enuK, ↓x_zipL, ↓x_ixS0, ↓x_ixL, ↓x_ixT, ↓x_ixK, x_at0, x_at1, x_at2, x_at3, x_at4, ↓x_set00, ↓x_set01, ↓x_set02, ↓x_aug1, ↓x_aug2, ↓x_aug3, ↓x_aug4, ↓x_aug5, ↓x_aug6, ↓x_aug7, ↓x_aug8, ↓x_aug9, ↓x_aug10, ↓x_aug11, ↓x_aug12, ↓x_aug13, ↓x_aug14, ↓x_aug15, ↓x_aug16, ↓x_aug17, ↓x_aug18, ↓x_aug19, ↓x_aug20, ↓x_aug21, ↓x_aug22, ↓x_aug23, Int.reduceToNat, Int.reducePow, ↓gSeq, ↓gIfS, ↓gSet, ↓gAsg, ↓x_par, ↓x_par2, ↓gRet, ↓gRetN, ↓gNext, ↓gDrop, ↓gBreak, ↓gCont, ↓gDead, ↓gCB, ↓gB2, ↓gU, ↓gC, ↓Dl.gCons, ↓Dl.gNil, ↓Dl.gTup, ↓Dl.gLst, ↓gTest, ↓gOrB, ↓gAndB, ↓gNotB, ↓gAndV, ↓gOrV, ↓gNotV, ↓gIf, ↓gIx, ↓gSl, ↓gPart, ↓gNoP, ↓gMt, ↓gCall, ↓gArgs, ↓gIsN, ↓gNotN, ↓gChain, ↓x_fmtS, ↓x_afS, ↓x_afI, ↓x_js0, ↓x_jsc, ↓gJoined, ↓gYes, ↓x_bnm, ↓x_btp, ↓x_bn, ↓x_bc, ↓x_nnN, ↓x_nnI, ↓x_nnS, ↓x_nnB, ↓x_nnT, ↓x_nnL, ↓x_nnO, ↓x_nnl, ↓x_tyS, ↓x_tyL, ↓x_i2, ↓aSub, ↓aFdiv, ↓aMod, ↓aPow, ↓aShr, ↓aLt, ↓aLe, ↓aGt, ↓aGe, ↓x_addI, ↓x_addS, ↓x_mulI, ↓x_iaddS, ↓x_iaddI, ↓x_neg, ↓x_eqI, ↓x_neI, ↓x_eqS, ↓x_neS, ↓x_eqB, ↓x_neB, ↓x_eqNI, ↓x_neNI, ↓x_lenS, ↓x_lenL_l, ↓x_lenL_k, ↓x_lenL_t, ↓x_str, ↓x_intI, ↓x_intB, ↓x_divmod, ↓x_max2, ↓x_min2, ↓x_ixS, ↓x_slS, ↓x_slT, ↓x_slL_l, ↓x_slL_k, ↓x_inS, ↓x_newT, ↓x_newF, ↓x_si, ↓x_s1, ↓x_s0, ↓x_rpart, ↓x_part, ↓x_a1, ↓x_a2, ↓x_isiStr, ↓x_isiInt, ↓x_isiIntB, ↓x_isiIntS, ↓x_isiBB, ↓x_isiBI, ↓x_isiStrI, ↓x_isiNonI, ↓x_isiNonS, ↓x_isiT, ↓x_isiL, ↓x_var0, ↓x_varS, ↓x_ex, ↓x_aug0, gat, pick, Option.some.injEq, D.bl.injEq, D.int.injEq, D.str.injEq, D.tup.injEq, D.lst.injEq, List.cons.injEq, and_true, true_and, List.set_cons_zero, List.set_cons_succ, List.length_cons, List.length_nil, List.filterMap_cons, List.filterMap_nil, List.getElem?_cons_zero, List.getElem?_cons_succ, Option.bind_some, ↓reduceIte, if_true, if_false, Bool.false_eq_true, Bool.true_eq_false, decide_eq_true_eq, beq_self_eq_true, Bool.not_true, Bool.not_false, Bool.not_eq_true', decide_eq_false_iff_not, exists_eq_left', exists_eq_left, exists_eq, ↓x_dnT, ↓x_dnF, ↓gAsgL, ↓gMMDef, ↓gDSet, ↓gSItems, ↓x_nilL, ↓x_nilE, List.isEmpty_nil, List.isEmpty_cons, Bool.true_xor, Bool.false_xor, ↓gOrT, ↓gAndT, ↓gTryAs, ↓gTryO, ↓gRaise, ↓gCallX, ↓gMethX, ↓gMakeX, ↓gFldX, ↓x_inXs, Bool.false_xor, Bool.true_xor, ↓gOrS, ↓gSortK])
    refine Mt.draw_in (by omega) (by omega) ht1 (by omega) fun f o2 hf1 hf2 ht2 => ?_
    (try simp only [↓x_eqSS, ↓x_neSS, ↓gKGet, ↓x_kget, ↓x_ixE, at_last, ↓x_appE, ↓x_tyE, ↓x_itE, ↓x_lenE, ↓x_nePr, ↓x_eqPr, ↓x_neE, ↓x_lenr, ↓x_lenrI, ↓gRev, ↓x_par3, ↓x_par33, ↓x_fld, ↓x_fset, ↓x_mkF, ↓x_mk, ↓x_meth, ↓x_fldO, ↓x_fsetE, ↓x_fldE, ↓x_methO, ↓x_isiCO, ↓x_isiCN, ↓x_isiCT, ↓x_isiCLi, ↓x_isiCS, ↓x_isiCI, ↓x_own, ↓x_eqT2, ↓x_neT2, ↓x_neL4, ↓x_eqLN, ↓x_neNil, ↓x_gset, ↓x_lc, ↓x_for, ↓x_it, ↓x_rn1, ↓x_rn2, ↓x_enu, ↓x_zip, ↓x_itS, ↓x_itL, ↓x_itK, ↓x_itT, ↓x_rn1I, ↓x_rn2I, ↓x_enuL, ↓x_enuK, ↓x_zipL, ↓x_ixS0, ↓x_ixL, ↓x_ixT, ↓x_ixK, x_at0, x_at1, x_at2, x_at3, x_at4, ↓x_set00, ↓x_set01, ↓x_set02, ↓x_aug1, ↓x_aug2, ↓x_aug3, ↓x_aug4, ↓x_aug5, ↓x_aug6, ↓x_aug7, ↓x_aug8, ↓x_aug9, ↓x_aug10, ↓x_aug11, ↓x_aug12, ↓x_aug13, ↓x_aug14, ↓x_aug15, ↓x_aug16, ↓x_aug17, ↓x_aug18, ↓x_aug19, ↓x_aug20, ↓x_aug21, ↓x_aug22, ↓x_aug23, Int.reduceToNat, Int.reducePow, ↓gSeq, ↓gIfS, ↓gSet, ↓gAsg, ↓x_par, ↓x_par2, ↓gRet, ↓gRetN, ↓gNext, ↓gDrop, ↓gBreak, ↓gCont, ↓gDead, ↓gCB, ↓gB2, ↓gU, ↓gC, ↓Dl.gCons, ↓Dl.gNil, ↓Dl.gTup, ↓Dl.gLst, ↓gTest, ↓gOrB, ↓gAndB, ↓gNotB, ↓gAndV, ↓gOrV, ↓gNotV, ↓gIf, ↓gIx, ↓gSl, ↓gPart, ↓gNoP, ↓gMt, ↓gCall, ↓gArgs, ↓gIsN, ↓gNotN, ↓gChain, ↓x_fmtS, ↓x_afS, ↓x_afI, ↓x_js0, ↓x_jsc, ↓gJoined, ↓gYes, ↓x_bnm, ↓x_btp, ↓x_bn, ↓x_bc, ↓x_nnN, ↓x_nnI, ↓x_nnS, ↓x_nnB, ↓x_nnT, ↓x_nnL, ↓x_nnO, ↓x_nnl, ↓x_tyS, ↓x_tyL, ↓x_i2, ↓aSub, ↓aFdiv, ↓aMod, ↓aPow, ↓aShr, ↓aLt, ↓aLe, ↓aGt, ↓aGe, ↓x_addI, ↓x_addS, ↓x_mulI, ↓x_iaddS, ↓x_iaddI, ↓x_neg, ↓x_eqI, ↓x_neI, ↓x_eqS, ↓x_neS, ↓x_eqB, ↓x_neB, ↓x_eqNI, ↓x_neNI, ↓x_lenS, ↓x_lenL_l, ↓x_lenL_k, ↓x_lenL_t, ↓x_str, ↓x_intI, ↓x_intB, ↓x_divmod, ↓x_max2, ↓x_min2, ↓x_ixS, ↓x_slS, ↓x_slT, ↓x_slL_l, ↓x_slL_k, ↓x_inS, ↓x_newT, ↓x_newF, ↓x_si, ↓x_s1, ↓x_s0, ↓x_rpart, ↓x_part, ↓x_a1, ↓x_a2, ↓x_isiStr, ↓x_isiInt, ↓x_isiIntB, ↓x_isiIntS, ↓x_isiBB, ↓x_isiBI, ↓x_isiStrI, ↓x_isiNonI, ↓x_isiNonS, ↓x_isiT, ↓x_isiL, ↓x_var0, ↓x_varS, ↓x_ex, ↓x_aug0, gat, pick, Option.some.injEq, D.bl.injEq, D.int.injEq, D.str.injEq, D.tup.injEq, D.lst.injEq, List.cons.injEq, and_true, true_and, List.set_cons_zero, List.set_cons_succ, List.length_cons, List.length_nil, List.filterMap_cons, List.filterMap_nil, List.getElem?_cons_zero, List.getElem?_cons_succ, Option.bind_some, ↓reduceIte, if_true, if_false, Bool.false_eq_true, Bool.true_eq_false, decide_eq_true_eq, beq_self_eq_true, Bool.not_true, Bool.not_false, Bool.not_eq_true', decide_eq_false_iff_not, exists_eq_left', exists_eq_left, exists_eq, ↓x_dnT, ↓x_dnF, ↓gAsgL, ↓gMMDef, ↓gDSet, ↓gSItems, ↓x_nilL, ↓x_nilE, List.isEmpty_nil, List.isEmpty_cons, Bool.true_xor, Bool.false_xor, ↓gOrT, ↓gAndT, ↓gTryAs, ↓gTryO, ↓gRaise, ↓gCallX, ↓gMethX, ↓gMakeX, ↓gFldX, ↓x_inXs, Bool.false_xor, Bool.true_xor, ↓gOrS, ↓gSortK])
    refine Mt.draw_in (by omega) (by omega) ht2 (by omega) fun u o3 hu1 hu2 ht3 => ?_
    (try simp only [↓x_eqSS, ↓x_neSS, ↓gKGet, ↓x_kget, ↓x_ixE, at_last, ↓x_appE, ↓x_tyE, ↓x_itE, ↓x_lenE, ↓x_nePr, ↓x_eqPr, ↓x_neE, ↓x_lenr, ↓x_lenrI, ↓gRev, ↓x_par3, ↓x_par33, ↓x_fld, ↓x_fset, ↓x_mkF, ↓x_mk, ↓x_meth, ↓x_fldO, ↓x_fsetE, ↓x_fldE, ↓x_methO, ↓x_isiCO, ↓x_isiCN, ↓x_isiCT, ↓x_isiCLi, ↓x_isiCS, ↓x_isiCI, ↓x_own, ↓x_eqT2, ↓x_neT2, ↓x_neL4, ↓x_eqLN, ↓x_neNil, ↓x_gset, ↓x_lc, ↓x_for, ↓x_it, ↓x_rn1, ↓x_rn2, ↓x_enu, ↓x_zip, ↓x_itS, ↓x_itL, ↓x_itK, ↓x_itT, ↓x_rn1I, ↓x_rn2I, ↓x_enuL, ↓x_enuK, ↓x_zipL, ↓x_ixS0, ↓x_ixL, ↓x_ixT, ↓x_ixK, x_at0, x_at1, x_at2, x_at3, x_at4, ↓x_set00, ↓x_set01, ↓x_set02, ↓x_aug1, ↓x_aug2, ↓x_aug3, ↓x_aug4, ↓x_aug5, ↓x_aug6, ↓x_aug7, ↓x_aug8, ↓x_aug9, ↓x_aug10, ↓x_aug11, ↓x_aug12, ↓x_aug13, ↓x_aug14, ↓x_aug15, ↓x_aug16, ↓x_aug17, ↓x_aug18, ↓x_aug19, ↓x_aug20, ↓x_aug21, ↓x_aug22, ↓x_aug23, Int.reduceToNat, Int.reducePow, ↓gSeq, ↓gIfS, ↓gSet, ↓gAsg, ↓x_par, ↓x_par2, ↓gRet, ↓gRetN, ↓gNext, ↓gDrop, ↓gBreak, ↓gCont, ↓gDead, ↓gCB, ↓gB2, ↓gU, ↓gC, ↓Dl.gCons, ↓Dl.gNil, ↓Dl.gTup, ↓Dl.gLst, ↓gTest, ↓gOrB, ↓gAndB, ↓gNotB, ↓gAndV, ↓gOrV, ↓gNotV, ↓gIf, ↓gIx, ↓gSl, ↓gPart, ↓gNoP, ↓gMt, ↓gCall, ↓gArgs, ↓gIsN, ↓gNotN, ↓gChain, ↓x_fmtS, ↓x_afS, ↓x_afI, ↓x_js0, ↓x_jsc, ↓gJoined, ↓gYes, ↓x_bnm, ↓x_btp, ↓x_bn, ↓x_bc, ↓x_nnN, ↓x_nnI, ↓x_nnS, ↓x_nnB, ↓x_nnT, ↓x_nnL, ↓x_nnO, ↓x_nnl, ↓x_tyS, ↓x_tyL, ↓x_i2, ↓aSub, ↓aFdiv, ↓aMod, ↓aPow, ↓aShr, ↓aLt, ↓aLe, ↓aGt, ↓aGe, ↓x_addI, ↓x_addS, ↓x_mulI, ↓x_iaddS, ↓x_iaddI, ↓x_neg, ↓x_eqI, ↓x_neI, ↓x_eqS, ↓x_neS, ↓x_eqB, ↓x_neB, ↓x_eqNI, ↓x_neNI, ↓x_lenS, ↓x_lenL_l, ↓x_lenL_k, ↓x_lenL_t, ↓x_str, ↓x_intI, ↓x_intB, ↓x_divmod, ↓x_max2, ↓x_min2, ↓x_ixS, ↓x_slS, ↓x_slT, ↓x_slL_l, ↓x_slL_k, ↓x_inS, ↓x_newT, ↓x_newF, ↓x_si, ↓x_s1, ↓x_s0, ↓x_rpart, ↓x_part, ↓x_a1, ↓x_a2, ↓x_isiStr, ↓x_isiInt, ↓x_isiIntB, ↓x_isiIntS, ↓x_isiBB, ↓x_isiBI, ↓x_isiStrI, ↓x_isiNonI, ↓x_isiNonS, ↓x_isiT, ↓x_isiL, ↓x_var0, ↓x_varS, ↓x_ex, ↓x_aug0, gat, pick, Option.some.injEq, D.bl.injEq, D.int.injEq, D.str.injEq, D.tup.injEq, D.lst.injEq, List.cons.injEq, and_true, true_and, List.set_cons_zero, List.set_cons_succ, List.length_cons, List.length_nil, List.filterMap_cons, List.filterMap_nil, List.getElem?_cons_zero, List.getElem?_cons_succ, Option.bind_some, ↓reduceIte, if_true, if_false, Bool.false_eq_true, Bool.true_eq_false, decide_eq_true_eq, beq_self_eq_true, Bool.not_true, Bool.not_false, Bool.not_eq_true', decide_eq_false_iff_not, exists_eq_left', exists_eq_left, exists_eq, ↓x_dnT, ↓x_dnF, ↓gAsgL, ↓gMMDef, ↓gDSet, ↓gSItems, ↓x_nilL, ↓x_nilE, List.isEmpty_nil, List.isEmpty_cons, Bool.true_xor, Bool.false_xor, ↓gOrT, ↓gAndT, ↓gTryAs, ↓gTryO, ↓gRaise, ↓gCallX, ↓gMethX, ↓gMakeX, ↓gFldX, ↓x_inXs, Bool.false_xor, Bool.true_xor, ↓gOrS, ↓gSortK])
    refine ⟨by decide, Mt.pickL_in (by simp) (by simp) ht3 (by omega) fun e o4 he ht4 => ?_⟩
    obtain ⟨z, rfl, hz1, hz2⟩ : ∃ z, e = .int z ∧ 0 ≤ z ∧ z ≤ 86400 := by
      simp only [List.mem_cons, List.not_mem_nil, or_false] at he
      rcases he with rfl | rfl | rfl | rfl
      · exact ⟨_, rfl, by decide, by decide⟩
      · exact ⟨_, rfl, by decide, by decide⟩
      · exact ⟨_, rfl, by decide, by decide⟩
      · exact ⟨_, rfl, by omega, by omega⟩
    (try simp only [↓x_eqSS, ↓x_neSS, ↓gKGet, ↓x_kget, ↓x_ixE, at_last, ↓x_appE, ↓x_tyE, ↓x_itE, ↓x_lenE, ↓x_nePr, ↓x_eqPr, ↓x_neE, ↓x_lenr, ↓x_lenrI, ↓gRev, ↓x_par3, ↓x_par33, ↓x_fld, ↓x_fset, ↓x_mkF, ↓x_mk, ↓x_meth, ↓x_fldO, ↓x_fsetE, ↓x_fldE, ↓x_methO, ↓x_isiCO, ↓x_isiCN, ↓x_isiCT, ↓x_isiCLi, ↓x_isiCS, ↓x_isiCI, ↓x_own, ↓x_eqT2, ↓x_neT2, ↓x_neL4, ↓x_eqLN, ↓x_neNil, ↓x_gset, ↓x_lc, ↓x_for, ↓x_it, ↓x_rn1, ↓x_rn2, ↓x_enu, ↓x_zip, ↓x_itS, ↓x_itL, ↓x_itK, ↓x_itT, ↓x_rn1I, ↓x_rn2I, ↓x_enuL, ↓x_enuK, ↓x_zipL, ↓x_ixS0, ↓x_ixL, ↓x_ixT, ↓x_ixK, x_at0, x_at1, x_at2, x_at3, x_at4, ↓x_set00, ↓x_set01, ↓x_set02, ↓x_aug1, ↓x_aug2, ↓x_aug3, ↓x_aug4, ↓x_aug5, ↓x_aug6, ↓x_aug7, ↓x_aug8, ↓x_aug9, ↓x_aug10, ↓x_aug11, ↓x_aug12, ↓x_aug13, ↓x_aug14, ↓x_aug15, ↓x_aug16, ↓x_aug17, ↓x_aug18, ↓x_aug19, ↓x_aug20, ↓x_aug21, ↓x_aug22, ↓x_aug23, Int.reduceToNat, Int.reducePow, ↓gSeq, ↓gIfS, ↓gSet, ↓gAsg, ↓x_par, ↓x_par2, ↓gRet, ↓gRetN, ↓gNext, ↓gDrop, ↓gBreak, ↓gCont, ↓gDead, ↓gCB, ↓gB2, ↓gU, ↓gC, ↓Dl.gCons, ↓Dl.gNil, ↓Dl.gTup, ↓Dl.gLst, ↓gTest, ↓gOrB, ↓gAndB, ↓gNotB, ↓gAndV, ↓gOrV, ↓gNotV, ↓gIf, ↓gIx, ↓gSl, ↓gPart, ↓gNoP, ↓gMt, ↓gCall, ↓gArgs, ↓gIsN, ↓gNotN, ↓gChain, ↓x_fmtS, ↓x_afS, ↓x_afI, ↓x_js0, ↓x_jsc, ↓gJoined, ↓gYes, ↓x_bnm, ↓x_btp, ↓x_bn, ↓x_bc, ↓x_nnN, ↓x_nnI, ↓x_nnS, ↓x_nnB, ↓x_nnT, ↓x_nnL, ↓x_nnO, ↓x_nnl, ↓x_tyS, ↓x_tyL, ↓x_i2, ↓aSub, ↓aFdiv, ↓aMod, ↓aPow, ↓aShr, ↓aLt, ↓aLe, ↓aGt, ↓aGe, ↓x_addI, ↓x_addS, ↓x_mulI, ↓x_iaddS, ↓x_iaddI, ↓x_neg, ↓x_eqI, ↓x_neI, ↓x_eqS, ↓x_neS, ↓x_eqB, ↓x_neB, ↓x_eqNI, ↓x_neNI, ↓x_lenS, ↓x_lenL_l, ↓x_lenL_k, ↓x_lenL_t, ↓x_str, ↓x_intI, ↓x_intB, ↓x_divmod, ↓x_max2, ↓x_min2, ↓x_ixS, ↓x_slS, ↓x_slT, ↓x_slL_l, ↓x_slL_k, ↓x_inS, ↓x_newT, ↓x_newF, ↓x_si, ↓x_s1, ↓x_s0, ↓x_rpart, ↓x_part, ↓x_a1, ↓x_a2, ↓x_isiStr, ↓x_isiInt, ↓x_isiIntB, ↓x_isiIntS, ↓x_isiBB, ↓x_isiBI, ↓x_isiStrI, ↓x_isiNonI, ↓x_isiNonS, ↓x_isiT, ↓x_isiL, ↓x_var0, ↓x_varS, ↓x_ex, ↓x_aug0, gat, pick, Option.some.injEq, D.bl.injEq, D.int.injEq, D.str.injEq, D.tup.injEq, D.lst.injEq, List.cons.injEq, and_true, true_and, List.set_cons_zero, List.set_cons_succ, List.length_cons, List.length_nil, List.filterMap_cons, List.filterMap_nil, List.getElem?_cons_zero, List.getElem?_cons_succ, Option.bind_some, ↓reduceIte, if_true, if_false, Bool.false_eq_true, Bool.true_eq_false, decide_eq_true_eq, beq_self_eq_true, Bool.not_true, Bool.not_false, Bool.not_eq_true', decide_eq_false_iff_not, exists_eq_left', exists_eq_left, exists_eq, ↓x_dnT, ↓x_dnF, ↓gAsgL, ↓gMMDef, ↓gDSet, ↓gSItems, ↓x_nilL, ↓x_nilE, List.isEmpty_nil, List.isEmpty_cons, Bool.true_xor, Bool.false_xor, ↓gOrT, ↓gAndT, ↓gTryAs, ↓gTryO, ↓gRaise, ↓gCallX, ↓gMethX, ↓gMakeX, ↓gFldX, ↓x_inXs, Bool.false_xor, Bool.true_xor, ↓gOrS, ↓gSortK])
    refine Mt.st_make (by omega) ?_
    (try simp only [↓x_eqSS, ↓x_neSS, ↓gKGet, ↓x_kget, ↓x_ixE, at_last, ↓x_appE, ↓x_tyE, ↓x_itE, ↓x_lenE, ↓x_nePr, ↓x_eqPr, ↓x_neE, ↓x_lenr, ↓x_lenrI, ↓gRev, ↓x_par3, ↓x_par33, ↓x_fld, ↓x_fset, ↓x_mkF, ↓x_mk, ↓x_meth, ↓x_fldO, ↓x_fsetE, ↓x_fldE, ↓x_methO, ↓x_isiCO, ↓x_isiCN, ↓x_isiCT, ↓x_isiCLi, ↓x_isiCS, ↓x_isiCI, ↓x_own, ↓x_eqT2, ↓x_neT2, ↓x_neL4, ↓x_eqLN, ↓x_neNil, ↓x_gset, ↓x_lc, ↓x_for, ↓x_it, ↓x_rn1, ↓x_rn2, ↓x_enu, ↓x_zip, ↓x_itS, ↓x_itL, ↓x_itK, ↓x_itT, ↓x_rn1I, ↓x_rn2I, ↓x_enuL, ↓x_enuK, ↓x_zipL, ↓x_ixS0, ↓x_ixL, ↓x_ixT, ↓x_ixK, x_at0, x_at1, x_at2, x_at3, x_at4, ↓x_set00, ↓x_set01, ↓x_set02, ↓x_aug1, ↓x_aug2, ↓x_aug3, ↓x_aug4, ↓x_aug5, ↓x_aug6, ↓x_aug7, ↓x_aug8, ↓x_aug9, ↓x_aug10, ↓x_aug11, ↓x_aug12, ↓x_aug13, ↓x_aug14, ↓x_aug15, ↓x_aug16, ↓x_aug17, ↓x_aug18, ↓x_aug19, ↓x_aug20, ↓x_aug21, ↓x_aug22, ↓x_aug23, Int.reduceToNat, Int.reducePow, ↓gSeq, ↓gIfS, ↓gSet, ↓gAsg, ↓x_par, ↓x_par2, ↓gRet, ↓gRetN, ↓gNext, ↓gDrop, ↓gBreak, ↓gCont, ↓gDead, ↓gCB, ↓gB2, ↓gU, ↓gC, ↓Dl.gCons, ↓Dl.gNil, ↓Dl.gTup, ↓Dl.gLst, ↓gTest, ↓gOrB, ↓gAndB, ↓gNotB, ↓gAndV, ↓gOrV, ↓gNotV, ↓gIf, ↓gIx, ↓gSl, ↓gPart, ↓gNoP, ↓gMt, ↓gCall, ↓gArgs, ↓gIsN, ↓gNotN, ↓gChain, ↓x_fmtS, ↓x_afS, ↓x_afI, ↓x_js0, ↓x_jsc, ↓gJoined, ↓gYes, ↓x_bnm, ↓x_btp, ↓x_bn, ↓x_bc, ↓x_nnN, ↓x_nnI, ↓x_nnS, ↓x_nnB, ↓x_nnT, ↓x_nnL, ↓x_nnO, ↓x_nnl, ↓x_tyS, ↓x_tyL, ↓x_i2, ↓aSub, ↓aFdiv, ↓aMod, ↓aPow, ↓aShr, ↓aLt, ↓aLe, ↓aGt, ↓aGe, ↓x_addI, ↓x_addS, ↓x_mulI, ↓x_iaddS, ↓x_iaddI, ↓x_neg, ↓x_eqI, ↓x_neI, ↓x_eqS, ↓x_neS, ↓x_eqB, ↓x_neB, ↓x_eqNI, ↓x_neNI, ↓x_lenS, ↓x_lenL_l, ↓x_lenL_k, ↓x_lenL_t, ↓x_str, ↓x_intI, ↓x_intB, ↓x_divmod, ↓x_max2, ↓x_min2, ↓x_ixS, ↓x_slS, ↓x_slT, ↓x_slL_l, ↓x_slL_k, ↓x_inS, ↓x_newT, ↓x_newF, ↓x_si, ↓x_s1, ↓x_s0, ↓x_rpart, ↓x_part, ↓x_a1, ↓x_a2, ↓x_isiStr, ↓x_isiInt, ↓x_isiIntB, ↓x_isiIntS, ↓x_isiBB, ↓x_isiBI, ↓x_isiStrI, ↓x_isiNonI, ↓x_isiNonS, ↓x_isiT, ↓x_isiL, ↓x_var0, ↓x_varS, ↓x_ex, ↓x_aug0, gat, pick, Option.some.injEq, D.bl.injEq, D.int.injEq, D.str.injEq, D.tup.injEq, D.lst.injEq, List.cons.injEq, and_true, true_and, List.set_cons_zero, List.set_cons_succ, List.length_cons, List.length_nil, List.filterMap_cons, List.filterMap_nil, List.getElem?_cons_zero, List.getElem?_cons_succ, Option.bind_some, ↓reduceIte, if_true, if_false, Bool.false_eq_true, Bool.true_eq_false, decide_eq_true_eq, beq_self_eq_true, Bool.not_true, Bool.not_false, Bool.not_eq_true', decide_eq_false_iff_not, exists_eq_left', exists_eq_left, exists_eq, ↓x_dnT, ↓x_dnF, ↓gAsgL, ↓gMMDef, ↓gDSet, ↓gSItems, ↓x_nilL, ↓x_nilE, List.isEmpty_nil, List.isEmpty_cons, Bool.true_xor, Bool.false_xor, ↓gOrT, ↓gAndT, ↓gTryAs, ↓gTryO, ↓gRaise, ↓gCallX, ↓gMethX, ↓gMakeX, ↓gFldX, ↓x_inXs, Bool.false_xor, Bool.true_xor, ↓gOrS, ↓gSortK])
    have hSml : Sml P := ⟨by have := hP.1; omega, fun p hp => by have := hP.2 p hp; omega⟩
    have hSj : Sml (joinL P 0) := joined_sml hSml
    refine ⟨P, 0, rfl, hSml, ?_⟩
    (try simp only [↓x_eqSS, ↓x_neSS, ↓gKGet, ↓x_kget, ↓x_ixE, at_last, ↓x_appE, ↓x_tyE, ↓x_itE, ↓x_lenE, ↓x_nePr, ↓x_eqPr, ↓x_neE, ↓x_lenr, ↓x_lenrI, ↓gRev, ↓x_par3, ↓x_par33, ↓x_fld, ↓x_fset, ↓x_mkF, ↓x_mk, ↓x_meth, ↓x_fldO, ↓x_fsetE, ↓x_fldE, ↓x_methO, ↓x_isiCO, ↓x_isiCN, ↓x_isiCT, ↓x_isiCLi, ↓x_isiCS, ↓x_isiCI, ↓x_own, ↓x_eqT2, ↓x_neT2, ↓x_neL4, ↓x_eqLN, ↓x_neNil, ↓x_gset, ↓x_lc, ↓x_for, ↓x_it, ↓x_rn1, ↓x_rn2, ↓x_enu, ↓x_zip, ↓x_itS, ↓x_itL, ↓x_itK, ↓x_itT, ↓x_rn1I, ↓x_rn2I, ↓x_enuL, ↓x_enuK, ↓x_zipL, ↓x_ixS0, ↓x_ixL, ↓x_ixT, ↓x_ixK, x_at0, x_at1, x_at2, x_at3, x_at4, ↓x_set00, ↓x_set01, ↓x_set02, ↓x_aug1, ↓x_aug2, ↓x_aug3, ↓x_aug4, ↓x_aug5, ↓x_aug6, ↓x_aug7, ↓x_aug8, ↓x_aug9, ↓x_aug10, ↓x_aug11, ↓x_aug12, ↓x_aug13, ↓x_aug14, ↓x_aug15, ↓x_aug16, ↓x_aug17, ↓x_aug18, ↓x_aug19, ↓x_aug20, ↓x_aug21, ↓x_aug22, ↓x_aug23, Int.reduceToNat, Int.reducePow, ↓gSeq, ↓gIfS, ↓gSet, ↓gAsg, ↓x_par, ↓x_par2, ↓gRet, ↓gRetN, ↓gNext, ↓gDrop, ↓gBreak, ↓gCont, ↓gDead, ↓gCB, ↓gB2, ↓gU, ↓gC, ↓Dl.gCons, ↓Dl.gNil, ↓Dl.gTup, ↓Dl.gLst, ↓gTest, ↓gOrB, ↓gAndB, ↓gNotB, ↓gAndV, ↓gOrV, ↓gNotV, ↓gIf, ↓gIx, ↓gSl, ↓gPart, ↓gNoP, ↓gMt, ↓gCall, ↓gArgs, ↓gIsN, ↓gNotN, ↓gChain, ↓x_fmtS, ↓x_afS, ↓x_afI, ↓x_js0, ↓x_jsc, ↓gJoined, ↓gYes, ↓x_bnm, ↓x_btp, ↓x_bn, ↓x_bc, ↓x_nnN, ↓x_nnI, ↓x_nnS, ↓x_nnB, ↓x_nnT, ↓x_nnL, ↓x_nnO, ↓x_nnl, ↓x_tyS, ↓x_tyL, ↓x_i2, ↓aSub, ↓aFdiv, ↓aMod, ↓aPow, ↓aShr, ↓aLt, ↓aLe, ↓aGt, ↓aGe, ↓x_addI, ↓x_addS, ↓x_mulI, ↓x_iaddS, ↓x_iaddI, ↓x_neg, ↓x_eqI, ↓x_neI, ↓x_eqS, ↓x_neS, ↓x_eqB, ↓x_neB, ↓x_eqNI, ↓x_neNI, ↓x_lenS, ↓x_lenL_l, ↓x_lenL_k, ↓x_lenL_t, ↓x_str, ↓x_intI, ↓x_intB, ↓x_divmod, ↓x_max2, ↓x_min2, ↓x_ixS, ↓x_slS, ↓x_slT, ↓x_slL_l, ↓x_slL_k, ↓x_inS, ↓x_newT, ↓x_newF, ↓x_si, ↓x_s1, ↓x_s0, ↓x_rpart, ↓x_part, ↓x_a1, ↓x_a2, ↓x_isiStr, ↓x_isiInt, ↓x_isiIntB, ↓x_isiIntS, ↓x_isiBB, ↓x_isiBI, ↓x_isiStrI, ↓x_isiNonI, ↓x_isiNonS, ↓x_isiT, ↓x_isiL, ↓x_var0, ↓x_varS, ↓x_ex, ↓x_aug0, gat, pick, Option.some.injEq, D.bl.injEq, D.int.injEq, D.str.injEq, D.tup.injEq, D.lst.injEq, List.cons.injEq, and_true, true_and, List.set_cons_zero, List.set_cons_succ, List.length_cons, List.length_nil, List.filterMap_cons, List.filterMap_nil, List.getElem?_cons_zero, List.getElem?_cons_succ, Option.bind_some, ↓reduceIte, if_true, if_false, Bool.false_eq_true, Bool.true_eq_false, decide_eq_true_eq, beq_self_eq_true, Bool.not_true, Bool.not_false, Bool.not_eq_true', decide_eq_false_iff_not, exists_eq_left', exists_eq_left, exists_eq, ↓x_dnT, ↓x_dnF, ↓gAsgL, ↓gMMDef, ↓gDSet, ↓gSItems, ↓x_nilL, ↓x_nilE, List.isEmpty_nil, List.isEmpty_cons, Bool.true_xor, Bool.false_xor, ↓gOrT, ↓gAndT, ↓gTryAs, ↓gTryO, ↓gRaise, ↓gCallX, ↓gMethX, ↓gMakeX, ↓gFldX, ↓x_inXs, Bool.false_xor, Bool.true_xor, ↓gOrS, ↓gSortK])
    refine ⟨joinL P 0, 0, rfl, hSj, ?_⟩
    rw [join_twice]
    refine eqlo_same ?_
    refine ⟨_, rfl, ?_⟩
    rw [if_neg (by decide)]
    refine ⟨joinL P 0, (f, f + z), rfl, hSj, ?_⟩
    refine ⟨P, (f, f + z), rfl, hSml, ?_⟩
    rw [gaps_join]
    refine eqlo_same ?_
    refine ⟨_, rfl, ?_⟩
    rw [if_neg (by decide)]
    have hPl := hP.1
    have hJl : (joinL P 0).length ≤ 61 := Nat.le_trans (joinL_len P 0) hPl
    refine lc_on (fun p : Pr => some (meetD a.C_Stretch p (f, f + z))) trivial (by omega) (fun x hx acc R hac hR => ⟨_, x_bnm, ?_⟩) ?_
    · simp only [wipeD, ↓x_eqSS, ↓x_neSS, ↓gKGet, ↓x_kget, ↓x_ixE, at_last, ↓x_appE, ↓x_tyE, ↓x_itE, ↓x_lenE, ↓x_nePr, ↓x_eqPr, ↓x_neE, ↓x_lenr, ↓x_lenrI, ↓gRev, ↓x_par3, ↓x_par33, ↓x_fld, ↓x_fset, ↓x_mkF, ↓x_mk, ↓x_meth, ↓x_fldO, ↓x_fsetE, ↓x_fldE, ↓x_methO, ↓x_isiCO, ↓x_isiCN, ↓x_isiCT, ↓x_isiCLi, ↓x_isiCS, ↓x_isiCI, ↓x_own, ↓x_eqT2, ↓x_neT2, ↓x_neL4, ↓x_eqLN, ↓x_neNil, ↓x_gset, ↓x_lc, ↓x_for, ↓x_it, ↓x_rn1, ↓x_rn2, ↓x_enu, ↓x_zip, ↓x_itS, ↓x_itL, ↓x_itK, ↓x_itT, ↓x_rn1I, ↓x_rn2I, ↓x_enuL, ↓x_enuK, ↓x_zipL, ↓x_ixS0, ↓x_ixL, ↓x_ixT, ↓x_ixK, x_at0, x_at1, x_at2, x_at3, x_at4, ↓x_set00, ↓x_set01, ↓x_set02, ↓x_aug1, ↓x_aug2, ↓x_aug3, ↓x_aug4, ↓x_aug5, ↓x_aug6, ↓x_aug7, ↓x_aug8, ↓x_aug9, ↓x_aug10, ↓x_aug11, ↓x_aug12, ↓x_aug13, ↓x_aug14, ↓x_aug15, ↓x_aug16, ↓x_aug17, ↓x_aug18, ↓x_aug19, ↓x_aug20, ↓x_aug21, ↓x_aug22, ↓x_aug23, Int.reduceToNat, Int.reducePow, ↓gSeq, ↓gIfS, ↓gSet, ↓gAsg, ↓x_par, ↓x_par2, ↓gRet, ↓gRetN, ↓gNext, ↓gDrop, ↓gBreak, ↓gCont, ↓gDead, ↓gCB, ↓gB2, ↓gU, ↓gC, ↓Dl.gCons, ↓Dl.gNil, ↓Dl.gTup, ↓Dl.gLst, ↓gTest, ↓gOrB, ↓gAndB, ↓gNotB, ↓gAndV, ↓gOrV, ↓gNotV, ↓gIf, ↓gIx, ↓gSl, ↓gPart, ↓gNoP, ↓gMt, ↓gCall, ↓gArgs, ↓gIsN, ↓gNotN, ↓gChain, ↓x_fmtS, ↓x_afS, ↓x_afI, ↓x_js0, ↓x_jsc, ↓gJoined, ↓gYes, ↓x_bnm, ↓x_btp, ↓x_bn, ↓x_bc, ↓x_nnN, ↓x_nnI, ↓x_nnS, ↓x_nnB, ↓x_nnT, ↓x_nnL, ↓x_nnO, ↓x_nnl, ↓x_tyS, ↓x_tyL, ↓x_i2, ↓aSub, ↓aFdiv, ↓aMod, ↓aPow, ↓aShr, ↓aLt, ↓aLe, ↓aGt, ↓aGe, ↓x_addI, ↓x_addS, ↓x_mulI, ↓x_iaddS, ↓x_iaddI, ↓x_neg, ↓x_eqI, ↓x_neI, ↓x_eqS, ↓x_neS, ↓x_eqB, ↓x_neB, ↓x_eqNI, ↓x_neNI, ↓x_lenS, ↓x_lenL_l, ↓x_lenL_k, ↓x_lenL_t, ↓x_str, ↓x_intI, ↓x_intB, ↓x_divmod, ↓x_max2, ↓x_min2, ↓x_ixS, ↓x_slS, ↓x_slT, ↓x_slL_l, ↓x_slL_k, ↓x_inS, ↓x_newT, ↓x_newF, ↓x_si, ↓x_s1, ↓x_s0, ↓x_rpart, ↓x_part, ↓x_a1, ↓x_a2, ↓x_isiStr, ↓x_isiInt, ↓x_isiIntB, ↓x_isiIntS, ↓x_isiBB, ↓x_isiBI, ↓x_isiStrI, ↓x_isiNonI, ↓x_isiNonS, ↓x_isiT, ↓x_isiL, ↓x_var0, ↓x_varS, ↓x_ex, ↓x_aug0, gat, pick, Option.some.injEq, D.bl.injEq, D.int.injEq, D.str.injEq, D.tup.injEq, D.lst.injEq, List.cons.injEq, and_true, true_and, List.set_cons_zero, List.set_cons_succ, List.length_cons, List.length_nil, List.filterMap_cons, List.filterMap_nil, List.getElem?_cons_zero, List.getElem?_cons_succ, Option.bind_some, ↓reduceIte, if_true, if_false, Bool.false_eq_true, Bool.true_eq_false, decide_eq_true_eq, beq_self_eq_true, Bool.not_true, Bool.not_false, Bool.not_eq_true', decide_eq_false_iff_not, exists_eq_left', exists_eq_left, exists_eq, ↓x_dnT, ↓x_dnF, ↓gAsgL, ↓gMMDef, ↓gDSet, ↓gSItems, ↓x_nilL, ↓x_nilE, List.isEmpty_nil, List.isEmpty_cons, Bool.true_xor, Bool.false_xor, ↓gOrT, ↓gAndT, ↓gTryAs, ↓gTryO, ↓gRaise, ↓gCallX, ↓gMethX, ↓gMakeX, ↓gFldX, ↓x_inXs, Bool.false_xor, Bool.true_xor, ↓gOrS, ↓gSortK]
      exact ⟨x, (f, f + z), rfl, hac, hR⟩
    rw [x_newT, fm_some]
    (try simp only [↓x_eqSS, ↓x_neSS, ↓gKGet, ↓x_kget, ↓x_ixE, at_last, ↓x_appE, ↓x_tyE, ↓x_itE, ↓x_lenE, ↓x_nePr, ↓x_eqPr, ↓x_neE, ↓x_lenr, ↓x_lenrI, ↓gRev, ↓x_par3, ↓x_par33, ↓x_fld, ↓x_fset, ↓x_mkF, ↓x_mk, ↓x_meth, ↓x_fldO, ↓x_fsetE, ↓x_fldE, ↓x_methO, ↓x_isiCO, ↓x_isiCN, ↓x_isiCT, ↓x_isiCLi, ↓x_isiCS, ↓x_isiCI, ↓x_own, ↓x_eqT2, ↓x_neT2, ↓x_neL4, ↓x_eqLN, ↓x_neNil, ↓x_gset, ↓x_lc, ↓x_for, ↓x_it, ↓x_rn1, ↓x_rn2, ↓x_enu, ↓x_zip, ↓x_itS, ↓x_itL, ↓x_itK, ↓x_itT, ↓x_rn1I, ↓x_rn2I, ↓x_enuL, ↓x_enuK, ↓x_zipL, ↓x_ixS0, ↓x_ixL, ↓x_ixT, ↓x_ixK, x_at0, x_at1, x_at2, x_at3, x_at4, ↓x_set00, ↓x_set01, ↓x_set02, ↓x_aug1, ↓x_aug2, ↓x_aug3, ↓x_aug4, ↓x_aug5, ↓x_aug6, ↓x_aug7, ↓x_aug8, ↓x_aug9, ↓x_aug10, ↓x_aug11, ↓x_aug12, ↓x_aug13, ↓x_aug14, ↓x_aug15, ↓x_aug16, ↓x_aug17, ↓x_aug18, ↓x_aug19, ↓x_aug20, ↓x_aug21, ↓x_aug22, ↓x_aug23, Int.reduceToNat, Int.reducePow, ↓gSeq, ↓gIfS, ↓gSet, ↓gAsg, ↓x_par, ↓x_par2, ↓gRet, ↓gRetN, ↓gNext, ↓gDrop, ↓gBreak, ↓gCont, ↓gDead, ↓gCB, ↓gB2, ↓gU, ↓gC, ↓Dl.gCons, ↓Dl.gNil, ↓Dl.gTup, ↓Dl.gLst, ↓gTest, ↓gOrB, ↓gAndB, ↓gNotB, ↓gAndV, ↓gOrV, ↓gNotV, ↓gIf, ↓gIx, ↓gSl, ↓gPart, ↓gNoP, ↓gMt, ↓gCall, ↓gArgs, ↓gIsN, ↓gNotN, ↓gChain, ↓x_fmtS, ↓x_afS, ↓x_afI, ↓x_js0, ↓x_jsc, ↓gJoined, ↓gYes, ↓x_bnm, ↓x_btp, ↓x_bn, ↓x_bc, ↓x_nnN, ↓x_nnI, ↓x_nnS, ↓x_nnB, ↓x_nnT, ↓x_nnL, ↓x_nnO, ↓x_nnl, ↓x_tyS, ↓x_tyL, ↓x_i2, ↓aSub, ↓aFdiv, ↓aMod, ↓aPow, ↓aShr, ↓aLt, ↓aLe, ↓aGt, ↓aGe, ↓x_addI, ↓x_addS, ↓x_mulI, ↓x_iaddS, ↓x_iaddI, ↓x_neg, ↓x_eqI, ↓x_neI, ↓x_eqS, ↓x_neS, ↓x_eqB, ↓x_neB, ↓x_eqNI, ↓x_neNI, ↓x_lenS, ↓x_lenL_l, ↓x_lenL_k, ↓x_lenL_t, ↓x_str, ↓x_intI, ↓x_intB, ↓x_divmod, ↓x_max2, ↓x_min2, ↓x_ixS, ↓x_slS, ↓x_slT, ↓x_slL_l, ↓x_slL_k, ↓x_inS, ↓x_newT, ↓x_newF, ↓x_si, ↓x_s1, ↓x_s0, ↓x_rpart, ↓x_part, ↓x_a1, ↓x_a2, ↓x_isiStr, ↓x_isiInt, ↓x_isiIntB, ↓x_isiIntS, ↓x_isiBB, ↓x_isiBI, ↓x_isiStrI, ↓x_isiNonI, ↓x_isiNonS, ↓x_isiT, ↓x_isiL, ↓x_var0, ↓x_varS, ↓x_ex, ↓x_aug0, gat, pick, Option.some.injEq, D.bl.injEq, D.int.injEq, D.str.injEq, D.tup.injEq, D.lst.injEq, List.cons.injEq, and_true, true_and, List.set_cons_zero, List.set_cons_succ, List.length_cons, List.length_nil, List.filterMap_cons, List.filterMap_nil, List.getElem?_cons_zero, List.getElem?_cons_succ, Option.bind_some, ↓reduceIte, if_true, if_false, Bool.false_eq_true, Bool.true_eq_false, decide_eq_true_eq, beq_self_eq_true, Bool.not_true, Bool.not_false, Bool.not_eq_true', decide_eq_false_iff_not, exists_eq_left', exists_eq_left, exists_eq, ↓x_dnT, ↓x_dnF, ↓gAsgL, ↓gMMDef, ↓gDSet, ↓gSItems, ↓x_nilL, ↓x_nilE, List.isEmpty_nil, List.isEmpty_cons, Bool.true_xor, Bool.false_xor, ↓gOrT, ↓gAndT, ↓gTryAs, ↓gTryO, ↓gRaise, ↓gCallX, ↓gMethX, ↓gMakeX, ↓gFldX, ↓x_inXs, Bool.false_xor, Bool.true_xor, ↓gOrS, ↓gSortK])
    refine lc_on (F := fun p : Pr => meetD a.C_Stretch p (f, f + z)) (fun p : Pr => if (meetP p (f, f + z)).1 < (meetP p (f, f + z)).2 then some (sD a.C_Stretch (meetP p (f, f + z))) else none) trivial (by omega) (fun x hx acc R hac hR => ⟨_, x_bnm, ?_⟩) ?_
    · simp only [wipeD, ↓x_eqSS, ↓x_neSS, ↓gKGet, ↓x_kget, ↓x_ixE, at_last, ↓x_appE, ↓x_tyE, ↓x_itE, ↓x_lenE, ↓x_nePr, ↓x_eqPr, ↓x_neE, ↓x_lenr, ↓x_lenrI, ↓gRev, ↓x_par3, ↓x_par33, ↓x_fld, ↓x_fset, ↓x_mkF, ↓x_mk, ↓x_meth, ↓x_fldO, ↓x_fsetE, ↓x_fldE, ↓x_methO, ↓x_isiCO, ↓x_isiCN, ↓x_isiCT, ↓x_isiCLi, ↓x_isiCS, ↓x_isiCI, ↓x_own, ↓x_eqT2, ↓x_neT2, ↓x_neL4, ↓x_eqLN, ↓x_neNil, ↓x_gset, ↓x_lc, ↓x_for, ↓x_it, ↓x_rn1, ↓x_rn2, ↓x_enu, ↓x_zip, ↓x_itS, ↓x_itL, ↓x_itK, ↓x_itT, ↓x_rn1I, ↓x_rn2I, ↓x_enuL, ↓x_enuK, ↓x_zipL, ↓x_ixS0, ↓x_ixL, ↓x_ixT, ↓x_ixK, x_at0, x_at1, x_at2, x_at3, x_at4, ↓x_set00, ↓x_set01, ↓x_set02, ↓x_aug1, ↓x_aug2, ↓x_aug3, ↓x_aug4, ↓x_aug5, ↓x_aug6, ↓x_aug7, ↓x_aug8, ↓x_aug9, ↓x_aug10, ↓x_aug11, ↓x_aug12, ↓x_aug13, ↓x_aug14, ↓x_aug15, ↓x_aug16, ↓x_aug17, ↓x_aug18, ↓x_aug19, ↓x_aug20, ↓x_aug21, ↓x_aug22, ↓x_aug23, Int.reduceToNat, Int.reducePow, ↓gSeq, ↓gIfS, ↓gSet, ↓gAsg, ↓x_par, ↓x_par2, ↓gRet, ↓gRetN, ↓gNext, ↓gDrop, ↓gBreak, ↓gCont, ↓gDead, ↓gCB, ↓gB2, ↓gU, ↓gC, ↓Dl.gCons, ↓Dl.gNil, ↓Dl.gTup, ↓Dl.gLst, ↓gTest, ↓gOrB, ↓gAndB, ↓gNotB, ↓gAndV, ↓gOrV, ↓gNotV, ↓gIf, ↓gIx, ↓gSl, ↓gPart, ↓gNoP, ↓gMt, ↓gCall, ↓gArgs, ↓gIsN, ↓gNotN, ↓gChain, ↓x_fmtS, ↓x_afS, ↓x_afI, ↓x_js0, ↓x_jsc, ↓gJoined, ↓gYes, ↓x_bnm, ↓x_btp, ↓x_bn, ↓x_bc, ↓x_nnN, ↓x_nnI, ↓x_nnS, ↓x_nnB, ↓x_nnT, ↓x_nnL, ↓x_nnO, ↓x_nnl, ↓x_tyS, ↓x_tyL, ↓x_i2, ↓aSub, ↓aFdiv, ↓aMod, ↓aPow, ↓aShr, ↓aLt, ↓aLe, ↓aGt, ↓aGe, ↓x_addI, ↓x_addS, ↓x_mulI, ↓x_iaddS, ↓x_iaddI, ↓x_neg, ↓x_eqI, ↓x_neI, ↓x_eqS, ↓x_neS, ↓x_eqB, ↓x_neB, ↓x_eqNI, ↓x_neNI, ↓x_lenS, ↓x_lenL_l, ↓x_lenL_k, ↓x_lenL_t, ↓x_str, ↓x_intI, ↓x_intB, ↓x_divmod, ↓x_max2, ↓x_min2, ↓x_ixS, ↓x_slS, ↓x_slT, ↓x_slL_l, ↓x_slL_k, ↓x_inS, ↓x_newT, ↓x_newF, ↓x_si, ↓x_s1, ↓x_s0, ↓x_rpart, ↓x_part, ↓x_a1, ↓x_a2, ↓x_isiStr, ↓x_isiInt, ↓x_isiIntB, ↓x_isiIntS, ↓x_isiBB, ↓x_isiBI, ↓x_isiStrI, ↓x_isiNonI, ↓x_isiNonS, ↓x_isiT, ↓x_isiL, ↓x_var0, ↓x_varS, ↓x_ex, ↓x_aug0, gat, pick, Option.some.injEq, D.bl.injEq, D.int.injEq, D.str.injEq, D.tup.injEq, D.lst.injEq, List.cons.injEq, and_true, true_and, List.set_cons_zero, List.set_cons_succ, List.length_cons, List.length_nil, List.filterMap_cons, List.filterMap_nil, List.getElem?_cons_zero, List.getElem?_cons_succ, Option.bind_some, ↓reduceIte, if_true, if_false, Bool.false_eq_true, Bool.true_eq_false, decide_eq_true_eq, beq_self_eq_true, Bool.not_true, Bool.not_false, Bool.not_eq_true', decide_eq_false_iff_not, exists_eq_left', exists_eq_left, exists_eq, ↓x_dnT, ↓x_dnF, ↓gAsgL, ↓gMMDef, ↓gDSet, ↓gSItems, ↓x_nilL, ↓x_nilE, List.isEmpty_nil, List.isEmpty_cons, Bool.true_xor, Bool.false_xor, ↓gOrT, ↓gAndT, ↓gTryAs, ↓gTryO, ↓gRaise, ↓gCallX, ↓gMethX, ↓gMakeX, ↓gFldX, ↓x_inXs, Bool.false_xor, Bool.true_xor, ↓gOrS, ↓gSortK]
      rw [meet_isN]
      unfold meetD
      by_cases c : (meetP x (f, f + z)).1 < (meetP x (f, f + z)).2
      · rw [if_pos c] at hR ⊢
        rw [if_pos (by simp [c])]
        exact ⟨hac, hR⟩
      · rw [if_neg c] at hR ⊢
        rw [if_neg (by simp [c])]
        simpa using hR
    rw [x_newT, fm_if, kept_eq]
    have hw : (f, f + z).1 ≤ ((f, f + z) : Pr).2 := by dsimp only; omega
    have hKs : Sml (keptL (joinL P 0) (f, f + z)) := kept_sml hSj
    have hKl := kept_len (joinL P 0) (f, f + z)
    have hFs : Sml (gapsL P (f, f + z)) := gaps_sml hSml (by omega) ⟨hf1, by dsimp only; omega⟩
    have hFl := gaps_len P (f, f + z)
    have hKo := (kept_ok (w := (f, f + z)) (join_ok P).1).1
    have hFo := (gaps_ok P (f, f + z)).1
    have hRow := rows_ok (rows := (keptL (joinL P 0) (f, f + z) ++ gapsL P (f, f + z)).mergeSort fun x y => decide (x.1 ≤ y.1)) hw (List.mergeSort_perm _ _) ((List.pairwise_mergeSort (fun a b c h1 h2 => by simp only [decide_eq_true_eq] at *; omega) (fun a b => by simp only [Bool.or_eq_true, decide_eq_true_eq]; omega) _).imp fun {a b} h => by simpa using h)
    have hMeet := fun p q hp hq => kept_free (P := P) (w := (f, f + z)) (p := p) (q := q) hp hq
    refine ⟨P, (f, f + z), rfl, hSml, ?_⟩
    have hRp := List.mergeSort_perm (keptL (joinL P 0) (f, f + z) ++ gapsL P (f, f + z)) (fun x y => decide (x.1 ≤ y.1))
    generalize keptL (joinL P 0) (f, f + z) = Ks at *
    generalize gapsL P (f, f + z) = Fs at *
    refine x_addLL.mpr ⟨by rw [List.length_map, List.length_map]; omega, ?_⟩
    rw [x_newT, ← List.map_append]
    refine ⟨_, rfl, rfl, x_keysM (k := fun p : Pr => .int p.1) (fun x hx q hq => ?_) ?_⟩
    · simp only [T.f_Stretch_first, Mt.fg_first, ↓x_eqSS, ↓x_neSS, ↓gKGet, ↓x_kget, ↓x_ixE, at_last, ↓x_appE, ↓x_tyE, ↓x_itE, ↓x_lenE, ↓x_nePr, ↓x_eqPr, ↓x_neE, ↓x_lenr, ↓x_lenrI, ↓gRev, ↓x_par3, ↓x_par33, ↓x_fld, ↓x_fset, ↓x_mkF, ↓x_mk, ↓x_meth, ↓x_fldO, ↓x_fsetE, ↓x_fldE, ↓x_methO, ↓x_isiCO, ↓x_isiCN, ↓x_isiCT, ↓x_isiCLi, ↓x_isiCS, ↓x_isiCI, ↓x_own, ↓x_eqT2, ↓x_neT2, ↓x_neL4, ↓x_eqLN, ↓x_neNil, ↓x_gset, ↓x_lc, ↓x_for, ↓x_it, ↓x_rn1, ↓x_rn2, ↓x_enu, ↓x_zip, ↓x_itS, ↓x_itL, ↓x_itK, ↓x_itT, ↓x_rn1I, ↓x_rn2I, ↓x_enuL, ↓x_enuK, ↓x_zipL, ↓x_ixS0, ↓x_ixL, ↓x_ixT, ↓x_ixK, x_at0, x_at1, x_at2, x_at3, x_at4, ↓x_set00, ↓x_set01, ↓x_set02, ↓x_aug1, ↓x_aug2, ↓x_aug3, ↓x_aug4, ↓x_aug5, ↓x_aug6, ↓x_aug7, ↓x_aug8, ↓x_aug9, ↓x_aug10, ↓x_aug11, ↓x_aug12, ↓x_aug13, ↓x_aug14, ↓x_aug15, ↓x_aug16, ↓x_aug17, ↓x_aug18, ↓x_aug19, ↓x_aug20, ↓x_aug21, ↓x_aug22, ↓x_aug23, Int.reduceToNat, Int.reducePow, ↓gSeq, ↓gIfS, ↓gSet, ↓gAsg, ↓x_par, ↓x_par2, ↓gRet, ↓gRetN, ↓gNext, ↓gDrop, ↓gBreak, ↓gCont, ↓gDead, ↓gCB, ↓gB2, ↓gU, ↓gC, ↓Dl.gCons, ↓Dl.gNil, ↓Dl.gTup, ↓Dl.gLst, ↓gTest, ↓gOrB, ↓gAndB, ↓gNotB, ↓gAndV, ↓gOrV, ↓gNotV, ↓gIf, ↓gIx, ↓gSl, ↓gPart, ↓gNoP, ↓gMt, ↓gCall, ↓gArgs, ↓gIsN, ↓gNotN, ↓gChain, ↓x_fmtS, ↓x_afS, ↓x_afI, ↓x_js0, ↓x_jsc, ↓gJoined, ↓gYes, ↓x_bnm, ↓x_btp, ↓x_bn, ↓x_bc, ↓x_nnN, ↓x_nnI, ↓x_nnS, ↓x_nnB, ↓x_nnT, ↓x_nnL, ↓x_nnO, ↓x_nnl, ↓x_tyS, ↓x_tyL, ↓x_i2, ↓aSub, ↓aFdiv, ↓aMod, ↓aPow, ↓aShr, ↓aLt, ↓aLe, ↓aGt, ↓aGe, ↓x_addI, ↓x_addS, ↓x_mulI, ↓x_iaddS, ↓x_iaddI, ↓x_neg, ↓x_eqI, ↓x_neI, ↓x_eqS, ↓x_neS, ↓x_eqB, ↓x_neB, ↓x_eqNI, ↓x_neNI, ↓x_lenS, ↓x_lenL_l, ↓x_lenL_k, ↓x_lenL_t, ↓x_str, ↓x_intI, ↓x_intB, ↓x_divmod, ↓x_max2, ↓x_min2, ↓x_ixS, ↓x_slS, ↓x_slT, ↓x_slL_l, ↓x_slL_k, ↓x_inS, ↓x_newT, ↓x_newF, ↓x_si, ↓x_s1, ↓x_s0, ↓x_rpart, ↓x_part, ↓x_a1, ↓x_a2, ↓x_isiStr, ↓x_isiInt, ↓x_isiIntB, ↓x_isiIntS, ↓x_isiBB, ↓x_isiBI, ↓x_isiStrI, ↓x_isiNonI, ↓x_isiNonS, ↓x_isiT, ↓x_isiL, ↓x_var0, ↓x_varS, ↓x_ex, ↓x_aug0, gat, pick, Option.some.injEq, D.bl.injEq, D.int.injEq, D.str.injEq, D.tup.injEq, D.lst.injEq, List.cons.injEq, and_true, true_and, List.set_cons_zero, List.set_cons_succ, List.length_cons, List.length_nil, List.filterMap_cons, List.filterMap_nil, List.getElem?_cons_zero, List.getElem?_cons_succ, Option.bind_some, ↓reduceIte, if_true, if_false, Bool.false_eq_true, Bool.true_eq_false, decide_eq_true_eq, beq_self_eq_true, Bool.not_true, Bool.not_false, Bool.not_eq_true', decide_eq_false_iff_not, exists_eq_left', exists_eq_left, exists_eq, ↓x_dnT, ↓x_dnF, ↓gAsgL, ↓gMMDef, ↓gDSet, ↓gSItems, ↓x_nilL, ↓x_nilE, List.isEmpty_nil, List.isEmpty_cons, Bool.true_xor, Bool.false_xor, ↓gOrT, ↓gAndT, ↓gTryAs, ↓gTryO, ↓gRaise, ↓gCallX, ↓gMethX, ↓gMakeX, ↓gFldX, ↓x_inXs, Bool.false_xor, Bool.true_xor, ↓gOrS, ↓gSortK]
      exact hq
    refine x_byI (g := Prod.fst) rfl ?_
    rw [x_newT]
    generalize ((Ks ++ Fs).mergeSort fun x y : Pr => decide (x.1 ≤ y.1)) = rows at hRow hRp ⊢
    refine ⟨rows, (f, f + z), rfl, by have := hRp.length_eq; rw [List.length_append] at this; omega, fun p hp => ?_, ?_⟩
    · rcases List.mem_append.mp (hRp.mem_iff.mp hp) with hp | hp
      · have := hKs.2 p hp; omega
      · have := hFs.2 p hp; omega
    rw [hRow.1]
    refine ⟨_, rfl, ?_⟩
    rw [if_neg (by decide)]
    refine ⟨Ks, rfl, hKs, Fs, rfl, hFs, ?_⟩
    rw [join_sep hKo, join_sep hFo]
    (try simp only [↓x_eqSS, ↓x_neSS, ↓gKGet, ↓x_kget, ↓x_ixE, at_last, ↓x_appE, ↓x_tyE, ↓x_itE, ↓x_lenE, ↓x_nePr, ↓x_eqPr, ↓x_neE, ↓x_lenr, ↓x_lenrI, ↓gRev, ↓x_par3, ↓x_par33, ↓x_fld, ↓x_fset, ↓x_mkF, ↓x_mk, ↓x_meth, ↓x_fldO, ↓x_fsetE, ↓x_fldE, ↓x_methO, ↓x_isiCO, ↓x_isiCN, ↓x_isiCT, ↓x_isiCLi, ↓x_isiCS, ↓x_isiCI, ↓x_own, ↓x_eqT2, ↓x_neT2, ↓x_neL4, ↓x_eqLN, ↓x_neNil, ↓x_gset, ↓x_lc, ↓x_for, ↓x_it, ↓x_rn1, ↓x_rn2, ↓x_enu, ↓x_zip, ↓x_itS, ↓x_itL, ↓x_itK, ↓x_itT, ↓x_rn1I, ↓x_rn2I, ↓x_enuL, ↓x_enuK, ↓x_zipL, ↓x_ixS0, ↓x_ixL, ↓x_ixT, ↓x_ixK, x_at0, x_at1, x_at2, x_at3, x_at4, ↓x_set00, ↓x_set01, ↓x_set02, ↓x_aug1, ↓x_aug2, ↓x_aug3, ↓x_aug4, ↓x_aug5, ↓x_aug6, ↓x_aug7, ↓x_aug8, ↓x_aug9, ↓x_aug10, ↓x_aug11, ↓x_aug12, ↓x_aug13, ↓x_aug14, ↓x_aug15, ↓x_aug16, ↓x_aug17, ↓x_aug18, ↓x_aug19, ↓x_aug20, ↓x_aug21, ↓x_aug22, ↓x_aug23, Int.reduceToNat, Int.reducePow, ↓gSeq, ↓gIfS, ↓gSet, ↓gAsg, ↓x_par, ↓x_par2, ↓gRet, ↓gRetN, ↓gNext, ↓gDrop, ↓gBreak, ↓gCont, ↓gDead, ↓gCB, ↓gB2, ↓gU, ↓gC, ↓Dl.gCons, ↓Dl.gNil, ↓Dl.gTup, ↓Dl.gLst, ↓gTest, ↓gOrB, ↓gAndB, ↓gNotB, ↓gAndV, ↓gOrV, ↓gNotV, ↓gIf, ↓gIx, ↓gSl, ↓gPart, ↓gNoP, ↓gMt, ↓gCall, ↓gArgs, ↓gIsN, ↓gNotN, ↓gChain, ↓x_fmtS, ↓x_afS, ↓x_afI, ↓x_js0, ↓x_jsc, ↓gJoined, ↓gYes, ↓x_bnm, ↓x_btp, ↓x_bn, ↓x_bc, ↓x_nnN, ↓x_nnI, ↓x_nnS, ↓x_nnB, ↓x_nnT, ↓x_nnL, ↓x_nnO, ↓x_nnl, ↓x_tyS, ↓x_tyL, ↓x_i2, ↓aSub, ↓aFdiv, ↓aMod, ↓aPow, ↓aShr, ↓aLt, ↓aLe, ↓aGt, ↓aGe, ↓x_addI, ↓x_addS, ↓x_mulI, ↓x_iaddS, ↓x_iaddI, ↓x_neg, ↓x_eqI, ↓x_neI, ↓x_eqS, ↓x_neS, ↓x_eqB, ↓x_neB, ↓x_eqNI, ↓x_neNI, ↓x_lenS, ↓x_lenL_l, ↓x_lenL_k, ↓x_lenL_t, ↓x_str, ↓x_intI, ↓x_intB, ↓x_divmod, ↓x_max2, ↓x_min2, ↓x_ixS, ↓x_slS, ↓x_slT, ↓x_slL_l, ↓x_slL_k, ↓x_inS, ↓x_newT, ↓x_newF, ↓x_si, ↓x_s1, ↓x_s0, ↓x_rpart, ↓x_part, ↓x_a1, ↓x_a2, ↓x_isiStr, ↓x_isiInt, ↓x_isiIntB, ↓x_isiIntS, ↓x_isiBB, ↓x_isiBI, ↓x_isiStrI, ↓x_isiNonI, ↓x_isiNonS, ↓x_isiT, ↓x_isiL, ↓x_var0, ↓x_varS, ↓x_ex, ↓x_aug0, gat, pick, Option.some.injEq, D.bl.injEq, D.int.injEq, D.str.injEq, D.tup.injEq, D.lst.injEq, List.cons.injEq, and_true, true_and, List.set_cons_zero, List.set_cons_succ, List.length_cons, List.length_nil, List.filterMap_cons, List.filterMap_nil, List.getElem?_cons_zero, List.getElem?_cons_succ, Option.bind_some, ↓reduceIte, if_true, if_false, Bool.false_eq_true, Bool.true_eq_false, decide_eq_true_eq, beq_self_eq_true, Bool.not_true, Bool.not_false, Bool.not_eq_true', decide_eq_false_iff_not, exists_eq_left', exists_eq_left, exists_eq, ↓x_dnT, ↓x_dnF, ↓gAsgL, ↓gMMDef, ↓gDSet, ↓gSItems, ↓x_nilL, ↓x_nilE, List.isEmpty_nil, List.isEmpty_cons, Bool.true_xor, Bool.false_xor, ↓gOrT, ↓gAndT, ↓gTryAs, ↓gTryO, ↓gRaise, ↓gCallX, ↓gMethX, ↓gMakeX, ↓gFldX, ↓x_inXs, Bool.false_xor, Bool.true_xor, ↓gOrS, ↓gSortK])
    refine ⟨⟨_, _, rfl⟩, (f, f + z), rfl, by dsimp only; omega, ?_⟩
    refine ⟨_, rfl, by omega, by dsimp only; omega, ?_⟩
    have hTot : total Ks + total Fs = max 0 ((f, f + z).2 - ((f, f + z) : Pr).1) := by rw [hRow.2]; dsimp only; omega
    rw [hTot]
    (try simp only [↓x_eqSS, ↓x_neSS, ↓gKGet, ↓x_kget, ↓x_ixE, at_last, ↓x_appE, ↓x_tyE, ↓x_itE, ↓x_lenE, ↓x_nePr, ↓x_eqPr, ↓x_neE, ↓x_lenr, ↓x_lenrI, ↓gRev, ↓x_par3, ↓x_par33, ↓x_fld, ↓x_fset, ↓x_mkF, ↓x_mk, ↓x_meth, ↓x_fldO, ↓x_fsetE, ↓x_fldE, ↓x_methO, ↓x_isiCO, ↓x_isiCN, ↓x_isiCT, ↓x_isiCLi, ↓x_isiCS, ↓x_isiCI, ↓x_own, ↓x_eqT2, ↓x_neT2, ↓x_neL4, ↓x_eqLN, ↓x_neNil, ↓x_gset, ↓x_lc, ↓x_for, ↓x_it, ↓x_rn1, ↓x_rn2, ↓x_enu, ↓x_zip, ↓x_itS, ↓x_itL, ↓x_itK, ↓x_itT, ↓x_rn1I, ↓x_rn2I, ↓x_enuL, ↓x_enuK, ↓x_zipL, ↓x_ixS0, ↓x_ixL, ↓x_ixT, ↓x_ixK, x_at0, x_at1, x_at2, x_at3, x_at4, ↓x_set00, ↓x_set01, ↓x_set02, ↓x_aug1, ↓x_aug2, ↓x_aug3, ↓x_aug4, ↓x_aug5, ↓x_aug6, ↓x_aug7, ↓x_aug8, ↓x_aug9, ↓x_aug10, ↓x_aug11, ↓x_aug12, ↓x_aug13, ↓x_aug14, ↓x_aug15, ↓x_aug16, ↓x_aug17, ↓x_aug18, ↓x_aug19, ↓x_aug20, ↓x_aug21, ↓x_aug22, ↓x_aug23, Int.reduceToNat, Int.reducePow, ↓gSeq, ↓gIfS, ↓gSet, ↓gAsg, ↓x_par, ↓x_par2, ↓gRet, ↓gRetN, ↓gNext, ↓gDrop, ↓gBreak, ↓gCont, ↓gDead, ↓gCB, ↓gB2, ↓gU, ↓gC, ↓Dl.gCons, ↓Dl.gNil, ↓Dl.gTup, ↓Dl.gLst, ↓gTest, ↓gOrB, ↓gAndB, ↓gNotB, ↓gAndV, ↓gOrV, ↓gNotV, ↓gIf, ↓gIx, ↓gSl, ↓gPart, ↓gNoP, ↓gMt, ↓gCall, ↓gArgs, ↓gIsN, ↓gNotN, ↓gChain, ↓x_fmtS, ↓x_afS, ↓x_afI, ↓x_js0, ↓x_jsc, ↓gJoined, ↓gYes, ↓x_bnm, ↓x_btp, ↓x_bn, ↓x_bc, ↓x_nnN, ↓x_nnI, ↓x_nnS, ↓x_nnB, ↓x_nnT, ↓x_nnL, ↓x_nnO, ↓x_nnl, ↓x_tyS, ↓x_tyL, ↓x_i2, ↓aSub, ↓aFdiv, ↓aMod, ↓aPow, ↓aShr, ↓aLt, ↓aLe, ↓aGt, ↓aGe, ↓x_addI, ↓x_addS, ↓x_mulI, ↓x_iaddS, ↓x_iaddI, ↓x_neg, ↓x_eqI, ↓x_neI, ↓x_eqS, ↓x_neS, ↓x_eqB, ↓x_neB, ↓x_eqNI, ↓x_neNI, ↓x_lenS, ↓x_lenL_l, ↓x_lenL_k, ↓x_lenL_t, ↓x_str, ↓x_intI, ↓x_intB, ↓x_divmod, ↓x_max2, ↓x_min2, ↓x_ixS, ↓x_slS, ↓x_slT, ↓x_slL_l, ↓x_slL_k, ↓x_inS, ↓x_newT, ↓x_newF, ↓x_si, ↓x_s1, ↓x_s0, ↓x_rpart, ↓x_part, ↓x_a1, ↓x_a2, ↓x_isiStr, ↓x_isiInt, ↓x_isiIntB, ↓x_isiIntS, ↓x_isiBB, ↓x_isiBI, ↓x_isiStrI, ↓x_isiNonI, ↓x_isiNonS, ↓x_isiT, ↓x_isiL, ↓x_var0, ↓x_varS, ↓x_ex, ↓x_aug0, gat, pick, Option.some.injEq, D.bl.injEq, D.int.injEq, D.str.injEq, D.tup.injEq, D.lst.injEq, List.cons.injEq, and_true, true_and, List.set_cons_zero, List.set_cons_succ, List.length_cons, List.length_nil, List.filterMap_cons, List.filterMap_nil, List.getElem?_cons_zero, List.getElem?_cons_succ, Option.bind_some, ↓reduceIte, if_true, if_false, Bool.false_eq_true, Bool.true_eq_false, decide_eq_true_eq, beq_self_eq_true, Bool.not_true, Bool.not_false, Bool.not_eq_true', decide_eq_false_iff_not, exists_eq_left', exists_eq_left, exists_eq, ↓x_dnT, ↓x_dnF, ↓gAsgL, ↓gMMDef, ↓gDSet, ↓gSItems, ↓x_nilL, ↓x_nilE, List.isEmpty_nil, List.isEmpty_cons, Bool.true_xor, Bool.false_xor, ↓gOrT, ↓gAndT, ↓gTryAs, ↓gTryO, ↓gRaise, ↓gCallX, ↓gMethX, ↓gMakeX, ↓gFldX, ↓x_inXs, Bool.false_xor, Bool.true_xor, ↓gOrS, ↓gSortK])
    rw [if_neg (fun z => z rfl)]
    refine lc_on (fun _ : Pr => (none : Option D)) trivial (by omega) (fun x hx acc R hac hR => ⟨_, x_bnm, ?_⟩) ?_
    · simp only [wipeD, ↓x_eqSS, ↓x_neSS, ↓gKGet, ↓x_kget, ↓x_ixE, at_last, ↓x_appE, ↓x_tyE, ↓x_itE, ↓x_lenE, ↓x_nePr, ↓x_eqPr, ↓x_neE, ↓x_lenr, ↓x_lenrI, ↓gRev, ↓x_par3, ↓x_par33, ↓x_fld, ↓x_fset, ↓x_mkF, ↓x_mk, ↓x_meth, ↓x_fldO, ↓x_fsetE, ↓x_fldE, ↓x_methO, ↓x_isiCO, ↓x_isiCN, ↓x_isiCT, ↓x_isiCLi, ↓x_isiCS, ↓x_isiCI, ↓x_own, ↓x_eqT2, ↓x_neT2, ↓x_neL4, ↓x_eqLN, ↓x_neNil, ↓x_gset, ↓x_lc, ↓x_for, ↓x_it, ↓x_rn1, ↓x_rn2, ↓x_enu, ↓x_zip, ↓x_itS, ↓x_itL, ↓x_itK, ↓x_itT, ↓x_rn1I, ↓x_rn2I, ↓x_enuL, ↓x_enuK, ↓x_zipL, ↓x_ixS0, ↓x_ixL, ↓x_ixT, ↓x_ixK, x_at0, x_at1, x_at2, x_at3, x_at4, ↓x_set00, ↓x_set01, ↓x_set02, ↓x_aug1, ↓x_aug2, ↓x_aug3, ↓x_aug4, ↓x_aug5, ↓x_aug6, ↓x_aug7, ↓x_aug8, ↓x_aug9, ↓x_aug10, ↓x_aug11, ↓x_aug12, ↓x_aug13, ↓x_aug14, ↓x_aug15, ↓x_aug16, ↓x_aug17, ↓x_aug18, ↓x_aug19, ↓x_aug20, ↓x_aug21, ↓x_aug22, ↓x_aug23, Int.reduceToNat, Int.reducePow, ↓gSeq, ↓gIfS, ↓gSet, ↓gAsg, ↓x_par, ↓x_par2, ↓gRet, ↓gRetN, ↓gNext, ↓gDrop, ↓gBreak, ↓gCont, ↓gDead, ↓gCB, ↓gB2, ↓gU, ↓gC, ↓Dl.gCons, ↓Dl.gNil, ↓Dl.gTup, ↓Dl.gLst, ↓gTest, ↓gOrB, ↓gAndB, ↓gNotB, ↓gAndV, ↓gOrV, ↓gNotV, ↓gIf, ↓gIx, ↓gSl, ↓gPart, ↓gNoP, ↓gMt, ↓gCall, ↓gArgs, ↓gIsN, ↓gNotN, ↓gChain, ↓x_fmtS, ↓x_afS, ↓x_afI, ↓x_js0, ↓x_jsc, ↓gJoined, ↓gYes, ↓x_bnm, ↓x_btp, ↓x_bn, ↓x_bc, ↓x_nnN, ↓x_nnI, ↓x_nnS, ↓x_nnB, ↓x_nnT, ↓x_nnL, ↓x_nnO, ↓x_nnl, ↓x_tyS, ↓x_tyL, ↓x_i2, ↓aSub, ↓aFdiv, ↓aMod, ↓aPow, ↓aShr, ↓aLt, ↓aLe, ↓aGt, ↓aGe, ↓x_addI, ↓x_addS, ↓x_mulI, ↓x_iaddS, ↓x_iaddI, ↓x_neg, ↓x_eqI, ↓x_neI, ↓x_eqS, ↓x_neS, ↓x_eqB, ↓x_neB, ↓x_eqNI, ↓x_neNI, ↓x_lenS, ↓x_lenL_l, ↓x_lenL_k, ↓x_lenL_t, ↓x_str, ↓x_intI, ↓x_intB, ↓x_divmod, ↓x_max2, ↓x_min2, ↓x_ixS, ↓x_slS, ↓x_slT, ↓x_slL_l, ↓x_slL_k, ↓x_inS, ↓x_newT, ↓x_newF, ↓x_si, ↓x_s1, ↓x_s0, ↓x_rpart, ↓x_part, ↓x_a1, ↓x_a2, ↓x_isiStr, ↓x_isiInt, ↓x_isiIntB, ↓x_isiIntS, ↓x_isiBB, ↓x_isiBI, ↓x_isiStrI, ↓x_isiNonI, ↓x_isiNonS, ↓x_isiT, ↓x_isiL, ↓x_var0, ↓x_varS, ↓x_ex, ↓x_aug0, gat, pick, Option.some.injEq, D.bl.injEq, D.int.injEq, D.str.injEq, D.tup.injEq, D.lst.injEq, List.cons.injEq, and_true, true_and, List.set_cons_zero, List.set_cons_succ, List.length_cons, List.length_nil, List.filterMap_cons, List.filterMap_nil, List.getElem?_cons_zero, List.getElem?_cons_succ, Option.bind_some, ↓reduceIte, if_true, if_false, Bool.false_eq_true, Bool.true_eq_false, decide_eq_true_eq, beq_self_eq_true, Bool.not_true, Bool.not_false, Bool.not_eq_true', decide_eq_false_iff_not, exists_eq_left', exists_eq_left, exists_eq, ↓x_dnT, ↓x_dnF, ↓gAsgL, ↓gMMDef, ↓gDSet, ↓gSItems, ↓x_nilL, ↓x_nilE, List.isEmpty_nil, List.isEmpty_cons, Bool.true_xor, Bool.false_xor, ↓gOrT, ↓gAndT, ↓gTryAs, ↓gTryO, ↓gRaise, ↓gCallX, ↓gMethX, ↓gMakeX, ↓gFldX, ↓x_inXs, Bool.false_xor, Bool.true_xor, ↓gOrS, ↓gSortK]
      refine lc_on (fun _ : Pr => (none : Option D)) trivial (by omega) (fun y hy acc2 R2 hac2 hR2 => ⟨_, x_bnm, ?_⟩) ?_
      · simp only [wipeD, ↓x_eqSS, ↓x_neSS, ↓gKGet, ↓x_kget, ↓x_ixE, at_last, ↓x_appE, ↓x_tyE, ↓x_itE, ↓x_lenE, ↓x_nePr, ↓x_eqPr, ↓x_neE, ↓x_lenr, ↓x_lenrI, ↓gRev, ↓x_par3, ↓x_par33, ↓x_fld, ↓x_fset, ↓x_mkF, ↓x_mk, ↓x_meth, ↓x_fldO, ↓x_fsetE, ↓x_fldE, ↓x_methO, ↓x_isiCO, ↓x_isiCN, ↓x_isiCT, ↓x_isiCLi, ↓x_isiCS, ↓x_isiCI, ↓x_own, ↓x_eqT2, ↓x_neT2, ↓x_neL4, ↓x_eqLN, ↓x_neNil, ↓x_gset, ↓x_lc, ↓x_for, ↓x_it, ↓x_rn1, ↓x_rn2, ↓x_enu, ↓x_zip, ↓x_itS, ↓x_itL, ↓x_itK, ↓x_itT, ↓x_rn1I, ↓x_rn2I, ↓x_enuL, ↓x_enuK, ↓x_zipL, ↓x_ixS0, ↓x_ixL, ↓x_ixT, ↓x_ixK, x_at0, x_at1, x_at2, x_at3, x_at4, ↓x_set00, ↓x_set01, ↓x_set02, ↓x_aug1, ↓x_aug2, ↓x_aug3, ↓x_aug4, ↓x_aug5, ↓x_aug6, ↓x_aug7, ↓x_aug8, ↓x_aug9, ↓x_aug10, ↓x_aug11, ↓x_aug12, ↓x_aug13, ↓x_aug14, ↓x_aug15, ↓x_aug16, ↓x_aug17, ↓x_aug18, ↓x_aug19, ↓x_aug20, ↓x_aug21, ↓x_aug22, ↓x_aug23, Int.reduceToNat, Int.reducePow, ↓gSeq, ↓gIfS, ↓gSet, ↓gAsg, ↓x_par, ↓x_par2, ↓gRet, ↓gRetN, ↓gNext, ↓gDrop, ↓gBreak, ↓gCont, ↓gDead, ↓gCB, ↓gB2, ↓gU, ↓gC, ↓Dl.gCons, ↓Dl.gNil, ↓Dl.gTup, ↓Dl.gLst, ↓gTest, ↓gOrB, ↓gAndB, ↓gNotB, ↓gAndV, ↓gOrV, ↓gNotV, ↓gIf, ↓gIx, ↓gSl, ↓gPart, ↓gNoP, ↓gMt, ↓gCall, ↓gArgs, ↓gIsN, ↓gNotN, ↓gChain, ↓x_fmtS, ↓x_afS, ↓x_afI, ↓x_js0, ↓x_jsc, ↓gJoined, ↓gYes, ↓x_bnm, ↓x_btp, ↓x_bn, ↓x_bc, ↓x_nnN, ↓x_nnI, ↓x_nnS, ↓x_nnB, ↓x_nnT, ↓x_nnL, ↓x_nnO, ↓x_nnl, ↓x_tyS, ↓x_tyL, ↓x_i2, ↓aSub, ↓aFdiv, ↓aMod, ↓aPow, ↓aShr, ↓aLt, ↓aLe, ↓aGt, ↓aGe, ↓x_addI, ↓x_addS, ↓x_mulI, ↓x_iaddS, ↓x_iaddI, ↓x_neg, ↓x_eqI, ↓x_neI, ↓x_eqS, ↓x_neS, ↓x_eqB, ↓x_neB, ↓x_eqNI, ↓x_neNI, ↓x_lenS, ↓x_lenL_l, ↓x_lenL_k, ↓x_lenL_t, ↓x_str, ↓x_intI, ↓x_intB, ↓x_divmod, ↓x_max2, ↓x_min2, ↓x_ixS, ↓x_slS, ↓x_slT, ↓x_slL_l, ↓x_slL_k, ↓x_inS, ↓x_newT, ↓x_newF, ↓x_si, ↓x_s1, ↓x_s0, ↓x_rpart, ↓x_part, ↓x_a1, ↓x_a2, ↓x_isiStr, ↓x_isiInt, ↓x_isiIntB, ↓x_isiIntS, ↓x_isiBB, ↓x_isiBI, ↓x_isiStrI, ↓x_isiNonI, ↓x_isiNonS, ↓x_isiT, ↓x_isiL, ↓x_var0, ↓x_varS, ↓x_ex, ↓x_aug0, gat, pick, Option.some.injEq, D.bl.injEq, D.int.injEq, D.str.injEq, D.tup.injEq, D.lst.injEq, List.cons.injEq, and_true, true_and, List.set_cons_zero, List.set_cons_succ, List.length_cons, List.length_nil, List.filterMap_cons, List.filterMap_nil, List.getElem?_cons_zero, List.getElem?_cons_succ, Option.bind_some, ↓reduceIte, if_true, if_false, Bool.false_eq_true, Bool.true_eq_false, decide_eq_true_eq, beq_self_eq_true, Bool.not_true, Bool.not_false, Bool.not_eq_true', decide_eq_false_iff_not, exists_eq_left', exists_eq_left, exists_eq, ↓x_dnT, ↓x_dnF, ↓gAsgL, ↓gMMDef, ↓gDSet, ↓gSItems, ↓x_nilL, ↓x_nilE, List.isEmpty_nil, List.isEmpty_cons, Bool.true_xor, Bool.false_xor, ↓gOrT, ↓gAndT, ↓gTryAs, ↓gTryO, ↓gRaise, ↓gCallX, ↓gMethX, ↓gMakeX, ↓gFldX, ↓x_inXs, Bool.false_xor, Bool.true_xor, ↓gOrS, ↓gSortK]
        refine ⟨x, y, rfl, ?_⟩
        show if (meetD a.C_Stretch x y).isNon = false then acc2.length < sizeLine ∧ R2 (acc2 ++ [sD a.C_Stretch y]) (o4 :: R0) else R2 acc2 (o4 :: R0)
        rw [meet_isN, decide_eq_false (hMeet x y hx hy)]
        rw [if_neg (by decide)]
        simpa using hR2
      · rw [x_newT, fm_none]
        refine ⟨by decide, ⟨[], rfl, rfl, ⟨_, rfl, ?_⟩⟩⟩
        rw [if_neg (by decide)]
        simpa using hR
    rw [x_newT, fm_none]
    refine ⟨by decide, ⟨[], rfl, rfl, ⟨_, rfl, ?_⟩⟩⟩
    rw [if_neg (by decide)]
    refine Mt.draw_in (by decide) (by decide) ht4 (by omega) fun v o5 hv1 hv2 ht5 => ?_
    refine ⟨by decide, Mt.pickL_in (by simp) (by simp) ht5 (by omega) fun e o6 he ht6 => ?_⟩
    obtain ⟨ap, rfl, ha1⟩ : ∃ ap, e = .int ap ∧ 0 ≤ ap := by
      simp only [List.mem_cons, List.not_mem_nil, or_false] at he
      rcases he with rfl | rfl | rfl
      · exact ⟨_, rfl, by decide⟩
      · exact ⟨_, rfl, by decide⟩
      · exact ⟨_, rfl, by omega⟩
    refine ⟨P, ap, rfl, hSml, ?_⟩
    have hWl := wide_le ha1 P
    have hWs : Sml (joinL P ap) := joined_sml hSml
    (try simp only [↓x_eqSS, ↓x_neSS, ↓gKGet, ↓x_kget, ↓x_ixE, at_last, ↓x_appE, ↓x_tyE, ↓x_itE, ↓x_lenE, ↓x_nePr, ↓x_eqPr, ↓x_neE, ↓x_lenr, ↓x_lenrI, ↓gRev, ↓x_par3, ↓x_par33, ↓x_fld, ↓x_fset, ↓x_mkF, ↓x_mk, ↓x_meth, ↓x_fldO, ↓x_fsetE, ↓x_fldE, ↓x_methO, ↓x_isiCO, ↓x_isiCN, ↓x_isiCT, ↓x_isiCLi, ↓x_isiCS, ↓x_isiCI, ↓x_own, ↓x_eqT2, ↓x_neT2, ↓x_neL4, ↓x_eqLN, ↓x_neNil, ↓x_gset, ↓x_lc, ↓x_for, ↓x_it, ↓x_rn1, ↓x_rn2, ↓x_enu, ↓x_zip, ↓x_itS, ↓x_itL, ↓x_itK, ↓x_itT, ↓x_rn1I, ↓x_rn2I, ↓x_enuL, ↓x_enuK, ↓x_zipL, ↓x_ixS0, ↓x_ixL, ↓x_ixT, ↓x_ixK, x_at0, x_at1, x_at2, x_at3, x_at4, ↓x_set00, ↓x_set01, ↓x_set02, ↓x_aug1, ↓x_aug2, ↓x_aug3, ↓x_aug4, ↓x_aug5, ↓x_aug6, ↓x_aug7, ↓x_aug8, ↓x_aug9, ↓x_aug10, ↓x_aug11, ↓x_aug12, ↓x_aug13, ↓x_aug14, ↓x_aug15, ↓x_aug16, ↓x_aug17, ↓x_aug18, ↓x_aug19, ↓x_aug20, ↓x_aug21, ↓x_aug22, ↓x_aug23, Int.reduceToNat, Int.reducePow, ↓gSeq, ↓gIfS, ↓gSet, ↓gAsg, ↓x_par, ↓x_par2, ↓gRet, ↓gRetN, ↓gNext, ↓gDrop, ↓gBreak, ↓gCont, ↓gDead, ↓gCB, ↓gB2, ↓gU, ↓gC, ↓Dl.gCons, ↓Dl.gNil, ↓Dl.gTup, ↓Dl.gLst, ↓gTest, ↓gOrB, ↓gAndB, ↓gNotB, ↓gAndV, ↓gOrV, ↓gNotV, ↓gIf, ↓gIx, ↓gSl, ↓gPart, ↓gNoP, ↓gMt, ↓gCall, ↓gArgs, ↓gIsN, ↓gNotN, ↓gChain, ↓x_fmtS, ↓x_afS, ↓x_afI, ↓x_js0, ↓x_jsc, ↓gJoined, ↓gYes, ↓x_bnm, ↓x_btp, ↓x_bn, ↓x_bc, ↓x_nnN, ↓x_nnI, ↓x_nnS, ↓x_nnB, ↓x_nnT, ↓x_nnL, ↓x_nnO, ↓x_nnl, ↓x_tyS, ↓x_tyL, ↓x_i2, ↓aSub, ↓aFdiv, ↓aMod, ↓aPow, ↓aShr, ↓aLt, ↓aLe, ↓aGt, ↓aGe, ↓x_addI, ↓x_addS, ↓x_mulI, ↓x_iaddS, ↓x_iaddI, ↓x_neg, ↓x_eqI, ↓x_neI, ↓x_eqS, ↓x_neS, ↓x_eqB, ↓x_neB, ↓x_eqNI, ↓x_neNI, ↓x_lenS, ↓x_lenL_l, ↓x_lenL_k, ↓x_lenL_t, ↓x_str, ↓x_intI, ↓x_intB, ↓x_divmod, ↓x_max2, ↓x_min2, ↓x_ixS, ↓x_slS, ↓x_slT, ↓x_slL_l, ↓x_slL_k, ↓x_inS, ↓x_newT, ↓x_newF, ↓x_si, ↓x_s1, ↓x_s0, ↓x_rpart, ↓x_part, ↓x_a1, ↓x_a2, ↓x_isiStr, ↓x_isiInt, ↓x_isiIntB, ↓x_isiIntS, ↓x_isiBB, ↓x_isiBI, ↓x_isiStrI, ↓x_isiNonI, ↓x_isiNonS, ↓x_isiT, ↓x_isiL, ↓x_var0, ↓x_varS, ↓x_ex, ↓x_aug0, gat, pick, Option.some.injEq, D.bl.injEq, D.int.injEq, D.str.injEq, D.tup.injEq, D.lst.injEq, List.cons.injEq, and_true, true_and, List.set_cons_zero, List.set_cons_succ, List.length_cons, List.length_nil, List.filterMap_cons, List.filterMap_nil, List.getElem?_cons_zero, List.getElem?_cons_succ, Option.bind_some, ↓reduceIte, if_true, if_false, Bool.false_eq_true, Bool.true_eq_false, decide_eq_true_eq, beq_self_eq_true, Bool.not_true, Bool.not_false, Bool.not_eq_true', decide_eq_false_iff_not, exists_eq_left', exists_eq_left, exists_eq, ↓x_dnT, ↓x_dnF, ↓gAsgL, ↓gMMDef, ↓gDSet, ↓gSItems, ↓x_nilL, ↓x_nilE, List.isEmpty_nil, List.isEmpty_cons, Bool.true_xor, Bool.false_xor, ↓gOrT, ↓gAndT, ↓gTryAs, ↓gTryO, ↓gRaise, ↓gCallX, ↓gMethX, ↓gMakeX, ↓gFldX, ↓x_inXs, Bool.false_xor, Bool.true_xor, ↓gOrS, ↓gSortK])
    rw [if_neg (by simp only [List.length_map]; omega)]
    refine ⟨joinL P ap, ap, rfl, hWs, ?_⟩
    rw [joinA_twice ha1]
    refine eqlo_same ?_
    refine ⟨_, rfl, ?_⟩
    rw [if_neg (by decide)]
    refine lc_on (fun _ : Pr => (none : Option D)) trivial (by omega) (fun x hx acc R hac hR => ⟨_, x_bnm, ?_⟩) ?_
    · simp only [wipeD, ↓x_eqSS, ↓x_neSS, ↓gKGet, ↓x_kget, ↓x_ixE, at_last, ↓x_appE, ↓x_tyE, ↓x_itE, ↓x_lenE, ↓x_nePr, ↓x_eqPr, ↓x_neE, ↓x_lenr, ↓x_lenrI, ↓gRev, ↓x_par3, ↓x_par33, ↓x_fld, ↓x_fset, ↓x_mkF, ↓x_mk, ↓x_meth, ↓x_fldO, ↓x_fsetE, ↓x_fldE, ↓x_methO, ↓x_isiCO, ↓x_isiCN, ↓x_isiCT, ↓x_isiCLi, ↓x_isiCS, ↓x_isiCI, ↓x_own, ↓x_eqT2, ↓x_neT2, ↓x_neL4, ↓x_eqLN, ↓x_neNil, ↓x_gset, ↓x_lc, ↓x_for, ↓x_it, ↓x_rn1, ↓x_rn2, ↓x_enu, ↓x_zip, ↓x_itS, ↓x_itL, ↓x_itK, ↓x_itT, ↓x_rn1I, ↓x_rn2I, ↓x_enuL, ↓x_enuK, ↓x_zipL, ↓x_ixS0, ↓x_ixL, ↓x_ixT, ↓x_ixK, x_at0, x_at1, x_at2, x_at3, x_at4, ↓x_set00, ↓x_set01, ↓x_set02, ↓x_aug1, ↓x_aug2, ↓x_aug3, ↓x_aug4, ↓x_aug5, ↓x_aug6, ↓x_aug7, ↓x_aug8, ↓x_aug9, ↓x_aug10, ↓x_aug11, ↓x_aug12, ↓x_aug13, ↓x_aug14, ↓x_aug15, ↓x_aug16, ↓x_aug17, ↓x_aug18, ↓x_aug19, ↓x_aug20, ↓x_aug21, ↓x_aug22, ↓x_aug23, Int.reduceToNat, Int.reducePow, ↓gSeq, ↓gIfS, ↓gSet, ↓gAsg, ↓x_par, ↓x_par2, ↓gRet, ↓gRetN, ↓gNext, ↓gDrop, ↓gBreak, ↓gCont, ↓gDead, ↓gCB, ↓gB2, ↓gU, ↓gC, ↓Dl.gCons, ↓Dl.gNil, ↓Dl.gTup, ↓Dl.gLst, ↓gTest, ↓gOrB, ↓gAndB, ↓gNotB, ↓gAndV, ↓gOrV, ↓gNotV, ↓gIf, ↓gIx, ↓gSl, ↓gPart, ↓gNoP, ↓gMt, ↓gCall, ↓gArgs, ↓gIsN, ↓gNotN, ↓gChain, ↓x_fmtS, ↓x_afS, ↓x_afI, ↓x_js0, ↓x_jsc, ↓gJoined, ↓gYes, ↓x_bnm, ↓x_btp, ↓x_bn, ↓x_bc, ↓x_nnN, ↓x_nnI, ↓x_nnS, ↓x_nnB, ↓x_nnT, ↓x_nnL, ↓x_nnO, ↓x_nnl, ↓x_tyS, ↓x_tyL, ↓x_i2, ↓aSub, ↓aFdiv, ↓aMod, ↓aPow, ↓aShr, ↓aLt, ↓aLe, ↓aGt, ↓aGe, ↓x_addI, ↓x_addS, ↓x_mulI, ↓x_iaddS, ↓x_iaddI, ↓x_neg, ↓x_eqI, ↓x_neI, ↓x_eqS, ↓x_neS, ↓x_eqB, ↓x_neB, ↓x_eqNI, ↓x_neNI, ↓x_lenS, ↓x_lenL_l, ↓x_lenL_k, ↓x_lenL_t, ↓x_str, ↓x_intI, ↓x_intB, ↓x_divmod, ↓x_max2, ↓x_min2, ↓x_ixS, ↓x_slS, ↓x_slT, ↓x_slL_l, ↓x_slL_k, ↓x_inS, ↓x_newT, ↓x_newF, ↓x_si, ↓x_s1, ↓x_s0, ↓x_rpart, ↓x_part, ↓x_a1, ↓x_a2, ↓x_isiStr, ↓x_isiInt, ↓x_isiIntB, ↓x_isiIntS, ↓x_isiBB, ↓x_isiBI, ↓x_isiStrI, ↓x_isiNonI, ↓x_isiNonS, ↓x_isiT, ↓x_isiL, ↓x_var0, ↓x_varS, ↓x_ex, ↓x_aug0, gat, pick, Option.some.injEq, D.bl.injEq, D.int.injEq, D.str.injEq, D.tup.injEq, D.lst.injEq, List.cons.injEq, and_true, true_and, List.set_cons_zero, List.set_cons_succ, List.length_cons, List.length_nil, List.filterMap_cons, List.filterMap_nil, List.getElem?_cons_zero, List.getElem?_cons_succ, Option.bind_some, ↓reduceIte, if_true, if_false, Bool.false_eq_true, Bool.true_eq_false, decide_eq_true_eq, beq_self_eq_true, Bool.not_true, Bool.not_false, Bool.not_eq_true', decide_eq_false_iff_not, exists_eq_left', exists_eq_left, exists_eq, ↓x_dnT, ↓x_dnF, ↓gAsgL, ↓gMMDef, ↓gDSet, ↓gSItems, ↓x_nilL, ↓x_nilE, List.isEmpty_nil, List.isEmpty_cons, Bool.true_xor, Bool.false_xor, ↓gOrT, ↓gAndT, ↓gTryAs, ↓gTryO, ↓gRaise, ↓gCallX, ↓gMethX, ↓gMakeX, ↓gFldX, ↓x_inXs, Bool.false_xor, Bool.true_xor, ↓gOrS, ↓gSortK]
      refine lc_on (fun y : Pr => if y.1 ≤ x.1 ∧ x.2 ≤ y.2 then some (sD a.C_Stretch y) else none) trivial (by omega) (fun y hy acc2 R2 hac2 hR2 => ⟨_, x_bnm, ?_⟩) ?_
      · simp only [wipeD, ↓x_eqSS, ↓x_neSS, ↓gKGet, ↓x_kget, ↓x_ixE, at_last, ↓x_appE, ↓x_tyE, ↓x_itE, ↓x_lenE, ↓x_nePr, ↓x_eqPr, ↓x_neE, ↓x_lenr, ↓x_lenrI, ↓gRev, ↓x_par3, ↓x_par33, ↓x_fld, ↓x_fset, ↓x_mkF, ↓x_mk, ↓x_meth, ↓x_fldO, ↓x_fsetE, ↓x_fldE, ↓x_methO, ↓x_isiCO, ↓x_isiCN, ↓x_isiCT, ↓x_isiCLi, ↓x_isiCS, ↓x_isiCI, ↓x_own, ↓x_eqT2, ↓x_neT2, ↓x_neL4, ↓x_eqLN, ↓x_neNil, ↓x_gset, ↓x_lc, ↓x_for, ↓x_it, ↓x_rn1, ↓x_rn2, ↓x_enu, ↓x_zip, ↓x_itS, ↓x_itL, ↓x_itK, ↓x_itT, ↓x_rn1I, ↓x_rn2I, ↓x_enuL, ↓x_enuK, ↓x_zipL, ↓x_ixS0, ↓x_ixL, ↓x_ixT, ↓x_ixK, x_at0, x_at1, x_at2, x_at3, x_at4, ↓x_set00, ↓x_set01, ↓x_set02, ↓x_aug1, ↓x_aug2, ↓x_aug3, ↓x_aug4, ↓x_aug5, ↓x_aug6, ↓x_aug7, ↓x_aug8, ↓x_aug9, ↓x_aug10, ↓x_aug11, ↓x_aug12, ↓x_aug13, ↓x_aug14, ↓x_aug15, ↓x_aug16, ↓x_aug17, ↓x_aug18, ↓x_aug19, ↓x_aug20, ↓x_aug21, ↓x_aug22, ↓x_aug23, Int.reduceToNat, Int.reducePow, ↓gSeq, ↓gIfS, ↓gSet, ↓gAsg, ↓x_par, ↓x_par2, ↓gRet, ↓gRetN, ↓gNext, ↓gDrop, ↓gBreak, ↓gCont, ↓gDead, ↓gCB, ↓gB2, ↓gU, ↓gC, ↓Dl.gCons, ↓Dl.gNil, ↓Dl.gTup, ↓Dl.gLst, ↓gTest, ↓gOrB, ↓gAndB, ↓gNotB, ↓gAndV, ↓gOrV, ↓gNotV, ↓gIf, ↓gIx, ↓gSl, ↓gPart, ↓gNoP, ↓gMt, ↓gCall, ↓gArgs, ↓gIsN, ↓gNotN, ↓gChain, ↓x_fmtS, ↓x_afS, ↓x_afI, ↓x_js0, ↓x_jsc, ↓gJoined, ↓gYes, ↓x_bnm, ↓x_btp, ↓x_bn, ↓x_bc, ↓x_nnN, ↓x_nnI, ↓x_nnS, ↓x_nnB, ↓x_nnT, ↓x_nnL, ↓x_nnO, ↓x_nnl, ↓x_tyS, ↓x_tyL, ↓x_i2, ↓aSub, ↓aFdiv, ↓aMod, ↓aPow, ↓aShr, ↓aLt, ↓aLe, ↓aGt, ↓aGe, ↓x_addI, ↓x_addS, ↓x_mulI, ↓x_iaddS, ↓x_iaddI, ↓x_neg, ↓x_eqI, ↓x_neI, ↓x_eqS, ↓x_neS, ↓x_eqB, ↓x_neB, ↓x_eqNI, ↓x_neNI, ↓x_lenS, ↓x_lenL_l, ↓x_lenL_k, ↓x_lenL_t, ↓x_str, ↓x_intI, ↓x_intB, ↓x_divmod, ↓x_max2, ↓x_min2, ↓x_ixS, ↓x_slS, ↓x_slT, ↓x_slL_l, ↓x_slL_k, ↓x_inS, ↓x_newT, ↓x_newF, ↓x_si, ↓x_s1, ↓x_s0, ↓x_rpart, ↓x_part, ↓x_a1, ↓x_a2, ↓x_isiStr, ↓x_isiInt, ↓x_isiIntB, ↓x_isiIntS, ↓x_isiBB, ↓x_isiBI, ↓x_isiStrI, ↓x_isiNonI, ↓x_isiNonS, ↓x_isiT, ↓x_isiL, ↓x_var0, ↓x_varS, ↓x_ex, ↓x_aug0, gat, pick, Option.some.injEq, D.bl.injEq, D.int.injEq, D.str.injEq, D.tup.injEq, D.lst.injEq, List.cons.injEq, and_true, true_and, List.set_cons_zero, List.set_cons_succ, List.length_cons, List.length_nil, List.filterMap_cons, List.filterMap_nil, List.getElem?_cons_zero, List.getElem?_cons_succ, Option.bind_some, ↓reduceIte, if_true, if_false, Bool.false_eq_true, Bool.true_eq_false, decide_eq_true_eq, beq_self_eq_true, Bool.not_true, Bool.not_false, Bool.not_eq_true', decide_eq_false_iff_not, exists_eq_left', exists_eq_left, exists_eq, ↓x_dnT, ↓x_dnF, ↓gAsgL, ↓gMMDef, ↓gDSet, ↓gSItems, ↓x_nilL, ↓x_nilE, List.isEmpty_nil, List.isEmpty_cons, Bool.true_xor, Bool.false_xor, ↓gOrT, ↓gAndT, ↓gTryAs, ↓gTryO, ↓gRaise, ↓gCallX, ↓gMethX, ↓gMakeX, ↓gFldX, ↓x_inXs, Bool.false_xor, Bool.true_xor, ↓gOrS, ↓gSortK]
        refine ⟨x, y, rfl, _, rfl, ?_⟩
        by_cases c : y.1 ≤ x.1 ∧ x.2 ≤ y.2
        · rw [if_pos c] at hR2
          rw [if_pos (by simp [c.1, c.2])]
          exact ⟨hac2, hR2⟩
        · rw [if_neg c] at hR2
          rw [if_neg (by simpa using c)]
          simpa using hR2
      · rw [x_newT, fm_if]
        obtain ⟨y, hy, y1, y2⟩ := part_in ha1 P hx
        have hne : (((joinL P ap).filter fun y => decide (y.1 ≤ x.1 ∧ x.2 ≤ y.2)).map (sD a.C_Stretch)).isEmpty = false := by
          rw [List.isEmpty_eq_false_iff]
          intro z
          have : y ∈ (joinL P ap).filter fun y => decide (y.1 ≤ x.1 ∧ x.2 ≤ y.2) := List.mem_filter.mpr ⟨hy, decide_eq_true ⟨y1, y2⟩⟩
          rw [List.map_eq_nil_iff.mp z] at this
          cases this
        refine ⟨by decide, ⟨_, rfl, rfl, ⟨_, rfl, ?_⟩⟩⟩
        rw [hne, if_neg (by decide)]
        simpa using hR
    rw [x_newT, fm_none]
    refine ⟨by decide, ⟨[], rfl, rfl, ⟨_, rfl, ?_⟩⟩⟩
    rw [if_neg (by decide)]
    refine ⟨fun j ρ S' => S' = o6 :: R0 ∧ ∃ y7 y8 y9 y10 y13 y14, ρ = [some (.ksq (ns.map .int)), some (.loc 0), some d, some (.lst (P.map (sD a.C_Stretch))), some (.int f), some (sD a.C_Stretch (f, f + z)), some (.lst ((joinL P 0).map (sD a.C_Stretch))), y7, y8, y9, y10, some (.int ap), some (.lst ((joinL P ap).map (sD a.C_Stretch))), y13, y14], ⟨rfl, _, _, _, _, _, _, rfl⟩, ?_, ?_⟩
    · rintro j e ρ S' he2 ⟨rfl, y7, y8, y9, y10, y13, y14, rfl⟩
      rw [List.getElem?_map] at he2
      obtain ⟨x, hx, rfl⟩ := Option.map_eq_some_iff.mp he2
      have hxm := List.mem_of_getElem? hx
      have hxb := hP.2 x hxm
      refine ⟨trivial, _, x_bnm, ?_⟩
      simp only [↓x_eqSS, ↓x_neSS, ↓gKGet, ↓x_kget, ↓x_ixE, at_last, ↓x_appE, ↓x_tyE, ↓x_itE, ↓x_lenE, ↓x_nePr, ↓x_eqPr, ↓x_neE, ↓x_lenr, ↓x_lenrI, ↓gRev, ↓x_par3, ↓x_par33, ↓x_fld, ↓x_fset, ↓x_mkF, ↓x_mk, ↓x_meth, ↓x_fldO, ↓x_fsetE, ↓x_fldE, ↓x_methO, ↓x_isiCO, ↓x_isiCN, ↓x_isiCT, ↓x_isiCLi, ↓x_isiCS, ↓x_isiCI, ↓x_own, ↓x_eqT2, ↓x_neT2, ↓x_neL4, ↓x_eqLN, ↓x_neNil, ↓x_gset, ↓x_lc, ↓x_for, ↓x_it, ↓x_rn1, ↓x_rn2, ↓x_enu, ↓x_zip, ↓x_itS, ↓x_itL, ↓x_itK, ↓x_itT, ↓x_rn1I, ↓x_rn2I, ↓x_enuL, ↓x_enuK, ↓x_zipL, ↓x_ixS0, ↓x_ixL, ↓x_ixT, ↓x_ixK, x_at0, x_at1, x_at2, x_at3, x_at4, ↓x_set00, ↓x_set01, ↓x_set02, ↓x_aug1, ↓x_aug2, ↓x_aug3, ↓x_aug4, ↓x_aug5, ↓x_aug6, ↓x_aug7, ↓x_aug8, ↓x_aug9, ↓x_aug10, ↓x_aug11, ↓x_aug12, ↓x_aug13, ↓x_aug14, ↓x_aug15, ↓x_aug16, ↓x_aug17, ↓x_aug18, ↓x_aug19, ↓x_aug20, ↓x_aug21, ↓x_aug22, ↓x_aug23, Int.reduceToNat, Int.reducePow, ↓gSeq, ↓gIfS, ↓gSet, ↓gAsg, ↓x_par, ↓x_par2, ↓gRet, ↓gRetN, ↓gNext, ↓gDrop, ↓gBreak, ↓gCont, ↓gDead, ↓gCB, ↓gB2, ↓gU, ↓gC, ↓Dl.gCons, ↓Dl.gNil, ↓Dl.gTup, ↓Dl.gLst, ↓gTest, ↓gOrB, ↓gAndB, ↓gNotB, ↓gAndV, ↓gOrV, ↓gNotV, ↓gIf, ↓gIx, ↓gSl, ↓gPart, ↓gNoP, ↓gMt, ↓gCall, ↓gArgs, ↓gIsN, ↓gNotN, ↓gChain, ↓x_fmtS, ↓x_afS, ↓x_afI, ↓x_js0, ↓x_jsc, ↓gJoined, ↓gYes, ↓x_bnm, ↓x_btp, ↓x_bn, ↓x_bc, ↓x_nnN, ↓x_nnI, ↓x_nnS, ↓x_nnB, ↓x_nnT, ↓x_nnL, ↓x_nnO, ↓x_nnl, ↓x_tyS, ↓x_tyL, ↓x_i2, ↓aSub, ↓aFdiv, ↓aMod, ↓aPow, ↓aShr, ↓aLt, ↓aLe, ↓aGt, ↓aGe, ↓x_addI, ↓x_addS, ↓x_mulI, ↓x_iaddS, ↓x_iaddI, ↓x_neg, ↓x_eqI, ↓x_neI, ↓x_eqS, ↓x_neS, ↓x_eqB, ↓x_neB, ↓x_eqNI, ↓x_neNI, ↓x_lenS, ↓x_lenL_l, ↓x_lenL_k, ↓x_lenL_t, ↓x_str, ↓x_intI, ↓x_intB, ↓x_divmod, ↓x_max2, ↓x_min2, ↓x_ixS, ↓x_slS, ↓x_slT, ↓x_slL_l, ↓x_slL_k, ↓x_inS, ↓x_newT, ↓x_newF, ↓x_si, ↓x_s1, ↓x_s0, ↓x_rpart, ↓x_part, ↓x_a1, ↓x_a2, ↓x_isiStr, ↓x_isiInt, ↓x_isiIntB, ↓x_isiIntS, ↓x_isiBB, ↓x_isiBI, ↓x_isiStrI, ↓x_isiNonI, ↓x_isiNonS, ↓x_isiT, ↓x_isiL, ↓x_var0, ↓x_varS, ↓x_ex, ↓x_aug0, gat, pick, Option.some.injEq, D.bl.injEq, D.int.injEq, D.str.injEq, D.tup.injEq, D.lst.injEq, List.cons.injEq, and_true, true_and, List.set_cons_zero, List.set_cons_succ, List.length_cons, List.length_nil, List.filterMap_cons, List.filterMap_nil, List.getElem?_cons_zero, List.getElem?_cons_succ, Option.bind_some, ↓reduceIte, if_true, if_false, Bool.false_eq_true, Bool.true_eq_false, decide_eq_true_eq, beq_self_eq_true, Bool.not_true, Bool.not_false, Bool.not_eq_true', decide_eq_false_iff_not, exists_eq_left', exists_eq_left, exists_eq, ↓x_dnT, ↓x_dnF, ↓gAsgL, ↓gMMDef, ↓gDSet, ↓gSItems, ↓x_nilL, ↓x_nilE, List.isEmpty_nil, List.isEmpty_cons, Bool.true_xor, Bool.false_xor, ↓gOrT, ↓gAndT, ↓gTryAs, ↓gTryO, ↓gRaise, ↓gCallX, ↓gMethX, ↓gMakeX, ↓gFldX, ↓x_inXs, Bool.false_xor, Bool.true_xor, ↓gOrS, ↓gSortK]
      refine ⟨⟨_, _, rfl⟩, x, rfl, by omega, ?_⟩
      refine ⟨_, rfl, by omega, by omega, ?_⟩
      (try simp only [↓x_eqSS, ↓x_neSS, ↓gKGet, ↓x_kget, ↓x_ixE, at_last, ↓x_appE, ↓x_tyE, ↓x_itE, ↓x_lenE, ↓x_nePr, ↓x_eqPr, ↓x_neE, ↓x_lenr, ↓x_lenrI, ↓gRev, ↓x_par3, ↓x_par33, ↓x_fld, ↓x_fset, ↓x_mkF, ↓x_mk, ↓x_meth, ↓x_fldO, ↓x_fsetE, ↓x_fldE, ↓x_methO, ↓x_isiCO, ↓x_isiCN, ↓x_isiCT, ↓x_isiCLi, ↓x_isiCS, ↓x_isiCI, ↓x_own, ↓x_eqT2, ↓x_neT2, ↓x_neL4, ↓x_eqLN, ↓x_neNil, ↓x_gset, ↓x_lc, ↓x_for, ↓x_it, ↓x_rn1, ↓x_rn2, ↓x_enu, ↓x_zip, ↓x_itS, ↓x_itL, ↓x_itK, ↓x_itT, ↓x_rn1I, ↓x_rn2I, ↓x_enuL, ↓x_enuK, ↓x_zipL, ↓x_ixS0, ↓x_ixL, ↓x_ixT, ↓x_ixK, x_at0, x_at1, x_at2, x_at3, x_at4, ↓x_set00, ↓x_set01, ↓x_set02, ↓x_aug1, ↓x_aug2, ↓x_aug3, ↓x_aug4, ↓x_aug5, ↓x_aug6, ↓x_aug7, ↓x_aug8, ↓x_aug9, ↓x_aug10, ↓x_aug11, ↓x_aug12, ↓x_aug13, ↓x_aug14, ↓x_aug15, ↓x_aug16, ↓x_aug17, ↓x_aug18, ↓x_aug19, ↓x_aug20, ↓x_aug21, ↓x_aug22, ↓x_aug23, Int.reduceToNat, Int.reducePow, ↓gSeq, ↓gIfS, ↓gSet, ↓gAsg, ↓x_par, ↓x_par2, ↓gRet, ↓gRetN, ↓gNext, ↓gDrop, ↓gBreak, ↓gCont, ↓gDead, ↓gCB, ↓gB2, ↓gU, ↓gC, ↓Dl.gCons, ↓Dl.gNil, ↓Dl.gTup, ↓Dl.gLst, ↓gTest, ↓gOrB, ↓gAndB, ↓gNotB, ↓gAndV, ↓gOrV, ↓gNotV, ↓gIf, ↓gIx, ↓gSl, ↓gPart, ↓gNoP, ↓gMt, ↓gCall, ↓gArgs, ↓gIsN, ↓gNotN, ↓gChain, ↓x_fmtS, ↓x_afS, ↓x_afI, ↓x_js0, ↓x_jsc, ↓gJoined, ↓gYes, ↓x_bnm, ↓x_btp, ↓x_bn, ↓x_bc, ↓x_nnN, ↓x_nnI, ↓x_nnS, ↓x_nnB, ↓x_nnT, ↓x_nnL, ↓x_nnO, ↓x_nnl, ↓x_tyS, ↓x_tyL, ↓x_i2, ↓aSub, ↓aFdiv, ↓aMod, ↓aPow, ↓aShr, ↓aLt, ↓aLe, ↓aGt, ↓aGe, ↓x_addI, ↓x_addS, ↓x_mulI, ↓x_iaddS, ↓x_iaddI, ↓x_neg, ↓x_eqI, ↓x_neI, ↓x_eqS, ↓x_neS, ↓x_eqB, ↓x_neB, ↓x_eqNI, ↓x_neNI, ↓x_lenS, ↓x_lenL_l, ↓x_lenL_k, ↓x_lenL_t, ↓x_str, ↓x_intI, ↓x_intB, ↓x_divmod, ↓x_max2, ↓x_min2, ↓x_ixS, ↓x_slS, ↓x_slT, ↓x_slL_l, ↓x_slL_k, ↓x_inS, ↓x_newT, ↓x_newF, ↓x_si, ↓x_s1, ↓x_s0, ↓x_rpart, ↓x_part, ↓x_a1, ↓x_a2, ↓x_isiStr, ↓x_isiInt, ↓x_isiIntB, ↓x_isiIntS, ↓x_isiBB, ↓x_isiBI, ↓x_isiStrI, ↓x_isiNonI, ↓x_isiNonS, ↓x_isiT, ↓x_isiL, ↓x_var0, ↓x_varS, ↓x_ex, ↓x_aug0, gat, pick, Option.some.injEq, D.bl.injEq, D.int.injEq, D.str.injEq, D.tup.injEq, D.lst.injEq, List.cons.injEq, and_true, true_and, List.set_cons_zero, List.set_cons_succ, List.length_cons, List.length_nil, List.filterMap_cons, List.filterMap_nil, List.getElem?_cons_zero, List.getElem?_cons_succ, Option.bind_some, ↓reduceIte, if_true, if_false, Bool.false_eq_true, Bool.true_eq_false, decide_eq_true_eq, beq_self_eq_true, Bool.not_true, Bool.not_false, Bool.not_eq_true', decide_eq_false_iff_not, exists_eq_left', exists_eq_left, exists_eq, ↓x_dnT, ↓x_dnF, ↓gAsgL, ↓gMMDef, ↓gDSet, ↓gSItems, ↓x_nilL, ↓x_nilE, List.isEmpty_nil, List.isEmpty_cons, Bool.true_xor, Bool.false_xor, ↓gOrT, ↓gAndT, ↓gTryAs, ↓gTryO, ↓gRaise, ↓gCallX, ↓gMethX, ↓gMakeX, ↓gFldX, ↓x_inXs, Bool.false_xor, Bool.true_xor, ↓gOrS, ↓gSortK])
      by_cases hlt : x.1 < x.2
      · rw [if_pos (by omega)]
        refine lc_on (fun y : Pr => if meetP x y = x then some (sD a.C_Stretch y) else none) trivial (by omega) (fun y hy acc2 R2 hac2 hR2 => ⟨_, x_bnm, ?_⟩) ?_
        · simp only [wipeD, ↓x_eqSS, ↓x_neSS, ↓gKGet, ↓x_kget, ↓x_ixE, at_last, ↓x_appE, ↓x_tyE, ↓x_itE, ↓x_lenE, ↓x_nePr, ↓x_eqPr, ↓x_neE, ↓x_lenr, ↓x_lenrI, ↓gRev, ↓x_par3, ↓x_par33, ↓x_fld, ↓x_fset, ↓x_mkF, ↓x_mk, ↓x_meth, ↓x_fldO, ↓x_fsetE, ↓x_fldE, ↓x_methO, ↓x_isiCO, ↓x_isiCN, ↓x_isiCT, ↓x_isiCLi, ↓x_isiCS, ↓x_isiCI, ↓x_own, ↓x_eqT2, ↓x_neT2, ↓x_neL4, ↓x_eqLN, ↓x_neNil, ↓x_gset, ↓x_lc, ↓x_for, ↓x_it, ↓x_rn1, ↓x_rn2, ↓x_enu, ↓x_zip, ↓x_itS, ↓x_itL, ↓x_itK, ↓x_itT, ↓x_rn1I, ↓x_rn2I, ↓x_enuL, ↓x_enuK, ↓x_zipL, ↓x_ixS0, ↓x_ixL, ↓x_ixT, ↓x_ixK, x_at0, x_at1, x_at2, x_at3, x_at4, ↓x_set00, ↓x_set01, ↓x_set02, ↓x_aug1, ↓x_aug2, ↓x_aug3, ↓x_aug4, ↓x_aug5, ↓x_aug6, ↓x_aug7, ↓x_aug8, ↓x_aug9, ↓x_aug10, ↓x_aug11, ↓x_aug12, ↓x_aug13, ↓x_aug14, ↓x_aug15, ↓x_aug16, ↓x_aug17, ↓x_aug18, ↓x_aug19, ↓x_aug20, ↓x_aug21, ↓x_aug22, ↓x_aug23, Int.reduceToNat, Int.reducePow, ↓gSeq, ↓gIfS, ↓gSet, ↓gAsg, ↓x_par, ↓x_par2, ↓gRet, ↓gRetN, ↓gNext, ↓gDrop, ↓gBreak, ↓gCont, ↓gDead, ↓gCB, ↓gB2, ↓gU, ↓gC, ↓Dl.gCons, ↓Dl.gNil, ↓Dl.gTup, ↓Dl.gLst, ↓gTest, ↓gOrB, ↓gAndB, ↓gNotB, ↓gAndV, ↓gOrV, ↓gNotV, ↓gIf, ↓gIx, ↓gSl, ↓gPart, ↓gNoP, ↓gMt, ↓gCall, ↓gArgs, ↓gIsN, ↓gNotN, ↓gChain, ↓x_fmtS, ↓x_afS, ↓x_afI, ↓x_js0, ↓x_jsc, ↓gJoined, ↓gYes, ↓x_bnm, ↓x_btp, ↓x_bn, ↓x_bc, ↓x_nnN, ↓x_nnI, ↓x_nnS, ↓x_nnB, ↓x_nnT, ↓x_nnL, ↓x_nnO, ↓x_nnl, ↓x_tyS, ↓x_tyL, ↓x_i2, ↓aSub, ↓aFdiv, ↓aMod, ↓aPow, ↓aShr, ↓aLt, ↓aLe, ↓aGt, ↓aGe, ↓x_addI, ↓x_addS, ↓x_mulI, ↓x_iaddS, ↓x_iaddI, ↓x_neg, ↓x_eqI, ↓x_neI, ↓x_eqS, ↓x_neS, ↓x_eqB, ↓x_neB, ↓x_eqNI, ↓x_neNI, ↓x_lenS, ↓x_lenL_l, ↓x_lenL_k, ↓x_lenL_t, ↓x_str, ↓x_intI, ↓x_intB, ↓x_divmod, ↓x_max2, ↓x_min2, ↓x_ixS, ↓x_slS, ↓x_slT, ↓x_slL_l, ↓x_slL_k, ↓x_inS, ↓x_newT, ↓x_newF, ↓x_si, ↓x_s1, ↓x_s0, ↓x_rpart, ↓x_part, ↓x_a1, ↓x_a2, ↓x_isiStr, ↓x_isiInt, ↓x_isiIntB, ↓x_isiIntS, ↓x_isiBB, ↓x_isiBI, ↓x_isiStrI, ↓x_isiNonI, ↓x_isiNonS, ↓x_isiT, ↓x_isiL, ↓x_var0, ↓x_varS, ↓x_ex, ↓x_aug0, gat, pick, Option.some.injEq, D.bl.injEq, D.int.injEq, D.str.injEq, D.tup.injEq, D.lst.injEq, List.cons.injEq, and_true, true_and, List.set_cons_zero, List.set_cons_succ, List.length_cons, List.length_nil, List.filterMap_cons, List.filterMap_nil, List.getElem?_cons_zero, List.getElem?_cons_succ, Option.bind_some, ↓reduceIte, if_true, if_false, Bool.false_eq_true, Bool.true_eq_false, decide_eq_true_eq, beq_self_eq_true, Bool.not_true, Bool.not_false, Bool.not_eq_true', decide_eq_false_iff_not, exists_eq_left', exists_eq_left, exists_eq, ↓x_dnT, ↓x_dnF, ↓gAsgL, ↓gMMDef, ↓gDSet, ↓gSItems, ↓x_nilL, ↓x_nilE, List.isEmpty_nil, List.isEmpty_cons, Bool.true_xor, Bool.false_xor, ↓gOrT, ↓gAndT, ↓gTryAs, ↓gTryO, ↓gRaise, ↓gCallX, ↓gMethX, ↓gMakeX, ↓gFldX, ↓x_inXs, Bool.false_xor, Bool.true_xor, ↓gOrS, ↓gSortK]
          refine ⟨x, y, rfl, ?_⟩
          by_cases c : (meetP x y).1 < (meetP x y).2
          · have e1 : meetD a.C_Stretch x y = stD a.C_Stretch (meetP x y).1 (meetP x y).2 := by unfold meetD; rw [if_pos c]
            rw [e1]
            refine ⟨_, eqB, _, rfl, ?_⟩
            by_cases c2 : meetP x y = x
            · rw [if_pos c2] at hR2
              rw [if_pos (by rw [c2]; simp)]
              exact ⟨hac2, hR2⟩
            · rw [if_neg c2] at hR2
              rw [if_neg (by simp only [decide_eq_true_eq]; intro z2; exact c2 (Prod.ext z2.1 z2.2))]
              simpa using hR2
          · have e1 : meetD a.C_Stretch x y = .non := by unfold meetD; rw [if_neg c]
            rw [e1]
            refine ⟨_, eqR (t := "NoneType") rfl, _, rfl, ?_⟩
            rw [if_neg (fun z2 => c (by rw [z2]; exact hlt))] at hR2
            rw [if_neg (by decide)]
            simpa using hR2
        · rw [x_newT, fm_if]
          obtain ⟨y, hy, y1, y2⟩ := (joinA_ok (Int.le_refl 0) P).2 x hxm hlt
          have hne : (((joinL P 0).filter fun y => decide (meetP x y = x)).map (sD a.C_Stretch)).isEmpty = false := by
            rw [List.isEmpty_eq_false_iff]
            intro z2
            have : y ∈ (joinL P 0).filter fun y => decide (meetP x y = x) := List.mem_filter.mpr ⟨hy, decide_eq_true (meet_in y1 y2)⟩
            rw [List.map_eq_nil_iff.mp z2] at this
            cases this
          refine ⟨by decide, ⟨_, rfl, rfl, ⟨_, rfl, ?_⟩⟩⟩
          rw [hne, if_neg (by decide)]
          exact ⟨rfl, _, _, _, _, _, _, rfl, rfl, rfl, rfl, rfl, rfl⟩
      · rw [if_neg (by omega)]
        exact ⟨_, _, _, _, _, _, rfl, rfl, rfl, rfl, rfl, rfl⟩
    · rintro ρ S' ⟨rfl, y7, y8, y9, y10, y13, y14, rfl⟩
      refine ⟨trivial, ?_⟩
      exact ⟨_, _, _, _, _, _, _, _, _, _, _, _, _, _, _, ht6.mono (by omega), rfl, rfl⟩
  · rintro ρ S' ⟨o, R0, x2, x3, x4, x5, x6, x7, x8, x9, x10, x11, x12, x13, x14, ht, rfl, rfl⟩
    refine ⟨trivial, ?_⟩
    simp only [↓x_eqSS, ↓x_neSS, ↓gKGet, ↓x_kget, ↓x_ixE, at_last, ↓x_appE, ↓x_tyE, ↓x_itE, ↓x_lenE, ↓x_nePr, ↓x_eqPr, ↓x_neE, ↓x_lenr, ↓x_lenrI, ↓gRev, ↓x_par3, ↓x_par33, ↓x_fld, ↓x_fset, ↓x_mkF, ↓x_mk, ↓x_meth, ↓x_fldO, ↓x_fsetE, ↓x_fldE, ↓x_methO, ↓x_isiCO, ↓x_isiCN, ↓x_isiCT, ↓x_isiCLi, ↓x_isiCS, ↓x_isiCI, ↓x_own, ↓x_eqT2, ↓x_neT2, ↓x_neL4, ↓x_eqLN, ↓x_neNil, ↓x_gset, ↓x_lc, ↓x_for, ↓x_it, ↓x_rn1, ↓x_rn2, ↓x_enu, ↓x_zip, ↓x_itS, ↓x_itL, ↓x_itK, ↓x_itT, ↓x_rn1I, ↓x_rn2I, ↓x_enuL, ↓x_enuK, ↓x_zipL, ↓x_ixS0, ↓x_ixL, ↓x_ixT, ↓x_ixK, x_at0, x_at1, x_at2, x_at3, x_at4, ↓x_set00, ↓x_set01, ↓x_set02, ↓x_aug1, ↓x_aug2, ↓x_aug3, ↓x_aug4, ↓x_aug5, ↓x_aug6, ↓x_aug7, ↓x_aug8, ↓x_aug9, ↓x_aug10, ↓x_aug11, ↓x_aug12, ↓x_aug13, ↓x_aug14, ↓x_aug15, ↓x_aug16, ↓x_aug17, ↓x_aug18, ↓x_aug19, ↓x_aug20, ↓x_aug21, ↓x_aug22, ↓x_aug23, Int.reduceToNat, Int.reducePow, ↓gSeq, ↓gIfS, ↓gSet, ↓gAsg, ↓x_par, ↓x_par2, ↓gRet, ↓gRetN, ↓gNext, ↓gDrop, ↓gBreak, ↓gCont, ↓gDead, ↓gCB, ↓gB2, ↓gU, ↓gC, ↓Dl.gCons, ↓Dl.gNil, ↓Dl.gTup, ↓Dl.gLst, ↓gTest, ↓gOrB, ↓gAndB, ↓gNotB, ↓gAndV, ↓gOrV, ↓gNotV, ↓gIf, ↓gIx, ↓gSl, ↓gPart, ↓gNoP, ↓gMt, ↓gCall, ↓gArgs, ↓gIsN, ↓gNotN, ↓gChain, ↓x_fmtS, ↓x_afS, ↓x_afI, ↓x_js0, ↓x_jsc, ↓gJoined, ↓gYes, ↓x_bnm, ↓x_btp, ↓x_bn, ↓x_bc, ↓x_nnN, ↓x_nnI, ↓x_nnS, ↓x_nnB, ↓x_nnT, ↓x_nnL, ↓x_nnO, ↓x_nnl, ↓x_tyS, ↓x_tyL, ↓x_i2, ↓aSub, ↓aFdiv, ↓aMod, ↓aPow, ↓aShr, ↓aLt, ↓aLe, ↓aGt, ↓aGe, ↓x_addI, ↓x_addS, ↓x_mulI, ↓x_iaddS, ↓x_iaddI, ↓x_neg, ↓x_eqI, ↓x_neI, ↓x_eqS, ↓x_neS, ↓x_eqB, ↓x_neB, ↓x_eqNI, ↓x_neNI, ↓x_lenS, ↓x_lenL_l, ↓x_lenL_k, ↓x_lenL_t, ↓x_str, ↓x_intI, ↓x_intB, ↓x_divmod, ↓x_max2, ↓x_min2, ↓x_ixS, ↓x_slS, ↓x_slT, ↓x_slL_l, ↓x_slL_k, ↓x_inS, ↓x_newT, ↓x_newF, ↓x_si, ↓x_s1, ↓x_s0, ↓x_rpart, ↓x_part, ↓x_a1, ↓x_a2, ↓x_isiStr, ↓x_isiInt, ↓x_isiIntB, ↓x_isiIntS, ↓x_isiBB, ↓x_isiBI, ↓x_isiStrI, ↓x_isiNonI, ↓x_isiNonS, ↓x_isiT, ↓x_isiL, ↓x_var0, ↓x_varS, ↓x_ex, ↓x_aug0, gat, pick, Option.some.injEq, D.bl.injEq, D.int.injEq, D.str.injEq, D.tup.injEq, D.lst.injEq, List.cons.injEq, and_true, true_and, List.set_cons_zero, List.set_cons_succ, List.length_cons, List.length_nil, List.filterMap_cons, List.filterMap_nil, List.getElem?_cons_zero, List.getElem?_cons_succ, Option.bind_some, ↓reduceIte, if_true, if_false, Bool.false_eq_true, Bool.true_eq_false, decide_eq_true_eq, beq_self_eq_true, Bool.not_true, Bool.not_false, Bool.not_eq_true', decide_eq_false_iff_not, exists_eq_left', exists_eq_left, exists_eq, ↓x_dnT, ↓x_dnF, ↓gAsgL, ↓gMMDef, ↓gDSet, ↓gSItems, ↓x_nilL, ↓x_nilE, List.isEmpty_nil, List.isEmpty_cons, Bool.true_xor, Bool.false_xor, ↓gOrT, ↓gAndT, ↓gTryAs, ↓gTryO, ↓gRaise, ↓gCallX, ↓gMethX, ↓gMakeX, ↓gFldX, ↓x_inXs, Bool.false_xor, Bool.true_xor, ↓gOrS, ↓gSortK]
    exact h _
end
end Lw
namespace Lw
open PySem L2 Dl
section
variable {P : Program} {w : World} {K : PySem.W.Frag} {mg : Str → Option Value} {base : Heap} {a : Ad}
theorem ok_Stretch_init (T : Txt K mg a) : CFn P w K mg base "Stretch" a.C_Stretch "Stretch.__init__" s_Stretch_init dv_Stretch_init 1 ps_Stretch_init (sp_Stretch_init a) :=
  cfn_of0 T.mC_Stretch T.b_Stretch_init sc_Stretch_init (by intro ds S q h; first | (cases h with | inl h => (first | (obtain ⟨rfl, _⟩ := h; rfl) | (obtain ⟨_, _, _, _, ⟨_, _, rfl, _⟩, _⟩ := h; rfl) | (obtain ⟨_, rfl, _⟩ := h; rfl) | (obtain ⟨_, _, rfl, _⟩ := h; rfl) | (obtain ⟨_, _, _, rfl, _⟩ := h; rfl) | (obtain ⟨_, _, _, _, rfl, _⟩ := h; rfl) | (obtain ⟨_, _, _, _, _, rfl, _⟩ := h; rfl) | (obtain ⟨_, _, _, _, _, _, rfl, _⟩ := h; rfl) | (obtain ⟨_, _, _, _, _, _, _, rfl, _⟩ := h; rfl) | (obtain ⟨_, _, _, _, _, _, _, _, rfl, _⟩ := h; rfl) | (obtain ⟨_, _, _, _, _, _, _, _, _, rfl, _⟩ := h; rfl) | (obtain ⟨_, _, _, _, _, _, _, _, _, _, rfl, _⟩ := h; rfl) | (obtain ⟨_, _, _, _, _, _, _, _, _, _, _, rfl, _⟩ := h; rfl) | (obtain ⟨_, _, _, _, _, _, _, _, _, _, _, _, rfl, _⟩ := h; rfl) | (obtain ⟨_, _, _, _, _, _, _, _, _, _, _, _, _, rfl, _⟩ := h; rfl) | exact Mt.tk_len rfl h | (obtain ⟨_, h⟩ := h; exact Mt.tk_len rfl h) | (obtain ⟨_, _, h⟩ := h; exact Mt.tk_len rfl h) | (obtain ⟨_, _, _, h⟩ := h; exact Mt.tk_len rfl h) | (obtain ⟨_, _, _, _, h⟩ := h; exact Mt.tk_len rfl h) | (obtain ⟨_, _, _, _, _, h⟩ := h; exact Mt.tk_len rfl h) | (obtain ⟨_, _, _, _, _, _, h⟩ := h; exact Mt.tk_len rfl h) | (obtain ⟨_, _, _, _, _, _, _, h⟩ := h; exact Mt.tk_len rfl h) | (obtain ⟨_, _, _, _, _, _, _, _, h⟩ := h; exact Mt.tk_len rfl h) | (obtain ⟨_, _, _, _, _, _, _, _, _, h⟩ := h; exact Mt.tk_len rfl h) | (obtain ⟨_, _, _, _, _, _, _, _, _, _, h⟩ := h; exact Mt.tk_len rfl h) | (obtain ⟨_, _, _, _, _, _, _, _, _, _, _, h⟩ := h; exact Mt.tk_len rfl h) | (obtain ⟨_, _, _, _, _, _, _, _, _, _, _, _, h⟩ := h; exact Mt.tk_len rfl h) | (obtain ⟨_, _, _, _, _, _, _, _, _, _, _, _, _, h⟩ := h; exact Mt.tk_len rfl h) | (obtain ⟨_, _, _, _, _, _, _, _, _, _, _, _, _, _, h⟩ := h; exact Mt.tk_len rfl h) | (obtain ⟨_, _, _, _, _, _, _, _, _, _, _, _, _, _, _, h⟩ := h; exact Mt.tk_len rfl h)) | inr h => (first | (obtain ⟨rfl, _⟩ := h; rfl) | (obtain ⟨_, _, _, _, ⟨_, _, rfl, _⟩, _⟩ := h; rfl) | (obtain ⟨_, rfl, _⟩ := h; rfl) | (obtain ⟨_, _, rfl, _⟩ := h; rfl) | (obtain ⟨_, _, _, rfl, _⟩ := h; rfl) | (obtain ⟨_, _, _, _, rfl, _⟩ := h; rfl) | (obtain ⟨_, _, _, _, _, rfl, _⟩ := h; rfl) | (obtain ⟨_, _, _, _, _, _, rfl, _⟩ := h; rfl) | (obtain ⟨_, _, _, _, _, _, _, rfl, _⟩ := h; rfl) | (obtain ⟨_, _, _, _, _, _, _, _, rfl, _⟩ := h; rfl) | (obtain ⟨_, _, _, _, _, _, _, _, _, rfl, _⟩ := h; rfl) | (obtain ⟨_, _, _, _, _, _, _, _, _, _, rfl, _⟩ := h; rfl) | (obtain ⟨_, _, _, _, _, _, _, _, _, _, _, rfl, _⟩ := h; rfl) | (obtain ⟨_, _, _, _, _, _, _, _, _, _, _, _, rfl, _⟩ := h; rfl) | (obtain ⟨_, _, _, _, _, _, _, _, _, _, _, _, _, rfl, _⟩ := h; rfl) | exact Mt.tk_len rfl h | (obtain ⟨_, h⟩ := h; exact Mt.tk_len rfl h) | (obtain ⟨_, _, h⟩ := h; exact Mt.tk_len rfl h) | (obtain ⟨_, _, _, h⟩ := h; exact Mt.tk_len rfl h) | (obtain ⟨_, _, _, _, h⟩ := h; exact Mt.tk_len rfl h) | (obtain ⟨_, _, _, _, _, h⟩ := h; exact Mt.tk_len rfl h) | (obtain ⟨_, _, _, _, _, _, h⟩ := h; exact Mt.tk_len rfl h) | (obtain ⟨_, _, _, _, _, _, _, h⟩ := h; exact Mt.tk_len rfl h) | (obtain ⟨_, _, _, _, _, _, _, _, h⟩ := h; exact Mt.tk_len rfl h) | (obtain ⟨_, _, _, _, _, _, _, _, _, h⟩ := h; exact Mt.tk_len rfl h) | (obtain ⟨_, _, _, _, _, _, _, _, _, _, h⟩ := h; exact Mt.tk_len rfl h) | (obtain ⟨_, _, _, _, _, _, _, _, _, _, _, h⟩ := h; exact Mt.tk_len rfl h) | (obtain ⟨_, _, _, _, _, _, _, _, _, _, _, _, h⟩ := h; exact Mt.tk_len rfl h) | (obtain ⟨_, _, _, _, _, _, _, _, _, _, _, _, _, h⟩ := h; exact Mt.tk_len rfl h) | (obtain ⟨_, _, _, _, _, _, _, _, _, _, _, _, _, _, h⟩ := h; exact Mt.tk_len rfl h) | (obtain ⟨_, _, _, _, _, _, _, _, _, _, _, _, _, _, _, h⟩ := h; exact Mt.tk_len rfl h))) | (first | (obtain ⟨rfl, _⟩ := h; rfl) | (obtain ⟨_, _, _, _, ⟨_, _, rfl, _⟩, _⟩ := h; rfl) | (obtain ⟨_, rfl, _⟩ := h; rfl) | (obtain ⟨_, _, rfl, _⟩ := h; rfl) | (obtain ⟨_, _, _, rfl, _⟩ := h; rfl) | (obtain ⟨_, _, _, _, rfl, _⟩ := h; rfl) | (obtain ⟨_, _, _, _, _, rfl, _⟩ := h; rfl) | (obtain ⟨_, _, _, _, _, _, rfl, _⟩ := h; rfl) | (obtain ⟨_, _, _, _, _, _, _, rfl, _⟩ := h; rfl) | (obtain ⟨_, _, _, _, _, _, _, _, rfl, _⟩ := h; rfl) | (obtain ⟨_, _, _, _, _, _, _, _, _, rfl, _⟩ := h; rfl) | (obtain ⟨_, _, _, _, _, _, _, _, _, _, rfl, _⟩ := h; rfl) | (obtain ⟨_, _, _, _, _, _, _, _, _, _, _, rfl, _⟩ := h; rfl) | (obtain ⟨_, _, _, _, _, _, _, _, _, _, _, _, rfl, _⟩ := h; rfl) | (obtain ⟨_, _, _, _, _, _, _, _, _, _, _, _, _, rfl, _⟩ := h; rfl) | exact Mt.tk_len rfl h | (obtain ⟨_, h⟩ := h; exact Mt.tk_len rfl h) | (obtain ⟨_, _, h⟩ := h; exact Mt.tk_len rfl h) | (obtain ⟨_, _, _, h⟩ := h; exact Mt.tk_len rfl h) | (obtain ⟨_, _, _, _, h⟩ := h; exact Mt.tk_len rfl h) | (obtain ⟨_, _, _, _, _, h⟩ := h; exact Mt.tk_len rfl h) | (obtain ⟨_, _, _, _, _, _, h⟩ := h; exact Mt.tk_len rfl h) | (obtain ⟨_, _, _, _, _, _, _, h⟩ := h; exact Mt.tk_len rfl h) | (obtain ⟨_, _, _, _, _, _, _, _, h⟩ := h; exact Mt.tk_len rfl h) | (obtain ⟨_, _, _, _, _, _, _, _, _, h⟩ := h; exact Mt.tk_len rfl h) | (obtain ⟨_, _, _, _, _, _, _, _, _, _, h⟩ := h; exact Mt.tk_len rfl h) | (obtain ⟨_, _, _, _, _, _, _, _, _, _, _, h⟩ := h; exact Mt.tk_len rfl h) | (obtain ⟨_, _, _, _, _, _, _, _, _, _, _, _, h⟩ := h; exact Mt.tk_len rfl h) | (obtain ⟨_, _, _, _, _, _, _, _, _, _, _, _, _, h⟩ := h; exact Mt.tk_len rfl h) | (obtain ⟨_, _, _, _, _, _, _, _, _, _, _, _, _, _, h⟩ := h; exact Mt.tk_len rfl h) | (obtain ⟨_, _, _, _, _, _, _, _, _, _, _, _, _, _, _, h⟩ := h; exact Mt.tk_len rfl h))) (g_Stretch_init K a) (fun f cdv A outer s H E hr => t_Stretch_init T  hr) (fun ds S q _ _ h => r_Stretch_init T ds S q h)
theorem ok_Stretch_len (T : Txt K mg a) : MFn P w K mg base a.C_Stretch "__len__" "Stretch.__len__" s_Stretch_len dv_Stretch_len 1 ps_Stretch_len (sp_Stretch_len a) :=
  mfn_of0 T.cl_Stretch T.b_Stretch_len sc_Stretch_len (by intro ds S q h; obtain ⟨_, rfl, _⟩ := h; rfl) (g_Stretch_len K a) (fun f cdv A outer s H E hr => t_Stretch_len T  hr) (fun ds S q _ _ h => r_Stretch_len T ds S q h)
theorem ok_Stretch_eq (T : Txt K mg a) : MFn P w K mg base a.C_Stretch "__eq__" "Stretch.__eq__" s_Stretch_eq dv_Stretch_eq 1 ps_Stretch_eq (sp_Stretch_eq a) :=
  mfn_of0 T.cl_Stretch T.b_Stretch_eq sc_Stretch_eq (by intro ds S q h; obtain ⟨_, _, _, _, rfl, _⟩ := h; rfl) (g_Stretch_eq K a) (fun f cdv A outer s H E hr => t_Stretch_eq T  hr) (fun ds S q _ _ h => r_Stretch_eq T ds S q h)
theorem ok_meet (T : Txt K mg a) : Fnc P w K mg base "meet" s_meet dv_meet 3 ps_meet (sp_meet a) :=
  fnc_of0 T.b_meet sc_meet (by intro ds S q h; obtain ⟨_, _, rfl, _⟩ := h; rfl) (g_meet K a) (fun f cdv A outer s H E hr => t_meet T (ok_Stretch_init T) hr) (fun ds S q _ _ h => r_meet T ds S q h)
theorem ok_joined (T : Txt K mg a) : Fnc P w K mg base "joined" s_joined dv_joined 3 ps_joined (sp_joined a) :=
  fnc_of T.b_joined sc_joined (by intro ds S q h; obtain ⟨_, _, rfl, _⟩ := h; rfl) (g_joined K a) (fun f cdv A outer s H E hr => t_joined T (ok_Stretch_init T) (ok_Stretch_len T) hr) (rf_joined T)
theorem ok_gaps (T : Txt K mg a) : Fnc P w K mg base "gaps" s_gaps dv_gaps 4 ps_gaps (sp_gaps a) :=
  fnc_of T.b_gaps sc_gaps (by intro ds S q h; obtain ⟨_, _, rfl, _⟩ := h; rfl) (g_gaps K a) (fun f cdv A outer s H E hr => t_gaps T (ok_Stretch_init T) (ok_joined T) hr) (rf_gaps T)
theorem ok_minutes_in (T : Txt K mg a) : Fnc P w K mg base "minutes_in" s_minutes_in dv_minutes_in 4 ps_minutes_in (sp_minutes_in a) :=
  fnc_of0 T.b_minutes_in sc_minutes_in (by intro ds S q h; obtain ⟨_, rfl, _⟩ := h; rfl) (g_minutes_in K a) (fun f cdv A outer s H E hr => t_minutes_in T (ok_Stretch_len T) (ok_joined T) hr) (fun ds S q _ _ h => r_minutes_in T ds S q h)
theorem ok__law_tape (T : Txt K mg a) : Fnc P w K mg base "_law_tape" s__law_tape dv__law_tape 1 ps__law_tape (sp__law_tape a) :=
  fnc_of0 T.b__law_tape sc__law_tape (by intro ds S q h; first | (cases h with | inl h => (first | (obtain ⟨rfl, _⟩ := h; rfl) | (obtain ⟨_, _, _, _, ⟨_, _, rfl, _⟩, _⟩ := h; rfl) | (obtain ⟨_, rfl, _⟩ := h; rfl) | (obtain ⟨_, _, rfl, _⟩ := h; rfl) | (obtain ⟨_, _, _, rfl, _⟩ := h; rfl) | (obtain ⟨_, _, _, _, rfl, _⟩ := h; rfl) | (obtain ⟨_, _, _, _, _, rfl, _⟩ := h; rfl) | (obtain ⟨_, _, _, _, _, _, rfl, _⟩ := h; rfl) | (obtain ⟨_, _, _, _, _, _, _, rfl, _⟩ := h; rfl) | (obtain ⟨_, _, _, _, _, _, _, _, rfl, _⟩ := h; rfl) | (obtain ⟨_, _, _, _, _, _, _, _, _, rfl, _⟩ := h; rfl) | (obtain ⟨_, _, _, _, _, _, _, _, _, _, rfl, _⟩ := h; rfl) | (obtain ⟨_, _, _, _, _, _, _, _, _, _, _, rfl, _⟩ := h; rfl) | (obtain ⟨_, _, _, _, _, _, _, _, _, _, _, _, rfl, _⟩ := h; rfl) | (obtain ⟨_, _, _, _, _, _, _, _, _, _, _, _, _, rfl, _⟩ := h; rfl) | exact Mt.tk_len rfl h | (obtain ⟨_, h⟩ := h; exact Mt.tk_len rfl h) | (obtain ⟨_, _, h⟩ := h; exact Mt.tk_len rfl h) | (obtain ⟨_, _, _, h⟩ := h; exact Mt.tk_len rfl h) | (obtain ⟨_, _, _, _, h⟩ := h; exact Mt.tk_len rfl h) | (obtain ⟨_, _, _, _, _, h⟩ := h; exact Mt.tk_len rfl h) | (obtain ⟨_, _, _, _, _, _, h⟩ := h; exact Mt.tk_len rfl h) | (obtain ⟨_, _, _, _, _, _, _, h⟩ := h; exact Mt.tk_len rfl h) | (obtain ⟨_, _, _, _, _, _, _, _, h⟩ := h; exact Mt.tk_len rfl h) | (obtain ⟨_, _, _, _, _, _, _, _, _, h⟩ := h; exact Mt.tk_len rfl h) | (obtain ⟨_, _, _, _, _, _, _, _, _, _, h⟩ := h; exact Mt.tk_len rfl h) | (obtain ⟨_, _, _, _, _, _, _, _, _, _, _, h⟩ := h; exact Mt.tk_len rfl h) | (obtain ⟨_, _, _, _, _, _, _, _, _, _, _, _, h⟩ := h; exact Mt.tk_len rfl h) | (obtain ⟨_, _, _, _, _, _, _, _, _, _, _, _, _, h⟩ := h; exact Mt.tk_len rfl h) | (obtain ⟨_, _, _, _, _, _, _, _, _, _, _, _, _, _, h⟩ := h; exact Mt.tk_len rfl h) | (obtain ⟨_, _, _, _, _, _, _, _, _, _, _, _, _, _, _, h⟩ := h; exact Mt.tk_len rfl h)) | inr h => (first | (obtain ⟨rfl, _⟩ := h; rfl) | (obtain ⟨_, _, _, _, ⟨_, _, rfl, _⟩, _⟩ := h; rfl) | (obtain ⟨_, rfl, _⟩ := h; rfl) | (obtain ⟨_, _, rfl, _⟩ := h; rfl) | (obtain ⟨_, _, _, rfl, _⟩ := h; rfl) | (obtain ⟨_, _, _, _, rfl, _⟩ := h; rfl) | (obtain ⟨_, _, _, _, _, rfl, _⟩ := h; rfl) | (obtain ⟨_, _, _, _, _, _, rfl, _⟩ := h; rfl) | (obtain ⟨_, _, _, _, _, _, _, rfl, _⟩ := h; rfl) | (obtain ⟨_, _, _, _, _, _, _, _, rfl, _⟩ := h; rfl) | (obtain ⟨_, _, _, _, _, _, _, _, _, rfl, _⟩ := h; rfl) | (obtain ⟨_, _, _, _, _, _, _, _, _, _, rfl, _⟩ := h; rfl) | (obtain ⟨_, _, _, _, _, _, _, _, _, _, _, rfl, _⟩ := h; rfl) | (obtain ⟨_, _, _, _, _, _, _, _, _, _, _, _, rfl, _⟩ := h; rfl) | (obtain ⟨_, _, _, _, _, _, _, _, _, _, _, _, _, rfl, _⟩ := h; rfl) | exact Mt.tk_len rfl h | (obtain ⟨_, h⟩ := h; exact Mt.tk_len rfl h) | (obtain ⟨_, _, h⟩ := h; exact Mt.tk_len rfl h) | (obtain ⟨_, _, _, h⟩ := h; exact Mt.tk_len rfl h) | (obtain ⟨_, _, _, _, h⟩ := h; exact Mt.tk_len rfl h) | (obtain ⟨_, _, _, _, _, h⟩ := h; exact Mt.tk_len rfl h) | (obtain ⟨_, _, _, _, _, _, h⟩ := h; exact Mt.tk_len rfl h) | (obtain ⟨_, _, _, _, _, _, _, h⟩ := h; exact Mt.tk_len rfl h) | (obtain ⟨_, _, _, _, _, _, _, _, h⟩ := h; exact Mt.tk_len rfl h) | (obtain ⟨_, _, _, _, _, _, _, _, _, h⟩ := h; exact Mt.tk_len rfl h) | (obtain ⟨_, _, _, _, _, _, _, _, _, _, h⟩ := h; exact Mt.tk_len rfl h) | (obtain ⟨_, _, _, _, _, _, _, _, _, _, _, h⟩ := h; exact Mt.tk_len rfl h) | (obtain ⟨_, _, _, _, _, _, _, _, _, _, _, _, h⟩ := h; exact Mt.tk_len rfl h) | (obtain ⟨_, _, _, _, _, _, _, _, _, _, _, _, _, h⟩ := h; exact Mt.tk_len rfl h) | (obtain ⟨_, _, _, _, _, _, _, _, _, _, _, _, _, _, h⟩ := h; exact Mt.tk_len rfl h) | (obtain ⟨_, _, _, _, _, _, _, _, _, _, _, _, _, _, _, h⟩ := h; exact Mt.tk_len rfl h))) | (first | (obtain ⟨rfl, _⟩ := h; rfl) | (obtain ⟨_, _, _, _, ⟨_, _, rfl, _⟩, _⟩ := h; rfl) | (obtain ⟨_, rfl, _⟩ := h; rfl) | (obtain ⟨_, _, rfl, _⟩ := h; rfl) | (obtain ⟨_, _, _, rfl, _⟩ := h; rfl) | (obtain ⟨_, _, _, _, rfl, _⟩ := h; rfl) | (obtain ⟨_, _, _, _, _, rfl, _⟩ := h; rfl) | (obtain ⟨_, _, _, _, _, _, rfl, _⟩ := h; rfl) | (obtain ⟨_, _, _, _, _, _, _, rfl, _⟩ := h; rfl) | (obtain ⟨_, _, _, _, _, _, _, _, rfl, _⟩ := h; rfl) | (obtain ⟨_, _, _, _, _, _, _, _, _, rfl, _⟩ := h; rfl) | (obtain ⟨_, _, _, _, _, _, _, _, _, _, rfl, _⟩ := h; rfl) | (obtain ⟨_, _, _, _, _, _, _, _, _, _, _, rfl, _⟩ := h; rfl) | (obtain ⟨_, _, _, _, _, _, _, _, _, _, _, _, rfl, _⟩ := h; rfl) | (obtain ⟨_, _, _, _, _, _, _, _, _, _, _, _, _, rfl, _⟩ := h; rfl) | exact Mt.tk_len rfl h | (obtain ⟨_, h⟩ := h; exact Mt.tk_len rfl h) | (obtain ⟨_, _, h⟩ := h; exact Mt.tk_len rfl h) | (obtain ⟨_, _, _, h⟩ := h; exact Mt.tk_len rfl h) | (obtain ⟨_, _, _, _, h⟩ := h; exact Mt.tk_len rfl h) | (obtain ⟨_, _, _, _, _, h⟩ := h; exact Mt.tk_len rfl h) | (obtain ⟨_, _, _, _, _, _, h⟩ := h; exact Mt.tk_len rfl h) | (obtain ⟨_, _, _, _, _, _, _, h⟩ := h; exact Mt.tk_len rfl h) | (obtain ⟨_, _, _, _, _, _, _, _, h⟩ := h; exact Mt.tk_len rfl h) | (obtain ⟨_, _, _, _, _, _, _, _, _, h⟩ := h; exact Mt.tk_len rfl h) | (obtain ⟨_, _, _, _, _, _, _, _, _, _, h⟩ := h; exact Mt.tk_len rfl h) | (obtain ⟨_, _, _, _, _, _, _, _, _, _, _, h⟩ := h; exact Mt.tk_len rfl h) | (obtain ⟨_, _, _, _, _, _, _, _, _, _, _, _, h⟩ := h; exact Mt.tk_len rfl h) | (obtain ⟨_, _, _, _, _, _, _, _, _, _, _, _, _, h⟩ := h; exact Mt.tk_len rfl h) | (obtain ⟨_, _, _, _, _, _, _, _, _, _, _, _, _, _, h⟩ := h; exact Mt.tk_len rfl h) | (obtain ⟨_, _, _, _, _, _, _, _, _, _, _, _, _, _, _, h⟩ := h; exact Mt.tk_len rfl h))) (g__law_tape K a) (fun f cdv A outer s H E hr => t__law_tape T  hr) (fun ds S q _ _ h => r__law_tape ds S q h)
theorem ok__law_draw (T : Txt K mg a) : Fnc P w K mg base "_law_draw" s__law_draw dv__law_draw 1 ps__law_draw (sp__law_draw a) :=
  fnc_of0 T.b__law_draw sc__law_draw (by intro ds S q h; first | (cases h with | inl h => (first | (obtain ⟨rfl, _⟩ := h; rfl) | (obtain ⟨_, _, _, _, ⟨_, _, rfl, _⟩, _⟩ := h; rfl) | (obtain ⟨_, rfl, _⟩ := h; rfl) | (obtain ⟨_, _, rfl, _⟩ := h; rfl) | (obtain ⟨_, _, _, rfl, _⟩ := h; rfl) | (obtain ⟨_, _, _, _, rfl, _⟩ := h; rfl) | (obtain ⟨_, _, _, _, _, rfl, _⟩ := h; rfl) | (obtain ⟨_, _, _, _, _, _, rfl, _⟩ := h; rfl) | (obtain ⟨_, _, _, _, _, _, _, rfl, _⟩ := h; rfl) | (obtain ⟨_, _, _, _, _, _, _, _, rfl, _⟩ := h; rfl) | (obtain ⟨_, _, _, _, _, _, _, _, _, rfl, _⟩ := h; rfl) | (obtain ⟨_, _, _, _, _, _, _, _, _, _, rfl, _⟩ := h; rfl) | (obtain ⟨_, _, _, _, _, _, _, _, _, _, _, rfl, _⟩ := h; rfl) | (obtain ⟨_, _, _, _, _, _, _, _, _, _, _, _, rfl, _⟩ := h; rfl) | (obtain ⟨_, _, _, _, _, _, _, _, _, _, _, _, _, rfl, _⟩ := h; rfl) | exact Mt.tk_len rfl h | (obtain ⟨_, h⟩ := h; exact Mt.tk_len rfl h) | (obtain ⟨_, _, h⟩ := h; exact Mt.tk_len rfl h) | (obtain ⟨_, _, _, h⟩ := h; exact Mt.tk_len rfl h) | (obtain ⟨_, _, _, _, h⟩ := h; exact Mt.tk_len rfl h) | (obtain ⟨_, _, _, _, _, h⟩ := h; exact Mt.tk_len rfl h) | (obtain ⟨_, _, _, _, _, _, h⟩ := h; exact Mt.tk_len rfl h) | (obtain ⟨_, _, _, _, _, _, _, h⟩ := h; exact Mt.tk_len rfl h) | (obtain ⟨_, _, _, _, _, _, _, _, h⟩ := h; exact Mt.tk_len rfl h) | (obtain ⟨_, _, _, _, _, _, _, _, _, h⟩ := h; exact Mt.tk_len rfl h) | (obtain ⟨_, _, _, _, _, _, _, _, _, _, h⟩ := h; exact Mt.tk_len rfl h) | (obtain ⟨_, _, _, _, _, _, _, _, _, _, _, h⟩ := h; exact Mt.tk_len rfl h) | (obtain ⟨_, _, _, _, _, _, _, _, _, _, _, _, h⟩ := h; exact Mt.tk_len rfl h) | (obtain ⟨_, _, _, _, _, _, _, _, _, _, _, _, _, h⟩ := h; exact Mt.tk_len rfl h) | (obtain ⟨_, _, _, _, _, _, _, _, _, _, _, _, _, _, h⟩ := h; exact Mt.tk_len rfl h) | (obtain ⟨_, _, _, _, _, _, _, _, _, _, _, _, _, _, _, h⟩ := h; exact Mt.tk_len rfl h)) | inr h => (first | (obtain ⟨rfl, _⟩ := h; rfl) | (obtain ⟨_, _, _, _, ⟨_, _, rfl, _⟩, _⟩ := h; rfl) | (obtain ⟨_, rfl, _⟩ := h; rfl) | (obtain ⟨_, _, rfl, _⟩ := h; rfl) | (obtain ⟨_, _, _, rfl, _⟩ := h; rfl) | (obtain ⟨_, _, _, _, rfl, _⟩ := h; rfl) | (obtain ⟨_, _, _, _, _, rfl, _⟩ := h; rfl) | (obtain ⟨_, _, _, _, _, _, rfl, _⟩ := h; rfl) | (obtain ⟨_, _, _, _, _, _, _, rfl, _⟩ := h; rfl) | (obtain ⟨_, _, _, _, _, _, _, _, rfl, _⟩ := h; rfl) | (obtain ⟨_, _, _, _, _, _, _, _, _, rfl, _⟩ := h; rfl) | (obtain ⟨_, _, _, _, _, _, _, _, _, _, rfl, _⟩ := h; rfl) | (obtain ⟨_, _, _, _, _, _, _, _, _, _, _, rfl, _⟩ := h; rfl) | (obtain ⟨_, _, _, _, _, _, _, _, _, _, _, _, rfl, _⟩ := h; rfl) | (obtain ⟨_, _, _, _, _, _, _, _, _, _, _, _, _, rfl, _⟩ := h; rfl) | exact Mt.tk_len rfl h | (obtain ⟨_, h⟩ := h; exact Mt.tk_len rfl h) | (obtain ⟨_, _, h⟩ := h; exact Mt.tk_len rfl h) | (obtain ⟨_, _, _, h⟩ := h; exact Mt.tk_len rfl h) | (obtain ⟨_, _, _, _, h⟩ := h; exact Mt.tk_len rfl h) | (obtain ⟨_, _, _, _, _, h⟩ := h; exact Mt.tk_len rfl h) | (obtain ⟨_, _, _, _, _, _, h⟩ := h; exact Mt.tk_len rfl h) | (obtain ⟨_, _, _, _, _, _, _, h⟩ := h; exact Mt.tk_len rfl h) | (obtain ⟨_, _, _, _, _, _, _, _, h⟩ := h; exact Mt.tk_len rfl h) | (obtain ⟨_, _, _, _, _, _, _, _, _, h⟩ := h; exact Mt.tk_len rfl h) | (obtain ⟨_, _, _, _, _, _, _, _, _, _, h⟩ := h; exact Mt.tk_len rfl h) | (obtain ⟨_, _, _, _, _, _, _, _, _, _, _, h⟩ := h; exact Mt.tk_len rfl h) | (obtain ⟨_, _, _, _, _, _, _, _, _, _, _, _, h⟩ := h; exact Mt.tk_len rfl h) | (obtain ⟨_, _, _, _, _, _, _, _, _, _, _, _, _, h⟩ := h; exact Mt.tk_len rfl h) | (obtain ⟨_, _, _, _, _, _, _, _, _, _, _, _, _, _, h⟩ := h; exact Mt.tk_len rfl h) | (obtain ⟨_, _, _, _, _, _, _, _, _, _, _, _, _, _, _, h⟩ := h; exact Mt.tk_len rfl h))) | (first | (obtain ⟨rfl, _⟩ := h; rfl) | (obtain ⟨_, _, _, _, ⟨_, _, rfl, _⟩, _⟩ := h; rfl) | (obtain ⟨_, rfl, _⟩ := h; rfl) | (obtain ⟨_, _, rfl, _⟩ := h; rfl) | (obtain ⟨_, _, _, rfl, _⟩ := h; rfl) | (obtain ⟨_, _, _, _, rfl, _⟩ := h; rfl) | (obtain ⟨_, _, _, _, _, rfl, _⟩ := h; rfl) | (obtain ⟨_, _, _, _, _, _, rfl, _⟩ := h; rfl) | (obtain ⟨_, _, _, _, _, _, _, rfl, _⟩ := h; rfl) | (obtain ⟨_, _, _, _, _, _, _, _, rfl, _⟩ := h; rfl) | (obtain ⟨_, _, _, _, _, _, _, _, _, rfl, _⟩ := h; rfl) | (obtain ⟨_, _, _, _, _, _, _, _, _, _, rfl, _⟩ := h; rfl) | (obtain ⟨_, _, _, _, _, _, _, _, _, _, _, rfl, _⟩ := h; rfl) | (obtain ⟨_, _, _, _, _, _, _, _, _, _, _, _, rfl, _⟩ := h; rfl) | (obtain ⟨_, _, _, _, _, _, _, _, _, _, _, _, _, rfl, _⟩ := h; rfl) | exact Mt.tk_len rfl h | (obtain ⟨_, h⟩ := h; exact Mt.tk_len rfl h) | (obtain ⟨_, _, h⟩ := h; exact Mt.tk_len rfl h) | (obtain ⟨_, _, _, h⟩ := h; exact Mt.tk_len rfl h) | (obtain ⟨_, _, _, _, h⟩ := h; exact Mt.tk_len rfl h) | (obtain ⟨_, _, _, _, _, h⟩ := h; exact Mt.tk_len rfl h) | (obtain ⟨_, _, _, _, _, _, h⟩ := h; exact Mt.tk_len rfl h) | (obtain ⟨_, _, _, _, _, _, _, h⟩ := h; exact Mt.tk_len rfl h) | (obtain ⟨_, _, _, _, _, _, _, _, h⟩ := h; exact Mt.tk_len rfl h) | (obtain ⟨_, _, _, _, _, _, _, _, _, h⟩ := h; exact Mt.tk_len rfl h) | (obtain ⟨_, _, _, _, _, _, _, _, _, _, h⟩ := h; exact Mt.tk_len rfl h) | (obtain ⟨_, _, _, _, _, _, _, _, _, _, _, h⟩ := h; exact Mt.tk_len rfl h) | (obtain ⟨_, _, _, _, _, _, _, _, _, _, _, _, h⟩ := h; exact Mt.tk_len rfl h) | (obtain ⟨_, _, _, _, _, _, _, _, _, _, _, _, _, h⟩ := h; exact Mt.tk_len rfl h) | (obtain ⟨_, _, _, _, _, _, _, _, _, _, _, _, _, _, h⟩ := h; exact Mt.tk_len rfl h) | (obtain ⟨_, _, _, _, _, _, _, _, _, _, _, _, _, _, _, h⟩ := h; exact Mt.tk_len rfl h))) (g__law_draw K a) (fun f cdv A outer s H E hr => t__law_draw T  hr) (fun ds S q _ _ h => r__law_draw ds S q h)
theorem ok__law_pick (T : Txt K mg a) : Fnc P w K mg base "_law_pick" s__law_pick dv__law_pick 2 ps__law_pick (sp__law_pick a) :=
  fnc_of0 T.b__law_pick sc__law_pick (by intro ds S q h; first | (cases h with | inl h => (first | (obtain ⟨rfl, _⟩ := h; rfl) | (obtain ⟨_, _, _, _, ⟨_, _, rfl, _⟩, _⟩ := h; rfl) | (obtain ⟨_, rfl, _⟩ := h; rfl) | (obtain ⟨_, _, rfl, _⟩ := h; rfl) | (obtain ⟨_, _, _, rfl, _⟩ := h; rfl) | (obtain ⟨_, _, _, _, rfl, _⟩ := h; rfl) | (obtain ⟨_, _, _, _, _, rfl, _⟩ := h; rfl) | (obtain ⟨_, _, _, _, _, _, rfl, _⟩ := h; rfl) | (obtain ⟨_, _, _, _, _, _, _, rfl, _⟩ := h; rfl) | (obtain ⟨_, _, _, _, _, _, _, _, rfl, _⟩ := h; rfl) | (obtain ⟨_, _, _, _, _, _, _, _, _, rfl, _⟩ := h; rfl) | (obtain ⟨_, _, _, _, _, _, _, _, _, _, rfl, _⟩ := h; rfl) | (obtain ⟨_, _, _, _, _, _, _, _, _, _, _, rfl, _⟩ := h; rfl) | (obtain ⟨_, _, _, _, _, _, _, _, _, _, _, _, rfl, _⟩ := h; rfl) | (obtain ⟨_, _, _, _, _, _, _, _, _, _, _, _, _, rfl, _⟩ := h; rfl) | exact Mt.tk_len rfl h | (obtain ⟨_, h⟩ := h; exact Mt.tk_len rfl h) | (obtain ⟨_, _, h⟩ := h; exact Mt.tk_len rfl h) | (obtain ⟨_, _, _, h⟩ := h; exact Mt.tk_len rfl h) | (obtain ⟨_, _, _, _, h⟩ := h; exact Mt.tk_len rfl h) | (obtain ⟨_, _, _, _, _, h⟩ := h; exact Mt.tk_len rfl h) | (obtain ⟨_, _, _, _, _, _, h⟩ := h; exact Mt.tk_len rfl h) | (obtain ⟨_, _, _, _, _, _, _, h⟩ := h; exact Mt.tk_len rfl h) | (obtain ⟨_, _, _, _, _, _, _, _, h⟩ := h; exact Mt.tk_len rfl h) | (obtain ⟨_, _, _, _, _, _, _, _, _, h⟩ := h; exact Mt.tk_len rfl h) | (obtain ⟨_, _, _, _, _, _, _, _, _, _, h⟩ := h; exact Mt.tk_len rfl h) | (obtain ⟨_, _, _, _, _, _, _, _, _, _, _, h⟩ := h; exact Mt.tk_len rfl h) | (obtain ⟨_, _, _, _, _, _, _, _, _, _, _, _, h⟩ := h; exact Mt.tk_len rfl h) | (obtain ⟨_, _, _, _, _, _, _, _, _, _, _, _, _, h⟩ := h; exact Mt.tk_len rfl h) | (obtain ⟨_, _, _, _, _, _, _, _, _, _, _, _, _, _, h⟩ := h; exact Mt.tk_len rfl h) | (obtain ⟨_, _, _, _, _, _, _, _, _, _, _, _, _, _, _, h⟩ := h; exact Mt.tk_len rfl h)) | inr h => (first | (obtain ⟨rfl, _⟩ := h; rfl) | (obtain ⟨_, _, _, _, ⟨_, _, rfl, _⟩, _⟩ := h; rfl) | (obtain ⟨_, rfl, _⟩ := h; rfl) | (obtain ⟨_, _, rfl, _⟩ := h; rfl) | (obtain ⟨_, _, _, rfl, _⟩ := h; rfl) | (obtain ⟨_, _, _, _, rfl, _⟩ := h; rfl) | (obtain ⟨_, _, _, _, _, rfl, _⟩ := h; rfl) | (obtain ⟨_, _, _, _, _, _, rfl, _⟩ := h; rfl) | (obtain ⟨_, _, _, _, _, _, _, rfl, _⟩ := h; rfl) | (obtain ⟨_, _, _, _, _, _, _, _, rfl, _⟩ := h; rfl) | (obtain ⟨_, _, _, _, _, _, _, _, _, rfl, _⟩ := h; rfl) | (obtain ⟨_, _, _, _, _, _, _, _, _, _, rfl, _⟩ := h; rfl) | (obtain ⟨_, _, _, _, _, _, _, _, _, _, _, rfl, _⟩ := h; rfl) | (obtain ⟨_, _, _, _, _, _, _, _, _, _, _, _, rfl, _⟩ := h; rfl) | (obtain ⟨_, _, _, _, _, _, _, _, _, _, _, _, _, rfl, _⟩ := h; rfl) | exact Mt.tk_len rfl h | (obtain ⟨_, h⟩ := h; exact Mt.tk_len rfl h) | (obtain ⟨_, _, h⟩ := h; exact Mt.tk_len rfl h) | (obtain ⟨_, _, _, h⟩ := h; exact Mt.tk_len rfl h) | (obtain ⟨_, _, _, _, h⟩ := h; exact Mt.tk_len rfl h) | (obtain ⟨_, _, _, _, _, h⟩ := h; exact Mt.tk_len rfl h) | (obtain ⟨_, _, _, _, _, _, h⟩ := h; exact Mt.tk_len rfl h) | (obtain ⟨_, _, _, _, _, _, _, h⟩ := h; exact Mt.tk_len rfl h) | (obtain ⟨_, _, _, _, _, _, _, _, h⟩ := h; exact Mt.tk_len rfl h) | (obtain ⟨_, _, _, _, _, _, _, _, _, h⟩ := h; exact Mt.tk_len rfl h) | (obtain ⟨_, _, _, _, _, _, _, _, _, _, h⟩ := h; exact Mt.tk_len rfl h) | (obtain ⟨_, _, _, _, _, _, _, _, _, _, _, h⟩ := h; exact Mt.tk_len rfl h) | (obtain ⟨_, _, _, _, _, _, _, _, _, _, _, _, h⟩ := h; exact Mt.tk_len rfl h) | (obtain ⟨_, _, _, _, _, _, _, _, _, _, _, _, _, h⟩ := h; exact Mt.tk_len rfl h) | (obtain ⟨_, _, _, _, _, _, _, _, _, _, _, _, _, _, h⟩ := h; exact Mt.tk_len rfl h) | (obtain ⟨_, _, _, _, _, _, _, _, _, _, _, _, _, _, _, h⟩ := h; exact Mt.tk_len rfl h))) | (first | (obtain ⟨rfl, _⟩ := h; rfl) | (obtain ⟨_, _, _, _, ⟨_, _, rfl, _⟩, _⟩ := h; rfl) | (obtain ⟨_, rfl, _⟩ := h; rfl) | (obtain ⟨_, _, rfl, _⟩ := h; rfl) | (obtain ⟨_, _, _, rfl, _⟩ := h; rfl) | (obtain ⟨_, _, _, _, rfl, _⟩ := h; rfl) | (obtain ⟨_, _, _, _, _, rfl, _⟩ := h; rfl) | (obtain ⟨_, _, _, _, _, _, rfl, _⟩ := h; rfl) | (obtain ⟨_, _, _, _, _, _, _, rfl, _⟩ := h; rfl) | (obtain ⟨_, _, _, _, _, _, _, _, rfl, _⟩ := h; rfl) | (obtain ⟨_, _, _, _, _, _, _, _, _, rfl, _⟩ := h; rfl) | (obtain ⟨_, _, _, _, _, _, _, _, _, _, rfl, _⟩ := h; rfl) | (obtain ⟨_, _, _, _, _, _, _, _, _, _, _, rfl, _⟩ := h; rfl) | (obtain ⟨_, _, _, _, _, _, _, _, _, _, _, _, rfl, _⟩ := h; rfl) | (obtain ⟨_, _, _, _, _, _, _, _, _, _, _, _, _, rfl, _⟩ := h; rfl) | exact Mt.tk_len rfl h | (obtain ⟨_, h⟩ := h; exact Mt.tk_len rfl h) | (obtain ⟨_, _, h⟩ := h; exact Mt.tk_len rfl h) | (obtain ⟨_, _, _, h⟩ := h; exact Mt.tk_len rfl h) | (obtain ⟨_, _, _, _, h⟩ := h; exact Mt.tk_len rfl h) | (obtain ⟨_, _, _, _, _, h⟩ := h; exact Mt.tk_len rfl h) | (obtain ⟨_, _, _, _, _, _, h⟩ := h; exact Mt.tk_len rfl h) | (obtain ⟨_, _, _, _, _, _, _, h⟩ := h; exact Mt.tk_len rfl h) | (obtain ⟨_, _, _, _, _, _, _, _, h⟩ := h; exact Mt.tk_len rfl h) | (obtain ⟨_, _, _, _, _, _, _, _, _, h⟩ := h; exact Mt.tk_len rfl h) | (obtain ⟨_, _, _, _, _, _, _, _, _, _, h⟩ := h; exact Mt.tk_len rfl h) | (obtain ⟨_, _, _, _, _, _, _, _, _, _, _, h⟩ := h; exact Mt.tk_len rfl h) | (obtain ⟨_, _, _, _, _, _, _, _, _, _, _, _, h⟩ := h; exact Mt.tk_len rfl h) | (obtain ⟨_, _, _, _, _, _, _, _, _, _, _, _, _, h⟩ := h; exact Mt.tk_len rfl h) | (obtain ⟨_, _, _, _, _, _, _, _, _, _, _, _, _, _, h⟩ := h; exact Mt.tk_len rfl h) | (obtain ⟨_, _, _, _, _, _, _, _, _, _, _, _, _, _, _, h⟩ := h; exact Mt.tk_len rfl h))) (g__law_pick K a) (fun f cdv A outer s H E hr => t__law_pick T (ok__law_draw T) hr) (fun ds S q _ _ h => r__law_pick ds S q h)
theorem ok__law_made (T : Txt K mg a) : Fnc P w K mg base "_law_made" s__law_made dv__law_made 3 ps__law_made (sp__law_made a) :=
  fnc_of T.b__law_made sc__law_made (by intro ds S q h; first | (cases h with | inl h => (first | (obtain ⟨rfl, _⟩ := h; rfl) | (obtain ⟨_, _, _, _, ⟨_, _, rfl, _⟩, _⟩ := h; rfl) | (obtain ⟨_, rfl, _⟩ := h; rfl) | (obtain ⟨_, _, rfl, _⟩ := h; rfl) | (obtain ⟨_, _, _, rfl, _⟩ := h; rfl) | (obtain ⟨_, _, _, _, rfl, _⟩ := h; rfl) | (obtain ⟨_, _, _, _, _, rfl, _⟩ := h; rfl) | (obtain ⟨_, _, _, _, _, _, rfl, _⟩ := h; rfl) | (obtain ⟨_, _, _, _, _, _, _, rfl, _⟩ := h; rfl) | (obtain ⟨_, _, _, _, _, _, _, _, rfl, _⟩ := h; rfl) | (obtain ⟨_, _, _, _, _, _, _, _, _, rfl, _⟩ := h; rfl) | (obtain ⟨_, _, _, _, _, _, _, _, _, _, rfl, _⟩ := h; rfl) | (obtain ⟨_, _, _, _, _, _, _, _, _, _, _, rfl, _⟩ := h; rfl) | (obtain ⟨_, _, _, _, _, _, _, _, _, _, _, _, rfl, _⟩ := h; rfl) | (obtain ⟨_, _, _, _, _, _, _, _, _, _, _, _, _, rfl, _⟩ := h; rfl) | exact Mt.tk_len rfl h | (obtain ⟨_, h⟩ := h; exact Mt.tk_len rfl h) | (obtain ⟨_, _, h⟩ := h; exact Mt.tk_len rfl h) | (obtain ⟨_, _, _, h⟩ := h; exact Mt.tk_len rfl h) | (obtain ⟨_, _, _, _, h⟩ := h; exact Mt.tk_len rfl h) | (obtain ⟨_, _, _, _, _, h⟩ := h; exact Mt.tk_len rfl h) | (obtain ⟨_, _, _, _, _, _, h⟩ := h; exact Mt.tk_len rfl h) | (obtain ⟨_, _, _, _, _, _, _, h⟩ := h; exact Mt.tk_len rfl h) | (obtain ⟨_, _, _, _, _, _, _, _, h⟩ := h; exact Mt.tk_len rfl h) | (obtain ⟨_, _, _, _, _, _, _, _, _, h⟩ := h; exact Mt.tk_len rfl h) | (obtain ⟨_, _, _, _, _, _, _, _, _, _, h⟩ := h; exact Mt.tk_len rfl h) | (obtain ⟨_, _, _, _, _, _, _, _, _, _, _, h⟩ := h; exact Mt.tk_len rfl h) | (obtain ⟨_, _, _, _, _, _, _, _, _, _, _, _, h⟩ := h; exact Mt.tk_len rfl h) | (obtain ⟨_, _, _, _, _, _, _, _, _, _, _, _, _, h⟩ := h; exact Mt.tk_len rfl h) | (obtain ⟨_, _, _, _, _, _, _, _, _, _, _, _, _, _, h⟩ := h; exact Mt.tk_len rfl h) | (obtain ⟨_, _, _, _, _, _, _, _, _, _, _, _, _, _, _, h⟩ := h; exact Mt.tk_len rfl h)) | inr h => (first | (obtain ⟨rfl, _⟩ := h; rfl) | (obtain ⟨_, _, _, _, ⟨_, _, rfl, _⟩, _⟩ := h; rfl) | (obtain ⟨_, rfl, _⟩ := h; rfl) | (obtain ⟨_, _, rfl, _⟩ := h; rfl) | (obtain ⟨_, _, _, rfl, _⟩ := h; rfl) | (obtain ⟨_, _, _, _, rfl, _⟩ := h; rfl) | (obtain ⟨_, _, _, _, _, rfl, _⟩ := h; rfl) | (obtain ⟨_, _, _, _, _, _, rfl, _⟩ := h; rfl) | (obtain ⟨_, _, _, _, _, _, _, rfl, _⟩ := h; rfl) | (obtain ⟨_, _, _, _, _, _, _, _, rfl, _⟩ := h; rfl) | (obtain ⟨_, _, _, _, _, _, _, _, _, rfl, _⟩ := h; rfl) | (obtain ⟨_, _, _, _, _, _, _, _, _, _, rfl, _⟩ := h; rfl) | (obtain ⟨_, _, _, _, _, _, _, _, _, _, _, rfl, _⟩ := h; rfl) | (obtain ⟨_, _, _, _, _, _, _, _, _, _, _, _, rfl, _⟩ := h; rfl) | (obtain ⟨_, _, _, _, _, _, _, _, _, _, _, _, _, rfl, _⟩ := h; rfl) | exact Mt.tk_len rfl h | (obtain ⟨_, h⟩ := h; exact Mt.tk_len rfl h) | (obtain ⟨_, _, h⟩ := h; exact Mt.tk_len rfl h) | (obtain ⟨_, _, _, h⟩ := h; exact Mt.tk_len rfl h) | (obtain ⟨_, _, _, _, h⟩ := h; exact Mt.tk_len rfl h) | (obtain ⟨_, _, _, _, _, h⟩ := h; exact Mt.tk_len rfl h) | (obtain ⟨_, _, _, _, _, _, h⟩ := h; exact Mt.tk_len rfl h) | (obtain ⟨_, _, _, _, _, _, _, h⟩ := h; exact Mt.tk_len rfl h) | (obtain ⟨_, _, _, _, _, _, _, _, h⟩ := h; exact Mt.tk_len rfl h) | (obtain ⟨_, _, _, _, _, _, _, _, _, h⟩ := h; exact Mt.tk_len rfl h) | (obtain ⟨_, _, _, _, _, _, _, _, _, _, h⟩ := h; exact Mt.tk_len rfl h) | (obtain ⟨_, _, _, _, _, _, _, _, _, _, _, h⟩ := h; exact Mt.tk_len rfl h) | (obtain ⟨_, _, _, _, _, _, _, _, _, _, _, _, h⟩ := h; exact Mt.tk_len rfl h) | (obtain ⟨_, _, _, _, _, _, _, _, _, _, _, _, _, h⟩ := h; exact Mt.tk_len rfl h) | (obtain ⟨_, _, _, _, _, _, _, _, _, _, _, _, _, _, h⟩ := h; exact Mt.tk_len rfl h) | (obtain ⟨_, _, _, _, _, _, _, _, _, _, _, _, _, _, _, h⟩ := h; exact Mt.tk_len rfl h))) | (first | (obtain ⟨rfl, _⟩ := h; rfl) | (obtain ⟨_, _, _, _, ⟨_, _, rfl, _⟩, _⟩ := h; rfl) | (obtain ⟨_, rfl, _⟩ := h; rfl) | (obtain ⟨_, _, rfl, _⟩ := h; rfl) | (obtain ⟨_, _, _, rfl, _⟩ := h; rfl) | (obtain ⟨_, _, _, _, rfl, _⟩ := h; rfl) | (obtain ⟨_, _, _, _, _, rfl, _⟩ := h; rfl) | (obtain ⟨_, _, _, _, _, _, rfl, _⟩ := h; rfl) | (obtain ⟨_, _, _, _, _, _, _, rfl, _⟩ := h; rfl) | (obtain ⟨_, _, _, _, _, _, _, _, rfl, _⟩ := h; rfl) | (obtain ⟨_, _, _, _, _, _, _, _, _, rfl, _⟩ := h; rfl) | (obtain ⟨_, _, _, _, _, _, _, _, _, _, rfl, _⟩ := h; rfl) | (obtain ⟨_, _, _, _, _, _, _, _, _, _, _, rfl, _⟩ := h; rfl) | (obtain ⟨_, _, _, _, _, _, _, _, _, _, _, _, rfl, _⟩ := h; rfl) | (obtain ⟨_, _, _, _, _, _, _, _, _, _, _, _, _, rfl, _⟩ := h; rfl) | exact Mt.tk_len rfl h | (obtain ⟨_, h⟩ := h; exact Mt.tk_len rfl h) | (obtain ⟨_, _, h⟩ := h; exact Mt.tk_len rfl h) | (obtain ⟨_, _, _, h⟩ := h; exact Mt.tk_len rfl h) | (obtain ⟨_, _, _, _, h⟩ := h; exact Mt.tk_len rfl h) | (obtain ⟨_, _, _, _, _, h⟩ := h; exact Mt.tk_len rfl h) | (obtain ⟨_, _, _, _, _, _, h⟩ := h; exact Mt.tk_len rfl h) | (obtain ⟨_, _, _, _, _, _, _, h⟩ := h; exact Mt.tk_len rfl h) | (obtain ⟨_, _, _, _, _, _, _, _, h⟩ := h; exact Mt.tk_len rfl h) | (obtain ⟨_, _, _, _, _, _, _, _, _, h⟩ := h; exact Mt.tk_len rfl h) | (obtain ⟨_, _, _, _, _, _, _, _, _, _, h⟩ := h; exact Mt.tk_len rfl h) | (obtain ⟨_, _, _, _, _, _, _, _, _, _, _, h⟩ := h; exact Mt.tk_len rfl h) | (obtain ⟨_, _, _, _, _, _, _, _, _, _, _, _, h⟩ := h; exact Mt.tk_len rfl h) | (obtain ⟨_, _, _, _, _, _, _, _, _, _, _, _, _, h⟩ := h; exact Mt.tk_len rfl h) | (obtain ⟨_, _, _, _, _, _, _, _, _, _, _, _, _, _, h⟩ := h; exact Mt.tk_len rfl h) | (obtain ⟨_, _, _, _, _, _, _, _, _, _, _, _, _, _, _, h⟩ := h; exact Mt.tk_len rfl h))) (g__law_made K a) (fun f cdv A outer s H E hr => t__law_made T (ok_Stretch_init T) (ok__law_draw T) (ok__law_pick T) hr) (rf__law_made T)
theorem ok__law_beside (T : Txt K mg a) : Fnc P w K mg base "_law_beside" s__law_beside dv__law_beside 3 ps__law_beside (sp__law_beside a) :=
  fnc_of0 T.b__law_beside sc__law_beside (by intro ds S q h; obtain ⟨_, _, rfl, _⟩ := h; rfl) (g__law_beside K a) (fun f cdv A outer s H E hr => t__law_beside T (ok_Stretch_len T) hr) (fun ds S q _ _ h => r__law_beside T ds S q h)
theorem ok__law_inside (T : Txt K mg a) : Fnc P w K mg base "_law_inside" s__law_inside dv__law_inside 1 ps__law_inside (sp__law_inside a) :=
  fnc_of0 T.b__law_inside sc__law_inside (by intro ds S q h; obtain ⟨_, _, rfl, _⟩ := h; rfl) (g__law_inside K a) (fun f cdv A outer s H E hr => t__law_inside T  hr) (fun ds S q _ _ h => r__law_inside T ds S q h)
end
def hlam : Hd.Lams := [(("law", none), lamq "law")]
def hd_Stretch_init : He.DefD := ⟨("Stretch", some "__init__"), "__init__", "Stretch.__init__", defArgs s_Stretch_init, defBody s_Stretch_init, defScope s_Stretch_init, [.non], []⟩
def hd_Stretch_len : He.DefD := ⟨("Stretch", some "__len__"), "__len__", "Stretch.__len__", defArgs s_Stretch_len, defBody s_Stretch_len, defScope s_Stretch_len, [], []⟩
def hd_Stretch_eq : He.DefD := ⟨("Stretch", some "__eq__"), "__eq__", "Stretch.__eq__", defArgs s_Stretch_eq, defBody s_Stretch_eq, defScope s_Stretch_eq, [], []⟩
def hd_meet : He.DefD := ⟨("meet", none), "meet", "meet", defArgs s_meet, defBody s_meet, defScope s_meet, [], []⟩
def hd_joined : He.DefD := ⟨("joined", none), "joined", "joined", defArgs s_joined, defBody s_joined, defScope s_joined, [.int 0], []⟩
def hd_gaps : He.DefD := ⟨("gaps", none), "gaps", "gaps", defArgs s_gaps, defBody s_gaps, defScope s_gaps, [], []⟩
def hd_minutes_in : He.DefD := ⟨("minutes_in", none), "minutes_in", "minutes_in", defArgs s_minutes_in, defBody s_minutes_in, defScope s_minutes_in, [], []⟩
def hd__law_tape : He.DefD := ⟨("_law_tape", none), "_law_tape", "_law_tape", defArgs s__law_tape, defBody s__law_tape, defScope s__law_tape, [], []⟩
def hd__law_draw : He.DefD := ⟨("_law_draw", none), "_law_draw", "_law_draw", defArgs s__law_draw, defBody s__law_draw, defScope s__law_draw, [], []⟩
def hd__law_pick : He.DefD := ⟨("_law_pick", none), "_law_pick", "_law_pick", defArgs s__law_pick, defBody s__law_pick, defScope s__law_pick, [], []⟩
def hd__law_made : He.DefD := ⟨("_law_made", none), "_law_made", "_law_made", defArgs s__law_made, defBody s__law_made, defScope s__law_made, [], []⟩
def hd__law_beside : He.DefD := ⟨("_law_beside", none), "_law_beside", "_law_beside", defArgs s__law_beside, defBody s__law_beside, defScope s__law_beside, [], []⟩
def hd__law_inside : He.DefD := ⟨("_law_inside", none), "_law_inside", "_law_inside", defArgs s__law_inside, defBody s__law_inside, defScope s__law_inside, [], []⟩
def hd_law : He.DefD := ⟨("law", none), "law", "law", defArgs s_law, defBody s_law, defScope s_law, [], []⟩
def hfn0 : List He.DefD := [hd_Stretch_init, hd_Stretch_len, hd_Stretch_eq, hd_meet, hd_joined, hd_gaps, hd_minutes_in, hd__law_tape, hd__law_draw, hd__law_pick, hd__law_made, hd__law_beside, hd__law_inside, hd_law]
def hfa0 : List Hd.Fq := [fun K => decide (PySem.W.nsIn K mainGlobals "Stretch" = some (some (.ref (He.ga K "Stretch")))), fun K => decide (PySem.W.findIn K (.ref (He.ga K "Stretch")) "__init__" = some (some (.ref (He.fAd K ("Stretch", some "__init__"))))), fun K => PySem.W.isFn K (.ref (He.fAd K ("Stretch", some "__init__"))), fun K => decide (PySem.W.findIn K (.ref (He.ga K "Stretch")) "__len__" = some (some (.ref (He.fAd K ("Stretch", some "__len__"))))), fun K => PySem.W.isFn K (.ref (He.fAd K ("Stretch", some "__len__"))), fun K => decide (PySem.W.findIn K (.ref (He.ga K "Stretch")) "__eq__" = some (some (.ref (He.fAd K ("Stretch", some "__eq__"))))), fun K => PySem.W.isFn K (.ref (He.fAd K ("Stretch", some "__eq__"))), fun K => decide (PySem.W.nsIn K mainGlobals "meet" = some (some (.ref (He.fAd K ("meet", none))))), fun K => decide (PySem.W.nsIn K mainGlobals "joined" = some (some (.ref (He.fAd K ("joined", none))))), fun K => decide (PySem.W.nsIn K mainGlobals "gaps" = some (some (.ref (He.fAd K ("gaps", none))))), fun K => decide (PySem.W.nsIn K mainGlobals "minutes_in" = some (some (.ref (He.fAd K ("minutes_in", none))))), fun K => decide (PySem.W.nsIn K mainGlobals "_law_tape" = some (some (.ref (He.fAd K ("_law_tape", none))))), fun K => decide (PySem.W.nsIn K mainGlobals "_law_draw" = some (some (.ref (He.fAd K ("_law_draw", none))))), fun K => decide (PySem.W.nsIn K mainGlobals "_law_pick" = some (some (.ref (He.fAd K ("_law_pick", none))))), fun K => decide (PySem.W.nsIn K mainGlobals "_law_made" = some (some (.ref (He.fAd K ("_law_made", none))))), fun K => decide (PySem.W.nsIn K mainGlobals "_law_beside" = some (some (.ref (He.fAd K ("_law_beside", none))))), fun K => decide (PySem.W.nsIn K mainGlobals "_law_inside" = some (some (.ref (He.fAd K ("_law_inside", none))))), fun K => decide (PySem.W.nsIn K mainGlobals "law" = some (some (.ref (He.fAd K ("law", none))))), fun K => PySem.W.plainGet K (He.ga K "Stretch") Str.empty, fun K => PySem.W.hasDictIn K (He.ga K "Stretch"), fun K => PySem.W.plainOver K (He.ga K "Stretch"), fun K => decide (PySem.W.findIn K (.ref (He.ga K "Stretch")) "__setattr__" = some (some (.builtin "object.__setattr__"))), fun K => PySem.W.makesIn K (He.ga K "Stretch"), fun K => PySem.W.keepIn K (.ref (He.ga K "Stretch")), fun K => Hd.lamsB hlam K, fun K => decide (PySem.W.nsIn K mainGlobals "isinstance" = some none), fun K => decide (PySem.W.nsIn K mainGlobals "len" = some none), fun K => decide (PySem.W.nsIn K mainGlobals "max" = some none), fun K => decide (PySem.W.nsIn K mainGlobals "min" = some none), fun K => decide (PySem.W.nsIn K mainGlobals "range" = some none), fun K => decide (PySem.W.nsIn K mainGlobals "sorted" = some none), fun K => decide (PySem.W.nsIn K mainGlobals "sum" = some none), fun K => decide (PySem.W.findIn K (.ref (He.ga K "Stretch")) "first" = some none), fun K => decide (PySem.W.findIn K (.ref (He.ga K "Stretch")) "behind" = some none), fun K => PySem.W.isClsIn K (He.ga K "Stretch"), fun K => decide (PySem.W.typeIn K (.ref (He.ga K "Stretch")) = some (.type "type")), fun K => decide (PySem.W.subIn K (.type "NoneType") (.ref (He.ga K "Stretch")) = some false), fun K => decide (PySem.W.subIn K (.type "bool") (.ref (He.ga K "Stretch")) = some false), fun K => decide (PySem.W.subIn K (.type "int") (.ref (He.ga K "Stretch")) = some false), fun K => decide (PySem.W.subIn K (.type "str") (.ref (He.ga K "Stretch")) = some false), fun K => decide (PySem.W.subIn K (.type "tuple") (.ref (He.ga K "Stretch")) = some false), fun K => decide (PySem.W.subIn K (.type "list") (.ref (He.ga K "Stretch")) = some false), fun K => decide (PySem.W.subIn K (.type "dict") (.ref (He.ga K "Stretch")) = some false), fun K => decide (PySem.W.subIn K (.ref (He.ga K "Stretch")) (.type "NoneType") = some false), fun K => decide (PySem.W.subIn K (.ref (He.ga K "Stretch")) (.type "bool") = some false), fun K => decide (PySem.W.subIn K (.ref (He.ga K "Stretch")) (.type "int") = some false), fun K => decide (PySem.W.subIn K (.ref (He.ga K "Stretch")) (.type "str") = some false), fun K => decide (PySem.W.subIn K (.ref (He.ga K "Stretch")) (.type "tuple") = some false), fun K => decide (PySem.W.subIn K (.ref (He.ga K "Stretch")) (.type "list") = some false), fun K => decide (PySem.W.subIn K (.ref (He.ga K "Stretch")) (.type "dict") = some false), fun K => decide (PySem.W.findIn K (.ref (He.ga K "Stretch")) "__ne__" = some (some (.builtin "object.__ne__"))), fun K => decide (PySem.W.mroIn K (He.ga K "Stretch") (.type "object") = some true), fun K => decide (PySem.W.findIn K (.ref (He.ga K "Stretch")) "__class__" = some (some (.builtin "object.__class__"))), fun K => decide (PySem.W.specialIn K (.builtin "object.__class__") "__get__" = some (some (.builtin "getset_descriptor.__get__"))), fun K => decide (PySem.W.takesIn K (.builtin "object.__class__") = some true)]
def hqs : Hd.Qs := [([], hfn0), (hfa0, [])]
abbrev hR : PySem.W.OpenRow := PySem.W.OpenLaw.row PySem.Challenge.rw_boatbridge_k07_whole_stretches_part_the
abbrev hk : PySem.W.Hook := Hd.hookT 5 hlam hqs
abbrev hob : PySem.W.SharedT → Bool × List He.AlD := fun s => (Hd.obsTb 5 hlam (HandSHeadRun.getT s), Hd.obsLL 5 hlam hqs (HandSHeadRun.getT s))
theorem hob_eq (s : PySem.W.SharedT) : hob s = hk.obs s.abs := Hd.obsT_eq (HandSHeadRun.getT_eq s)
def hnames : List PySem.Str := (["NoStretch", "HOUR", "DAY", "show_clock", "show_time", "Stretch", "meet", "joined", "gaps", "minutes_in", "_law_tape", "_law_draw", "_law_pick", "_law_made", "_law_beside", "_law_inside"] : List PySem.Str)
theorem hrun_l (w : World) : Hd.Looks hR (PySem.W.view hR.prog [20]) 60000 hnames w := by
  intro os
  kernel_rfl
theorem hrun_0 (w : World) : Hd.Obs1L hR 5 hlam [] hfn0 60000 w := by
  intro os
  kernel_rfl
theorem hrun_1 (w : World) : Hd.Obs1L hR 5 hlam hfa0 [] 60000 w := by
  intro os
  kernel_rfl
theorem hrun_t (w : World) : Hd.ObsTb hR 5 hlam 60000 w := by
  intro os
  kernel_rfl
theorem hrun (w : World) : HandSHeadRun.RunEq hR (PySem.W.view hR.prog [20]) hk hob 60000 hnames w := Hd.runEqT_of (hrun_l w) (Hd.obsAL_cons (hrun_0 w) (Hd.obsAL_cons (hrun_1 w) (Hd.obsAL_nil (hrun_l w)))) (hrun_t w)
theorem all_mk {l : PySem.W.OpenLaw} {w : World} {K : PySem.W.Frag} {h : Heap} {mg : Str → Option Value} {fa : Addr} (X : K.In h) (G : h.Ns mainGlobals mg) (hfa_ : mg "law" = some (.ref fa)) (c : Hd.SaysL hqs K) (ta : Hd.SaysTb hlam K h) :
    Hd.lamsB hlam K = true ∧ ∃ fd : FuncData, (∀ (s : Shared) (v : Value), BindsTo s fd ⟨[v], []⟩ [("_law_script", v)]) ∧ ∀ base : Heap, K.In base → base.Ns mainGlobals mg → FnG l.prog w K mg base CX0 9 fa fd ["_law_script"] (spOf K sp_law) := by
  have c0 := c ([], hfn0) (by simp [hqs])
  have cc0 := c (hfa0, []) (by simp [hqs])
  obtain ⟨fd_Stretch_init, F_Stretch_init⟩ := c0.def_ 0 (d := hd_Stretch_init) rfl
  obtain ⟨fd_Stretch_len, F_Stretch_len⟩ := c0.def_ 1 (d := hd_Stretch_len) rfl
  obtain ⟨fd_Stretch_eq, F_Stretch_eq⟩ := c0.def_ 2 (d := hd_Stretch_eq) rfl
  obtain ⟨fd_meet, F_meet⟩ := c0.def_ 3 (d := hd_meet) rfl
  obtain ⟨fd_joined, F_joined⟩ := c0.def_ 4 (d := hd_joined) rfl
  obtain ⟨fd_gaps, F_gaps⟩ := c0.def_ 5 (d := hd_gaps) rfl
  obtain ⟨fd_minutes_in, F_minutes_in⟩ := c0.def_ 6 (d := hd_minutes_in) rfl
  obtain ⟨fd__law_tape, F__law_tape⟩ := c0.def_ 7 (d := hd__law_tape) rfl
  obtain ⟨fd__law_draw, F__law_draw⟩ := c0.def_ 8 (d := hd__law_draw) rfl
  obtain ⟨fd__law_pick, F__law_pick⟩ := c0.def_ 9 (d := hd__law_pick) rfl
  obtain ⟨fd__law_made, F__law_made⟩ := c0.def_ 10 (d := hd__law_made) rfl
  obtain ⟨fd__law_beside, F__law_beside⟩ := c0.def_ 11 (d := hd__law_beside) rfl
  obtain ⟨fd__law_inside, F__law_inside⟩ := c0.def_ 12 (d := hd__law_inside) rfl
  obtain ⟨fd_law, F_law⟩ := c0.def_ 13 (d := hd_law) rfl
  have aC_Stretch : PySem.W.nsIn K mainGlobals "Stretch" = some (some (.ref (He.ga K "Stretch"))) := of_decide_eq_true (cc0.fact 0 rfl)
  have a_Stretch_init : PySem.W.findIn K (.ref (He.ga K "Stretch")) "__init__" = some (some (.ref (He.fAd K ("Stretch", some "__init__")))) := of_decide_eq_true (cc0.fact 1 rfl)
  have i_Stretch_init : PySem.W.isFn K (.ref (He.fAd K ("Stretch", some "__init__"))) = true := cc0.fact 2 rfl
  have a_Stretch_len : PySem.W.findIn K (.ref (He.ga K "Stretch")) "__len__" = some (some (.ref (He.fAd K ("Stretch", some "__len__")))) := of_decide_eq_true (cc0.fact 3 rfl)
  have i_Stretch_len : PySem.W.isFn K (.ref (He.fAd K ("Stretch", some "__len__"))) = true := cc0.fact 4 rfl
  have a_Stretch_eq : PySem.W.findIn K (.ref (He.ga K "Stretch")) "__eq__" = some (some (.ref (He.fAd K ("Stretch", some "__eq__")))) := of_decide_eq_true (cc0.fact 5 rfl)
  have i_Stretch_eq : PySem.W.isFn K (.ref (He.fAd K ("Stretch", some "__eq__"))) = true := cc0.fact 6 rfl
  have a_meet : PySem.W.nsIn K mainGlobals "meet" = some (some (.ref (He.fAd K ("meet", none)))) := of_decide_eq_true (cc0.fact 7 rfl)
  have a_joined : PySem.W.nsIn K mainGlobals "joined" = some (some (.ref (He.fAd K ("joined", none)))) := of_decide_eq_true (cc0.fact 8 rfl)
  have a_gaps : PySem.W.nsIn K mainGlobals "gaps" = some (some (.ref (He.fAd K ("gaps", none)))) := of_decide_eq_true (cc0.fact 9 rfl)
  have a_minutes_in : PySem.W.nsIn K mainGlobals "minutes_in" = some (some (.ref (He.fAd K ("minutes_in", none)))) := of_decide_eq_true (cc0.fact 10 rfl)
  have a__law_tape : PySem.W.nsIn K mainGlobals "_law_tape" = some (some (.ref (He.fAd K ("_law_tape", none)))) := of_decide_eq_true (cc0.fact 11 rfl)
  have a__law_draw : PySem.W.nsIn K mainGlobals "_law_draw" = some (some (.ref (He.fAd K ("_law_draw", none)))) := of_decide_eq_true (cc0.fact 12 rfl)
  have a__law_pick : PySem.W.nsIn K mainGlobals "_law_pick" = some (some (.ref (He.fAd K ("_law_pick", none)))) := of_decide_eq_true (cc0.fact 13 rfl)
  have a__law_made : PySem.W.nsIn K mainGlobals "_law_made" = some (some (.ref (He.fAd K ("_law_made", none)))) := of_decide_eq_true (cc0.fact 14 rfl)
  have a__law_beside : PySem.W.nsIn K mainGlobals "_law_beside" = some (some (.ref (He.fAd K ("_law_beside", none)))) := of_decide_eq_true (cc0.fact 15 rfl)
  have a__law_inside : PySem.W.nsIn K mainGlobals "_law_inside" = some (some (.ref (He.fAd K ("_law_inside", none)))) := of_decide_eq_true (cc0.fact 16 rfl)
  have a_law : PySem.W.nsIn K mainGlobals "law" = some (some (.ref (He.fAd K ("law", none)))) := of_decide_eq_true (cc0.fact 17 rfl)
  have pg_Stretch : PySem.W.plainGet K (He.ga K "Stretch") Str.empty = true := cc0.fact 18 rfl
  have hd_Stretch : PySem.W.hasDictIn K (He.ga K "Stretch") = true := cc0.fact 19 rfl
  have po_Stretch : PySem.W.plainOver K (He.ga K "Stretch") = true := cc0.fact 20 rfl
  have sa_Stretch : PySem.W.findIn K (.ref (He.ga K "Stretch")) "__setattr__" = some (some (.builtin "object.__setattr__")) := of_decide_eq_true (cc0.fact 21 rfl)
  have mk_Stretch : PySem.W.makesIn K (He.ga K "Stretch") = true := cc0.fact 22 rfl
  have kc_Stretch : PySem.W.keepIn K (.ref (He.ga K "Stretch")) = true := cc0.fact 23 rfl
  have hlams : Hd.lamsB hlam K = true := cc0.fact 24 rfl
  have zno_isinstance : PySem.W.nsIn K mainGlobals "isinstance" = some none := of_decide_eq_true (cc0.fact 25 rfl)
  have zno_len : PySem.W.nsIn K mainGlobals "len" = some none := of_decide_eq_true (cc0.fact 26 rfl)
  have zno_max : PySem.W.nsIn K mainGlobals "max" = some none := of_decide_eq_true (cc0.fact 27 rfl)
  have zno_min : PySem.W.nsIn K mainGlobals "min" = some none := of_decide_eq_true (cc0.fact 28 rfl)
  have zno_range : PySem.W.nsIn K mainGlobals "range" = some none := of_decide_eq_true (cc0.fact 29 rfl)
  have zno_sorted : PySem.W.nsIn K mainGlobals "sorted" = some none := of_decide_eq_true (cc0.fact 30 rfl)
  have zno_sum : PySem.W.nsIn K mainGlobals "sum" = some none := of_decide_eq_true (cc0.fact 31 rfl)
  have zf_Stretch_first : PySem.W.findIn K (.ref (He.ga K "Stretch")) "first" = some none := of_decide_eq_true (cc0.fact 32 rfl)
  have zf_Stretch_behind : PySem.W.findIn K (.ref (He.ga K "Stretch")) "behind" = some none := of_decide_eq_true (cc0.fact 33 rfl)
  have icl_Stretch : PySem.W.isClsIn K (He.ga K "Stretch") = true := cc0.fact 34 rfl
  have ity_Stretch : PySem.W.typeIn K (.ref (He.ga K "Stretch")) = some (.type "type") := of_decide_eq_true (cc0.fact 35 rfl)
  have zkb_Stretch_NoneType : PySem.W.subIn K (.type "NoneType") (.ref (He.ga K "Stretch")) = some false := of_decide_eq_true (cc0.fact 36 rfl)
  have zkb_Stretch_bool : PySem.W.subIn K (.type "bool") (.ref (He.ga K "Stretch")) = some false := of_decide_eq_true (cc0.fact 37 rfl)
  have zkb_Stretch_int : PySem.W.subIn K (.type "int") (.ref (He.ga K "Stretch")) = some false := of_decide_eq_true (cc0.fact 38 rfl)
  have zkb_Stretch_str : PySem.W.subIn K (.type "str") (.ref (He.ga K "Stretch")) = some false := of_decide_eq_true (cc0.fact 39 rfl)
  have zkb_Stretch_tuple : PySem.W.subIn K (.type "tuple") (.ref (He.ga K "Stretch")) = some false := of_decide_eq_true (cc0.fact 40 rfl)
  have zkb_Stretch_list : PySem.W.subIn K (.type "list") (.ref (He.ga K "Stretch")) = some false := of_decide_eq_true (cc0.fact 41 rfl)
  have zkb_Stretch_dict : PySem.W.subIn K (.type "dict") (.ref (He.ga K "Stretch")) = some false := of_decide_eq_true (cc0.fact 42 rfl)
  have ea_Stretch_NoneType : PySem.W.subIn K (.type "NoneType") (.ref (He.ga K "Stretch")) = some false := of_decide_eq_true (cc0.fact 36 rfl)
  have eb_Stretch_NoneType : PySem.W.subIn K (.ref (He.ga K "Stretch")) (.type "NoneType") = some false := of_decide_eq_true (cc0.fact 43 rfl)
  have ea_Stretch_bool : PySem.W.subIn K (.type "bool") (.ref (He.ga K "Stretch")) = some false := of_decide_eq_true (cc0.fact 37 rfl)
  have eb_Stretch_bool : PySem.W.subIn K (.ref (He.ga K "Stretch")) (.type "bool") = some false := of_decide_eq_true (cc0.fact 44 rfl)
  have ea_Stretch_int : PySem.W.subIn K (.type "int") (.ref (He.ga K "Stretch")) = some false := of_decide_eq_true (cc0.fact 38 rfl)
  have eb_Stretch_int : PySem.W.subIn K (.ref (He.ga K "Stretch")) (.type "int") = some false := of_decide_eq_true (cc0.fact 45 rfl)
  have ea_Stretch_str : PySem.W.subIn K (.type "str") (.ref (He.ga K "Stretch")) = some false := of_decide_eq_true (cc0.fact 39 rfl)
  have eb_Stretch_str : PySem.W.subIn K (.ref (He.ga K "Stretch")) (.type "str") = some false := of_decide_eq_true (cc0.fact 46 rfl)
  have ea_Stretch_tuple : PySem.W.subIn K (.type "tuple") (.ref (He.ga K "Stretch")) = some false := of_decide_eq_true (cc0.fact 40 rfl)
  have eb_Stretch_tuple : PySem.W.subIn K (.ref (He.ga K "Stretch")) (.type "tuple") = some false := of_decide_eq_true (cc0.fact 47 rfl)
  have ea_Stretch_list : PySem.W.subIn K (.type "list") (.ref (He.ga K "Stretch")) = some false := of_decide_eq_true (cc0.fact 41 rfl)
  have eb_Stretch_list : PySem.W.subIn K (.ref (He.ga K "Stretch")) (.type "list") = some false := of_decide_eq_true (cc0.fact 48 rfl)
  have ea_Stretch_dict : PySem.W.subIn K (.type "dict") (.ref (He.ga K "Stretch")) = some false := of_decide_eq_true (cc0.fact 42 rfl)
  have eb_Stretch_dict : PySem.W.subIn K (.ref (He.ga K "Stretch")) (.type "dict") = some false := of_decide_eq_true (cc0.fact 49 rfl)
  have nne_Stretch : PySem.W.findIn K (.ref (He.ga K "Stretch")) "__ne__" = some (some (.builtin "object.__ne__")) := of_decide_eq_true (cc0.fact 50 rfl)
  have nob_Stretch : PySem.W.mroIn K (He.ga K "Stretch") (.type "object") = some true := of_decide_eq_true (cc0.fact 51 rfl)
  have ia_Stretch : PySem.W.findIn K (.ref (He.ga K "Stretch")) "__class__" = some (some (.builtin "object.__class__")) := of_decide_eq_true (cc0.fact 52 rfl)
  have in_Stretch : PySem.W.specialIn K (.builtin "object.__class__") "__get__" = some (some (.builtin "getset_descriptor.__get__")) := of_decide_eq_true (cc0.fact 53 rfl)
  have it_Stretch : PySem.W.takesIn K (.builtin "object.__class__") = some true := of_decide_eq_true (cc0.fact 54 rfl)
  have im_Stretch : PySem.W.mroIn K (He.ga K "Stretch") (.type "object") = some true := of_decide_eq_true (cc0.fact 51 rfl)
  have T : Txt K mg ⟨(He.ga K "Stretch")⟩ := ⟨⟨(He.fAd K ("Stretch", some "__init__")), fd_Stretch_init, F_Stretch_init, ⟨mk_Stretch, a_Stretch_init, i_Stretch_init, kc_Stretch⟩⟩, ⟨(He.fAd K ("Stretch", some "__len__")), fd_Stretch_len, F_Stretch_len, ⟨a_Stretch_len, i_Stretch_len, F_Stretch_len.kp⟩⟩, ⟨(He.fAd K ("Stretch", some "__eq__")), fd_Stretch_eq, F_Stretch_eq, ⟨a_Stretch_eq, i_Stretch_eq, F_Stretch_eq.kp⟩⟩, ⟨(He.fAd K ("meet", none)), fd_meet, F_meet, PySem.W.mg_of X G a_meet⟩, ⟨(He.fAd K ("joined", none)), fd_joined, F_joined, PySem.W.mg_of X G a_joined⟩, ⟨(He.fAd K ("gaps", none)), fd_gaps, F_gaps, PySem.W.mg_of X G a_gaps⟩, ⟨(He.fAd K ("minutes_in", none)), fd_minutes_in, F_minutes_in, PySem.W.mg_of X G a_minutes_in⟩, ⟨(He.fAd K ("_law_tape", none)), fd__law_tape, F__law_tape, PySem.W.mg_of X G a__law_tape⟩, ⟨(He.fAd K ("_law_draw", none)), fd__law_draw, F__law_draw, PySem.W.mg_of X G a__law_draw⟩, ⟨(He.fAd K ("_law_pick", none)), fd__law_pick, F__law_pick, PySem.W.mg_of X G a__law_pick⟩, ⟨(He.fAd K ("_law_made", none)), fd__law_made, F__law_made, PySem.W.mg_of X G a__law_made⟩, ⟨(He.fAd K ("_law_beside", none)), fd__law_beside, F__law_beside, PySem.W.mg_of X G a__law_beside⟩, ⟨(He.fAd K ("_law_inside", none)), fd__law_inside, F__law_inside, PySem.W.mg_of X G a__law_inside⟩, Hd.lamT_mk X G ta hlams (PySem.W.mg_of X G a_law) (by decide +kernel), ⟨(He.fAd K ("law", none)), fd_law, F_law, PySem.W.mg_of X G a_law⟩, PySem.W.mg_of X G aC_Stretch, ⟨pg_Stretch, hd_Stretch, po_Stretch, sa_Stretch⟩, PySem.W.mg_none_of X G zno_isinstance, PySem.W.mg_none_of X G zno_len, PySem.W.mg_none_of X G zno_max, PySem.W.mg_none_of X G zno_min, PySem.W.mg_none_of X G zno_range, PySem.W.mg_none_of X G zno_sorted, PySem.W.mg_none_of X G zno_sum, ⟨⟨pg_Stretch, hd_Stretch, po_Stretch, sa_Stretch⟩, zf_Stretch_first⟩, ⟨⟨pg_Stretch, hd_Stretch, po_Stretch, sa_Stretch⟩, zf_Stretch_behind⟩, ⟨by intro b hb; simp only [basicT, List.mem_cons, List.not_mem_nil, or_false] at hb; rcases hb with rfl | rfl | rfl | rfl | rfl | rfl | rfl; exact kit_mk icl_Stretch ity_Stretch zkb_Stretch_NoneType rfl; exact kit_mk icl_Stretch ity_Stretch zkb_Stretch_bool rfl; exact kit_mk icl_Stretch ity_Stretch zkb_Stretch_int rfl; exact kit_mk icl_Stretch ity_Stretch zkb_Stretch_str rfl; exact kit_mk icl_Stretch ity_Stretch zkb_Stretch_tuple rfl; exact kit_mk icl_Stretch ity_Stretch zkb_Stretch_list rfl; exact kit_mk icl_Stretch ity_Stretch zkb_Stretch_dict rfl⟩, ⟨kit_same⟩, ⟨by intro b hb; simp only [basicT, List.mem_cons, List.not_mem_nil, or_false] at hb; rcases hb with rfl | rfl | rfl | rfl | rfl | rfl | rfl; exact ea_Stretch_NoneType; exact ea_Stretch_bool; exact ea_Stretch_int; exact ea_Stretch_str; exact ea_Stretch_tuple; exact ea_Stretch_list; exact ea_Stretch_dict, by intro b hb; simp only [basicT, List.mem_cons, List.not_mem_nil, or_false] at hb; rcases hb with rfl | rfl | rfl | rfl | rfl | rfl | rfl; exact eb_Stretch_NoneType; exact eb_Stretch_bool; exact eb_Stretch_int; exact eb_Stretch_str; exact eb_Stretch_tuple; exact eb_Stretch_list; exact eb_Stretch_dict⟩, ⟨nne_Stretch, nob_Stretch⟩, ⟨⟨pg_Stretch, hd_Stretch, po_Stretch, sa_Stretch⟩, ia_Stretch, in_Stretch, it_Stretch, im_Stretch⟩⟩
  obtain ⟨f0, fd, F, hm⟩ := T.b_law
  have e := hfa_.symm.trans hm
  cases e
  refine ⟨hlams, fd, fun s v => ?_, fun base _ _ => fn_body0L F hm T.lm_law sc_law (by intro ds S q h; first | (cases h with | inl h => (first | (obtain ⟨rfl, _⟩ := h; rfl) | (obtain ⟨_, _, _, _, ⟨_, _, rfl, _⟩, _⟩ := h; rfl) | (obtain ⟨_, rfl, _⟩ := h; rfl) | (obtain ⟨_, _, rfl, _⟩ := h; rfl) | (obtain ⟨_, _, _, rfl, _⟩ := h; rfl) | (obtain ⟨_, _, _, _, rfl, _⟩ := h; rfl) | (obtain ⟨_, _, _, _, _, rfl, _⟩ := h; rfl) | (obtain ⟨_, _, _, _, _, _, rfl, _⟩ := h; rfl) | (obtain ⟨_, _, _, _, _, _, _, rfl, _⟩ := h; rfl) | (obtain ⟨_, _, _, _, _, _, _, _, rfl, _⟩ := h; rfl) | (obtain ⟨_, _, _, _, _, _, _, _, _, rfl, _⟩ := h; rfl) | (obtain ⟨_, _, _, _, _, _, _, _, _, _, rfl, _⟩ := h; rfl) | (obtain ⟨_, _, _, _, _, _, _, _, _, _, _, rfl, _⟩ := h; rfl) | (obtain ⟨_, _, _, _, _, _, _, _, _, _, _, _, rfl, _⟩ := h; rfl) | (obtain ⟨_, _, _, _, _, _, _, _, _, _, _, _, _, rfl, _⟩ := h; rfl) | exact Mt.tk_len rfl h | (obtain ⟨_, h⟩ := h; exact Mt.tk_len rfl h) | (obtain ⟨_, _, h⟩ := h; exact Mt.tk_len rfl h) | (obtain ⟨_, _, _, h⟩ := h; exact Mt.tk_len rfl h) | (obtain ⟨_, _, _, _, h⟩ := h; exact Mt.tk_len rfl h) | (obtain ⟨_, _, _, _, _, h⟩ := h; exact Mt.tk_len rfl h) | (obtain ⟨_, _, _, _, _, _, h⟩ := h; exact Mt.tk_len rfl h) | (obtain ⟨_, _, _, _, _, _, _, h⟩ := h; exact Mt.tk_len rfl h) | (obtain ⟨_, _, _, _, _, _, _, _, h⟩ := h; exact Mt.tk_len rfl h) | (obtain ⟨_, _, _, _, _, _, _, _, _, h⟩ := h; exact Mt.tk_len rfl h) | (obtain ⟨_, _, _, _, _, _, _, _, _, _, h⟩ := h; exact Mt.tk_len rfl h) | (obtain ⟨_, _, _, _, _, _, _, _, _, _, _, h⟩ := h; exact Mt.tk_len rfl h) | (obtain ⟨_, _, _, _, _, _, _, _, _, _, _, _, h⟩ := h; exact Mt.tk_len rfl h) | (obtain ⟨_, _, _, _, _, _, _, _, _, _, _, _, _, h⟩ := h; exact Mt.tk_len rfl h) | (obtain ⟨_, _, _, _, _, _, _, _, _, _, _, _, _, _, h⟩ := h; exact Mt.tk_len rfl h) | (obtain ⟨_, _, _, _, _, _, _, _, _, _, _, _, _, _, _, h⟩ := h; exact Mt.tk_len rfl h)) | inr h => (first | (obtain ⟨rfl, _⟩ := h; rfl) | (obtain ⟨_, _, _, _, ⟨_, _, rfl, _⟩, _⟩ := h; rfl) | (obtain ⟨_, rfl, _⟩ := h; rfl) | (obtain ⟨_, _, rfl, _⟩ := h; rfl) | (obtain ⟨_, _, _, rfl, _⟩ := h; rfl) | (obtain ⟨_, _, _, _, rfl, _⟩ := h; rfl) | (obtain ⟨_, _, _, _, _, rfl, _⟩ := h; rfl) | (obtain ⟨_, _, _, _, _, _, rfl, _⟩ := h; rfl) | (obtain ⟨_, _, _, _, _, _, _, rfl, _⟩ := h; rfl) | (obtain ⟨_, _, _, _, _, _, _, _, rfl, _⟩ := h; rfl) | (obtain ⟨_, _, _, _, _, _, _, _, _, rfl, _⟩ := h; rfl) | (obtain ⟨_, _, _, _, _, _, _, _, _, _, rfl, _⟩ := h; rfl) | (obtain ⟨_, _, _, _, _, _, _, _, _, _, _, rfl, _⟩ := h; rfl) | (obtain ⟨_, _, _, _, _, _, _, _, _, _, _, _, rfl, _⟩ := h; rfl) | (obtain ⟨_, _, _, _, _, _, _, _, _, _, _, _, _, rfl, _⟩ := h; rfl) | exact Mt.tk_len rfl h | (obtain ⟨_, h⟩ := h; exact Mt.tk_len rfl h) | (obtain ⟨_, _, h⟩ := h; exact Mt.tk_len rfl h) | (obtain ⟨_, _, _, h⟩ := h; exact Mt.tk_len rfl h) | (obtain ⟨_, _, _, _, h⟩ := h; exact Mt.tk_len rfl h) | (obtain ⟨_, _, _, _, _, h⟩ := h; exact Mt.tk_len rfl h) | (obtain ⟨_, _, _, _, _, _, h⟩ := h; exact Mt.tk_len rfl h) | (obtain ⟨_, _, _, _, _, _, _, h⟩ := h; exact Mt.tk_len rfl h) | (obtain ⟨_, _, _, _, _, _, _, _, h⟩ := h; exact Mt.tk_len rfl h) | (obtain ⟨_, _, _, _, _, _, _, _, _, h⟩ := h; exact Mt.tk_len rfl h) | (obtain ⟨_, _, _, _, _, _, _, _, _, _, h⟩ := h; exact Mt.tk_len rfl h) | (obtain ⟨_, _, _, _, _, _, _, _, _, _, _, h⟩ := h; exact Mt.tk_len rfl h) | (obtain ⟨_, _, _, _, _, _, _, _, _, _, _, _, h⟩ := h; exact Mt.tk_len rfl h) | (obtain ⟨_, _, _, _, _, _, _, _, _, _, _, _, _, h⟩ := h; exact Mt.tk_len rfl h) | (obtain ⟨_, _, _, _, _, _, _, _, _, _, _, _, _, _, h⟩ := h; exact Mt.tk_len rfl h) | (obtain ⟨_, _, _, _, _, _, _, _, _, _, _, _, _, _, _, h⟩ := h; exact Mt.tk_len rfl h))) | (first | (obtain ⟨rfl, _⟩ := h; rfl) | (obtain ⟨_, _, _, _, ⟨_, _, rfl, _⟩, _⟩ := h; rfl) | (obtain ⟨_, rfl, _⟩ := h; rfl) | (obtain ⟨_, _, rfl, _⟩ := h; rfl) | (obtain ⟨_, _, _, rfl, _⟩ := h; rfl) | (obtain ⟨_, _, _, _, rfl, _⟩ := h; rfl) | (obtain ⟨_, _, _, _, _, rfl, _⟩ := h; rfl) | (obtain ⟨_, _, _, _, _, _, rfl, _⟩ := h; rfl) | (obtain ⟨_, _, _, _, _, _, _, rfl, _⟩ := h; rfl) | (obtain ⟨_, _, _, _, _, _, _, _, rfl, _⟩ := h; rfl) | (obtain ⟨_, _, _, _, _, _, _, _, _, rfl, _⟩ := h; rfl) | (obtain ⟨_, _, _, _, _, _, _, _, _, _, rfl, _⟩ := h; rfl) | (obtain ⟨_, _, _, _, _, _, _, _, _, _, _, rfl, _⟩ := h; rfl) | (obtain ⟨_, _, _, _, _, _, _, _, _, _, _, _, rfl, _⟩ := h; rfl) | (obtain ⟨_, _, _, _, _, _, _, _, _, _, _, _, _, rfl, _⟩ := h; rfl) | exact Mt.tk_len rfl h | (obtain ⟨_, h⟩ := h; exact Mt.tk_len rfl h) | (obtain ⟨_, _, h⟩ := h; exact Mt.tk_len rfl h) | (obtain ⟨_, _, _, h⟩ := h; exact Mt.tk_len rfl h) | (obtain ⟨_, _, _, _, h⟩ := h; exact Mt.tk_len rfl h) | (obtain ⟨_, _, _, _, _, h⟩ := h; exact Mt.tk_len rfl h) | (obtain ⟨_, _, _, _, _, _, h⟩ := h; exact Mt.tk_len rfl h) | (obtain ⟨_, _, _, _, _, _, _, h⟩ := h; exact Mt.tk_len rfl h) | (obtain ⟨_, _, _, _, _, _, _, _, h⟩ := h; exact Mt.tk_len rfl h) | (obtain ⟨_, _, _, _, _, _, _, _, _, h⟩ := h; exact Mt.tk_len rfl h) | (obtain ⟨_, _, _, _, _, _, _, _, _, _, h⟩ := h; exact Mt.tk_len rfl h) | (obtain ⟨_, _, _, _, _, _, _, _, _, _, _, h⟩ := h; exact Mt.tk_len rfl h) | (obtain ⟨_, _, _, _, _, _, _, _, _, _, _, _, h⟩ := h; exact Mt.tk_len rfl h) | (obtain ⟨_, _, _, _, _, _, _, _, _, _, _, _, _, h⟩ := h; exact Mt.tk_len rfl h) | (obtain ⟨_, _, _, _, _, _, _, _, _, _, _, _, _, _, h⟩ := h; exact Mt.tk_len rfl h) | (obtain ⟨_, _, _, _, _, _, _, _, _, _, _, _, _, _, _, h⟩ := h; exact Mt.tk_len rfl h))) (g_law K ⟨(He.ga K "Stretch")⟩) (fun cdv A outer s H E lm hr => t_law T (ok_Stretch_eq T) (ok_Stretch_init T) (ok_Stretch_len T) (ok__law_beside T) (ok__law_draw T) (ok__law_inside T) (ok__law_made T) (ok__law_pick T) (ok__law_tape T) (ok_gaps T) (ok_joined T) (ok_meet T) (ok_minutes_in T) lm hr) (fun ds S q _ _ h => r_law T ds S q h)⟩
  obtain ⟨oc, od, dV, kV, doc, pm, an, cdv, ct, osl, rfl, lk, hcd, df, kw⟩ := F.ex
  rcases df with ⟨_, rfl⟩ | ⟨z, _⟩
  · exact .of_eq rfl
  · exact absurd rfl z
end Lw
open PySem PySem.W PySem.Calls PyProof.Rows in
set_option maxRecDepth 100000 in
set_option maxHeartbeats 0 in
theorem PySem.Challenge.cw_boatbridge_k07_whole_stretches_part_the_holds : PySem.Challenge.rw_boatbridge_k07_whole_stretches_part_the.Holds := by
  w_on; o_law
  refine HandSHeadRun.head_any (r := OpenLaw.row PySem.Challenge.rw_boatbridge_k07_whole_stretches_part_the) (q := view (OpenLaw.row PySem.Challenge.rw_boatbridge_k07_whole_stretches_part_the).prog [20]) (H := Lw.hk) (ob := Lw.hob) (M := 60000) (loose := Lw.hnames) (d := HandSHeadRun.topDef (OpenLaw.row PySem.Challenge.rw_boatbridge_k07_whole_stretches_part_the).prog 20) (kwd := []) Lw.hob_eq
    (by kernel_rfl) (fun s => by kernel_rfl) Lw.hrun (by kernel_rfl) (by kernel_rfl) (by kernel_rfl) (by rfl) (by first | assumption | decide +kernel) (by decide +kernel) ⟨rfl, rfl, rfl, rfl, rfl, by decide +kernel⟩ ?hw ?hc
  case hw => w_witness2
  case hc =>
    refine Hd.walk_ofT (l := PySem.Challenge.rw_boatbridge_k07_whole_stretches_part_the) (n := 63) (k := 9) (x := "_law_script") (sp := fun K => Dl.spOf K Lw.sp_law) rfl (by decide) (by kernel_rfl) ⟨rfl, by decide, by decide⟩ ?F (fun K H a ns hl hT hO hS => Hd.start_T ⟨ns, rfl, rfl, fun _ => rfl⟩ hT hO hS)
    intro w mg fa h Y G hmg0
    obtain ⟨K, KX, c, ta⟩ := Y
    have hmg : mg ("law" : PySem.Str) = some (.ref fa) := by
      have e : (HandSHeadRun.topDef (OpenLaw.row PySem.Challenge.rw_boatbridge_k07_whole_stretches_part_the).prog 20).name = ("law" : PySem.Str) := by kernel_rfl
      rw [← e]
      exact hmg0
    obtain ⟨hlams, fd, hb, hF⟩ := Lw.all_mk (l := PySem.Challenge.rw_boatbridge_k07_whole_stretches_part_the) (w := w) KX G hmg c ta
    exact ⟨K, fd, KX, Hd.tabs_facts KX ta hlams, hb, hF⟩
#print axioms PySem.Challenge.cw_boatbridge_k07_whole_stretches_part_the_holds
