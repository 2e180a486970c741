import PyProof.Rows.All
import Wide.All
import OpenK.AllK
import Wide.FinOn
import HandS.ForMost
import HandS.Lambda
import HandS.TupAny
import HandS.Codes
import HandS.Flow
import HandS.Defaults
import HandS.MakeKw
import HandS.ExcOwn
import HandS.Wide
import HandS.FStr
import HandS.StrMore
import HandS.IsInst
import HandS.Small
import HandS.Style
import KE.SortData
import KE.DataFind
import OpenK.KOps
import HandS.OwnEq
import PyProof.InstEq
import HandS.Sort
import HandS.More
import PyProof.ReprRoads
import PyProof.StrLawsRepr
import HandS.IntHex
import HandS.Exc
import HandS.ListItems
import HandS.TryOnly
import HandS.SortKw
import KE.DataMinMax
import KE.KDictItemsList
import KE.KDictExact
import HandS.Deep
import HandS.ExcInit
import HandS.ExcSuper
import HandS.ExcBuiltin
import HandS.ExcField
import KE.KExcIs
import HandS.WordsExc
import HandS.ExcIs
import PyProof.ExcBaseAll.NotImplementedError
import PyProof.ExcBaseAll.OverflowError
import PyProof.ExcBaseAll.ArithmeticError
import PyProof.ExcBaseAll.TypeError
import PyProof.ExcBaseAll.ValueError
import PyProof.ExcBaseAll.ZeroDivisionError
import PyProof.ExcBaseAll.RuntimeError
import PyProof.ExcBaseAll.Exception
import PyProof.ExcBaseAll.IndexError
import PyProof.ExcBaseAll.LookupError
import KE.GoesEnumKw
import KE.KDictZip
import HandS.Zip
import HandS.Conv
import HandS.Remove
import HandS.SetKeys
import HandS.Strs
import KE.KDictList
import HandS.WordsDict
import HandS.DictTup
import PyProof.DictMoreH
import HandS.Set
import HandS.SetFor
import HandS.SetTxt0
import PyProof.TupleCall
import PyProof.SetRoads
import KE.GoesMore
import PyProof.EnumMake
import PyProof.Draws
import HandS.Nested
import KE.SortKeyHeap
import KE.KNestM
import KE.KStateDown
import HandS.Head0
import HandS.Head1
import HandS.Head2
import HandS.HeadEnd
import HandS.HeadHook1
import HandS.HeadHook2
import HandS.HeadHook4
import HandS.EndTab
import PySem.Challenge.RW_boatbridge_k71_crossings
set_option Elab.async false
set_option linter.all false
set_option maxRecDepth 100000
set_option maxHeartbeats 4000000
namespace Dl
open PySem L2
/-- an exception's class: an own one, a built-in one -/
inductive XC where
  | own (C : Addr) | blt (n : String)
  deriving DecidableEq
def XC.val : XC → Value
  | .own C => .ref C
  | .blt n => .type n
/-- plain data -/
inductive D where
  | non | bl (b : Bool) | int (i : Int) | str (x : Str)
  | tup (ds : List D) | lst (ds : List D) | ksq (ds : List D)
  | obj (C : Addr) (ks : List Str) (ds : List D)
  | dic (ks : List Key) (ds : List D)
  | loc (n : Nat) | ref (a : Addr) | ty (n : String)
  | exc (c : XC) (ks : List Str) (ds : List D)
/-- mutable objects -/
inductive MO where
  | lst (ds : List D)
  | obj (C : Addr) (ks : List Str) (ds : List D)
  | dic (ks : List Key) (ds : List D)
  | dicT (ks : List (List Key)) (ds : List D)
  /-- a dict while it is walked: its raw object, what stands there -/
  | lck (ob : Obj) (u : HO) (ks : List Key) (ds : List D)
  | lckT (ob : Obj) (u : HO) (ks : List (List Key)) (ds : List D)
abbrev Sto := List (Option MO)
abbrev Env_ := List (Option D)
/-- an exception's object that is kept -/
def excO (cls : Value) (d : Option Addr) (a : Addr) : HO := .ext fun h => ∃ (oe : Obj) (vs : Array Value), h.get? a = some oe ∧ oe.cls = cls ∧ oe.dict = d ∧ oe.data = .fields vs
/-- its fields -/
def Xd (Hv : Hp) (d : Option Addr) (fs : List (Str × V)) : Prop := match d with
  | some dd => Hv dd = some (.xd fs)
  | none => fs = []
theorem Xd.sub {H H' : Hp} {d : Option Addr} {fs : List (Str × V)} (h : ∀ a o, H a = some o → H' a = some o) (r : Xd H d fs) : Xd H' d fs := by
  cases d with
  | none => exact r
  | some dd => exact h _ _ r
section
variable (K : PySem.W.Frag) (m : Nat → Addr) (N : Nat) (Hv : Hp)
mutual
def Rep : D → V → Prop
  | .non, v => v = .non
  | .bl b, v => v = .bl b
  | .int i, v => v = .int i
  | .str x, v => v = .str x
  | .tup ds, v => ∃ a vs, v = .ref a ∧ SqT K Hv a vs ∧ Reps ds vs
  | .lst ds, v => ∃ a vs, v = .ref a ∧ Hv a = some (.lst vs) ∧ Reps ds vs
  | .ksq ds, v => ∃ a vs, v = .ref a ∧ SqL K Hv a vs ∧ Reps ds vs
  | .obj C ks ds, v => ∃ a dx vs, v = .ref a ∧ Hv a = some (.ins C dx (ks.zip vs)) ∧ ks.length = vs.length ∧ Reps ds vs
  | .dic ks ds, v => ∃ a vs, v = .ref a ∧ Hv a = some (.dK (ks.zip vs)) ∧ ks.length = vs.length ∧ Reps ds vs
  | .loc n, v => v = .ref (m n) ∧ n < N
  | .ref a, v => v = .ref a
  | .ty n, v => v = .ty n
  | .exc c ks ds, v => ∃ a dd vs, v = .ref a ∧ Hv a = some (excO c.val dd a) ∧ Xd Hv dd (ks.zip vs) ∧ ks.length = vs.length ∧ Reps ds vs
def Reps : List D → List V → Prop
  | [], vs => vs = []
  | d :: ds, vs => ∃ v r, vs = v :: r ∧ Rep d v ∧ Reps ds r
end
end
theorem SqT.sub {K : PySem.W.Frag} {H H' : Hp} {a : Addr} {vs : List V} (h : ∀ a o, H a = some o → H' a = some o) (r : SqT K H a vs) : SqT K H' a vs := by
  rcases r with (r | ⟨o, r⟩) | r
  · exact .inl (.inl (h _ _ r))
  · exact .inl (.inr ⟨o, h _ _ r⟩)
  · exact .inr r
theorem SqL.sub {K : PySem.W.Frag} {H H' : Hp} {a : Addr} {vs : List V} (h : ∀ a o, H a = some o → H' a = some o) (r : SqL K H a vs) : SqL K H' a vs := by
  rcases r with (r | ⟨o, r⟩) | r
  · exact .inl (.inl (h _ _ r))
  · exact .inl (.inr ⟨o, h _ _ r⟩)
  · exact .inr r
section
variable {K : PySem.W.Frag} {m m' : Nat → Addr} {N N' : Nat} {H H' : Hp}
mutual
theorem Rep.mono (hm : ∀ i, i < N → m' i = m i) (hN : N ≤ N') (hh : ∀ a o, H a = some o → H' a = some o) : ∀ {d : D} {v : V}, Rep K m N H d v → Rep K m' N' H' d v
  | .non, _, r => r
  | .bl _, _, r => r
  | .int _, _, r => r
  | .str _, _, r => r
  | .tup ds, _, r => by
    obtain ⟨a, vs, e, s, q⟩ := r
    exact ⟨a, vs, e, SqT.sub hh s, Reps.mono hm hN hh q⟩
  | .lst ds, _, r => by
    obtain ⟨a, vs, e, s, q⟩ := r
    exact ⟨a, vs, e, hh _ _ s, Reps.mono hm hN hh q⟩
  | .ksq ds, _, r => by
    obtain ⟨a, vs, e, s, q⟩ := r
    exact ⟨a, vs, e, SqL.sub hh s, Reps.mono hm hN hh q⟩
  | .obj C ks ds, _, r => by
    obtain ⟨a, dx, vs, e, s, l, q⟩ := r
    exact ⟨a, dx, vs, e, hh _ _ s, l, Reps.mono hm hN hh q⟩
  | .dic ks ds, _, r => by
    obtain ⟨a, vs, e, s, l, q⟩ := r
    exact ⟨a, vs, e, hh _ _ s, l, Reps.mono hm hN hh q⟩
  | .loc n, _, r => ⟨by rw [r.1, hm n r.2], Nat.lt_of_lt_of_le r.2 hN⟩
  | .ref _, _, r => r
  | .ty _, _, r => r
  | .exc c ks ds, _, r => by
    obtain ⟨a, dd, vs, e, s, x, l, q⟩ := r
    exact ⟨a, dd, vs, e, hh _ _ s, x.sub hh, l, Reps.mono hm hN hh q⟩
theorem Reps.mono (hm : ∀ i, i < N → m' i = m i) (hN : N ≤ N') (hh : ∀ a o, H a = some o → H' a = some o) : ∀ {ds : List D} {vs : List V}, Reps K m N H ds vs → Reps K m' N' H' ds vs
  | [], _, r => r
  | d :: ds, _, r => by
    obtain ⟨v, q, e, r1, r2⟩ := r
    exact ⟨v, q, e, Rep.mono hm hN hh r1, Reps.mono hm hN hh r2⟩
end
theorem Reps.len : ∀ {ds : List D} {vs : List V}, Reps K m N H ds vs → vs.length = ds.length
  | [], _, r => by rw [show _ = [] from r]; rfl
  | d :: ds, _, r => by
    obtain ⟨v, q, e, r1, r2⟩ := r
    rw [e, List.length_cons, List.length_cons, Reps.len r2]
theorem Reps.get : ∀ {ds : List D} {vs : List V} {i : Nat} {d : D}, Reps K m N H ds vs → ds[i]? = some d → ∃ v, vs[i]? = some v ∧ Rep K m N H d v
  | [], _, _, _, _, e => by simp at e
  | d :: ds, _, 0, _, r, e => by
    obtain ⟨v, q, e1, r1, r2⟩ := r
    rw [List.getElem?_cons_zero] at e
    cases e
    exact ⟨v, by rw [e1]; rfl, r1⟩
  | d :: ds, _, i + 1, _, r, e => by
    obtain ⟨v, q, e1, r1, r2⟩ := r
    rw [List.getElem?_cons_succ] at e
    obtain ⟨w, h1, h2⟩ := Reps.get r2 e
    exact ⟨w, by rw [e1, List.getElem?_cons_succ]; exact h1, h2⟩
theorem Reps.append : ∀ {ds es : List D} {vs ws : List V}, Reps K m N H ds vs → Reps K m N H es ws → Reps K m N H (ds ++ es) (vs ++ ws)
  | [], _, _, _, r, s => by rw [show _ = [] from r]; exact s
  | d :: ds, _, _, _, r, s => by
    obtain ⟨v, q, e1, r1, r2⟩ := r
    rw [e1]
    exact ⟨v, _, rfl, r1, Reps.append r2 s⟩
theorem Reps.nil : Reps K m N H [] [] := rfl
theorem Reps.one {d : D} {v : V} (r : Rep K m N H d v) : Reps K m N H [d] [v] := ⟨v, [], rfl, r, rfl⟩
theorem Reps.cons {d : D} {v : V} {ds : List D} {vs : List V} (r : Rep K m N H d v) (s : Reps K m N H ds vs) : Reps K m N H (d :: ds) (v :: vs) := ⟨v, vs, rfl, r, s⟩
theorem Reps.take : ∀ {ds : List D} {vs : List V} (n : Nat), Reps K m N H ds vs → Reps K m N H (ds.take n) (vs.take n)
  | [], _, n, r => by rw [show _ = [] from r]; simp [Reps]
  | d :: ds, _, 0, r => by simp [Reps]
  | d :: ds, _, n + 1, r => by
    obtain ⟨v, q, e1, r1, r2⟩ := r
    rw [e1]
    exact ⟨v, _, rfl, r1, Reps.take n r2⟩
theorem Reps.drop : ∀ {ds : List D} {vs : List V} (n : Nat), Reps K m N H ds vs → Reps K m N H (ds.drop n) (vs.drop n)
  | [], _, n, r => by rw [show _ = [] from r]; simp [Reps]
  | d :: ds, _, 0, r => r
  | d :: ds, _, n + 1, r => by
    obtain ⟨v, q, e1, r1, r2⟩ := r
    rw [e1]
    exact Reps.drop n r2
theorem Reps.set : ∀ {ds : List D} {vs : List V} (n : Nat) {d : D} {v : V}, Reps K m N H ds vs → Rep K m N H d v → Reps K m N H (ds.set n d) (vs.set n v)
  | [], _, n, _, _, r, _ => by rw [show _ = [] from r]; simp [Reps]
  | d :: ds, _, 0, _, _, r, s => by
    obtain ⟨v, q, e1, r1, r2⟩ := r
    rw [e1]
    exact ⟨_, _, rfl, s, r2⟩
  | d :: ds, _, n + 1, _, _, r, s => by
    obtain ⟨v, q, e1, r1, r2⟩ := r
    rw [e1]
    exact ⟨v, _, rfl, r1, Reps.set n r2 s⟩
theorem Reps.rev : ∀ {ds : List D} {vs : List V}, Reps K m N H ds vs → Reps K m N H ds.reverse vs.reverse
  | [], _, r => by rw [show _ = [] from r]; simp [Reps]
  | d :: ds, _, r => by
    obtain ⟨v, q, e1, r1, r2⟩ := r
    rw [e1, List.reverse_cons, List.reverse_cons]
    exact (Reps.rev r2).append (Reps.one r1)
theorem Reps.ofInts : ∀ (ns : List Int), Reps K m N H (ns.map D.int) (ns.map V.int)
  | [] => rfl
  | n :: ns => ⟨_, _, rfl, rfl, Reps.ofInts ns⟩
theorem Reps.strs : ∀ {ns : List Str} {vs : List V}, Reps K m N H (ns.map D.str) vs → vs = ns.map V.str
  | [], _, r => r
  | n :: ns, _, r => by
    obtain ⟨v, q, e1, r1, r2⟩ := r
    rw [e1, show v = V.str n from r1, Reps.strs r2]
    rfl
theorem Reps.ofStrs : ∀ (ns : List Str), Reps K m N H (ns.map D.str) (ns.map V.str)
  | [] => rfl
  | n :: ns => ⟨_, _, rfl, rfl, Reps.ofStrs ns⟩
end
def markOf (p : Addr × Obj) : Option (Addr × Addr × Str) := match p.2.cls, p.2.data with
  | .type n, .fields vs => if n = "#lam" then (match vs.toList with
    | [.ref c, .ref P, .str q _] => some (c, P, q)
    | _ => none) else none
  | _, _ => none
def tabsOf (K : PySem.W.Frag) : List (Addr × Addr × Str) := K.filterMap markOf
def Marked (K : PySem.W.Frag) (P : Addr) : Prop := ∃ c q, (c, P, q) ∈ tabsOf K
structure TbOk (K : PySem.W.Frag) (Z : Addr → Prop) (H : Hp) : Prop where
  z : ∀ P, Marked K P → Z P
  t : ∀ c P q, (c, P, q) ∈ tabsOf K → LamX.TabS H P q
  n : ∀ P ps, H P = some (.tbl ps) → Marked K P
theorem TbOk.none {K : PySem.W.Frag} {Z : Addr → Prop} {H : Hp} (h : tabsOf K = []) (hn : ∀ P ps, H P ≠ some (.tbl ps)) : TbOk K Z H := ⟨fun P ⟨c, q, m⟩ => absurd m (by rw [h]; exact List.not_mem_nil), fun c P q m => absurd m (by rw [h]; exact List.not_mem_nil), fun P ps e => absurd e (hn P ps)⟩
/-- what may be written and no table minds -/
def NoTb (o : Option HO) : Prop := (∀ ps, o ≠ some (.tbl ps)) ∧ ∀ c q, o ≠ some (LamX.CodeO c q)
theorem tabS_upd {H : Hp} {P p : Addr} {q : Str} {o : HO} (t : LamX.TabS H P q) (hp : NoTb (H p)) : LamX.TabS (upd H p o) P q := by
  obtain ⟨ps, h1, h2, h3⟩ := t
  have e1 : P ≠ p := fun e => hp.1 ps (by rw [← e]; exact h1)
  refine ⟨ps, by rw [upd_ne e1]; exact h1, h2, fun pos cv hc => ?_⟩
  obtain ⟨c, e2, e3⟩ := h3 pos cv hc
  exact ⟨c, e2, by rw [upd_ne (fun e => hp.2 c q (by rw [← e]; exact e3))]; exact e3⟩
theorem noTb_none {o : Option HO} (h : o = none) : NoTb o := ⟨fun _ => by rw [h]; exact (by intro z; cases z), fun _ _ => by rw [h]; exact (by intro z; cases z)⟩
theorem noTb_lst {o : Option HO} {vs : List V} (h : o = some (.lst vs)) : NoTb o := ⟨fun _ => by rw [h]; exact (by intro z; cases z), fun _ _ => by rw [h]; unfold LamX.CodeO; exact (by intro z; cases z)⟩
theorem TbOk.upd {K : PySem.W.Frag} {Z : Addr → Prop} {H : Hp} {p : Addr} {o : HO} (t : TbOk K Z H) (hp : NoTb (H p)) (ho : ∀ ps, o ≠ .tbl ps) : TbOk K Z (upd H p o) := ⟨t.z, fun c P q m => tabS_upd (t.t c P q m) hp, fun P ps e => by
  by_cases h : P = p
  · rw [h, upd_same] at e
    exact absurd (Option.some.inj e) (ho ps)
  · rw [upd_ne h] at e
    exact t.n P ps e⟩
theorem TbOk.hide {K : PySem.W.Frag} {Z Z' : Addr → Prop} {H : Hp} (t : TbOk K Z H) (h : ∀ P, Marked K P → Z P → Z' P) : TbOk K Z' H := ⟨fun P m => h P m (t.z P m), t.t, t.n⟩
def Live (S : Sto) (n : Nat) : Prop := ∃ o, S[n]? = some (some o)
open Classical in
noncomputable def vis (m : Nat → Addr) (S : Sto) (Z : Addr → Prop) (H : Hp) : Hp := fun a => if Z a ∨ (∃ n, Live S n ∧ m n = a) then none else H a
theorem vis_sub {m : Nat → Addr} {S : Sto} {Z : Addr → Prop} {H : Hp} {a : Addr} {o : HO} (h : vis m S Z H a = some o) : H a = some o := by
  unfold vis at h
  split at h
  · cases h
  · exact h
theorem vis_of {m : Nat → Addr} {S : Sto} {Z : Addr → Prop} {H : Hp} {a : Addr} {o : HO} (h : H a = some o) (hz : ¬ Z a) (hl : ∀ n, Live S n → m n ≠ a) : vis m S Z H a = some o := by
  unfold vis
  rw [if_neg]
  · exact h
  · rintro (z | ⟨n, l, e⟩)
    · exact hz z
    · exact hl n l e
theorem vis_not {m : Nat → Addr} {S : Sto} {Z : Addr → Prop} {H : Hp} {a : Addr} {o : HO} (h : vis m S Z H a = some o) : ¬ Z a ∧ ∀ n, Live S n → m n ≠ a := by
  unfold vis at h
  split at h
  · cases h
  · rename_i q
    exact ⟨fun z => q (.inl z), fun n l e => q (.inr ⟨n, l, e⟩)⟩
section
variable (K : PySem.W.Frag) (m : Nat → Addr) (N : Nat) (Hv H : Hp)
def RepM : MO → Addr → Prop
  | .lst ds, a => ∃ vs, H a = some (.lst vs) ∧ Reps K m N Hv ds vs
  | .obj C ks ds, a => ∃ dx vs, H a = some (.ins C dx (ks.zip vs)) ∧ ks.length = vs.length ∧ Reps K m N Hv ds vs
  | .dic ks ds, a => ∃ vs, H a = some (.dK (ks.zip vs)) ∧ ks.length = vs.length ∧ Reps K m N Hv ds vs
  | .dicT ks ds, a => ∃ vs, H a = some (.dT (ks.zip vs)) ∧ ks.length = vs.length ∧ Reps K m N Hv ds vs
  | .lck ob u ks ds, a => ∃ vs, u = .dK (ks.zip vs) ∧ H a = some (.frz ob u) ∧ ks.length = vs.length ∧ Reps K m N Hv ds vs
  | .lckT ob u ks ds, a => ∃ vs, u = .dT (ks.zip vs) ∧ H a = some (.frz ob u) ∧ ks.length = vs.length ∧ Reps K m N Hv ds vs
end
theorem RepM.mono {K : PySem.W.Frag} {m m' : Nat → Addr} {N N' : Nat} {Hv Hv' H H' : Hp} {o : MO} {a a' : Addr} (hm : ∀ i, i < N → m' i = m i) (hN : N ≤ N') (hh : ∀ a o, Hv a = some o → Hv' a = some o) (ha : H' a' = H a)
    (r : RepM K m N Hv H o a) : RepM K m' N' Hv' H' o a' := by
  cases o with
  | lst ds => obtain ⟨vs, e, q⟩ := r; exact ⟨vs, ha.trans e, Reps.mono hm hN hh q⟩
  | obj C ks ds => obtain ⟨dx, vs, e, l, q⟩ := r; exact ⟨dx, vs, ha.trans e, l, Reps.mono hm hN hh q⟩
  | dic ks ds => obtain ⟨vs, e, l, q⟩ := r; exact ⟨vs, ha.trans e, l, Reps.mono hm hN hh q⟩
  | dicT ks ds => obtain ⟨vs, e, l, q⟩ := r; exact ⟨vs, ha.trans e, l, Reps.mono hm hN hh q⟩
  | lck ob u ks ds => obtain ⟨vs, eu, e, l, q⟩ := r; exact ⟨vs, eu, ha.trans e, l, Reps.mono hm hN hh q⟩
  | lckT ob u ks ds => obtain ⟨vs, eu, e, l, q⟩ := r; exact ⟨vs, eu, ha.trans e, l, Reps.mono hm hN hh q⟩
theorem RepM.noTb {K : PySem.W.Frag} {m : Nat → Addr} {N : Nat} {Hv H : Hp} {o : MO} {a : Addr} (r : RepM K m N Hv H o a) : NoTb (H a) := by
  cases o with
  | lst ds => obtain ⟨vs, e, q⟩ := r; exact noTb_lst e
  | obj C ks ds => obtain ⟨dx, vs, e, l, q⟩ := r; exact ⟨fun _ => by rw [e]; exact (by intro z; cases z), fun _ _ => by rw [e]; unfold LamX.CodeO; exact (by intro z; cases z)⟩
  | dic ks ds => obtain ⟨vs, e, l, q⟩ := r; exact ⟨fun _ => by rw [e]; exact (by intro z; cases z), fun _ _ => by rw [e]; unfold LamX.CodeO; exact (by intro z; cases z)⟩
  | dicT ks ds => obtain ⟨vs, e, l, q⟩ := r; exact ⟨fun _ => by rw [e]; exact (by intro z; cases z), fun _ _ => by rw [e]; unfold LamX.CodeO; exact (by intro z; cases z)⟩
  | lck ob u ks ds => obtain ⟨vs, eu, e, l, q⟩ := r; exact ⟨fun _ => by rw [e]; exact (by intro z; cases z), fun _ _ => by rw [e]; unfold LamX.CodeO; exact (by intro z; cases z)⟩
  | lckT ob u ks ds => obtain ⟨vs, eu, e, l, q⟩ := r; exact ⟨fun _ => by rw [e]; exact (by intro z; cases z), fun _ _ => by rw [e]; unfold LamX.CodeO; exact (by intro z; cases z)⟩
theorem RepM.noTup {K : PySem.W.Frag} {m : Nat → Addr} {N : Nat} {Hv H : Hp} {o : MO} {a : Addr} (r : RepM K m N Hv H o a) : ∃ u, H a = some u ∧ ∀ vs, u ≠ .tup vs := by
  cases o with
  | lst ds => obtain ⟨vs, e, q⟩ := r; exact ⟨_, e, fun _ z => nomatch z⟩
  | obj C ks ds => obtain ⟨dx, vs, e, l, q⟩ := r; exact ⟨_, e, fun _ z => nomatch z⟩
  | dic ks ds => obtain ⟨vs, e, l, q⟩ := r; exact ⟨_, e, fun _ z => nomatch z⟩
  | dicT ks ds => obtain ⟨vs, e, l, q⟩ := r; exact ⟨_, e, fun _ z => nomatch z⟩
  | lck ob u ks ds => obtain ⟨vs, eu, e, l, q⟩ := r; exact ⟨_, e, fun _ z => nomatch z⟩
  | lckT ob u ks ds => obtain ⟨vs, eu, e, l, q⟩ := r; exact ⟨_, e, fun _ z => nomatch z⟩
theorem RepM.there {K : PySem.W.Frag} {m : Nat → Addr} {N : Nat} {Hv H : Hp} {o : MO} {a : Addr} (r : RepM K m N Hv H o a) : ∃ u, H a = some u := by
  cases o with
  | lst ds => obtain ⟨vs, e, q⟩ := r; exact ⟨_, e⟩
  | obj C ks ds => obtain ⟨dx, vs, e, l, q⟩ := r; exact ⟨_, e⟩
  | dic ks ds => obtain ⟨vs, e, l, q⟩ := r; exact ⟨_, e⟩
  | dicT ks ds => obtain ⟨vs, e, l, q⟩ := r; exact ⟨_, e⟩
  | lck ob u ks ds => obtain ⟨vs, eu, e, l, q⟩ := r; exact ⟨_, e⟩
  | lckT ob u ks ds => obtain ⟨vs, eu, e, l, q⟩ := r; exact ⟨_, e⟩
structure Wd0 (K : PySem.W.Frag) (m : Nat → Addr) (S : Sto) (Z : Addr → Prop) (H : Hp) : Prop where
  inj : ∀ i j, Live S i → Live S j → m i = m j → i = j
  zz : ∀ i, Live S i → ¬ Z (m i)
  zx : ∀ a, Z a → ∃ o, H a = some o ∧ ∀ vs, o ≠ .tup vs
  rep : ∀ i o, S[i]? = some (some o) → RepM K m S.length (vis m S Z H) H o (m i)
  tb : TbOk K Z H
structure Ext (m : Nat → Addr) (S : Sto) (Z : Addr → Prop) (H : Hp) (m' : Nat → Addr) (S' : Sto) (H' : Hp) : Prop where
  len : S.length ≤ S'.length
  loc : ∀ i, i < S.length → m' i = m i
  vis : ∀ a o, vis m S Z H a = some o → vis m' S' Z H' a = some o
  zed : ∀ a, Z a → (∀ ps, H a ≠ some (.tbl ps)) → H' a = H a
section
variable {K : PySem.W.Frag} {m m1 m2 : Nat → Addr} {S S1 S2 : Sto} {Z : Addr → Prop} {H H1 H2 : Hp}
theorem Ext.refl : Ext m S Z H m S H := ⟨Nat.le_refl _, fun _ _ => rfl, fun _ _ h => h, fun _ _ _ => rfl⟩
theorem Ext.trans (a : Ext m S Z H m1 S1 H1) (b : Ext m1 S1 Z H1 m2 S2 H2) : Ext m S Z H m2 S2 H2 :=
  ⟨Nat.le_trans a.len b.len, fun i h => (b.loc i (Nat.lt_of_lt_of_le h a.len)).trans (a.loc i h), fun x o h => b.vis x o (a.vis x o h), fun x h n => (b.zed x h (by rw [a.zed x h n]; exact n)).trans (a.zed x h n)⟩
theorem Rep.ext {d : D} {v : V} (e : Ext m S Z H m1 S1 H1) (r : Rep K m S.length (vis m S Z H) d v) : Rep K m1 S1.length (vis m1 S1 Z H1) d v := Rep.mono e.loc e.len e.vis r
theorem Reps.ext {d : List D} {v : List V} (e : Ext m S Z H m1 S1 H1) (r : Reps K m S.length (vis m S Z H) d v) : Reps K m1 S1.length (vis m1 S1 Z H1) d v := Reps.mono e.loc e.len e.vis r
theorem Wd0.zh (w : Wd0 K m S Z H) (a : Addr) (z : Z a) : ∃ o, H a = some o := by
  obtain ⟨o, h, _⟩ := w.zx a z
  exact ⟨o, h⟩
theorem Wd0.live (w : Wd0 K m S Z H) {i : Nat} (l : Live S i) : ∃ o, H (m i) = some o := by
  obtain ⟨o, e⟩ := l
  exact (w.rep i o e).there
theorem Wd0.fresh (w : Wd0 K m S Z H) {p : Addr} (hp : H p = none) : ¬ Z p ∧ ∀ n, Live S n → m n ≠ p := by
  refine ⟨fun z => ?_, fun n l e => ?_⟩
  · obtain ⟨o, q⟩ := w.zh p z
    rw [hp] at q; cases q
  · obtain ⟨o, q⟩ := w.live l
    rw [e, hp] at q; cases q
/-- a new object that is no part of the store -/
theorem Wd0.new (w : Wd0 K m S Z H) {p : Addr} {o : HO} (hp : H p = none) (ho : ∀ ps, o ≠ .tbl ps := by intro ps z; first | (cases z; done) | (unfold excO at z; cases z)) : Wd0 K m S Z (upd H p o) ∧ Ext m S Z H m S (upd H p o) ∧ vis m S Z (upd H p o) p = some o := by
  obtain ⟨nz, nl⟩ := w.fresh hp
  have hv : ∀ a u, vis m S Z H a = some u → vis m S Z (upd H p o) a = some u := fun a u h => by
    obtain ⟨z1, z2⟩ := vis_not h
    exact vis_of (by rw [upd_ne (ne_of_none (vis_sub h) hp)]; exact vis_sub h) z1 z2
  have hz : ∀ a, Z a → upd H p o a = H a := fun a z => upd_ne (fun e => nz (e ▸ z))
  refine ⟨⟨w.inj, w.zz, fun a z => ?_, fun i x e => ?_, w.tb.upd (noTb_none hp) ho⟩, ⟨Nat.le_refl _, fun _ _ => rfl, hv, fun a z _ => hz a z⟩, vis_of upd_same nz nl⟩
  · rw [hz a z]; exact w.zx a z
  · exact (w.rep i x e).mono (fun _ _ => rfl) (Nat.le_refl _) hv (upd_ne (nl i ⟨x, e⟩))
/-- a new object of the store -/
theorem Wd0.add (w : Wd0 K m S Z H) {p : Addr} {o : HO} {mo : MO} (hp : H p = none) (hr : ∀ m1 N1 Hv1, (∀ i, i < S.length → m1 i = m i) → S.length ≤ N1 → (∀ a u, vis m S Z H a = some u → Hv1 a = some u) → RepM K m1 N1 Hv1 (upd H p o) mo p) :
    ∃ m', m' S.length = p ∧ Wd0 K m' (S ++ [some mo]) Z (upd H p o) ∧ Ext m S Z H m' (S ++ [some mo]) (upd H p o) := by
  obtain ⟨nz, nl⟩ := w.fresh hp
  let m' : Nat → Addr := fun i => if i = S.length then p else m i
  have e0 : m' S.length = p := if_pos rfl
  have e1 : ∀ i, i < S.length → m' i = m i := fun i h => if_neg (Nat.ne_of_lt h)
  have lv : ∀ i, Live (S ++ [some mo]) i → (i < S.length ∧ Live S i) ∨ i = S.length := fun i ⟨x, e⟩ => by
    by_cases h : i < S.length
    · exact .inl ⟨h, x, by rw [List.getElem?_append_left h] at e; exact e⟩
    · right
      have := (List.getElem?_eq_some_iff.mp e).1
      rw [List.length_append, List.length_singleton] at this
      omega
  have hv : ∀ a u, vis m S Z H a = some u → vis m' (S ++ [some mo]) Z (upd H p o) a = some u := fun a u h => by
    obtain ⟨z1, z2⟩ := vis_not h
    have nap : a ≠ p := ne_of_none (vis_sub h) hp
    refine vis_of (by rw [upd_ne nap]; exact vis_sub h) z1 fun n l => ?_
    rcases lv n l with ⟨hn, l⟩ | rfl
    · rw [e1 n hn]; exact z2 n l
    · rw [e0]; exact nap.symm
  have hz : ∀ a, Z a → upd H p o a = H a := fun a z => upd_ne (fun e => nz (e ▸ z))
  have len : (S ++ [some mo]).length = S.length + 1 := by simp
  refine ⟨m', e0, ⟨fun i j li lj e => ?_, fun i li => ?_, fun a z => by rw [hz a z]; exact w.zx a z, fun i x e => ?_, w.tb.upd (noTb_none hp) (fun ps z => (by have h9 := (hr m S.length _ (fun _ _ => rfl) (Nat.le_refl _) (fun _ _ q => q)).noTb.1 ps; rw [upd_same, z] at h9; exact h9 rfl))⟩, ⟨by omega, e1, hv, fun a z _ => hz a z⟩⟩
  · rcases lv i li with ⟨hi, li⟩ | rfl <;> rcases lv j lj with ⟨hj, lj⟩ | rfl
    · rw [e1 i hi, e1 j hj] at e; exact w.inj i j li lj e
    · rw [e1 i hi, e0] at e; exact absurd e (nl i li)
    · rw [e0, e1 j hj] at e; exact absurd e.symm (nl j lj)
    · rfl
  · rcases lv i li with ⟨hi, li⟩ | rfl
    · rw [e1 i hi]; exact w.zz i li
    · rw [e0]; exact nz
  · rw [len]
    rcases lv i ⟨x, e⟩ with ⟨hi, li⟩ | rfl
    · rw [List.getElem?_append_left hi] at e
      exact (w.rep i x e).mono e1 (Nat.le_succ _) hv (by rw [e1 i hi]; exact upd_ne (nl i li))
    · rw [List.getElem?_append_right (Nat.le_refl _), Nat.sub_self, List.getElem?_cons_zero] at e
      cases e
      rw [e0]
      exact hr m' _ _ e1 (Nat.le_succ _) hv
/-- an object of the store changes -/
theorem Wd0.upd (w : Wd0 K m S Z H) {n : Nat} {o : HO} {mo : MO} (l : Live S n) (hr : RepM K m S.length (vis m S Z H) (upd H (m n) o) mo (m n)) :
    Wd0 K m (S.set n (some mo)) Z (upd H (m n) o) ∧ Ext m S Z H m (S.set n (some mo)) (upd H (m n) o) ∧ vis m (S.set n (some mo)) Z (upd H (m n) o) = vis m S Z H := by
  have hn : n < S.length := by obtain ⟨x, e⟩ := l; exact (List.getElem?_eq_some_iff.mp e).1
  have lv : ∀ i, Live (S.set n (some mo)) i ↔ Live S i := fun i => by
    unfold Live
    by_cases h : n = i
    · subst h
      rw [List.getElem?_set_self hn]
      exact ⟨fun _ => l, fun _ => ⟨_, rfl⟩⟩
    · rw [List.getElem?_set_ne h]
  have hv : vis m (S.set n (some mo)) Z (L2.upd H (m n) o) = vis m S Z H := by
    funext a
    unfold vis
    have e : (∃ k, Live (S.set n (some mo)) k ∧ m k = a) ↔ ∃ k, Live S k ∧ m k = a := ⟨fun ⟨k, q, e⟩ => ⟨k, (lv k).mp q, e⟩, fun ⟨k, q, e⟩ => ⟨k, (lv k).mpr q, e⟩⟩
    by_cases c : Z a ∨ ∃ k, Live S k ∧ m k = a
    · rw [if_pos c, if_pos (by rw [e]; exact c)]
    · rw [if_neg c, if_neg (by rw [e]; exact c)]
      exact upd_ne (fun q => c (.inr ⟨n, l, q.symm⟩))
  have hz : ∀ a, Z a → L2.upd H (m n) o a = H a := fun a z => upd_ne (fun e => w.zz n l (e ▸ z))
  refine ⟨⟨fun i j li lj => w.inj i j ((lv i).mp li) ((lv j).mp lj), fun i li => w.zz i ((lv i).mp li), fun a z => by rw [hz a z]; exact w.zx a z, fun i x e => ?_, w.tb.upd (let ⟨y, ey⟩ := l; (w.rep n y ey).noTb) (fun ps z => (by have h9 := hr.noTb.1 ps; rw [upd_same, z] at h9; exact h9 rfl))⟩, ⟨by rw [List.length_set]; exact Nat.le_refl _, fun _ _ => rfl, fun a u h => by rw [hv]; exact h, fun a z _ => hz a z⟩, hv⟩
  rw [hv, List.length_set]
  by_cases h : n = i
  · subst h
    rw [List.getElem?_set_self hn] at e
    cases e
    exact hr
  · rw [List.getElem?_set_ne h] at e
    exact (w.rep i x e).mono (fun _ _ => rfl) (Nat.le_refl _) (fun _ _ q => q) (upd_ne (fun q => h (w.inj i n ⟨x, e⟩ l q).symm))
end
mutual
def D.under (n : Nat) : D → Bool
  | .tup ds => D.unders n ds
  | .lst ds => D.unders n ds
  | .ksq ds => D.unders n ds
  | .obj _ _ ds => D.unders n ds
  | .dic _ ds => D.unders n ds
  | .loc k => decide (k < n)
  | .exc _ _ ds => D.unders n ds
  | .non => true | .bl _ => true | .int _ => true | .str _ => true | .ref _ => true | .ty _ => true
def D.unders (n : Nat) : List D → Bool
  | [] => true
  | d :: ds => D.under n d && D.unders n ds
end
def MO.under (n : Nat) : MO → Bool
  | .lst ds => D.unders n ds
  | .obj _ _ ds => D.unders n ds
  | .dic _ ds => D.unders n ds
  | .dicT _ ds => D.unders n ds
  | .lck _ _ _ ds => D.unders n ds
  | .lckT _ _ _ ds => D.unders n ds
def Sto.under (n : Nat) (S : Sto) : Bool := S.all fun o => match o with | none => true | some x => x.under n
section
variable {K : PySem.W.Frag} {m : Nat → Addr} {N n : Nat} {H : Hp}
mutual
theorem Rep.cut (hn : n ≤ N) : ∀ {d : D} {v : V}, Rep K m N H d v → d.under n = true → Rep K m n H d v
  | .non, _, r, _ => r
  | .bl _, _, r, _ => r
  | .int _, _, r, _ => r
  | .str _, _, r, _ => r
  | .tup ds, _, r, b => by
    obtain ⟨a, vs, e, s, q⟩ := r
    exact ⟨a, vs, e, s, Reps.cut hn q b⟩
  | .lst ds, _, r, b => by
    obtain ⟨a, vs, e, s, q⟩ := r
    exact ⟨a, vs, e, s, Reps.cut hn q b⟩
  | .ksq ds, _, r, b => by
    obtain ⟨a, vs, e, s, q⟩ := r
    exact ⟨a, vs, e, s, Reps.cut hn q b⟩
  | .obj C ks ds, _, r, b => by
    obtain ⟨a, dx, vs, e, s, l, q⟩ := r
    exact ⟨a, dx, vs, e, s, l, Reps.cut hn q b⟩
  | .dic ks ds, _, r, b => by
    obtain ⟨a, vs, e, s, l, q⟩ := r
    exact ⟨a, vs, e, s, l, Reps.cut hn q b⟩
  | .loc k, _, r, b => ⟨r.1, by simpa [D.under] using b⟩
  | .ref _, _, r, _ => r
  | .ty _, _, r, _ => r
  | .exc c ks ds, _, r, b => by
    obtain ⟨a, dd, vs, e, s, x, l, q⟩ := r
    exact ⟨a, dd, vs, e, s, x, l, Reps.cut hn q b⟩
theorem Reps.cut (hn : n ≤ N) : ∀ {ds : List D} {vs : List V}, Reps K m N H ds vs → D.unders n ds = true → Reps K m n H ds vs
  | [], _, r, _ => r
  | d :: ds, _, r, b => by
    obtain ⟨v, q, e, r1, r2⟩ := r
    have b' : D.under n d = true ∧ D.unders n ds = true := by simpa [D.unders] using b
    exact ⟨v, q, e, Rep.cut hn r1 b'.1, Reps.cut hn r2 b'.2⟩
end
mutual
theorem Rep.below : ∀ {d : D} {v : V}, Rep K m N H d v → d.under N = true
  | .non, _, _ => by simp [D.under]
  | .bl _, _, _ => by simp [D.under]
  | .int _, _, _ => by simp [D.under]
  | .str _, _, _ => by simp [D.under]
  | .tup ds, _, r => by
    obtain ⟨a, vs, e, s, q⟩ := r
    simpa [D.under] using Reps.below q
  | .lst ds, _, r => by
    obtain ⟨a, vs, e, s, q⟩ := r
    simpa [D.under] using Reps.below q
  | .ksq ds, _, r => by
    obtain ⟨a, vs, e, s, q⟩ := r
    simpa [D.under] using Reps.below q
  | .obj C ks ds, _, r => by
    obtain ⟨a, dx, vs, e, s, l, q⟩ := r
    simpa [D.under] using Reps.below q
  | .dic ks ds, _, r => by
    obtain ⟨a, vs, e, s, l, q⟩ := r
    simpa [D.under] using Reps.below q
  | .loc k, _, r => by simpa [D.under] using r.2
  | .ref _, _, _ => by simp [D.under]
  | .ty _, _, _ => by simp [D.under]
  | .exc c ks ds, _, r => by
    obtain ⟨a, dd, vs, e, s, x, l, q⟩ := r
    simpa [D.under] using Reps.below q
theorem Reps.below : ∀ {ds : List D} {vs : List V}, Reps K m N H ds vs → D.unders N ds = true
  | [], _, _ => by simp [D.unders]
  | d :: ds, _, r => by
    obtain ⟨v, q, e, r1, r2⟩ := r
    simp [D.unders, Rep.below r1, Reps.below r2]
end
theorem RepM.cut {Hv : Hp} (hn : n ≤ N) {o : MO} {a : Addr} (r : RepM K m N Hv H o a) (b : o.under n = true) : RepM K m n Hv H o a := by
  cases o with
  | lst ds => obtain ⟨vs, e, q⟩ := r; exact ⟨vs, e, Reps.cut hn q b⟩
  | obj C ks ds => obtain ⟨dx, vs, e, l, q⟩ := r; exact ⟨dx, vs, e, l, Reps.cut hn q b⟩
  | dic ks ds => obtain ⟨vs, e, l, q⟩ := r; exact ⟨vs, e, l, Reps.cut hn q b⟩
  | dicT ks ds => obtain ⟨vs, e, l, q⟩ := r; exact ⟨vs, e, l, Reps.cut hn q b⟩
  | lck ob u ks ds => obtain ⟨vs, eu, e, l, q⟩ := r; exact ⟨vs, eu, e, l, Reps.cut hn q b⟩
  | lckT ob u ks ds => obtain ⟨vs, eu, e, l, q⟩ := r; exact ⟨vs, eu, e, l, Reps.cut hn q b⟩
end
section
variable {K : PySem.W.Frag} {m m0 : Nat → Addr} {S S0 : Sto} {Z : Addr → Prop} {H H0 : Hp} {n : Nat}
theorem live_take {i : Nat} (h : Live (S.take n) i) : i < n ∧ Live S i := by
  obtain ⟨x, e⟩ := h
  have h1 : i < (S.take n).length := (List.getElem?_eq_some_iff.mp e).1
  rw [List.length_take] at h1
  have h2 : i < n := by omega
  refine ⟨h2, x, ?_⟩
  rw [List.getElem?_take_of_lt h2] at e
  exact e
theorem vis_take {a : Addr} {o : HO} (h : vis m S Z H a = some o) : vis m (S.take n) Z H a = some o := by
  obtain ⟨z1, z2⟩ := vis_not h
  exact vis_of (vis_sub h) z1 fun k l => z2 k (live_take l).2
/-- the store is cut: what lies beyond n is forgotten -/
theorem Wd0.take (w : Wd0 K m S Z H) (hn : n ≤ S.length) (hb : Sto.under n (S.take n) = true) : Wd0 K m (S.take n) Z H := by
  have len : (S.take n).length = n := by rw [List.length_take]; omega
  refine ⟨fun i j li lj => w.inj i j (live_take li).2 (live_take lj).2, fun i li => w.zz i (live_take li).2, w.zx, fun i x e => ?_, w.tb⟩
  have h := live_take ⟨x, e⟩
  have e' := e
  rw [List.getElem?_take_of_lt h.1] at e'
  rw [len]
  have bx : x.under n = true := by
    have hm : some x ∈ S.take n := List.mem_of_getElem? e
    have := List.all_eq_true.mp hb _ hm
    exact this
  exact ((w.rep i x e').mono (fun _ _ => rfl) (Nat.le_refl _) (fun a o q => vis_take (n := n) q) rfl).cut hn bx
theorem Ext.take (e : Ext m0 S0 Z H0 m S H) (h : S0.length ≤ n) (hn : n ≤ S.length) : Ext m0 S0 Z H0 m (S.take n) H :=
  ⟨by rw [List.length_take]; omega, e.loc, fun a o q => vis_take (e.vis a o q), e.zed⟩
/-- an object of the store is given up: from here on it is seen, and never changes -/
theorem live_setN {i k : Nat} (h : Live (S.set k none) i) : i ≠ k ∧ Live S i := by
  obtain ⟨x, e⟩ := h
  by_cases q : k = i
  · subst q
    by_cases hk : k < S.length
    · rw [List.getElem?_set_self hk] at e; cases e
    · rw [List.getElem?_eq_none_iff.mpr (by rw [List.length_set]; omega)] at e; cases e
  · rw [List.getElem?_set_ne q] at e
    exact ⟨fun z => q z.symm, x, e⟩
theorem vis_setN {a : Addr} {o : HO} {k : Nat} (h : vis m S Z H a = some o) : vis m (S.set k none) Z H a = some o := by
  obtain ⟨z1, z2⟩ := vis_not h
  exact vis_of (vis_sub h) z1 fun j l => z2 j (live_setN l).2
theorem Wd0.freeze (w : Wd0 K m S Z H) (k : Nat) : Wd0 K m (S.set k none) Z H := by
  refine ⟨fun i j li lj => w.inj i j (live_setN li).2 (live_setN lj).2, fun i li => w.zz i (live_setN li).2, w.zx, fun i x e => ?_, w.tb⟩
  have h := live_setN ⟨x, e⟩
  rw [List.getElem?_set_ne (fun q => h.1 q.symm)] at e
  rw [List.length_set]
  exact (w.rep i x e).mono (fun _ _ => rfl) (Nat.le_refl _) (fun a o q => vis_setN (k := k) q) rfl
theorem Ext.freeze (e : Ext m0 S0 Z H0 m S H) (k : Nat) : Ext m0 S0 Z H0 m (S.set k none) H :=
  ⟨by rw [List.length_set]; exact e.len, e.loc, fun a o q => vis_setN (e.vis a o q), e.zed⟩
/-- the list at k, given up, as data -/
theorem Wd0.frozen_lst (w : Wd0 K m S Z H) {k : Nat} {ds : List D} (e : S[k]? = some (some (.lst ds))) : Rep K m (S.set k none).length (vis m (S.set k none) Z H) (.lst ds) (.ref (m k)) := by
  obtain ⟨vs, h, r⟩ := w.rep k _ e
  refine ⟨m k, vs, rfl, vis_of h (w.zz k ⟨_, e⟩) fun j l q => ?_, ?_⟩
  · have h2 := live_setN l
    exact h2.1 (w.inj j k h2.2 ⟨_, e⟩ q)
  · rw [List.length_set]
    exact Reps.mono (fun _ _ => rfl) (Nat.le_refl _) (fun a o q => vis_setN q) r
theorem Wd0.frozen_obj (w : Wd0 K m S Z H) {k : Nat} {C : Addr} {ks : List Str} {ds : List D} (e : S[k]? = some (some (.obj C ks ds))) : Rep K m (S.set k none).length (vis m (S.set k none) Z H) (.obj C ks ds) (.ref (m k)) := by
  obtain ⟨dx, vs, h, hl, r⟩ := w.rep k _ e
  refine ⟨m k, dx, vs, rfl, vis_of h (w.zz k ⟨_, e⟩) fun j l q => ?_, hl, ?_⟩
  · have h2 := live_setN l
    exact h2.1 (w.inj j k h2.2 ⟨_, e⟩ q)
  · rw [List.length_set]
    exact Reps.mono (fun _ _ => rfl) (Nat.le_refl _) (fun a o q => vis_setN q) r
theorem Wd0.frozen_dic (w : Wd0 K m S Z H) {k : Nat} {ks : List Key} {ds : List D} (e : S[k]? = some (some (.dic ks ds))) : Rep K m (S.set k none).length (vis m (S.set k none) Z H) (.dic ks ds) (.ref (m k)) := by
  obtain ⟨vs, h, hl, r⟩ := w.rep k _ e
  refine ⟨m k, vs, rfl, vis_of h (w.zz k ⟨_, e⟩) fun j l q => ?_, hl, ?_⟩
  · have h2 := live_setN l
    exact h2.1 (w.inj j k h2.2 ⟨_, e⟩ q)
  · rw [List.length_set]
    exact Reps.mono (fun _ _ => rfl) (Nat.le_refl _) (fun a o q => vis_setN q) r
end
def RelS (K : PySem.W.Frag) (m : Nat → Addr) (N : Nat) (Hv : Hp) (ρ : Env_) (σ : St) : Prop :=
  ρ.length = σ.length ∧ ∀ (i : Nat) (d : D), ρ[i]? = some (some d) → ∃ v : V, σ[i]? = some (some v) ∧ Rep K m N Hv d v
/-- a wish of exceptions, by data: class, fields, slots, store -/
abbrev XW := XC → List Str → List D → Env_ → Sto → Prop
structure Wi where
  W : Value → Option Addr → St → Hp → Prop
  D : XW
/-- none is let out -/
def U0 : Wi := ⟨fun _ _ _ _ => False, fun _ _ _ _ _ => False⟩
def Up (K : PySem.W.Frag) (U : Wi) (m : Nat → Addr) (S : Sto) (Z : Addr → Prop) (H : Hp) : Prop :=
  ∀ (H' : Hp) (m' : Nat → Addr) (S' : Sto) (σ' : St) (ρ' : Env_) (c : XC) (dd : Option Addr) (ks : List Str) (ds : List D) (vs : List V), Ext m S Z H m' S' H' → Wd0 K m' S' Z H' → RelS K m' S'.length (vis m' S' Z H') ρ' σ' →
    Xd (vis m' S' Z H') dd (ks.zip vs) → ks.length = vs.length → Reps K m' S'.length (vis m' S' Z H') ds vs → U.D c ks ds ρ' S' → U.W c.val dd σ' H'
structure Wd (K : PySem.W.Frag) (U : Wi) (m : Nat → Addr) (S : Sto) (Z : Addr → Prop) (H : Hp) : Prop extends Wd0 K m S Z H where
  up : Up K U m S Z H
section
variable {K : PySem.W.Frag} {U : Wi} {m m1 : Nat → Addr} {S S1 : Sto} {Z : Addr → Prop} {H H1 : Hp}
theorem Wd0.u0 (w : Wd0 K m S Z H) : Wd K U0 m S Z H := ⟨w, fun _ _ _ _ _ _ _ _ _ _ _ _ _ _ _ _ z => z.elim⟩
/-- a later world -/
theorem Wd.on (w : Wd K U m S Z H) (e : Ext m S Z H m1 S1 H1) (w1 : Wd0 K m1 S1 Z H1) : Wd K U m1 S1 Z H1 := ⟨w1, fun H' m' S' σ' ρ' c dd ks ds vs e' => w.up H' m' S' σ' ρ' c dd ks ds vs (e.trans e')⟩
theorem Wd.new (w : Wd K U m S Z H) {p : Addr} {o : HO} (hp : H p = none) (ho : ∀ ps, o ≠ .tbl ps := by intro ps z; first | (cases z; done) | (unfold excO at z; cases z)) : Wd K U m S Z (upd H p o) ∧ Ext m S Z H m S (upd H p o) ∧ vis m S Z (upd H p o) p = some o := by
  obtain ⟨a, b, c⟩ := w.toWd0.new (o := o) hp ho
  exact ⟨w.on b a, b, c⟩
theorem Wd.add (w : Wd K U m S Z H) {p : Addr} {o : HO} {mo : MO} (hp : H p = none) (hr : ∀ m1 N1 Hv1, (∀ i, i < S.length → m1 i = m i) → S.length ≤ N1 → (∀ a u, vis m S Z H a = some u → Hv1 a = some u) → RepM K m1 N1 Hv1 (upd H p o) mo p) :
    ∃ m', m' S.length = p ∧ Wd K U m' (S ++ [some mo]) Z (upd H p o) ∧ Ext m S Z H m' (S ++ [some mo]) (upd H p o) := by
  obtain ⟨m', e0, a, b⟩ := w.toWd0.add (o := o) (mo := mo) hp hr
  exact ⟨m', e0, w.on b a, b⟩
theorem Wd.upd (w : Wd K U m S Z H) {n : Nat} {o : HO} {mo : MO} (l : Live S n) (hr : RepM K m S.length (vis m S Z H) (upd H (m n) o) mo (m n)) :
    Wd K U m (S.set n (some mo)) Z (L2.upd H (m n) o) ∧ Ext m S Z H m (S.set n (some mo)) (L2.upd H (m n) o) ∧ vis m (S.set n (some mo)) Z (L2.upd H (m n) o) = vis m S Z H := by
  obtain ⟨a, b, c⟩ := w.toWd0.upd (o := o) (mo := mo) l hr
  exact ⟨w.on b a, b, c⟩
theorem Wd.freeze (w : Wd K U m S Z H) (k : Nat) : Wd K U m (S.set k none) Z H := w.on (Ext.refl.freeze k) (w.toWd0.freeze k)
end
end Dl
namespace Dl
open PySem L2
section
variable {K : PySem.W.Frag} {m : Nat → Addr} {N : Nat} {Hv : Hp}
theorem rep_non : Rep K m N Hv .non .non := by simp [Rep]
theorem rep_bl {b : Bool} : Rep K m N Hv (.bl b) (.bl b) := by simp [Rep]
theorem rep_int {b : Int} : Rep K m N Hv (.int b) (.int b) := by simp [Rep]
theorem rep_str {b : Str} : Rep K m N Hv (.str b) (.str b) := by simp [Rep]
theorem rep_tup {a : Addr} {vs : List V} {ds : List D} (h : SqT K Hv a vs) (r : Reps K m N Hv ds vs) : Rep K m N Hv (.tup ds) (.ref a) := by rw [Rep]; exact ⟨a, vs, rfl, h, r⟩
theorem rep_lst {a : Addr} {vs : List V} {ds : List D} (h : Hv a = some (.lst vs)) (r : Reps K m N Hv ds vs) : Rep K m N Hv (.lst ds) (.ref a) := by rw [Rep]; exact ⟨a, vs, rfl, h, r⟩
theorem rep_loc {a : Addr} {n : Nat} (e : m n = a) (h : n < N) : Rep K m N Hv (.loc n) (.ref a) := by rw [Rep]; exact ⟨by rw [e], h⟩
theorem reps_nil : Reps K m N Hv [] [] := by simp [Reps]
end
/-- what is wanted behind a step, by data -/
def Outs {A B : Type} (m : Nat → Addr) (S : Sto) (Z : Addr → Prop) (H : Hp) (K : PySem.W.Frag) (U : Wi) (rel : (Nat → Addr) → Nat → Hp → A → B → Prop) (q : A → Sto → Prop) (Q : B → Hp → Prop) : Prop :=
  ∀ b H' m' a S', Ext m S Z H m' S' H' → Wd K U m' S' Z H' → rel m' S'.length (vis m' S' Z H') a b → q a S' → Q b H'
abbrev rD (K : PySem.W.Frag) : (Nat → Addr) → Nat → Hp → D → V → Prop := fun m N Hv d v => Rep K m N Hv d v
abbrev rDs (K : PySem.W.Frag) : (Nat → Addr) → Nat → Hp → List D → List V → Prop := fun m N Hv d v => Reps K m N Hv d v
abbrev rEq {A : Type} : (Nat → Addr) → Nat → Hp → A → A → Prop := fun _ _ _ a b => a = b
/-- a step by data -/
abbrev G (A : Type) := Env_ → Sto → (A → Sto → Prop) → Prop
def tof {A B : Type} (K : PySem.W.Frag) (U : Wi) (rel : (Nat → Addr) → Nat → Hp → A → B → Prop) (g : G A) : St → Hp → (B → Hp → Prop) → Prop := fun σ H Q =>
  ∃ m S Z ρ q, Wd K U m S Z H ∧ RelS K m S.length (vis m S Z H) ρ σ ∧ g ρ S q ∧ Outs m S Z H K U rel q Q
abbrev tofE (K : PySem.W.Frag) (U : Wi) (g : G D) : TE := tof K U (rD K) g
abbrev tofB (K : PySem.W.Frag) (U : Wi) (g : G Bool) : TT := tof K U rEq g
abbrev tofA (K : PySem.W.Frag) (U : Wi) (g : G (List D)) : TA := tof K U (rDs K) g
abbrev tofO (K : PySem.W.Frag) (U : Wi) (g : G (Option Int)) : TO := tof K U rEq g
section
variable {A B : Type} {K : PySem.W.Frag} {m m1 : Nat → Addr} {S S1 : Sto} {Z : Addr → Prop} {H H1 : Hp} {rel : (Nat → Addr) → Nat → Hp → A → B → Prop} {q : A → Sto → Prop} {Q : B → Hp → Prop} {ρ : Env_} {σ : St}
theorem Outs.ext (e : Ext m S Z H m1 S1 H1) (k : Outs m S Z H K U rel q Q) : Outs m1 S1 Z H1 K U rel q Q := fun b H' m' a S' e' w r h => k b H' m' a S' (e.trans e') w r h
theorem Outs.now (k : Outs m S Z H K U rel q Q) (w : Wd K U m S Z H) {a : A} {b : B} (r : rel m S.length (vis m S Z H) a b) (h : q a S) : Q b H := k b H m a S Ext.refl w r h
theorem Outs.at (k : Outs m S Z H K U rel q Q) (e : Ext m S Z H m1 S1 H1) (w : Wd K U m1 S1 Z H1) {a : A} {b : B} (r : rel m1 S1.length (vis m1 S1 Z H1) a b) (h : q a S1) : Q b H1 := k b H1 m1 a S1 e w r h
theorem RelS.ext (e : Ext m S Z H m1 S1 H1) (r : RelS K m S.length (vis m S Z H) ρ σ) : RelS K m1 S1.length (vis m1 S1 Z H1) ρ σ :=
  ⟨r.1, fun i d h => let ⟨v, h1, h2⟩ := r.2 i d h; ⟨v, h1, h2.ext e⟩⟩
theorem RelS.set {i : Nat} {d : D} {v : V} {N : Nat} {Hv : Hp} (r : RelS K m N Hv ρ σ) (h : Rep K m N Hv d v) : RelS K m N Hv (ρ.set i (some d)) (σ.set i (some v)) := by
  refine ⟨by rw [List.length_set, List.length_set]; exact r.1, fun j x e => ?_⟩
  by_cases hj : i = j
  · subst hj
    have hl : i < ρ.length := by
      have := (List.getElem?_eq_some_iff.mp e).1
      rw [List.length_set] at this; exact this
    rw [List.getElem?_set_self hl] at e
    cases e
    exact ⟨v, List.getElem?_set_self (by rw [← r.1]; exact hl), h⟩
  · rw [List.getElem?_set_ne hj] at e
    obtain ⟨w, h1, h2⟩ := r.2 j x e
    exact ⟨w, by rw [List.getElem?_set_ne hj]; exact h1, h2⟩
theorem tof_in {g : G A} (w : Wd K U m S Z H) (r : RelS K m S.length (vis m S Z H) ρ σ) (h : g ρ S q) (k : Outs m S Z H K U rel q Q) : tof K U rel g σ H Q := ⟨m, S, Z, ρ, q, w, r, h, k⟩
end
section
variable {X : Cx} {e : Expr} {t t' : TE}
theorem weakE (h : PE X e t) (k : ∀ σ H Q, t' σ H Q → t σ H Q) : PE X e t' := ⟨fun pins s σ H Q I q => h.run pins s σ H Q I (k σ H Q q)⟩
theorem weakT {u u' : TT} (h : PT X e u) (k : ∀ σ H Q, u' σ H Q → u σ H Q) : PT X e u' := ⟨fun pins s σ H Q I q => h.run pins s σ H Q I (k σ H Q q)⟩
theorem weakW {u u' : TT} (h : PW X e u) (k : ∀ σ H Q, u' σ H Q → u σ H Q) : PW X e u' := ⟨fun wh pins s σ H Q I q => h.run wh pins s σ H Q I (k σ H Q q)⟩
theorem weakA {es : List Expr} {u u' : TA} (h : PA X es u) (k : ∀ σ H Q, u' σ H Q → u σ H Q) : PA X es u' := ⟨fun pos pins s σ H Q I q => h.run pos pins s σ H Q I (k σ H Q q)⟩
theorem weakO {e : Option Expr} {u u' : TO} (h : PO X e u) (k : ∀ σ H Q, u' σ H Q → u σ H Q) : PO X e u' := ⟨fun pins s σ H Q I q => h.run pins s σ H Q I (k σ H Q q)⟩
theorem weakS {st : Stmt} {u u' : TS} (h : PS X st u) (k : ∀ E σ H, u' E σ H → u E σ H) : PS X st u' := ⟨fun pins s σ H E I q => h.run pins s σ H E I (k E σ H q)⟩
theorem weakSs {st : List Stmt} {u u' : TS} (h : PSs X st u) (k : ∀ E σ H, u' E σ H → u E σ H) : PSs X st u' := ⟨fun pins s σ H E I q => h.run pins s σ H E I (k E σ H q)⟩
/-- what is never reached -/
theorem deadE : PE X e (fun _ _ _ => False) := ⟨fun _ _ _ _ _ _ h => h.elim⟩
theorem deadS {st : Stmt} : PS X st (fun _ _ _ => False) := ⟨fun _ _ _ _ _ _ h => h.elim⟩
end
def gVar (i : Nat) : G D := fun ρ S q => ∃ d : D, ρ[i]? = some (some d) ∧ q d S
def gC (d : D) : G D := fun _ S q => q d S
section
variable {X : Cx} {pos : Pos}
theorem d_var (i : Nat) {x : Str} (hN : X.N[i]? = some x := by rfl) (hv : Vis X.env.scope x := by first | exact Or.inl rfl | exact Or.inr (Or.inl rfl) | exact Or.inr (Or.inr rfl)) (hd : (x == ("__debug__" : Str)) = false := by decide)
    (hcd : (x == ("__classdict__" : Str)) = false := by decide) : PE X (.Name x pos) (tofE X.K U (gVar i)) :=
  weakE (pe_var hN hv hd hcd) fun σ H Q ⟨m, S, Z, ρ, q, w, r, ⟨d, e, h⟩, k⟩ => by
    obtain ⟨v, h1, h2⟩ := r.2 i d e
    exact ⟨v, h1, k.now w h2 h⟩
theorem ofC {e : Expr} {d : D} {v : V} (h : PE X e (tC v)) (hr : ∀ K m N Hv, Rep K m N Hv d v) : PE X e (tofE X.K U (gC d)) :=
  weakE h fun σ H Q ⟨m, S, Z, ρ, q, w, r, h, k⟩ => k.now w (hr _ _ _ _) h
theorem d_int {i j} : PE X (.Constant (.int i) j pos) (tofE X.K U (gC (.int i))) := ofC pe_int fun _ _ _ _ => rfl
theorem d_bl {b j} : PE X (.Constant (.bool b) j pos) (tofE X.K U (gC (.bl b))) := ofC pe_bl fun _ _ _ _ => rfl
theorem d_non {j} : PE X (.Constant .none j pos) (tofE X.K U (gC .non)) := ofC pe_non fun _ _ _ _ => rfl
theorem d_str {x j} : PE X (.Constant (.str x) j pos) (tofE X.K U (gC (.str x))) := ofC pe_str fun _ _ _ _ => rfl
/-- a module's tuple, list -/
structure KTup (K : PySem.W.Frag) (ds : List D) (a : Addr) : Prop where
  ok : ∀ m N Hv, Rep K m N Hv (.tup ds) (.ref a)
theorem d_gtup {x : Str} {a : Addr} {ds : List D} (hg : Gl X x) (hm : X.mg x = some (.ref a)) (hk : KTup X.K ds a) (hd : (x == ("__debug__" : Str)) = false := by decide) : PE X (.Name x pos) (tofE X.K U (gC (.tup ds))) :=
  weakE (pe_glob (v := .ref a) hg hm rfl hd) fun σ H Q ⟨m, S, Z, ρ, q, w, r, h, k⟩ => k.now w (hk.ok _ _ _) h
end
abbrev R2D := D → D → Sto → (D → Sto → Prop) → Prop
abbrev R1D := D → Sto → (D → Sto → Prop) → Prop
abbrev RND := List D → Sto → (D → Sto → Prop) → Prop
def gB2 (r : R2D) (ga gb : G D) : G D := fun ρ S q => ga ρ S fun a S1 => gb ρ S1 fun b S2 => r a b S2 q
def gU (r : R1D) (ga : G D) : G D := fun ρ S q => ga ρ S fun a S1 => r a S1 q
def VR2 (K : PySem.W.Frag) (r : R2) (g : R2D) : Prop := ∀ {U : Wi} {m : Nat → Addr} {S : Sto} {Z : Addr → Prop} {H : Hp} {a b : D} {v u : V} {q : D → Sto → Prop} {Q : VK}, Wd K U m S Z H → Rep K m S.length (vis m S Z H) a v → Rep K m S.length (vis m S Z H) b u →
  g a b S q → Outs m S Z H K U (rD K) q Q → r v u H Q
def VR1 (K : PySem.W.Frag) (r : V → Hp → VK → Prop) (g : R1D) : Prop := ∀ {U : Wi} {m : Nat → Addr} {S : Sto} {Z : Addr → Prop} {H : Hp} {a : D} {v : V} {q : D → Sto → Prop} {Q : VK}, Wd K U m S Z H → Rep K m S.length (vis m S Z H) a v →
  g a S q → Outs m S Z H K U (rD K) q Q → r v H Q
def VRN (K : PySem.W.Frag) (r : List V → Hp → VK → Prop) (g : RND) : Prop := ∀ {U : Wi} {m : Nat → Addr} {S : Sto} {Z : Addr → Prop} {H : Hp} {a : List D} {v : List V} {q : D → Sto → Prop} {Q : VK}, Wd K U m S Z H → Reps K m S.length (vis m S Z H) a v →
  g a S q → Outs m S Z H K U (rD K) q Q → r v H Q
section
variable {X : Cx} {pos : Pos} {a b c e : Expr} {ga gb gc : G D} {r r' : R2} {g g' : R2D}
theorem two_in {K : PySem.W.Frag} (hv : VR2 K r g) {σ : St} {H : Hp} {Q : VK} (h : tofE K U (gB2 g ga gb) σ H Q) : tOp r (tofE K U ga) (tofE K U gb) σ H Q := by
  obtain ⟨m, S, Z, ρ, q, w, rs, h, k⟩ := h
  exact tof_in w rs h fun v1 H1 m1 d1 S1 e1 w1 r1 h1 => tof_in w1 (rs.ext e1) h1 fun v2 H2 m2 d2 S2 e2 w2 r2 h2 => hv w2 (r1.ext e2) r2 h2 (k.ext (e1.trans e2))
theorem d_op {op : Operator} (ho : OpR X (binaryOp op) r) (hv : VR2 X.K r g) (ha : PE X a (tofE X.K U ga)) (hb : PE X b (tofE X.K U gb)) : PE X (.BinOp a op b pos) (tofE X.K U (gB2 g ga gb)) :=
  weakE (pe_op ho ha hb) fun _ _ _ h => two_in hv h
theorem d_cmp {op : CmpOp} (ho : OpR X (compareOp op) r) (hv : VR2 X.K r g) (ha : PE X a (tofE X.K U ga)) (hb : PE X b (tofE X.K U gb)) (hm : behindInMarks op b = false := by first | rfl | exact nomark _) : PE X (.Compare a [op] [b] pos) (tofE X.K U (gB2 g ga gb)) :=
  weakE (pe_cmpR ho ha hb hm) fun _ _ _ h => two_in hv h
/-- a comparison as a test -/
def gTest (g : G D) : G Bool := fun ρ S q => g ρ S fun d S1 => ∃ k, d = .bl k ∧ q k S1
theorem d_test {t : TE} (h : PE X e t) (ht : PT X e (tTest t)) {g : G D} (k : ∀ σ H Q, tofE X.K U g σ H Q → t σ H Q) : PT X e (tofB X.K U (gTest g)) :=
  weakT ht fun σ H Q ⟨m, S, Z, ρ, q, w, rs, h, kk⟩ => k σ H _ (tof_in w rs h fun v1 H1 m1 d1 S1 e1 w1 r1 h1 => by
    obtain ⟨b, e, h1⟩ := h1
    subst e
    exact ⟨b, r1, kk.at e1 w1 rfl h1⟩)
theorem d_tcmp {op : CmpOp} (ho : OpR X (compareOp op) r) (hv : VR2 X.K r g) (ha : PE X a (tofE X.K U ga)) (hb : PE X b (tofE X.K U gb)) (hm : behindInMarks op b = false := by first | rfl | exact nomark _) : PT X (.Compare a [op] [b] pos) (tofB X.K U (gTest (gB2 g ga gb))) :=
  d_test (pe_cmpR (pos := pos) ho ha hb hm) (pt_cmpR ho ha hb hm) fun _ _ _ h => two_in hv h
theorem VR2.or {K : PySem.W.Frag} (h : VR2 K r g) (h' : VR2 K r' g') : VR2 K (fun x y H Q => r x y H Q ∨ r' x y H Q) (fun a b S q => g a b S q ∨ g' a b S q) := fun w r1 r2 x k => x.elim (fun x => .inl (h w r1 r2 x k)) (fun x => .inr (h' w r1 r2 x k))
theorem VR2.imp {K : PySem.W.Frag} (h : VR2 K r g) (i : ∀ a b S q, g' a b S q → g a b S q) : VR2 K r g' := fun w r1 r2 x k => h w r1 r2 (i _ _ _ _ x) k
/-- a chain a < b < c -/
def gChain (g g' : R2D) (ga gb gc : G D) : G D := fun ρ S q => ga ρ S fun a S1 => gb ρ S1 fun b S2 => g a b S2 fun z S3 => ∃ k, z = .bl k ∧ (if k = true then gc ρ S3 fun c S4 => g' b c S4 q else q (.bl false) S3)
theorem d_un {op : UnaryOp} {u : V → Hp → VK → Prop} {g1 : R1D} (ho : UnR X (unaryOp op) u) (hv : VR1 X.K u g1) (ha : PE X a (tofE X.K U ga)) : PE X (.UnaryOp op a pos) (tofE X.K U (gU g1 ga)) :=
  weakE (pe_un ho ha) fun _ _ _ ⟨m, S, Z, ρ, q, w, rs, h, k⟩ => tof_in w rs h fun v1 H1 m1 d1 S1 e1 w1 r1 h1 => hv w1 r1 h1 (k.ext e1)
end
section
variable {X : Cx} {pos : Pos} {a b c e : Expr} {ga gb gc : G D} {rest : List Expr} {ta tb : G Bool}
/-- an expression whose value is a bool, as a test -/
theorem d_val (h : PE X e (tofE X.K U ga)) (he : ∀ whole, isTrue e X.env whole = (do let v ← whole; standAt e.pos; holding [v] (truthy v)) := by intro _; rfl) : PT X e (tofB X.K U (gTest ga)) :=
  d_test (t := tofE X.K U ga) h (weakT (pt_val h he) fun _ _ _ h => h) fun _ _ _ h => h
def gAndB (ta tb : G Bool) : G Bool := fun ρ S q => ta ρ S fun c S1 => if c = true then tb ρ S1 q else q false S1
def gOrB (ta tb : G Bool) : G Bool := fun ρ S q => ta ρ S fun c S1 => if c = true then q true S1 else tb ρ S1 q
def gNotB (ta : G Bool) : G Bool := fun ρ S q => ta ρ S fun c S1 => q (!c) S1
theorem d_and1 (ha : PT X a (tofB X.K U ta)) : PW X (.BoolOp .And [a] pos) (tofB X.K U ta) := pw_and1 ha
theorem d_or1 (ha : PT X a (tofB X.K U ta)) : PW X (.BoolOp .Or [a] pos) (tofB X.K U ta) := pw_or1 ha
theorem d_and (ha : PT X a (tofB X.K U ta)) (hb : PW X (.BoolOp .And (b :: rest) pos) (tofB X.K U tb)) : PW X (.BoolOp .And (a :: b :: rest) pos) (tofB X.K U (gAndB ta tb)) :=
  weakW (pw_and ha hb) fun σ H Q ⟨m, S, Z, ρ, q, w, rs, h, k⟩ => tof_in w rs h fun v1 H1 m1 d1 S1 e1 w1 r1 h1 => by
    cases (show d1 = v1 from r1)
    cases v1 with
    | true => exact tof_in w1 (rs.ext e1) h1 (k.ext e1)
    | false => exact k.at e1 w1 rfl h1
theorem d_or (ha : PT X a (tofB X.K U ta)) (hb : PW X (.BoolOp .Or (b :: rest) pos) (tofB X.K U tb)) : PW X (.BoolOp .Or (a :: b :: rest) pos) (tofB X.K U (gOrB ta tb)) :=
  weakW (pw_or ha hb) fun σ H Q ⟨m, S, Z, ρ, q, w, rs, h, k⟩ => tof_in w rs h fun v1 H1 m1 d1 S1 e1 w1 r1 h1 => by
    cases (show d1 = v1 from r1)
    cases v1 with
    | true => exact k.at e1 w1 rfl h1
    | false => exact tof_in w1 (rs.ext e1) h1 (k.ext e1)
theorem d_not (ha : PT X a (tofB X.K U ta)) : PT X (.UnaryOp .Not a pos) (tofB X.K U (gNotB ta)) :=
  weakT (pt_not ha) fun σ H Q ⟨m, S, Z, ρ, q, w, rs, h, k⟩ => tof_in w rs h fun v1 H1 m1 d1 S1 e1 w1 r1 h1 => by
    cases (show d1 = v1 from r1)
    exact k.at e1 w1 rfl h1
/-- and, or, not as values: bools -/
def gAndV (ga gb : G D) : G D := fun ρ S q => ga ρ S fun a S1 => ∃ c, a = .bl c ∧ if c = true then gb ρ S1 q else q (.bl false) S1
def gOrV (ga gb : G D) : G D := fun ρ S q => ga ρ S fun a S1 => ∃ c, a = .bl c ∧ if c = true then q (.bl true) S1 else gb ρ S1 q
def gNotV (ga : G D) : G D := fun ρ S q => ga ρ S fun a S1 => ∃ c, a = .bl c ∧ q (.bl (!c)) S1
def gIf (t : G Bool) (ga gb : G D) : G D := fun ρ S q => t ρ S fun c S1 => if c = true then ga ρ S1 q else gb ρ S1 q
theorem d_ifExp (hc : PT X c (tofB X.K U ta)) (ha : PE X a (tofE X.K U ga)) (hb : PE X b (tofE X.K U gb)) : PE X (.IfExp c a b pos) (tofE X.K U (gIf ta ga gb)) :=
  weakE (pe_ifExp hc ha hb) fun σ H Q ⟨m, S, Z, ρ, q, w, rs, h, k⟩ => tof_in w rs h fun v1 H1 m1 d1 S1 e1 w1 r1 h1 => by
    cases (show d1 = v1 from r1)
    cases v1 with
    | true => exact tof_in w1 (rs.ext e1) h1 (k.ext e1)
    | false => exact tof_in w1 (rs.ext e1) h1 (k.ext e1)
/-- is None -/
def D.isNon : D → Bool
  | .non => true
  | _ => false
theorem Rep.isNon {K : PySem.W.Frag} {m : Nat → Addr} {N : Nat} {Hv : Hp} {d : D} {v : V} (r : Rep K m N Hv d v) : decide (v = .non) = d.isNon := by
  cases d with
  | non => rw [show v = .non from r]; rfl
  | bl b => rw [show v = .bl b from r]; rfl
  | int b => rw [show v = .int b from r]; rfl
  | str b => rw [show v = .str b from r]; rfl
  | tup b => obtain ⟨a, vs, e, _⟩ := r; rw [e]; rfl
  | lst b => obtain ⟨a, vs, e, _⟩ := r; rw [e]; rfl
  | ksq b => obtain ⟨a, vs, e, _⟩ := r; rw [e]; rfl
  | obj b => obtain ⟨a, dx, vs, e, _⟩ := r; rw [e]; rfl
  | dic b => obtain ⟨a, vs, e, _⟩ := r; rw [e]; rfl
  | loc n => rw [r.1]; rfl
  | ref a => rw [show v = .ref a from r]; rfl
  | ty a => rw [show v = .ty a from r]; rfl
  | exc c ks ds => obtain ⟨a, dd, vs, e, _⟩ := r; rw [e]; rfl
def gIsN (ga : G D) : G D := fun ρ S q => ga ρ S fun a S1 => q (.bl a.isNon) S1
def gNotN (ga : G D) : G D := fun ρ S q => ga ρ S fun a S1 => q (.bl (!a.isNon)) S1
theorem d_tisN {j pos'} (ha : PE X a (tofE X.K U ga)) : PT X (.Compare a [.Is] [.Constant .none j pos'] pos) (tofB X.K U (gTest (gIsN ga))) :=
  weakT (pt_cmp (pc_isN ha)) fun σ H Q ⟨m, S, Z, ρ, q, w, rs, h, k⟩ => tof_in w rs h fun v1 H1 m1 d1 S1 e1 w1 r1 ⟨b, e, h1⟩ => ⟨_, by rw [Rep.isNon r1], k.at e1 w1 (by cases e; rfl) h1⟩
end
def gNil : G (List D) := fun _ S q => q [] S
def gCons (ga : G D) (gr : G (List D)) : G (List D) := fun ρ S q => ga ρ S fun a S1 => gr ρ S1 fun as S2 => q (a :: as) S2
/-- a new list: given up at once, or of the store -/
def newL (fz : Bool) (ds : List D) (S : Sto) (q : D → Sto → Prop) : Prop := if fz = true then q (.lst ds) S else q (.loc S.length) (S ++ [some (.lst ds)])
section
variable {K : PySem.W.Frag} {m : Nat → Addr} {S : Sto} {Z : Addr → Prop} {H : Hp} {q : D → Sto → Prop} {Q : VK} {ds : List D} {vs : List V} {fz : Bool} {p : Addr}
theorem out_newL (w : Wd K U m S Z H) (r : Reps K m S.length (vis m S Z H) ds vs) (h : newL fz ds S q) (k : Outs m S Z H K U (rD K) q Q) (hp : H p = none) : Q (.ref p) (upd H p (.lst vs)) := by
  cases fz with
  | true =>
    obtain ⟨w1, e1, hv⟩ := w.new (o := .lst vs) hp
    exact k.at e1 w1 (rep_lst hv (r.ext e1)) h
  | false =>
    obtain ⟨m', e0, w1, e1⟩ := w.add (o := .lst vs) (mo := .lst ds) hp fun m1 N1 Hv1 h1 h2 h3 => ⟨vs, upd_same, Reps.mono h1 h2 h3 r⟩
    exact k.at e1 w1 (rep_loc e0 (by simp)) h
theorem out_newT (w : Wd K U m S Z H) (r : Reps K m S.length (vis m S Z H) ds vs) (h : q (.tup ds) S) (k : Outs m S Z H K U (rD K) q Q) (hp : H p = none) : Q (.ref p) (upd H p (.tup vs)) := by
  obtain ⟨w1, e1, hv⟩ := w.new (o := .tup vs) hp
  exact k.at e1 w1 (rep_tup (SqT.of hv) (r.ext e1)) h
end
section
variable {X : Cx} {pos : Pos} {e : Expr} {es : List Expr} {ga : G D} {gr : G (List D)}
theorem d_nil : PA X [] (tofA X.K U gNil) := weakA pa_nil fun σ H Q ⟨m, S, Z, ρ, q, w, rs, h, k⟩ => k.now w reps_nil h
theorem d_cons (ha : PE X e (tofE X.K U ga)) (hr : PA X es (tofA X.K U gr)) (hs : starEach (e :: es) X.env = (false, eval e X.env) :: starEach es X.env := by rfl) : PA X (e :: es) (tofA X.K U (gCons ga gr)) :=
  weakA (pa_cons ha hr hs) fun σ H Q ⟨m, S, Z, ρ, q, w, rs, h, k⟩ => tof_in w rs h fun v1 H1 m1 d1 S1 e1 w1 r1 h1 => tof_in w1 (rs.ext e1) h1 fun v2 H2 m2 d2 S2 e2 w2 r2 h2 => k.at (e1.trans e2) w2 (Reps.cons (r1.ext e2) r2) h2
def gTup (gs : G (List D)) : G D := fun ρ S q => gs ρ S fun ds S1 => ds.length ≤ sizeLine ∧ q (.tup ds) S1
def gLst (fz : Bool) (gs : G (List D)) : G D := fun ρ S q => gs ρ S fun ds S1 => ds.length ≤ sizeLine ∧ newL fz ds S1 q
theorem d_tup {x1} (h : PA X es (tofA X.K U gr)) : PE X (.Tuple es x1 pos) (tofE X.K U (gTup gr)) :=
  weakE (pe_tup h) fun σ H Q ⟨m, S, Z, ρ, q, w, rs, h, k⟩ => tof_in w rs h fun v1 H1 m1 d1 S1 e1 w1 r1 h1 => ⟨by rw [Reps.len r1]; exact h1.1, fun p hp => out_newT w1 r1 h1.2 (k.ext e1) hp⟩
theorem d_lst (fz : Bool) (h : PA X es (tofA X.K U gr)) : PE X (.List es pos) (tofE X.K U (gLst fz gr)) :=
  weakE (pe_lst h) fun σ H Q ⟨m, S, Z, ρ, q, w, rs, h, k⟩ => tof_in w rs h fun v1 H1 m1 d1 S1 e1 w1 r1 h1 => ⟨by rw [Reps.len r1]; exact h1.1, fun p hp => out_newL w1 r1 h1.2 (k.ext e1) hp⟩
/-- a built-in by its name -/
def gCB (r : RND) (gs : G (List D)) : G D := fun ρ S q => gs ρ S fun ds S1 => r ds S1 q
theorem d_callB {x : Str} {id : String} {p : Pos} {r : List V → Hp → VK → Prop} {g : RND} (hc : CallR X (.builtin id) r) (hv : VRN X.K r g) (hg : Gl X x) (hm : X.mg x = none) (hb : bootBuiltins x = some (.builtin id)) (ha : PA X (e :: es) (tofA X.K U gr)) (hn : x ≠ "__name__" := by decide) (hdb : (x == ("__debug__" : Str)) = false := by decide)
    (hs : starEach (e :: es) X.env = (false, eval e X.env) :: starEach es X.env := by rfl) (hpl : (backTo pos (starEach es X.env)).any (·.1) = false := by rfl) : PE X (.Call (.Name x p) (e :: es) [] pos) (tofE X.K U (gCB g gr)) :=
  weakE (pe_callB hc hg hm hb ha hn hdb hs hpl) fun σ H Q ⟨m, S, Z, ρ, q, w, rs, h, k⟩ => tof_in w rs h fun v1 H1 m1 d1 S1 e1 w1 r1 h1 => hv w1 r1 h1 (k.ext e1)
theorem d_callTy {x : Str} {T : String} {p : Pos} {r : List V → Hp → VK → Prop} {g : RND} (hc : CallR X (.type T) r) (hv : VRN X.K r g) (hg : Gl X x) (hm : X.mg x = none) (hb : bootBuiltins x = some (.type T)) (ha : PA X (e :: es) (tofA X.K U gr)) (hn : x ≠ "__name__" := by decide) (hdb : (x == ("__debug__" : Str)) = false := by decide)
    (hs : starEach (e :: es) X.env = (false, eval e X.env) :: starEach es X.env := by rfl) (hpl : (backTo pos (starEach es X.env)).any (·.1) = false := by rfl) : PE X (.Call (.Name x p) (e :: es) [] pos) (tofE X.K U (gCB g gr)) :=
  weakE (pe_callTy hc hg hm hb ha hn hdb hs hpl) fun σ H Q ⟨m, S, Z, ρ, q, w, rs, h, k⟩ => tof_in w rs h fun v1 H1 m1 d1 S1 e1 w1 r1 h1 => hv w1 r1 h1 (k.ext e1)
def VRM (K : PySem.W.Frag) (T : String) (r : V → List V → Hp → VK → Prop) (g : D → RND) : Prop := (∀ {U : Wi} {m : Nat → Addr} {S : Sto} {Z : Addr → Prop} {H : Hp} {o : D} {u : V} {a : List D} {v : List V} {q : D → Sto → Prop} {Q : VK}, Wd K U m S Z H → Rep K m S.length (vis m S Z H) o u → Reps K m S.length (vis m S Z H) a v →
  g o a S q → Outs m S Z H K U (rD K) q Q → r u v H Q)
/-- the receiver's kind -/
def isTy (T : String) (S : Sto) : D → Bool
  | .str _ => T == "str"
  | .lst _ => T == "list"
  | .ksq _ => T == "list"
  | .tup _ => T == "tuple"
  | .int _ => T == "int"
  | .loc k => match S[k]? with
    | some (some (.lst _)) => T == "list"
    | some (some (.dic _ _)) => T == "dict"
    | some (some (.dicT _ _)) => T == "dict"
    | _ => false
  | .dic _ _ => T == "dict"
  | _ => false
end
end Dl
namespace Dl
open PySem L2
/-- what is wanted behind a statement, by data -/
structure DE where
  nx : Env_ → Sto → Prop
  rt : D → Sto → Prop
  bk : Env_ → Sto → Prop := fun _ _ => False
  ct : Env_ → Sto → Prop := fun _ _ => False
abbrev GS := DE → Env_ → Sto → Prop
abbrev rS (K : PySem.W.Frag) : (Nat → Addr) → Nat → Hp → Env_ → St → Prop := fun m N Hv ρ σ => RelS K m N Hv ρ σ
structure OutE (m : Nat → Addr) (S : Sto) (Z : Addr → Prop) (H : Hp) (K : PySem.W.Frag) (U : Wi) (E : DE) (De : Ends) : Prop where
  nx : Outs m S Z H K U (rS K) E.nx De.nx
  rt : Outs m S Z H K U (rD K) E.rt De.rt
  bk : Outs m S Z H K U (rS K) E.bk De.bk
  ct : Outs m S Z H K U (rS K) E.ct De.ct
def tofS (K : PySem.W.Frag) (U : Wi) (g : GS) : TS := fun De σ H => ∃ m S Z ρ E, Wd K U m S Z H ∧ RelS K m S.length (vis m S Z H) ρ σ ∧ g E ρ S ∧ OutE m S Z H K U E De
section
variable {K : PySem.W.Frag} {m m1 : Nat → Addr} {S S1 : Sto} {Z : Addr → Prop} {H H1 : Hp} {E : DE} {De : Ends} {ρ : Env_} {σ : St}
theorem OutE.ext (e : Ext m S Z H m1 S1 H1) (k : OutE m S Z H K U E De) : OutE m1 S1 Z H1 K U E De := ⟨k.nx.ext e, k.rt.ext e, k.bk.ext e, k.ct.ext e⟩
theorem tofS_in {g : GS} (w : Wd K U m S Z H) (r : RelS K m S.length (vis m S Z H) ρ σ) (h : g E ρ S) (k : OutE m S Z H K U E De) : tofS K U g De σ H := ⟨m, S, Z, ρ, E, w, r, h, k⟩
end
def gNext : GS := fun E ρ S => E.nx ρ S
def gSeq (g1 g2 : GS) : GS := fun E ρ S => g1 { E with nx := g2 E } ρ S
def gBreak : GS := fun E ρ S => E.bk ρ S
def gCont : GS := fun E ρ S => E.ct ρ S
def gDrop (ge : G D) : GS := fun E ρ S => ge ρ S fun _ S1 => E.nx ρ S1
def gRet (ge : G D) : GS := fun E ρ S => ge ρ S E.rt
def gRetN : GS := fun E ρ S => E.rt .non S
def gIfS (gt : G Bool) (g1 g2 : GS) : GS := fun E ρ S => gt ρ S fun b S1 => if b = true then g1 E ρ S1 else g2 E ρ S1
def gDead : GS := fun _ _ _ => False
def gDeadE : G D := fun _ _ _ => False
section
variable {X : Cx} {pos : Pos} {st : Stmt} {rest : List Stmt} {e c : Expr} {ge : G D} {gt : G Bool} {g1 g2 : GS}
theorem d_deadE : PE X e (tofE X.K U gDeadE) := weakE deadE fun σ H Q ⟨m, S, Z, ρ, q, w, rs, h, k⟩ => h
theorem d_dead : PS X st (tofS X.K U gDead) := weakS deadS fun E σ H ⟨m, S, Z, ρ, D, w, rs, h, k⟩ => h
theorem ds_nil : PSs X [] (tofS X.K U gNext) := weakSs pss_nil fun E σ H ⟨m, S, Z, ρ, D, w, rs, h, k⟩ => k.nx.now w rs h
theorem ds_cons (h1 : PS X st (tofS X.K U g1)) (h2 : PSs X rest (tofS X.K U g2)) : PSs X (st :: rest) (tofS X.K U (gSeq g1 g2)) :=
  weakSs (pss_cons h1 h2) fun E σ H ⟨m, S, Z, ρ, D, w, rs, h, k⟩ => tofS_in (E := { D with nx := g2 D }) w rs h ⟨fun σ1 H1 m1 ρ1 S1 e1 w1 r1 h1 => tofS_in w1 r1 h1 (k.ext e1), k.rt, k.bk, k.ct⟩
theorem ds_one (h1 : PS X st (tofS X.K U g1)) : PSs X [st] (tofS X.K U g1) := pss_one h1
theorem d_expr (he : PE X e (tofE X.K U ge)) (hs : swapsWith e none pos.line X.env = pure false := by rfl) : PS X (.Expr e pos) (tofS X.K U (gDrop ge)) :=
  weakS (ps_expr he hs) fun E σ H ⟨m, S, Z, ρ, D, w, rs, h, k⟩ => tof_in w rs h fun v1 H1 m1 d1 S1 e1 w1 r1 h1 => k.nx.at e1 w1 (rs.ext e1) h1
theorem d_ret (he : PE X e (tofE X.K U ge)) : PS X (.Return (some e) pos) (tofS X.K U (gRet ge)) :=
  weakS (ps_ret he) fun E σ H ⟨m, S, Z, ρ, D, w, rs, h, k⟩ => tof_in w rs h k.rt
theorem d_if {a b : List Stmt} (hc : PT X c (tofB X.K U gt)) (ha : PSs X a (tofS X.K U g1)) (hb : PSs X b (tofS X.K U g2)) : PS X (.If c a b pos) (tofS X.K U (gIfS gt g1 g2)) :=
  weakS (ps_if hc ha hb) fun E σ H ⟨m, S, Z, ρ, D, w, rs, h, k⟩ => tof_in w rs h fun v1 H1 m1 d1 S1 e1 w1 r1 h1 => by
    cases (show d1 = v1 from r1)
    cases v1 with
    | true => exact tofS_in w1 (rs.ext e1) h1 (k.ext e1)
    | false => exact tofS_in w1 (rs.ext e1) h1 (k.ext e1)
end
inductive Tgt where
  | nm (i : Nat) | tp (ts : List Tgt)
mutual
def Tgt.bind : Tgt → D → Env_ → Option Env_
  | .nm i, d, ρ => some (ρ.set i (some d))
  | .tp ts, .tup ds, ρ => Tgt.binds ts ds ρ
  | .tp _, _, _ => none
def Tgt.binds : List Tgt → List D → Env_ → Option Env_
  | [], [], ρ => some ρ
  | t :: ts, d :: ds, ρ => (Tgt.bind t d ρ).bind fun ρ' => Tgt.binds ts ds ρ'
  | _, _, _ => none
end
mutual
def Tgt.gof (K : PySem.W.Frag) : Tgt → TG
  | .nm i => gName i
  | .tp ts => L2.gTup K ts.length (Tgt.gofs K ts)
def Tgt.gofs (K : PySem.W.Frag) : List Tgt → TGs
  | [] => L2.gNil
  | t :: ts => L2.gCons (Tgt.gof K t) (Tgt.gofs K ts)
end
mutual
def Tgt.slots : Tgt → List Nat
  | .nm i => [i]
  | .tp ts => Tgt.slotss ts
def Tgt.slotss : List Tgt → List Nat
  | [] => []
  | t :: ts => Tgt.slots t ++ Tgt.slotss ts
end
theorem wipe_swap (σ : St) (v : Nat) : ∀ vs : List Nat, wipe (σ.set v none) vs = (wipe σ vs).set v none
  | [] => rfl
  | u :: us => by
    show (wipe (σ.set v none) us).set u none = ((wipe σ us).set u none).set v none
    rw [wipe_swap σ v us]
    by_cases h : u = v
    · subst h; rfl
    · exact List.set_comm _ _ (fun z => h z.symm)
theorem wipe_set {σ : St} {i : Nat} {x : Option V} : ∀ {vs : List Nat}, i ∈ vs → wipe (σ.set i x) vs = wipe σ vs
  | [], h => by cases h
  | v :: vs, h => by
    show (wipe (σ.set i x) vs).set v none = (wipe σ vs).set v none
    by_cases hv : i = v
    · subst hv
      rw [← wipe_swap, ← wipe_swap, List.set_set]
    · rcases List.mem_cons.mp h with e | h
      · exact absurd e hv
      · rw [wipe_set h]
theorem wipe_wipe {σ : St} : ∀ {vs : List Nat} (ws : List Nat), (∀ v ∈ vs, v ∈ ws) → wipe (wipe σ vs) ws = wipe σ ws
  | [], ws, _ => rfl
  | v :: vs, ws, h => by
    show wipe ((wipe σ vs).set v none) ws = wipe σ ws
    rw [wipe_set (h v (List.mem_cons_self ..)), wipe_wipe ws fun u hu => h u (List.mem_cons_of_mem _ hu)]
section
variable {K : PySem.W.Frag} {m : Nat → Addr} {N : Nat} {Hv H : Hp} {vs : List Nat}
mutual
theorem Tgt.ok (hH : ∀ a o, Hv a = some o → H a = some o) : ∀ {t : Tgt} {d : D} {v : V} {ρ ρ' : Env_} {σ : St} {Q : St → Hp → Prop}, t.bind d ρ = some ρ' → Rep K m N Hv d v → RelS K m N Hv ρ σ →
    (∀ σ', RelS K m N Hv ρ' σ' → ((∀ i ∈ t.slots, i ∈ vs) → wipe σ' vs = wipe σ vs) → Q σ' H) → t.gof K v σ H Q
  | .nm i, d, v, ρ, ρ', σ, Q, e, r, rs, k => by
    rw [Tgt.bind] at e
    cases e
    rw [Tgt.gof]
    exact k _ (rs.set r) fun h => wipe_set (h i (by rw [Tgt.slots]; exact List.mem_singleton.mpr rfl))
  | .tp ts, .tup ds, v, ρ, ρ', σ, Q, e, r, rs, k => by
    rw [Tgt.bind] at e
    rw [Rep] at r
    obtain ⟨a, xs, ev, hs, hr⟩ := r
    rw [Tgt.gof]
    have hl : ds.length = ts.length := Tgt.binds_len e
    refine ⟨a, xs, ev, SqT.sub hH hs, by rw [Reps.len hr, hl], Tgt.oks hH e hr rs fun σ' r' hw => k σ' r' fun h => hw fun i hi => h i (by rw [Tgt.slots]; exact hi)⟩
  | .tp ts, .non, v, ρ, ρ', σ, Q, e, r, rs, k => by rw [Tgt.bind] at e <;> first | cases e | (intro _ z; cases z)
  | .tp ts, .bl _, v, ρ, ρ', σ, Q, e, r, rs, k => by rw [Tgt.bind] at e <;> first | cases e | (intro _ z; cases z)
  | .tp ts, .int _, v, ρ, ρ', σ, Q, e, r, rs, k => by rw [Tgt.bind] at e <;> first | cases e | (intro _ z; cases z)
  | .tp ts, .str _, v, ρ, ρ', σ, Q, e, r, rs, k => by rw [Tgt.bind] at e <;> first | cases e | (intro _ z; cases z)
  | .tp ts, .lst _, v, ρ, ρ', σ, Q, e, r, rs, k => by rw [Tgt.bind] at e <;> first | cases e | (intro _ z; cases z)
  | .tp ts, .ksq _, v, ρ, ρ', σ, Q, e, r, rs, k => by rw [Tgt.bind] at e <;> first | cases e | (intro _ z; cases z)
  | .tp ts, .obj _ _ _, v, ρ, ρ', σ, Q, e, r, rs, k => by rw [Tgt.bind] at e <;> first | cases e | (intro _ z; cases z)
  | .tp ts, .dic _ _, v, ρ, ρ', σ, Q, e, r, rs, k => by rw [Tgt.bind] at e <;> first | cases e | (intro _ z; cases z)
  | .tp ts, .loc _, v, ρ, ρ', σ, Q, e, r, rs, k => by rw [Tgt.bind] at e <;> first | cases e | (intro _ z; cases z)
  | .tp ts, .ref _, v, ρ, ρ', σ, Q, e, r, rs, k => by rw [Tgt.bind] at e <;> first | cases e | (intro _ z; cases z)
  | .tp ts, .ty _, v, ρ, ρ', σ, Q, e, r, rs, k => by rw [Tgt.bind] at e <;> first | cases e | (intro _ z; cases z)
  | .tp ts, .exc _ _ _, v, ρ, ρ', σ, Q, e, r, rs, k => by rw [Tgt.bind] at e <;> first | cases e | (intro _ z; cases z)
theorem Tgt.oks (hH : ∀ a o, Hv a = some o → H a = some o) : ∀ {ts : List Tgt} {ds : List D} {xs : List V} {ρ ρ' : Env_} {σ : St} {Q : St → Hp → Prop}, Tgt.binds ts ds ρ = some ρ' → Reps K m N Hv ds xs → RelS K m N Hv ρ σ →
    (∀ σ', RelS K m N Hv ρ' σ' → ((∀ i ∈ Tgt.slotss ts, i ∈ vs) → wipe σ' vs = wipe σ vs) → Q σ' H) → Tgt.gofs K ts xs σ H Q
  | [], [], xs, ρ, ρ', σ, Q, e, r, rs, k => by
    rw [Tgt.binds] at e
    cases e
    rw [Reps] at r
    rw [Tgt.gofs]
    exact ⟨r, k σ rs fun _ => rfl⟩
  | t :: ts, d :: ds, xs, ρ, ρ', σ, Q, e, r, rs, k => by
    rw [Tgt.binds] at e
    rw [Reps] at r
    obtain ⟨v, q, ev, r1, r2⟩ := r
    rw [Tgt.gofs]
    cases h1 : t.bind d ρ with
    | none => rw [h1] at e; cases e
    | some ρ1 =>
      rw [h1] at e
      refine ⟨v, q, ev, Tgt.ok hH h1 r1 rs fun σ1 rs1 hw1 => Tgt.oks hH e r2 rs1 fun σ2 rs2 hw2 => k σ2 rs2 fun h => ?_⟩
      rw [hw2 fun i hi => h i (by rw [Tgt.slotss]; exact List.mem_append_right _ hi), hw1 fun i hi => h i (by rw [Tgt.slotss]; exact List.mem_append_left _ hi)]
  | [], _ :: _, xs, ρ, ρ', σ, Q, e, r, rs, k => by rw [Tgt.binds] at e <;> first | cases e | (intros; simp_all)
  | _ :: _, [], xs, ρ, ρ', σ, Q, e, r, rs, k => by rw [Tgt.binds] at e <;> first | cases e | (intros; simp_all)
theorem Tgt.binds_len : ∀ {ts : List Tgt} {ds : List D} {ρ ρ' : Env_}, Tgt.binds ts ds ρ = some ρ' → ds.length = ts.length
  | [], [], _, _, _ => rfl
  | t :: ts, d :: ds, ρ, ρ', e => by
    rw [Tgt.binds] at e
    cases h1 : t.bind d ρ with
    | none => rw [h1] at e; cases e
    | some ρ1 =>
      rw [h1] at e
      rw [List.length_cons, List.length_cons, Tgt.binds_len e]
  | [], _ :: _, ρ, ρ', e => by rw [Tgt.binds] at e <;> first | cases e | (intros; simp_all)
  | _ :: _, [], ρ, ρ', e => by rw [Tgt.binds] at e <;> first | cases e | (intros; simp_all)
end
end
/-- name(s) = e -/
def gAsg (t : Tgt) (ge : G D) : GS := fun E ρ S => ge ρ S fun d S1 => ∃ ρ', t.bind d ρ = some ρ' ∧ E.nx ρ' S1
def gSet (i : Nat) (ge : G D) : GS := fun E ρ S => ge ρ S fun d S1 => E.nx (ρ.set i (some d)) S1
/-- name op= e -/
def gAug (i : Nat) (r : R2D) (ge : G D) : GS := fun E ρ S => ∃ x : D, ρ[i]? = some (some x) ∧ ge ρ S fun y S1 => r x y S1 fun z S2 => E.nx (ρ.set i (some z)) S2
theorem vis_le {m : Nat → Addr} {S : Sto} {Z : Addr → Prop} {H : Hp} : ∀ a o, vis m S Z H a = some o → H a = some o := fun _ _ h => vis_sub h
section
variable {X : Cx} {pos : Pos} {e tg : Expr} {ge : G D}
theorem d_asg {t : Tgt} (he : PE X e (tofE X.K U ge)) (hg : PG X tg (t.gof X.K)) (hs : swapsWithSole [tg] e pos.line X.env = pure false := by rfl) (hw : swappedStores [tg] e X.env = pure none := by rfl)
    (h1 : (assignEach [tg] X.env).map (·.2) = [assign tg X.env] := by rfl) : PS X (.Assign [tg] e pos) (tofS X.K U (gAsg t ge)) :=
  weakS (ps_asg he hg hs hw h1) fun E σ H ⟨m, S, Z, ρ, D, w, rs, h, k⟩ => tof_in w rs h fun v1 H1 m1 d1 S1 e1 w1 r1 ⟨ρ', hb, h1⟩ =>
    Tgt.ok (vs := []) vis_le hb r1 (rs.ext e1) fun σ' rs' _ => k.nx.at e1 w1 rs' h1
theorem d_set {i : Nat} {x : Str} {pos' : Pos} (hN : X.N.Nodup) (hi : X.N[i]? = some x) (hx : Loc X.env.scope x) (he : PE X e (tofE X.K U ge)) (hs : swapsWith e (some (.Name x pos')) pos.line X.env = pure false := by rfl)
    (hf : X.fn x = true ∨ X.env.scope.names.lookup x = some .local := by first | exact .inl rfl | exact .inr rfl | assumption) : PS X (.Assign [.Name x pos'] e pos) (tofS X.K U (gSet i ge)) :=
  weakS (ps_set hN hi hx he hs hf) fun E σ H ⟨m, S, Z, ρ, D, w, rs, h, k⟩ => tof_in w rs h fun v1 H1 m1 d1 S1 e1 w1 r1 h1 => k.nx.at e1 w1 ((rs.ext e1).set r1) h1
end
structure Lt (m : Nat → Addr) (S : Sto) (Z : Addr → Prop) (H : Hp) (m' : Nat → Addr) (S' : Sto) (Z' : Addr → Prop) (H' : Hp) : Prop where
  len : S.length ≤ S'.length
  loc : ∀ i, i < S.length → m' i = m i
  vis : ∀ a o, Dl.vis m S Z H a = some o → Dl.vis m' S' Z' H' a = some o
theorem Ext.lt {m m' : Nat → Addr} {S S' : Sto} {Z : Addr → Prop} {H H' : Hp} (e : Ext m S Z H m' S' H') : Lt m S Z H m' S' Z H' := ⟨e.len, e.loc, e.vis⟩
structure Yl (K : PySem.W.Frag) (J : It) (m : Nat → Addr) (S : Sto) (Z : Addr → Prop) (H : Hp) (ds : List D) (chk : Sto → Prop) : Prop where
  go : ∀ {U : Wi} {m' : Nat → Addr} {S' : Sto} {Z' : Addr → Prop} {H' : Hp} {i : Nat}, Lt m S Z H m' S' Z' H' → Wd K U m' S' Z' H' → chk S' → i < ds.length → J.go i H' ∧ ∀ x H2, J.yld i H' x H2 → ∃ d, ds[i]? = some d ∧ Wd K U m' S' Z' H2 ∧ Ext m' S' Z' H' m' S' H2 ∧ Rep K m' S'.length (vis m' S' Z' H2) d x
  stop : ∀ {U : Wi} {m' : Nat → Addr} {S' : Sto} {Z' : Addr → Prop} {H' : Hp}, Lt m S Z H m' S' Z' H' → Wd K U m' S' Z' H' → chk S' → J.stop ds.length H'
abbrev GI := Env_ → Sto → (List D → (Sto → Prop) → Sto → Prop) → Prop
def tofI (K : PySem.W.Frag) (U : Wi) (gi : GI) : TI := fun σ H R => ∃ m S Z ρ q, Wd K U m S Z H ∧ RelS K m S.length (vis m S Z H) ρ σ ∧ gi ρ S q ∧
  ∀ J H' m' S' ds chk, Ext m S Z H m' S' H' → Wd K U m' S' Z H' → Yl K J m' S' Z H' ds chk → q ds chk S' → R J H'
def gFor (gi : GI) (t : Tgt) (gb : GS) : GS := fun E ρ S => gi ρ S fun ds chk S1 => ∃ I : Nat → Env_ → Sto → Prop, I 0 ρ S1 ∧
  (∀ i d ρ S, ds[i]? = some d → I i ρ S → chk S ∧ ∃ ρ', t.bind d ρ = some ρ' ∧ gb { nx := I (i + 1), rt := E.rt, ct := I (i + 1), bk := E.nx } ρ' S) ∧ ∀ ρ S, I ds.length ρ S → chk S ∧ E.nx ρ S
section
variable {X : Cx} {pos : Pos} {tg iter : Expr} {gi : GI} {t : Tgt} {gb : GS} {body : List Stmt}
theorem weakI {w w' : TI} (h : PI X tg iter w) (k : ∀ σ H R, w' σ H R → w σ H R) : PI X tg iter w' := ⟨fun pins s σ H R I q => h.run pins s σ H R I (k σ H R q)⟩
theorem d_for (hp : PassesOwn (model X.prog X.w) X.A X.env X.xe) (hc : X.calm = true) (hi : PI X tg iter (tofI X.K U gi)) (hg : PG X tg (t.gof X.K)) (hb : PSs X body (tofS X.K U gb)) (hs : ∀ x, foldedSetIterable iter X.env x = pure x := by intro _; rfl) :
    PS X (.For tg iter body [] pos) (tofS X.K U (gFor gi t gb)) := by
  refine weakS (ps_for hp hc hi hg hb hs) fun De σ H ⟨m, S, Z, ρ, E, w, rs, h, k⟩ => ?_
  refine ⟨m, S, Z, ρ, _, w, rs, h, fun J H1 m1 S1 ds chk e1 w1 Y ⟨I, h0, hstep, hend⟩ => ?_⟩
  refine ⟨fun i n σ' H' => n = ds.length - i ∧ i ≤ ds.length ∧ ∃ m' S' ρ', Ext m1 S1 Z H1 m' S' H' ∧ Wd X.K U m' S' Z H' ∧ RelS X.K m' S'.length (vis m' S' Z H') ρ' σ' ∧ I i ρ' S', ⟨ds.length, by simp, Nat.zero_le _, m1, S1, ρ, Ext.refl, w1, rs.ext e1, h0⟩, ?_⟩
  rintro i n σ2 H2 ⟨rfl, hi2, m2, S2, ρ2, e2, w2, rs2, I2⟩
  by_cases hlt : i < ds.length
  · right
    obtain ⟨d, hd⟩ : ∃ d, ds[i]? = some d := ⟨ds[i], by simp [hlt]⟩
    obtain ⟨hchk, ρ3, hbind, hbody⟩ := hstep i d ρ2 S2 hd I2
    obtain ⟨g1, g2⟩ := Y.go e2.lt w2 hchk hlt
    refine ⟨g1, fun σ' H' => ∃ m' S' ρ', Ext m1 S1 Z H1 m' S' H' ∧ Wd X.K U m' S' Z H' ∧ RelS X.K m' S'.length (vis m' S' Z H') ρ' σ' ∧ I (i + 1) ρ' S', fun σ' H' hN => ⟨ds.length - (i + 1), by omega, rfl, hlt, hN⟩, fun x H3 hy => ?_⟩
    obtain ⟨d', hd', w3, e3, r3⟩ := g2 x H3 hy
    rw [hd] at hd'; cases hd'
    refine Tgt.ok (vs := []) vis_le hbind r3 (rs2.ext e3) fun σ4 rs4 _ => ?_
    have e23 := e2.trans e3
    exact tofS_in w3 rs4 hbody ⟨fun σ5 H5 m5 ρ5 S5 e5 w5 r5 h5 => ⟨m5, S5, ρ5, e23.trans e5, w5, r5, h5⟩, k.rt.ext (e1.trans e23), k.nx.ext (e1.trans e23), fun σ5 H5 m5 ρ5 S5 e5 w5 r5 h5 => ⟨m5, S5, ρ5, e23.trans e5, w5, r5, h5⟩⟩
  · left
    have ei : i = ds.length := by omega
    subst ei
    obtain ⟨hchk, hnx⟩ := hend ρ2 S2 I2
    exact ⟨Y.stop e2.lt w2 hchk, k.nx.at (e1.trans e2) w2 rs2 hnx⟩
end
end Dl
namespace Dl
open PySem L2 PyProof.Rows
structure RoomG (k : Nat) (A : Around) : Prop extends Room k A where
  gd : A.guards = some []
theorem RoomG.mono {j k : Nat} {A : Around} (r : RoomG k A) (h : j ≤ k) : RoomG j A := ⟨r.toRoom.mono h, r.gd⟩
theorem RoomG.deeper {k : Nat} {A : Around} (r : RoomG (k + 1) A) (env : Env) : RoomG k (A.deeper env) := ⟨r.toRoom.deeper env, r.gd⟩
theorem RoomG.in1 {k : Nat} {A : Around} (r : RoomG (k + 1) A) : RoomG k A.in1 := ⟨r.toRoom.in1, r.gd⟩
theorem make_guards {A : Around} {C : Addr} {us : List Value} {kw : List (Str × Value)} (h : A.guards = some []) : (A.under (.builtin "type.__call__" ⟨.ref C :: us, kw⟩)).guards = some [] := by
  simp [Around.under, Code.guards, Code.isGuard, guardIds, pushGuards, h]
theorem RoomG.make {k : Nat} {A : Around} (r : RoomG (k + 1) A) (C : Addr) (us : List Value) (kw : List (Str × Value)) : RoomG k (A.under (.builtin "type.__call__" ⟨.ref C :: us, kw⟩)) := ⟨r.toRoom.make C us kw, make_guards r.gd⟩
structure SubG (X : Cx) (n : Nat) (A : Around) : Prop where
  room : RoomG n A
  fr : A.frames = X.A.frames
theorem SubG.in1 {X : Cx} {n : Nat} {A : Around} (s : SubG X (n + 1) A) : SubG X n A.in1 := ⟨s.room.in1, s.fr⟩
theorem SubG.mono {X : Cx} {n m : Nat} {A : Around} (s : SubG X n A) (h : m ≤ n) : SubG X m A := ⟨s.room.mono h, s.fr⟩
/-- a def that keeps a promise wherever no repr is under way -/
structure FnG (P : Program) (w : World) (K : PySem.W.Frag) (mg : Str → Option Value) (base : Heap) (CX : CXT) (k : Nat) (f : Addr) (fd : FuncData) (ps : List Str) (sp : Sp) : Prop where
  len : ∀ vs H Q E, sp vs H Q E → vs.length = ps.length
  run : ∀ (A : Around) (outer : List Env) (s : Shared) (H : Hp) (args : Args) (us : List Value) (vs : List V) (Q : VK) (E : XK), RoomG k A → Env0 P w K mg base A outer s H → BindsTo s fd args (ps.zip us) → Vals vs us →
    sp vs H Q E → codeAny (model P w) A (.call (.ref f) args) (CR CX outer P w H s Q E) s
section
variable {P : Program} {w : World} {K : PySem.W.Frag} {mg : Str → Option Value} {base : Heap} {CX : CXT} {k : Nat} {f : Addr} {fd : FuncData} {ps : List Str} {sp sp' : Sp}
theorem FnG.mono {j : Nat} (F : FnG P w K mg base CX j f fd ps sp) (h : j ≤ k) : FnG P w K mg base CX k f fd ps sp where
  len := F.len
  run A outer s H args us vs Q E hr := F.run A outer s H args us vs Q E (hr.mono h)
theorem FnG.imp (F : FnG P w K mg base CX k f fd ps sp) (h : ∀ vs H Q E, sp' vs H Q E → sp vs H Q E) : FnG P w K mg base CX k f fd ps sp' where
  len vs H Q E q := F.len vs H Q E (h vs H Q E q)
  run A outer s H args us vs Q E hr e0 hb hv hs := F.run A outer s H args us vs Q E hr e0 hb hv (h vs H Q E hs)
/-- by its body -/
theorem FnG.by_body {x qual : Str} {params : Arguments} {body : List Stmt} {scope : Scope} {dvs : List V} {kws : List (Str × V)} {N : List Str} (F : FunD K x qual params body scope dvs kws f fd) (S : FnScope N ps scope) (len : ∀ vs H Q E, sp vs H Q E → vs.length = ps.length)
    (go : ∀ (cdv : Value) (A : Around) (outer : List Env) (s : Shared) (H : Hp) (vs : List V) (Q : VK) (E : XK), RoomG k (A.deeper (envOfC qual scope s.heap.objs.size f cdv)) → sp vs H Q E →
      ∃ t, PSs (cxOf CX P w K mg base N qual scope f cdv A outer s H E) body t ∧ t { nx := fun _ H' => Q .non H', rt := Q } (L2.start N vs) H) : FnG P w K mg base CX (k + 1) f fd ps sp := by
  obtain ⟨oc, od, dV, kV, doc, pm, an, cdv, ct, osl, rfl, lk, hcd, _, _⟩ := F.ex
  constructor
  · exact len
  intro A outer s H args us vs Q E hr e0 hb hv hsp
  have kept : ∀ b o, base.get? b = some o → s.heap.get? b = some o := fun b o e => (e0.bs b o e).1
  have inK := e0.mod.kin.keeps kept
  refine codeAny_call_function hr.toRoom.depth (inK _ _ lk) rfl S.co S.gen rfl (PySem.W.codeRec_of inK hcd) (hb _ _ _ _ ?_)
  refine wpAny_newFunctionEnv_cells S.kind (fun y hy => ?_) fun env he s1 x => ?_
  · rcases S.par y.1 (List.of_mem_zip (a := y.1) (b := y.2) hy).1 with q | q
    · left; exact q
    · right; exact ⟨q, PySem.W.cellsFrom_some _ _ _ (.inl q)⟩
  subst he
  obtain ⟨t, ht, hq⟩ := go cdv A outer s H vs Q E (hr.deeper _) hsp
  refine ⟨(e0.mod.nolimit.keeps kept).keeps x.toInCall.keep, codeAny_func (wpAny_mono (ht.run [] s1 _ H _ (inv_start S hr.hd e0 (len _ _ _ _ hsp) hv x) hq) (fun fl s' hs => ?_) fun e s' hs => hs)⟩
  cases fl with
  | ret u => obtain ⟨v, σ', H', J, rv, q⟩ := hs; exact ⟨v, H', J.os, J.bare, J.base, J.hok, rv, q⟩
  | next => obtain ⟨σ', H', J, q⟩ := hs; exact ⟨.non, H', J.os, J.bare, J.base, J.hok, rfl, q⟩
  | brk => obtain ⟨σ', H', J, q⟩ := hs; exact q.elim
  | cont => obtain ⟨σ', H', J, q⟩ := hs; exact q.elim
end
section
variable {X : Cx} {CX : CXT} {k n : Nat} {f C : Addr} {fd : FuncData} {ps ks : List Str} {sp : Sp} {E : XK} {g : List Value → List Value → List Value} {gV : List V → List V → List V}
/-- a def's end, told to its caller -/
theorem told {pins : List (Addr × Obj)} {σ : L2.St} {H : Hp} {s : Shared} {Q : VK} (hx : PassesAt CX X σ E) (I : Inv X pins σ H s) (r : Result) (s' : Shared) (h : CR CX X.stack X.prog X.w H s Q E r s') :
    (match r with | .ok (.ret u) => EP X pins σ Q u s' | .ok _ => False | .error e => X.xe e s') := by
  cases r with
  | error e => exact hx pins H s e s' I h
  | ok fl =>
    cases fl with
    | ret u => exact I.after h
    | next => exact h
    | brk => exact h
    | cont => exact h
theorem run_fnS' {pins : List (Addr × Obj)} {σ : L2.St} {H : Hp} {s : Shared} {Q : VK} {us ws : List Value} {vs zs : List V} (F : FnG X.prog X.w X.K X.mg X.base CX k f fd ps sp) (hr : RoomG k X.A) (hb : KBn X.K fd ps n ks g gV) (hx : PassesAt CX X σ E)
    (I : Inv X pins σ H s) (r : Vals vs us) (rz : Vals zs ws) (l1 : vs.length = n) (l2 : zs.length = ks.length) (h : sp (gV vs zs) H Q E) : wpAny (model X.prog X.w) X.A (call (.ref f) us (ks.zip ws)) (EP X pins σ Q) X.xe s := by
  refine wpAny_call (codeAny_mono (F.run X.A X.stack s H ⟨us, ks.zip ws⟩ (g us ws) (gV vs zs) Q E hr I.env0 (hb.to s us ws I.kIn (r.length.symm.trans l1) (rz.length.symm.trans l2)) (hb.rel r rz) h) fun r s' q => ?_)
  have z := told hx I r s' q
  cases r with
  | error e => exact z
  | ok fl => cases fl <;> exact z
theorem passAll {σ : L2.St} (hx : Passes CX X E) : PassesAt CX X σ E := fun pins H s e s' => hx pins σ H s e s'
theorem run_fnG {pins : List (Addr × Obj)} {σ : L2.St} {H : Hp} {s : Shared} {Q : VK} {us ws : List Value} {vs zs : List V} (F : FnG X.prog X.w X.K X.mg X.base CX k f fd ps sp) (hr : RoomG k X.A) (hb : KBn X.K fd ps n ks g gV) (hx : Passes CX X E)
    (I : Inv X pins σ H s) (r : Vals vs us) (rz : Vals zs ws) (l1 : vs.length = n) (l2 : zs.length = ks.length) (h : sp (gV vs zs) H Q E) : wpAny (model X.prog X.w) X.A (call (.ref f) us (ks.zip ws)) (EP X pins σ Q) X.xe s :=
  run_fnS' F hr hb (passAll hx) I r rz l1 l2 h
/-- C(..) -/
theorem run_makeS {pins : List (Addr × Obj)} {σ : L2.St} {H : Hp} {s : Shared} {Q : VK} {us ws : List Value} {vs zs : List V} (M : Mk X.K C f) (F : FnG X.prog X.w X.K X.mg X.base CX k f fd ps sp) (hr : RoomG (k + 1) X.A) (hb : KBn X.K fd ps (n + 1) ks g gV)
    (hx : PassesAt CX X σ E) (I : Inv X pins σ H s) (r : Vals vs us) (rz : Vals zs ws) (l1 : vs.length = n) (l2 : zs.length = ks.length)
    (h : ∀ x dx, H x = none → H dx = none → dx ≠ x → sp (gV (.ref x :: vs) zs) (upd (upd H dx (.own x)) x (.ins C dx [])) (fun v H2 => v = .non ∧ Q (.ref x) H2) E) :
    wpAny (model X.prog X.w) X.A (call (.ref C) us (ks.zip ws)) (EP X pins σ Q) X.xe s := by
  let sz := s.heap.objs.size
  have hq := h (sz + 1) sz (I.hok.fresh (Nat.le_succ _)) (I.hok.fresh (Nat.le_refl _)) (Nat.ne_of_lt (Nat.lt_succ_self _))
  have I2 := Inv.made (C := C) I
  have r1 : Vals (V.ref (sz + 1) :: vs) (Value.ref (sz + 1) :: us) := .cons rfl r
  have b2 := hb.to _ (Value.ref (sz + 1) :: us) ws I2.kIn (r1.length.symm.trans (congrArg Nat.succ l1)) (rz.length.symm.trans l2)
  have run := F.run _ X.stack _ _ ⟨Value.ref (sz + 1) :: us, ks.zip ws⟩ (g (Value.ref (sz + 1) :: us) ws) _ _ E (hr.make C us (ks.zip ws)) (I2.env0.make C us (ks.zip ws)) b2 (hb.rel r1 rz) hq
  refine wpAny_call (make_map (f := f) I.kIn M.makes M.init (beq_iff_eq.mp M.fn) (codeAny_mono run fun r s' q => ?_))
  have z := told hx I2 r s' q
  cases r with
  | error e => exact z
  | ok fl =>
    cases fl with
    | ret u =>
      obtain ⟨v, H', I3, rv, ev, q3⟩ := z
      subst ev
      exact ⟨rv, ⟨V.ref (sz + 1), H', I3, rfl, q3⟩⟩
    | next => exact z
    | brk => exact z
    | cont => exact z
theorem run_makeG {pins : List (Addr × Obj)} {σ : L2.St} {H : Hp} {s : Shared} {Q : VK} {us ws : List Value} {vs zs : List V} (M : Mk X.K C f) (F : FnG X.prog X.w X.K X.mg X.base CX k f fd ps sp) (hr : RoomG (k + 1) X.A) (hb : KBn X.K fd ps (n + 1) ks g gV)
    (hx : Passes CX X E) (I : Inv X pins σ H s) (r : Vals vs us) (rz : Vals zs ws) (l1 : vs.length = n) (l2 : zs.length = ks.length)
    (h : ∀ x dx, H x = none → H dx = none → dx ≠ x → sp (gV (.ref x :: vs) zs) (upd (upd H dx (.own x)) x (.ins C dx [])) (fun v H2 => v = .non ∧ Q (.ref x) H2) E) :
    wpAny (model X.prog X.w) X.A (call (.ref C) us (ks.zip ws)) (EP X pins σ Q) X.xe s := run_makeS M F hr hb (passAll hx) I r rz l1 l2 h
end
end Dl
namespace Dl
open PySem L2
abbrev DSp := List D → Sto → (D → Sto → Prop) → Prop
theorem Outs.to0 {A B : Type} {K : PySem.W.Frag} {U : Wi} {m : Nat → Addr} {S : Sto} {Z : Addr → Prop} {H : Hp} {rel : (Nat → Addr) → Nat → Hp → A → B → Prop} {q : A → Sto → Prop} {Q : B → Hp → Prop} (w : Wd K U m S Z H) (k : Outs m S Z H K U rel q Q) : Outs m S Z H K U0 rel q Q :=
  fun b H' m' a S' e w0 r h => k b H' m' a S' e (w.on e w0.toWd0) r h
theorem Wd.w0 {K : PySem.W.Frag} {U : Wi} {m : Nat → Addr} {S : Sto} {Z : Addr → Prop} {H : Hp} (w : Wd K U m S Z H) : Wd K U0 m S Z H := w.toWd0.u0
def spOf (K : PySem.W.Frag) (dsp : DSp) : Sp := fun vs H Q _ => ∃ m S Z ds q, Wd K U0 m S Z H ∧ Reps K m S.length (vis m S Z H) ds vs ∧ dsp ds S q ∧ Outs m S Z H K U0 (rD K) q Q
def startD (N : List Str) (ds : List D) : Env_ := ds.map some ++ List.replicate (N.length - ds.length) none
theorem relS_start {K : PySem.W.Frag} {m : Nat → Addr} {n : Nat} {Hv : Hp} {N : List Str} {ds : List D} {vs : List V} (r : Reps K m n Hv ds vs) : RelS K m n Hv (startD N ds) (L2.start N vs) := by
  have hl := Reps.len r
  refine ⟨by unfold startD L2.start; simp [hl], fun i d e => ?_⟩
  unfold startD at e
  by_cases hi : i < ds.length
  · rw [List.getElem?_append_left (by simpa using hi), List.getElem?_map] at e
    cases h1 : ds[i]? with
    | none => rw [h1] at e; cases e
    | some x =>
      rw [h1] at e
      cases e
      obtain ⟨v, h2, h3⟩ := Reps.get r h1
      refine ⟨v, ?_, h3⟩
      unfold L2.start
      rw [List.getElem?_append_left (by rw [List.length_map, hl]; exact hi), List.getElem?_map, h2]
      rfl
  · rw [List.getElem?_append_right (by simpa using Nat.le_of_not_lt hi), List.getElem?_replicate] at e
    split at e <;> cases e
theorem Wd.under {K : PySem.W.Frag} {m : Nat → Addr} {S : Sto} {Z : Addr → Prop} {H : Hp} (w : Wd K U m S Z H) : Sto.under S.length S = true := by
  refine List.all_eq_true.mpr fun o ho => ?_
  cases o with
  | none => rfl
  | some x =>
    obtain ⟨i, hi⟩ := List.getElem?_of_mem ho
    have r := w.rep i x hi
    show x.under S.length = true
    cases x with
    | lst ds => obtain ⟨vs, _, r⟩ := r; exact Reps.below r
    | obj C ks ds => obtain ⟨dx, vs, _, _, r⟩ := r; exact Reps.below r
    | dic ks ds => obtain ⟨vs, _, _, r⟩ := r; exact Reps.below r
    | dicT ks ds => obtain ⟨vs, _, _, r⟩ := r; exact Reps.below r
    | lck ob u ks ds => obtain ⟨vs, _, _, _, r⟩ := r; exact Reps.below r
    | lckT ob u ks ds => obtain ⟨vs, _, _, _, r⟩ := r; exact Reps.below r
/-- a def's end: the store cut back to what it was, a list of its own given up -/
def fin (n : Nat) (q : D → Sto → Prop) (d : D) (S' : Sto) : Prop :=
  Sto.under n (S'.take n) = true ∧ match d with
  | .loc k => if k < n then q (.loc k) (S'.take n) else match S'[k]? with
    | some (some (.lst ds)) => D.unders n ds = true ∧ q (.lst ds) (S'.take n)
    | some (some (.dic ks ds)) => D.unders n ds = true ∧ q (.dic ks ds) (S'.take n)
    | some (some (.obj C ks ds)) => D.unders n ds = true ∧ q (.obj C ks ds) (S'.take n)
    | _ => False
  | d => d.under n = true ∧ q d (S'.take n)
theorem take_setN {S : Sto} {k n : Nat} (h : n ≤ k) : (S.set k none).take n = S.take n := by
  apply List.ext_getElem?
  intro i
  by_cases hi : i < n
  · rw [List.getElem?_take_of_lt hi, List.getElem?_take_of_lt hi, List.getElem?_set_ne (by omega)]
  · rw [List.getElem?_eq_none_iff.mpr (by rw [List.length_take]; omega), List.getElem?_eq_none_iff.mpr (by rw [List.length_take]; omega)]
theorem out_fin {K : PySem.W.Frag} {m : Nat → Addr} {S : Sto} {Z : Addr → Prop} {H : Hp} {q : D → Sto → Prop} {Q : VK} (w0 : Wd K U m S Z H) (k : Outs m S Z H K U (rD K) q Q) : Outs m S Z H K U (rD K) (fin S.length q) Q := by
  intro v H' m' d S' e w r ⟨hu, h⟩
  have e2 := e.take (Nat.le_refl _) e.len
  have w2 := w0.on e2 (w.toWd0.take e.len hu)
  have len : (S'.take S.length).length = S.length := by rw [List.length_take]; have := e.len; omega
  have key : ∀ {d : D}, Rep K m' S'.length (vis m' S' Z H') d v → d.under S.length = true → Rep K m' (S'.take S.length).length (vis m' (S'.take S.length) Z H') d v := fun {d} r hb => by
    rw [len]
    exact Rep.cut e.len (Rep.mono (fun _ _ => rfl) (Nat.le_refl _) (fun a o z => vis_take z) r) hb
  have key2 : ∀ {j : Nat} {d : D}, S.length ≤ j → v = V.ref (m' j) → Rep K m' (S'.set j none).length (vis m' (S'.set j none) Z H') d (.ref (m' j)) → d.under S.length = true →
      Rep K m' (S'.take S.length).length (vis m' (S'.take S.length) Z H') d v := fun {j d} hj hv r hb => by
    rw [hv, len]
    have r2 := Rep.cut (n := S.length) (by rw [List.length_set]; exact e.len) (Rep.mono (fun _ _ => rfl) (Nat.le_refl _) (fun a o z => vis_take (n := S.length) z) r) hb
    rw [take_setN hj] at r2
    exact r2
  cases d with
  | loc j =>
    by_cases hj : j < S.length
    · have h' : q (.loc j) (S'.take S.length) := by simpa [hj] using h
      exact k.at e2 w2 (key r (by simp [D.under, hj])) h'
    · have h' : match S'[j]? with
        | some (some (.lst ds)) => D.unders S.length ds = true ∧ q (.lst ds) (S'.take S.length)
        | some (some (.dic ks ds)) => D.unders S.length ds = true ∧ q (.dic ks ds) (S'.take S.length)
        | some (some (.obj C ks ds)) => D.unders S.length ds = true ∧ q (.obj C ks ds) (S'.take S.length)
        | _ => False := by simpa [hj] using h
      have hv : v = V.ref (m' j) := by
        have r' : Rep K m' S'.length (vis m' S' Z H') (.loc j) v := r
        rw [Rep] at r'
        exact r'.1
      have hj' := Nat.le_of_not_lt hj
      cases ho : S'[j]? with
      | none => rw [ho] at h'; exact h'.elim
      | some o =>
        cases o with
        | none => rw [ho] at h'; exact h'.elim
        | some o =>
          rw [ho] at h'
          cases o with
          | lst ds => exact k.at e2 w2 (key2 hj' hv (w.frozen_lst ho) (by simpa [D.under] using h'.1)) h'.2
          | dic ks ds => exact k.at e2 w2 (key2 hj' hv (w.frozen_dic ho) (by simpa [D.under] using h'.1)) h'.2
          | obj C ks ds => exact k.at e2 w2 (key2 hj' hv (w.frozen_obj ho) (by simpa [D.under] using h'.1)) h'.2
          | dicT ks ds => exact h'.elim
          | lck ob u ks ds => exact h'.elim
          | lckT ob u ks ds => exact h'.elim
  | non => exact k.at e2 w2 (key r h.1) h.2
  | bl b => exact k.at e2 w2 (key r h.1) h.2
  | int b => exact k.at e2 w2 (key r h.1) h.2
  | str b => exact k.at e2 w2 (key r h.1) h.2
  | tup b => exact k.at e2 w2 (key r h.1) h.2
  | lst b => exact k.at e2 w2 (key r h.1) h.2
  | ksq b => exact k.at e2 w2 (key r h.1) h.2
  | obj C b c => exact k.at e2 w2 (key r h.1) h.2
  | dic b c => exact k.at e2 w2 (key r h.1) h.2
  | ref b => exact k.at e2 w2 (key r h.1) h.2
  | ty b => exact k.at e2 w2 (key r h.1) h.2
  | exc a b c => exact k.at e2 w2 (key r h.1) h.2
inductive Src where
  | p (i : Nat) | d (i : Nat) | k (i : Nat)
def pick {A : Type} (us its ws : List A) : Src → Option A
  | .p i => us[i]?
  | .d i => its[i]?
  | .k i => ws[i]?
def gat {A : Type} (src : List Src) (us its ws : List A) : List A := src.filterMap (pick us its ws)
theorem paired_at {A B : Type} {F : A → B → Prop} : ∀ {l : List A} {l' : List B}, Paired F l l' → ∀ i : Nat, (l[i]? = none ∧ l'[i]? = none) ∨ ∃ (a : A) (b : B), l[i]? = some a ∧ l'[i]? = some b ∧ F a b
  | _, _, .nil, i => .inl (by simp)
  | _, _, .cons r t, 0 => .inr ⟨_, _, rfl, rfl, r⟩
  | _, _, .cons r t, i + 1 => by simpa using paired_at t i
theorem gat_pair {A B : Type} {F : A → B → Prop} {us its ws : List A} {us' its' ws' : List B} (h1 : Paired F us us') (h2 : Paired F its its') (h3 : Paired F ws ws') : ∀ src : List Src, Paired F (gat src us its ws) (gat src us' its' ws')
  | [] => .nil
  | x :: xs => by
    have ih := gat_pair h1 h2 h3 xs
    unfold gat at *
    have : (pick us its ws x = none ∧ pick us' its' ws' x = none) ∨ ∃ a b, pick us its ws x = some a ∧ pick us' its' ws' x = some b ∧ F a b := by
      cases x with
      | p i => exact paired_at h1 i
      | d i => exact paired_at h2 i
      | k i => exact paired_at h3 i
    rcases this with ⟨e1, e2⟩ | ⟨a, b, e1, e2, r⟩
    · rw [List.filterMap_cons_none e1, List.filterMap_cons_none e2]; exact ih
    · rw [List.filterMap_cons_some e1, List.filterMap_cons_some e2]; exact .cons r ih
theorem Reps.paired {K : PySem.W.Frag} {m : Nat → Addr} {N : Nat} {H : Hp} : ∀ {ds : List D} {vs : List V}, Reps K m N H ds vs → Paired (fun d v => Rep K m N H d v) ds vs
  | [], _, r => by rw [show _ = [] from r]; exact .nil
  | d :: ds, _, r => by
    obtain ⟨v, q, e, r1, r2⟩ := r
    rw [e]
    exact .cons r1 (Reps.paired r2)
theorem Reps.of_paired {K : PySem.W.Frag} {m : Nat → Addr} {N : Nat} {H : Hp} : ∀ {ds : List D} {vs : List V}, Paired (fun d v => Rep K m N H d v) ds vs → Reps K m N H ds vs
  | _, _, .nil => reps_nil
  | _, _, .cons r t => Reps.cons r (Reps.of_paired t)
/-- how a call with n values and keywords ks binds; nd defaults -/
inductive Bnd (x qual : Str) (st : Stmt) (ps : List Str) (n : Nat) (ks : List Str) (src : List Src) : Nat → Prop where
  | zero (h : ∀ (kV doc pm : Value) (an : Option Addr) (cdv ct : Value) (us ws : List Value), us.length = n → ws.length = ks.length →
      bindArgs (PySem.W.fnOf x qual (defArgs st) (defBody st) (defScope st) .none kV doc pm an cdv ct) ⟨us, ks.zip ws⟩ = pure (ps.zip (gat src us [] ws))) : Bnd x qual st ps n ks src 0
  | more (nd : Nat) (h : ∀ (T : Addr) (kV doc pm : Value) (an : Option Addr) (cdv ct : Value) (us its ws : List Value), us.length = n → its.length = nd + 1 → ws.length = ks.length →
      ∃ k, bindArgs (PySem.W.fnOf x qual (defArgs st) (defBody st) (defScope st) (.ref T) kV doc pm an cdv ct) ⟨us, ks.zip ws⟩ = seqItems? (.ref T) >>= k ∧ k (some its.toArray) = pure (ps.zip (gat src us its ws))) : Bnd x qual st ps n ks src (nd + 1)
abbrev FunS (K : PySem.W.Frag) (x qual : Str) (st : Stmt) (dvs : List V) (f : Addr) (fd : FuncData) : Prop := FunD K x qual (defArgs st) (defBody st) (defScope st) dvs [] f fd
theorem kbn_of {K : PySem.W.Frag} {x qual : Str} {st : Stmt} {dvs : List V} {f : Addr} {fd : FuncData} {ps ks : List Str} {n : Nat} {src : List Src} (F : FunS K x qual st dvs f fd) (b : Bnd x qual st ps n ks src dvs.length) :
    ∃ its : List Value, KBn K fd ps n ks (fun us ws => gat src us its ws) (fun vs zs => gat src vs dvs zs) := by
  obtain ⟨oc, od, dV, kV, doc, pm, an, cdv, ct, osl, rfl, lk, hcd, hD, hK⟩ := F.ex
  rcases hD with ⟨rfl, rfl⟩ | ⟨hne, T, o, its, mm, rfl, lT, oT, rT⟩
  · cases b with
    | zero h => exact ⟨[], ⟨fun s us ws X l1 l2 => .of_eq (h kV doc pm an cdv ct us ws l1 l2), fun r1 r2 => gat_pair r1 .nil r2 src⟩⟩
  · have hb : ∃ nd, dvs.length = nd + 1 := by
      cases dvs with
      | nil => exact absurd rfl hne
      | cons _ r => exact ⟨r.length, rfl⟩
    obtain ⟨nd, e⟩ := hb
    rw [e] at b
    cases b with
    | more _ h =>
      refine ⟨its, ⟨fun s us ws X l1 l2 => ?_, fun r1 r2 => gat_pair r1 rT r2 src⟩⟩
      obtain ⟨k, e1, e2⟩ := h T kV doc pm an cdv ct us its ws l1 (rT.length.symm.trans e) l2
      refine BindsTo.of_looks fun M => ?_
      rw [e1]
      exact looks_items X lT oT (.of_pure e2)
abbrev GA := Env_ → Sto → (List D → List D → Sto → Prop) → Prop
def gArgs (ga gk : G (List D)) : GA := fun ρ S q => ga ρ S fun as S1 => gk ρ S1 fun ks S2 => q as ks S2
abbrev TA2 := St → Hp → (List V → List V → Hp → Prop) → Prop
structure PArgs (X : Cx) (es : List Expr) (kws : List Keyword) (pos : Pos) (ks : List Str) (t : TA2) : Prop where
  run : ∀ (pins : List (Addr × Obj)) (s : Shared) (σ : St) (H : Hp) (Q : List V → List V → Hp → Prop) (f : Value) (first : List Value) (R : Value → Shared → Prop), Inv X pins σ H s → PySem.W.keepIn X.K f = true → t σ H Q →
    (∀ us ws vs zs s' H', Inv X pins σ H' s' → Vals vs us → Vals zs ws → Q vs zs H' → wpAny (model X.prog X.w) X.A (call f (first ++ us) (ks.zip ws)) R X.xe s') →
    wpAny (model X.prog X.w) X.A (callWith pos f first (backTo pos (starEach es X.env)) (backToKw pos (keywordEach kws X.env))) R X.xe s
def tof2 (K : PySem.W.Frag) (U : Wi) (g : GA) : TA2 := fun σ H Q => ∃ m S Z ρ q, Wd K U m S Z H ∧ RelS K m S.length (vis m S Z H) ρ σ ∧ g ρ S q ∧
  ∀ vs zs H' m' as ks S', Ext m S Z H m' S' H' → Wd K U m' S' Z H' → Reps K m' S'.length (vis m' S' Z H') as vs → Reps K m' S'.length (vis m' S' Z H') ks zs → q as ks S' → Q vs zs H'
section
variable {X : Cx} {pos : Pos} {e : Expr} {es : List Expr} {kws : List Keyword} {ks : List Str} {ga gk : G (List D)}
theorem dk_nil : PK X [] (tofA X.K U gNil) := ⟨fun pos pins s σ H Q I ⟨m, S, Z, ρ, q, w, rs, h, k⟩ => (pk_nil (X := X)).run pos pins s σ H Q I (k.now w reps_nil h)⟩
theorem dk_cons {nm : Option Str} {kpos : Pos} {ge : G D} (ha : PE X e (tofE X.K U ge)) (hr : PK X kws (tofA X.K U gk)) : PK X (⟨nm, e, kpos⟩ :: kws) (tofA X.K U (gCons ge gk)) :=
  ⟨fun pos pins s σ H Q I ⟨m, S, Z, ρ, q, w, rs, h, k⟩ => (pk_cons (nm := nm) (kpos := kpos) ha hr).run pos pins s σ H Q I
    (tof_in w rs h fun v1 H1 m1 d1 S1 e1 w1 r1 h1 => tof_in w1 (rs.ext e1) h1 fun v2 H2 m2 d2 S2 e2 w2 r2 h2 => k.at (e1.trans e2) w2 (Reps.cons (r1.ext e2) r2) h2)⟩
theorem da_00 : PArgs X [] [] pos [] (tof2 X.K U (gArgs gNil gNil)) := ⟨fun pins s σ H Q f first R I hk h go => by
  obtain ⟨m, S, Z, ρ, q, w, rs, h, k⟩ := h
  exact PySem.W.callWith_K0 I.kIn hk (go [] [] [] [] s H I .nil .nil (k [] [] H m [] [] S Ext.refl w reps_nil reps_nil h))⟩
theorem da_p0 (ha : PA X (e :: es) (tofA X.K U ga)) (he : starEach (e :: es) X.env = (false, eval e X.env) :: starEach es X.env := by rfl) (hpl : (backTo pos (starEach es X.env)).any (·.1) = false := by rfl) :
    PArgs X (e :: es) [] pos [] (tof2 X.K U (gArgs ga gNil)) := ⟨fun pins s σ H Q f first R I hk h go => by
  obtain ⟨m, S, Z, ρ, q, w, rs, h, k⟩ := h
  refine PySem.W.callWith_K (h₀ := X.base) I.ok.mod.kin hk (thn (ha.run pos pins s σ H (fun vs H1 => Q vs [] H1) I (tof_in w rs h fun v1 H1 m1 d1 S1 e1 w1 r1 h1 => k v1 [] H1 m1 d1 [] S1 e1 w1 r1 reps_nil h1)) fun us s1 ⟨vs, H1, I1, r, q⟩ => ⟨I1.kIn, ?_⟩) he hpl
  exact go us [] vs [] s1 H1 I1 r .nil q⟩
theorem da_0k (hkw : PK X kws (tofA X.K U gk)) (hall : (backToKw pos (keywordEach kws X.env)).all (·.1.isSome) = true := by rfl) (hks : (backToKw pos (keywordEach kws X.env)).filterMap (·.1) = ks := by rfl)
    (hpl : ((backTo pos (starEach [] X.env)).any (·.1) || (backToKw pos (keywordEach kws X.env)).any (·.1.isNone)) = false := by rfl) : PArgs X [] kws pos ks (tof2 X.K U (gArgs gNil gk)) := ⟨fun pins s σ H Q f first R I hk h go => by
  obtain ⟨m, S, Z, ρ, q, w, rs, h, k⟩ := h
  refine PySem.W.callWith_KW0 (h₀ := X.base) I.ok.mod.kin hk hall (thn (hkw.run pos pins s σ H (fun zs H1 => Q [] zs H1) I (tof_in w rs h fun v1 H1 m1 d1 S1 e1 w1 r1 h1 => k [] v1 H1 m1 [] d1 S1 e1 w1 reps_nil r1 h1)) fun ws s1 ⟨zs, H1, I1, r, q⟩ => ⟨I1.kIn, ?_⟩) hpl
  rw [hks]
  exact go [] ws [] zs s1 H1 I1 .nil r q⟩
end
/-- a def of the top with its promise -/
structure Fnc (P : Program) (w : World) (K : PySem.W.Frag) (mg : Str → Option Value) (base : Heap) (x : Str) (st : Stmt) (dvs : List V) (k : Nat) (ps : List Str) (dsp : DSp) : Prop where
  ex : ∃ f fd, FunS K x x st dvs f fd ∧ mg x = some (.ref f) ∧ FnG P w K mg base CX0 k f fd ps (spOf K dsp)
def DfV (dds : List D) (dvs : List V) : Prop := ∀ K m N Hv, Reps K m N Hv dds dvs
theorem dfv_nil : DfV [] [] := fun _ _ _ _ => reps_nil
/-- f(..): n values, keywords -/
def gCall (n nk : Nat) (src : List Src) (dds : List D) (dsp : DSp) (ga : GA) : G D := fun ρ S q => ga ρ S fun as ks S1 => as.length = n ∧ ks.length = nk ∧ dsp (gat src as dds ks) S1 q
section
variable {X : Cx} {pos p apos : Pos} {x m qual : Str} {st : Stmt} {dvs : List V} {dds : List D} {k n : Nat} {ps ks : List Str} {dsp : DSp} {es : List Expr} {kws : List Keyword} {src : List Src} {ga : GA}
theorem gat_reps {K : PySem.W.Frag} {mm : Nat → Addr} {N : Nat} {Hv : Hp} {as zs : List D} {vs ws : List V} (r1 : Reps K mm N Hv as vs) (hd : DfV dds dvs) (r2 : Reps K mm N Hv zs ws) : Reps K mm N Hv (gat src as dds zs) (gat src vs dvs ws) :=
  Reps.of_paired (gat_pair (Reps.paired r1) (Reps.paired (hd K mm N Hv)) (Reps.paired r2) src)
theorem d_call (F : Fnc X.prog X.w X.K X.mg X.base x st dvs k ps dsp) (hr : RoomG k X.A) (hg : Gl X x) (b : Bnd x x st ps n ks src dvs.length) (hd : DfV dds dvs) (ha : PArgs X es kws pos ks (tof2 X.K U ga)) (hdb : (x == ("__debug__" : Str)) = false := by decide) :
    PE X (.Call (.Name x p) es kws pos) (tofE X.K U (gCall n ks.length src dds dsp ga)) := by
  refine ⟨fun pins s σ H Q I ⟨mm, S, Z, ρ, q, w, rs, h, kk⟩ => ?_⟩
  obtain ⟨f, fd, FS, hm, FO⟩ := F.ex
  obtain ⟨its, KB⟩ := kbn_of FS b
  refine wpAny_Call_Name_kw (ld_glob I hg hm ?_ hdb)
  refine ha.run pins s σ H (fun vs zs H1 => vs.length = n ∧ zs.length = ks.length ∧ spOf X.K dsp (gat src vs dvs zs) H1 Q fun _ _ _ => False) (.ref f) [] _ I FS.kp ⟨mm, S, Z, ρ, _, w, rs, h, fun vs zs H1 m1 as zd S1 e1 w1 r1 r2 h1 => ?_⟩ fun us ws vs zs s1 H1 I1 rv rz ⟨l1, l2, hs⟩ => ?_
  · exact ⟨by rw [Reps.len r1]; exact h1.1, by rw [Reps.len r2]; exact h1.2.1, m1, S1, Z, gat src as dds zd, q, w1.w0, gat_reps r1 hd r2, h1.2.2, (kk.ext e1).to0 w1⟩
  · exact run_fnG FO hr KB pass0 I1 rv rz l1 l2 hs
end
end Dl
namespace Dl
open PySem L2
def putK (f : Str) : List Str → List Str
  | [] => [f]
  | g :: ks => if g = f then g :: ks else g :: putK f ks
def putX {A : Type} (f : Str) (y : A) : List Str → List A → List A
  | [], _ => [y]
  | g :: ks, x :: xs => if g = f then y :: xs else x :: putX f y ks xs
  | _ :: _, [] => []
theorem putF_zip (f : Str) (v : V) : ∀ (ks : List Str) (vs : List V), ks.length = vs.length → putF f v (ks.zip vs) = (putK f ks).zip (putX f v ks vs) ∧ (putK f ks).length = (putX f v ks vs).length
  | [], [], _ => ⟨rfl, rfl⟩
  | g :: ks, x :: vs, h => by
    have ih := putF_zip f v ks vs (by simpa using h)
    rw [List.zip_cons_cons, putF, putK, putX]
    by_cases e : g = f
    · rw [if_pos e, if_pos e, if_pos e, List.zip_cons_cons]
      exact ⟨rfl, by simpa using h⟩
    · rw [if_neg e, if_neg e, if_neg e, List.zip_cons_cons, ih.1]
      exact ⟨rfl, by simp [ih.2]⟩
  | [], _ :: _, h => by simp at h
  | _ :: _, [], h => by simp at h
def fget (f : Str) (ks : List Str) (ds : List D) : Option D := (ks.zip ds).lookup f
section
variable {K : PySem.W.Frag} {m : Nat → Addr} {N : Nat} {Hv : Hp}
theorem reps_putX {f : Str} {d : D} {v : V} (r : Rep K m N Hv d v) : ∀ {ks : List Str} {ds : List D} {vs : List V}, ks.length = vs.length → Reps K m N Hv ds vs → Reps K m N Hv (putX f d ks ds) (putX f v ks vs)
  | [], _, _, _, _ => Reps.one r
  | g :: ks, [], _, h, q => by rw [show _ = [] from q] at h; simp at h
  | g :: ks, x :: ds, _, h, q => by
    obtain ⟨u, us, e, r1, r2⟩ := q
    rw [e] at h ⊢
    rw [putX, putX]
    by_cases e1 : g = f
    · rw [if_pos e1, if_pos e1]; exact Reps.cons r r2
    · rw [if_neg e1, if_neg e1]; exact Reps.cons r1 (reps_putX r (by simpa using h) r2)
theorem reps_fget {f : Str} : ∀ {ks : List Str} {ds : List D} {vs : List V} {d : D}, Reps K m N Hv ds vs → fget f ks ds = some d → ∃ v, (ks.zip vs).lookup f = some v ∧ Rep K m N Hv d v
  | [], _, _, _, _, h => by simp [fget] at h
  | _ :: _, [], _, _, _, h => by simp [fget] at h
  | g :: ks, x :: ds, _, d, q, h => by
    obtain ⟨u, us, e, r1, r2⟩ := q
    rw [e]
    unfold fget at h
    rw [List.zip_cons_cons, List.lookup_cons] at h ⊢
    by_cases e1 : f == g
    · rw [e1] at h ⊢
      cases h
      exact ⟨u, rfl, r1⟩
    · rw [Bool.eq_false_iff.mpr e1] at h ⊢
      exact reps_fget r2 h
theorem zip_lookup_none {f : Str} : ∀ {ks : List Str} {vs : List V}, ks.contains f = false → (ks.zip vs).lookup f = none
  | [], _, _ => rfl
  | _ :: _, [], _ => rfl
  | g :: ks, x :: vs, h => by
    rw [List.contains_cons] at h
    have h1 : (f == g) = false := by cases q : f == g <;> simp_all
    have h2 : ks.contains f = false := by cases q : ks.contains f <;> simp_all
    rw [List.zip_cons_cons, List.lookup_cons, h1]
    exact zip_lookup_none h2
end
def objOf (S : Sto) : D → Option (Addr × List Str × List D)
  | .obj C ks ds => some (C, ks, ds)
  | .loc n => match S[n]? with
    | some (some (.obj C ks ds)) => some (C, ks, ds)
    | _ => none
  | _ => none
theorem objOf_rep {K : PySem.W.Frag} {m : Nat → Addr} {S : Sto} {Z : Addr → Prop} {H : Hp} {d : D} {v : V} {C : Addr} {ks : List Str} {ds : List D} (w : Wd K U m S Z H) (r : Rep K m S.length (vis m S Z H) d v) (h : objOf S d = some (C, ks, ds)) :
    ∃ a dx vs, v = .ref a ∧ H a = some (.ins C dx (ks.zip vs)) ∧ ks.length = vs.length ∧ Reps K m S.length (vis m S Z H) ds vs := by
  cases d with
  | obj C' ks' ds' =>
    cases h
    rw [Rep] at r
    obtain ⟨a, dx, vs, e, h1, h2, h3⟩ := r
    exact ⟨a, dx, vs, e, vis_sub h1, h2, h3⟩
  | loc n =>
    rw [Rep] at r
    rw [objOf] at h
    cases hS : S[n]? with
    | none => rw [hS] at h; cases h
    | some o =>
      cases o with
      | none => rw [hS] at h; cases h
      | some o =>
        cases o with
        | obj C' ks' ds' =>
          rw [hS] at h
          cases h
          obtain ⟨dx, vs, h1, h2, h3⟩ := w.rep n _ hS
          exact ⟨m n, dx, vs, r.1, h1, h2, h3⟩
        | lst _ => rw [hS] at h; cases h
        | dic _ _ => rw [hS] at h; cases h
        | dicT _ _ => rw [hS] at h; cases h
        | lck _ _ _ _ => rw [hS] at h; cases h
        | lckT _ _ _ _ => rw [hS] at h; cases h
  | non => cases h
  | bl _ => cases h
  | int _ => cases h
  | str _ => cases h
  | tup _ => cases h
  | lst _ => cases h
  | ksq _ => cases h
  | dic _ _ => cases h
  | ref _ => cases h
  | ty _ => cases h
  | exc _ _ _ => cases h
structure FldOk (K : PySem.W.Frag) (C : Addr) (f : Str) : Prop where
  cl : Cls K C
  no : NoAttr K C f
def gFld (K : PySem.W.Frag) (f : Str) (go : G D) : G D := fun ρ S q => go ρ S fun o S1 => ∃ C ks ds d, objOf S1 o = some (C, ks, ds) ∧ FldOk K C f ∧ fget f ks ds = some d ∧ q d S1
def gFldSet (K : PySem.W.Frag) (f : Str) (go gv : G D) : GS := fun E ρ S => gv ρ S fun y S1 => go ρ S1 fun o S2 => ∃ n C ks ds, o = .loc n ∧ S2[n]? = some (some (.obj C ks ds)) ∧ FldOk K C f ∧ ks.length < 1000 ∧
  E.nx ρ (S2.set n (some (.obj C (putK f ks) (putX f y ks ds))))
section
variable {X : Cx} {pos pos' : Pos} {e o value : Expr} {f : Str} {go gv : G D}
theorem d_fld (he : PE X e (tofE X.K U go)) (hb : attributeBase e f X.env (eval e X.env) = eval e X.env := by rfl) : PE X (.Attribute e f pos) (tofE X.K U (gFld X.K f go)) :=
  weakE (pe_fld he hb) fun σ H Q ⟨m, S, Z, ρ, q, w, rs, h, k⟩ => tof_in w rs h fun v1 H1 m1 d1 S1 e1 w1 r1 ⟨C, ks, ds, d, h1, h2, h3, h4⟩ => by
    obtain ⟨a, dx, vs, ev, ha, hl, hr⟩ := objOf_rep w1 r1 h1
    obtain ⟨v, hv, rv⟩ := reps_fget hr h3
    exact ⟨a, C, dx, _, v, ev, ha, h2.cl, h2.no, hv, k.at e1 w1 rv h4⟩
theorem d_fldset (ho : PE X o (tofE X.K U go)) (hv : PE X value (tofE X.K U gv)) (hs : swapsWith value (some (.Attribute o f pos')) pos.line X.env = pure false := by rfl) : PS X (.Assign [.Attribute o f pos'] value pos) (tofS X.K U (gFldSet X.K f go gv)) :=
  weakS (ps_fld ho hv hs) fun De σ H ⟨m, S, Z, ρ, E, w, rs, h, k⟩ => tof_in w rs h fun v1 H1 m1 d1 S1 e1 w1 r1 h1 => tof_in w1 (rs.ext e1) h1 fun v2 H2 m2 d2 S2 e2 w2 r2 ⟨n, C, ks, ds, ed, hS, h2, hl, h3⟩ => by
    subst ed
    obtain ⟨dx, vs, ha, hlen, hr⟩ := w2.rep n _ hS
    have r2' : Rep X.K m2 S2.length (vis m2 S2 Z H2) (.loc n) v2 := r2
    rw [Rep] at r2'
    refine ⟨m2 n, C, dx, _, r2'.1, ha, h2.cl, h2.no, by rw [List.length_zip, ← hlen, Nat.min_self]; exact hl, ?_⟩
    obtain ⟨z1, z2⟩ := putF_zip f v1 ks vs hlen
    rw [z1]
    obtain ⟨w3, e3, hv3⟩ := w2.upd (o := .ins C dx ((putK f ks).zip (putX f v1 ks vs))) (mo := .obj C (putK f ks) (putX f d1 ks ds)) ⟨_, hS⟩ ⟨dx, _, upd_same, z2, reps_putX (r1.ext e2) hlen hr⟩
    exact k.nx.at ((e1.trans e2).trans e3) w3 (rs.ext ((e1.trans e2).trans e3)) h3
end
structure MFn (P : Program) (w : World) (K : PySem.W.Frag) (mg : Str → Option Value) (base : Heap) (C : Addr) (m qual : Str) (st : Stmt) (dvs : List V) (k : Nat) (ps : List Str) (dsp : DSp) : Prop where
  cl : Cls K C
  ex : ∃ f fd, FunS K m qual st dvs f fd ∧ Meth K C m f ∧ FnG P w K mg base CX0 k f fd ps (spOf K dsp)
structure CFn (P : Program) (w : World) (K : PySem.W.Frag) (mg : Str → Option Value) (base : Heap) (x : Str) (C : Addr) (qual : Str) (st : Stmt) (dvs : List V) (k : Nat) (ps : List Str) (dsp : DSp) : Prop where
  mC : mg x = some (.ref C)
  ex : ∃ f fd, FunS K "__init__" qual st dvs f fd ∧ Mk K C f ∧ FnG P w K mg base CX0 k f fd ps (spOf K dsp)
def gMeth (C : Addr) (m : Str) (n nk : Nat) (src : List Src) (dds : List D) (dsp : DSp) (go : G D) (ga : GA) : G D := fun ρ S q => go ρ S fun o S1 => ∃ ks ds, objOf S1 o = some (C, ks, ds) ∧ ks.contains m = false ∧
  ga ρ S1 fun as zs S2 => as.length = n ∧ zs.length = nk ∧ dsp (gat src (o :: as) dds zs) S2 q
/-- C(..), the new instance of the store -/
def gMake (C : Addr) (n nk : Nat) (src : List Src) (dds : List D) (dsp : DSp) (ga : GA) : G D := fun ρ S q => ga ρ S fun as zs S1 => as.length = n ∧ zs.length = nk ∧
  dsp (gat src (.loc S1.length :: as) dds zs) (S1 ++ [some (.obj C [] [])]) fun v S2 => v = .non ∧ q (.loc S1.length) S2
/-- C(..), the new instance given up at once -/
def gMakeF (C : Addr) (n nk : Nat) (src : List Src) (dds : List D) (dsp : DSp) (ga : GA) : G D := fun ρ S q => ga ρ S fun as zs S1 => as.length = n ∧ zs.length = nk ∧ (D.unders S1.length as = true → D.unders S1.length zs = true →
  dsp (gat src (.loc S1.length :: as) dds zs) (S1 ++ [some (.obj C [] [])]) fun v S2 => v = .non ∧ ∃ ks ds, S2 = S1 ++ [some (.obj C ks ds)] ∧ D.unders S1.length ds = true ∧ q (.obj C ks ds) S1)
section
variable {X : Cx} {pos p apos : Pos} {x m qual : Str} {st : Stmt} {dvs : List V} {dds : List D} {k n : Nat} {ps ks : List Str} {dsp : DSp} {es : List Expr} {kws : List Keyword} {src : List Src} {ga : GA} {o : Expr} {go : G D} {C : Addr}
theorem d_meth {pl : Sem Bool} (F : MFn X.prog X.w X.K X.mg X.base C m qual st dvs k ps dsp) (hr : RoomG k X.A) (b : Bnd m qual st ps (n + 1) ks src dvs.length) (hd : DfV dds dvs) (ho : PE X o (tofE X.K U go)) (ha : PArgs X es kws pos ks (tof2 X.K U ga))
    (ht : eval (.Call (.Attribute o m apos) es kws pos) X.env = (do
      let ov ← eval o X.env
      standAt apos.atName
      let (f, first) ← holding [ov] (getMethod ov m pl)
      callWith pos f first (backTo pos (starEach es X.env)) (backToKw pos (keywordEach kws X.env))) := by rfl) :
    PE X (.Call (.Attribute o m apos) es kws pos) (tofE X.K U (gMeth C m n ks.length src dds dsp go ga)) := by
  refine ⟨fun pins s σ H Q I ⟨mm, S, Z, ρ, q, w, rs, h, kk⟩ => ?_⟩
  obtain ⟨f, fd, FS, hm, FO⟩ := F.ex
  obtain ⟨its, KB⟩ := kbn_of FS b
  refine PySem.W.methodCall_KW (pl := pl) (thn (ho.run pins s σ H (fun x H1 => ∃ a dx fs, x = .ref a ∧ H1 a = some (.ins C dx fs) ∧ fs.lookup m = none ∧ tof2 X.K U ga σ H1 fun vs zs H2 => vs.length = n ∧ zs.length = ks.length ∧ spOf X.K dsp (gat src (x :: vs) dvs zs) H2 Q fun _ _ _ => False) I
    (tof_in w rs h fun v1 H1 m1 d1 S1 e1 w1 r1 ⟨kf, df, h1, h2, h3⟩ => ?_)) fun u s1 ⟨x, H1, I1, rx, a, dx, fs, ex, ea, l, q⟩ => ?_) ht
  · obtain ⟨a, dx, vs, ev, hha, hlen, hrr⟩ := objOf_rep w1 r1 h1
    refine ⟨a, dx, _, ev, hha, zip_lookup_none h2, m1, S1, Z, ρ, _, w1, rs.ext e1, h3, fun vs zs H2 m2 as zd S2 e2 w2 r2 r3 h4 => ?_⟩
    exact ⟨by rw [Reps.len r2]; exact h4.1, by rw [Reps.len r3]; exact h4.2.1, m2, S2, Z, gat src (d1 :: as) dds zd, _, w2.w0, gat_reps (Reps.cons (r1.ext e2) r2) hd r3, h4.2.2, (kk.ext (e1.trans e2)).to0 w2⟩
  · subst ex
    obtain rfl : u = Value.ref a := rx
    refine getmeth_ok I1 ea F.cl hm l ?_
    refine ha.run pins s1 σ H1 _ (.ref f) [.ref a] _ I1 hm.kp q fun us ws vs zs s2 H2 I2 rv rz ⟨l1, l2, hs⟩ => ?_
    exact run_fnG FO hr KB pass0 I2 (us := .ref a :: us) (vs := .ref a :: vs) (.cons rfl rv) rz (congrArg Nat.succ l1) l2 hs
theorem spOf_len {K : PySem.W.Frag} (hl : ∀ ds S q, dsp ds S q → ds.length = ps.length) : ∀ vs H Q E, spOf K dsp vs H Q E → vs.length = ps.length := fun vs H Q E ⟨m, S, Z, ds, q, w, r, h, k⟩ => by rw [Reps.len r]; exact hl ds S q h
theorem run_makeD {P : Program} {wo : World} (M : ∃ f fd, FunS X.K "__init__" qual st dvs f fd ∧ Mk X.K C f ∧ FnG X.prog X.w X.K X.mg X.base CX0 k f fd ps (spOf X.K dsp)) (hm : X.mg x = some (.ref C)) (hr : RoomG (k + 1) X.A) (hg : Gl X x) (b : Bnd "__init__" qual st ps (n + 1) ks src dvs.length)
    (ha : PArgs X es kws pos ks (tof2 X.K U ga)) (hdb : (x == ("__debug__" : Str)) = false) {g : G D}
    (hgo : ∀ σ H Q, tofE X.K U g σ H Q → tof2 X.K U ga σ H fun vs zs H2 => vs.length = n ∧ zs.length = ks.length ∧ ∀ x dx, H2 x = none → H2 dx = none → dx ≠ x → spOf X.K dsp (gat src (.ref x :: vs) dvs zs) (upd (upd H2 dx (.own x)) x (.ins C dx [])) (fun v H3 => v = .non ∧ Q (.ref x) H3) fun _ _ _ => False) :
    PE X (.Call (.Name x p) es kws pos) (tofE X.K U g) := by
  refine ⟨fun pins s σ H Q I h => ?_⟩
  obtain ⟨f, fd, FS, MK, FO⟩ := M
  obtain ⟨its, KB⟩ := kbn_of FS b
  refine wpAny_Call_Name_kw (ld_glob I hg hm ?_ hdb)
  refine ha.run pins s σ H _ (.ref C) [] _ I MK.kp (hgo σ H Q h) fun us ws vs zs s1 H1 I1 rv rz ⟨l1, l2, hs⟩ => ?_
  exact run_makeG MK FO hr KB pass0 I1 rv rz l1 l2 hs
theorem made_in {K : PySem.W.Frag} {mm : Nat → Addr} {S : Sto} {Z : Addr → Prop} {H : Hp} {a dx : Addr} (w : Wd K U mm S Z H) (ha : H a = none) (hdx : H dx = none) (hne : dx ≠ a) :
    ∃ m', m' S.length = a ∧ Wd K U m' (S ++ [some (.obj C [] [])]) Z (upd (upd H dx (.own a)) a (.ins C dx [])) ∧ Ext mm S Z H m' (S ++ [some (.obj C [] [])]) (upd (upd H dx (.own a)) a (.ins C dx [])) := by
  obtain ⟨w1, e1, _⟩ := w.new (o := .own a) hdx
  obtain ⟨m', e0, w2, e2⟩ := w1.add (p := a) (o := .ins C dx []) (mo := .obj C [] []) (by rw [upd_ne hne.symm]; exact ha) fun m1 N1 Hv1 h1 h2 h3 => ⟨dx, [], upd_same, rfl, reps_nil⟩
  exact ⟨m', e0, w2, e1.trans e2⟩
theorem d_make (F : CFn X.prog X.w X.K X.mg X.base x C qual st dvs k ps dsp) (hr : RoomG (k + 1) X.A) (hg : Gl X x) (b : Bnd "__init__" qual st ps (n + 1) ks src dvs.length) (hd : DfV dds dvs) (ha : PArgs X es kws pos ks (tof2 X.K U ga)) (hdb : (x == ("__debug__" : Str)) = false := by decide) :
    PE X (.Call (.Name x p) es kws pos) (tofE X.K U (gMake C n ks.length src dds dsp ga)) :=
  run_makeD (P := X.prog) (wo := X.w) F.ex F.mC hr hg b ha hdb fun σ H Q ⟨mm, S, Z, ρ, q, w, rs, h, kk⟩ => ⟨mm, S, Z, ρ, _, w, rs, h, fun vs zs H2 m2 as zd S2 e2 w2 r2 r3 h4 => by
    refine ⟨by rw [Reps.len r2]; exact h4.1, by rw [Reps.len r3]; exact h4.2.1, fun a dx ha hdx hne => ?_⟩
    obtain ⟨m', e0, w3, e3⟩ := made_in (C := C) w2 ha hdx hne
    refine ⟨m', _, Z, gat src (.loc S2.length :: as) dds zd, _, w3.w0, gat_reps (Reps.cons (rep_loc e0 (by simp)) (r2.ext e3)) hd (r3.ext e3), h4.2.2, fun v H5 m5 d5 S5 e5 w5 r5 ⟨hv, h5⟩ => ?_⟩
    subst hv
    refine ⟨r5, kk.at ((e2.trans e3).trans e5) (w3.on e5 w5.toWd0) (rep_loc ?_ ?_) h5⟩
    · rw [e5.loc _ (by simp), e0]
    · exact Nat.lt_of_lt_of_le (by simp) e5.len⟩
end
section
variable {P : Program} {w : World} {K : PySem.W.Frag} {mg : Str → Option Value} {base : Heap} {x qual : Str} {st : Stmt} {dvs : List V} {f : Addr} {fd : FuncData} {N ps : List Str} {k : Nat} {dsp : DSp}
theorem fn_body (F : FunS K x qual st dvs f fd) (S : FnScope N ps (defScope st)) (len : ∀ ds S q, dsp ds S q → ds.length = ps.length) (g : GS)
    (hbody : ∀ (cdv : Value) (A : Around) (outer : List Env) (s : Shared) (H : Hp) (E : XK), RoomG k (A.deeper (PyProof.Rows.envOfC qual (defScope st) s.heap.objs.size f cdv)) →
      PSs (cxOf CX0 P w K mg base N qual (defScope st) f cdv A outer s H E).nox (defBody st) (tofS K U0 g))
    (hread : ∀ ds S q, D.unders S.length ds = true → Sto.under S.length S = true → dsp ds S q → g { nx := fun _ S' => fin S.length q .non S', rt := fin S.length q } (startD N ds) S) : FnG P w K mg base CX0 (k + 1) f fd ps (spOf K dsp) := by
  refine FnG.by_body F S (spOf_len len) fun cdv A outer s H vs Q E hr ⟨m, St', Z, ds, q, wd, rd, hd, kk⟩ => ?_
  refine ⟨_, (hbody cdv A outer s H E hr).nox, m, St', Z, startD N ds, _, wd, relS_start rd, hread ds St' q (Reps.below rd) wd.under hd, ⟨?_, out_fin wd kk, ?_, ?_⟩⟩
  · exact fun σ' H' m' ρ' S' e' w' _ h' => out_fin wd kk .non H' m' .non S' e' w' rep_non h'
  · exact fun _ _ _ _ _ _ _ _ h => h.elim
  · exact fun _ _ _ _ _ _ _ _ h => h.elim
end
end Dl
namespace Dl
open PySem L2
def seqOf (S : Sto) : D → Option (List D)
  | .lst ds => some ds
  | .ksq ds => some ds
  | .tup ds => some ds
  | .loc n => match S[n]? with
    | some (some (.lst ds)) => some ds
    | _ => none
  | _ => none
def D.isTup : D → Bool
  | .tup _ => true
  | _ => false
theorem loc_lst {S : Sto} {n : Nat} {ds : List D} (h : seqOf S (.loc n) = some ds) : S[n]? = some (some (.lst ds)) := by
  rw [seqOf] at h
  cases hS : S[n]? with
  | none => rw [hS] at h; cases h
  | some o =>
    cases o with
    | none => rw [hS] at h; cases h
    | some o =>
      cases o with
      | lst _ => rw [hS] at h; cases h; rfl
      | obj _ _ _ => rw [hS] at h; cases h
      | dic _ _ => rw [hS] at h; cases h
      | dicT _ _ => rw [hS] at h; cases h
      | lck _ _ _ _ => rw [hS] at h; cases h
      | lckT _ _ _ _ => rw [hS] at h; cases h
theorem seqOf_rep {K : PySem.W.Frag} {m : Nat → Addr} {S : Sto} {Z : Addr → Prop} {H : Hp} {d : D} {v : V} {ds : List D} (w : Wd K U m S Z H) (r : Rep K m S.length (vis m S Z H) d v) (h : seqOf S d = some ds) :
    ∃ a vs, v = .ref a ∧ Reps K m S.length (vis m S Z H) ds vs ∧ (d.isTup = true → SqT K H a vs) ∧ (d.isTup = false → SqL K H a vs) := by
  cases d with
  | lst ds' => cases h; rw [Rep] at r; obtain ⟨a, vs, e, h1, h2⟩ := r; exact ⟨a, vs, e, h2, fun z => (by cases z), fun _ => SqL.of (vis_sub h1)⟩
  | ksq ds' => cases h; rw [Rep] at r; obtain ⟨a, vs, e, h1, h2⟩ := r; exact ⟨a, vs, e, h2, fun z => (by cases z), fun _ => SqL.sub vis_le h1⟩
  | tup ds' => cases h; rw [Rep] at r; obtain ⟨a, vs, e, h1, h2⟩ := r; exact ⟨a, vs, e, h2, fun _ => SqT.sub vis_le h1, fun z => (by cases z)⟩
  | loc n =>
    rw [Rep] at r
    obtain ⟨vs, h1, h2⟩ := w.rep n _ (loc_lst h)
    exact ⟨m n, vs, r.1, h2, fun z => (by cases z), fun _ => SqL.of h1⟩
  | non => cases h
  | bl _ => cases h
  | int _ => cases h
  | str _ => cases h
  | obj _ _ _ => cases h
  | dic _ _ => cases h
  | ref _ => cases h
  | ty _ => cases h
  | exc _ _ _ => cases h
theorem Rep.lt {K : PySem.W.Frag} {m m' : Nat → Addr} {S S' : Sto} {Z Z' : Addr → Prop} {H H' : Hp} {d : D} {v : V} (e : Lt m S Z H m' S' Z' H') (r : Rep K m S.length (vis m S Z H) d v) : Rep K m' S'.length (vis m' S' Z' H') d v := Rep.mono e.loc e.len e.vis r
theorem Reps.lt {K : PySem.W.Frag} {m m' : Nat → Addr} {S S' : Sto} {Z Z' : Addr → Prop} {H H' : Hp} {d : List D} {v : List V} (e : Lt m S Z H m' S' Z' H') (r : Reps K m S.length (vis m S Z H) d v) : Reps K m' S'.length (vis m' S' Z' H') d v := Reps.mono e.loc e.len e.vis r
def rngD (lo : Int) (n : Nat) : List D := (List.range n).map fun i => .int (lo + ((i : Nat) : Int))
def gRng1 (ga : G (List D)) : GI := fun ρ S q => ga ρ S fun as S1 => ∃ j : Int, as = [.int j] ∧ -(2 ^ 62) ≤ j ∧ j < 2 ^ 62 ∧ q (rngD 0 j.toNat) (fun _ => True) S1
def gRng2 (ga : G (List D)) : GI := fun ρ S q => ga ρ S fun as S1 => ∃ i j : Int, as = [.int i, .int j] ∧ (-(2 ^ 62) ≤ i ∧ i < 2 ^ 62 ∧ -(2 ^ 62) ≤ j ∧ j < 2 ^ 62) ∧ q (rngD i (j - i).toNat) (fun _ => True) S1
def signsD (x : Str) : List D := x.cps.toList.map fun c => .str ⟨#[c]⟩
def enumD (ds : List D) : List D := ds.zipIdx.map fun p => .tup [.int (p.2 : Nat), p.1]
def gEnum (ga : G (List D)) : GI := fun ρ S q => ga ρ S fun as S1 => ∃ d ds, as = [d] ∧ d.isTup = false ∧ seqOf S1 d = some ds ∧ q (enumD ds) (fun S' => seqOf S' d = some ds) S1
def zipD (ds es : List D) : List D := List.zipWith (fun a b => .tup [a, b]) ds es
def gZip (ga : G (List D)) : GI := fun ρ S q => ga ρ S fun as S1 => ∃ d e ds es, as = [d, e] ∧ d.isTup = false ∧ e.isTup = false ∧ seqOf S1 d = some ds ∧ seqOf S1 e = some es ∧ q (zipD ds es) (fun S' => seqOf S' d = some ds ∧ seqOf S' e = some es) S1
section
variable {X : Cx} {pos p tpos : Pos} {tg e e2 : Expr} {ge : G D} {ga : G (List D)}
theorem yl_list {K : PySem.W.Frag} {m : Nat → Addr} {S : Sto} {Z : Addr → Prop} {H : Hp} {d : D} {a : Addr} {ds : List D} (ht : d.isTup = false) (r : Rep K m S.length (vis m S Z H) d (.ref a)) : Yl K (Itl K a) m S Z H ds (fun S' => seqOf S' d = some ds) := by
  refine ⟨fun {_ m' S' Z' H' i} l w hc hi => ?_, fun {_ m' S' Z' H'} l w hc => ?_⟩
  · obtain ⟨a', vs, e, hr, _, hs⟩ := seqOf_rep w (r.lt l) hc
    cases e
    obtain ⟨d', hd⟩ : ∃ d', ds[i]? = some d' := ⟨ds[i], by simp [hi]⟩
    obtain ⟨v, hv, rv⟩ := Reps.get hr hd
    refine ⟨⟨vs, v, hs ht, hv⟩, fun x H2 ⟨e2, hx⟩ => ?_⟩
    subst e2
    have := hx vs (hs ht)
    rw [hv] at this; cases this
    exact ⟨d', hd, w, Ext.refl, rv⟩
  · obtain ⟨a', vs, e, hr, _, hs⟩ := seqOf_rep w (r.lt l) hc
    cases e
    exact ⟨vs, hs ht, by rw [Reps.len hr]; exact Nat.le_refl _⟩
theorem yl_tup {K : PySem.W.Frag} {m : Nat → Addr} {S : Sto} {Z : Addr → Prop} {H : Hp} {d : D} {a : Addr} {ds : List D} (ht : d.isTup = true) (r : Rep K m S.length (vis m S Z H) d (.ref a)) : Yl K (Itt K a) m S Z H ds (fun S' => seqOf S' d = some ds) := by
  refine ⟨fun {_ m' S' Z' H' i} l w hc hi => ?_, fun {_ m' S' Z' H'} l w hc => ?_⟩
  · obtain ⟨a', vs, e, hr, hs, _⟩ := seqOf_rep w (r.lt l) hc
    cases e
    obtain ⟨d', hd⟩ : ∃ d', ds[i]? = some d' := ⟨ds[i], by simp [hi]⟩
    obtain ⟨v, hv, rv⟩ := Reps.get hr hd
    refine ⟨⟨vs, v, hs ht, hv⟩, fun x H2 ⟨e2, hx⟩ => ?_⟩
    subst e2
    have := hx vs (hs ht)
    rw [hv] at this; cases this
    exact ⟨d', hd, w, Ext.refl, rv⟩
  · obtain ⟨a', vs, e, hr, hs, _⟩ := seqOf_rep w (r.lt l) hc
    cases e
    exact ⟨vs, hs ht, by rw [Reps.len hr]; exact Nat.le_refl _⟩
/-- what a for walks: a list, a tuple, a text -/
theorem pi_seq {tl : TE} (hl : PE X e tl) : PI X tg e (fun σ H R => tl σ H fun x H1 => (∃ a, x = .ref a ∧ (∃ xs, SqL X.K H1 a xs) ∧ R (Itl X.K a) H1) ∨ (∃ a, x = .ref a ∧ (∃ xs, SqT X.K H1 a xs) ∧ R (Itt X.K a) H1) ∨ ∃ z, x = .str z ∧ R (Its z) H1) := by
  refine ⟨fun pins s σ H R I h => ?_⟩
  refine thn (hl.run pins s σ H _ I h) fun v s1 ⟨x, H1, I1, r1, q1⟩ => ?_
  rcases q1 with ⟨a, e, ⟨xs, hq⟩, q⟩ | ⟨a, e, ⟨xs, hq⟩, q⟩ | ⟨z, e, q⟩
  · subst e
    cases r1
    obtain ⟨its, rv, p, hz⟩ := I1.list hq
    refine wpAny_pyIter_list p.isList ?_
    refine ⟨s1.heap.objs.size, [s1.heap.objs.size], _, _, H1, rfl, I1.kept (t' := s1.toks) fun b o e => Heap.get?_push_of_some _ e, turn_list a _, ⟨_, Heap.get?_push_size _ rfl, rfl, rfl⟩, fun b hb => ?_, q⟩
    have e : b = s1.heap.objs.size := by simpa using hb
    subst e
    exact I1.fpOk (Nat.le_refl _) (I1.hok.fresh (Nat.le_refl _))
  · subst e
    cases r1
    obtain ⟨its, rv, p, hz⟩ := I1.tuple hq
    refine wpAny_pyIter_tuple (show s1.heap.IsTuple a its.toArray from p) ?_
    refine ⟨s1.heap.objs.size, [s1.heap.objs.size], _, _, H1, rfl, I1.kept (t' := s1.toks) fun b o e => Heap.get?_push_of_some _ e, turn_tuple a _, ⟨_, Heap.get?_push_size _ rfl, rfl, rfl⟩, fun b hb => ?_, q⟩
    have e : b = s1.heap.objs.size := by simpa using hb
    subst e
    exact I1.fpOk (Nat.le_refl _) (I1.hok.fresh (Nat.le_refl _))
  · subst e
    obtain ⟨t, rfl⟩ := r1
    cases ha : z.cps.all (· < 128)
    · exact wpAny_pyIter_wide ha (pi_one (tk := s1.toks) I1 _ (turn_str _ z t "str_iterator" (.inr rfl)) ⟨_, Heap.get?_push_size _ rfl, rfl, rfl⟩ q)
    · exact wpAny_pyIter_ascii ha (pi_one (tk := s1.toks) I1 _ (turn_str _ z t "str_ascii_iterator" (.inl rfl)) ⟨_, Heap.get?_push_size _ rfl, rfl, rfl⟩ q)
def gIt (ge : G D) : GI := fun ρ S q => ge ρ S fun d S1 => match d with
  | .str x => q (signsD x) (fun _ => True) S1
  | d => ∃ ds, seqOf S1 d = some ds ∧ q ds (fun S' => seqOf S' d = some ds) S1
theorem di_seq (h : PE X e (tofE X.K U ge)) : PI X tg e (tofI X.K U (gIt ge)) :=
  weakI (pi_seq h) fun σ H R ⟨m, S, Z, ρ, q, w, rs, h, k⟩ => tof_in w rs h fun v1 H1 m1 d1 S1 e1 w1 r1 h1 => by
    have go : ∀ ds, seqOf S1 d1 = some ds → q ds (fun S' => seqOf S' d1 = some ds) S1 → (∃ a, v1 = .ref a ∧ (∃ xs, SqL X.K H1 a xs) ∧ R (Itl X.K a) H1) ∨ (∃ a, v1 = .ref a ∧ (∃ xs, SqT X.K H1 a xs) ∧ R (Itt X.K a) H1) ∨ ∃ z, v1 = .str z ∧ R (Its z) H1 := fun ds hq hk => by
      obtain ⟨a, vs, e, hr, ht, hl⟩ := seqOf_rep w1 r1 hq
      subst e
      cases hd : d1.isTup with
      | false => exact .inl ⟨a, rfl, ⟨vs, hl hd⟩, k _ _ _ _ _ _ e1 w1 (yl_list hd r1) hk⟩
      | true => exact .inr (.inl ⟨a, rfl, ⟨vs, ht hd⟩, k _ _ _ _ _ _ e1 w1 (yl_tup hd r1) hk⟩)
    cases d1 with
    | str x =>
      have r1' : Rep X.K m1 S1.length (vis m1 S1 Z H1) (.str x) v1 := r1
      rw [Rep] at r1'
      refine .inr (.inr ⟨x, r1', k _ _ _ _ _ _ e1 w1 ⟨fun {_ m' S' Z' H' i} l w hc hi => ?_, fun {_ m' S' Z' H'} l w hc => ?_⟩ h1⟩)
      · have hi' : i < x.cps.size := by simpa [signsD] using hi
        refine ⟨hi', fun y H2 ⟨e2, c, hc, ey⟩ => ?_⟩
        subst e2 ey
        refine ⟨.str ⟨#[c]⟩, ?_, w, Ext.refl, rep_str⟩
        unfold signsD
        rw [List.getElem?_map, Array.getElem?_toList, hc]
        rfl
      · show x.cps.size ≤ (signsD x).length
        simp [signsD]
    | lst _ => obtain ⟨ds, hq, hk⟩ := h1; exact go ds hq hk
    | ksq _ => obtain ⟨ds, hq, hk⟩ := h1; exact go ds hq hk
    | tup _ => obtain ⟨ds, hq, hk⟩ := h1; exact go ds hq hk
    | loc _ => obtain ⟨ds, hq, hk⟩ := h1; exact go ds hq hk
    | non => obtain ⟨ds, hq, hk⟩ := h1; cases hq
    | bl _ => obtain ⟨ds, hq, hk⟩ := h1; cases hq
    | int _ => obtain ⟨ds, hq, hk⟩ := h1; cases hq
    | obj _ _ _ => obtain ⟨ds, hq, hk⟩ := h1; cases hq
    | dic _ _ => obtain ⟨ds, hq, hk⟩ := h1; cases hq
    | ref _ => obtain ⟨ds, hq, hk⟩ := h1; cases hq
    | ty _ => obtain ⟨ds, hq, hk⟩ := h1; cases hq
    | exc _ _ _ => obtain ⟨ds, hq, hk⟩ := h1; cases hq
theorem yl_rng {K : PySem.W.Frag} {m : Nat → Addr} {S : Sto} {Z : Addr → Prop} {H : Hp} {lo : Int} {n : Nat} : Yl K (Itr lo n) m S Z H (rngD lo n) (fun _ => True) := by
  have len : (rngD lo n).length = n := by simp [rngD]
  refine ⟨fun {_ m' S' Z' H' i} l w hc hi => ?_, fun {_ m' S' Z' H'} l w hc => ?_⟩
  · rw [len] at hi
    refine ⟨hi, fun y H2 ⟨e2, ey⟩ => ?_⟩
    subst e2 ey
    exact ⟨.int (lo + (i : Int)), by unfold rngD; rw [List.getElem?_map, List.getElem?_range hi]; rfl, w, Ext.refl, rep_int⟩
  · show n ≤ (rngD lo n).length
    rw [len]
    exact Nat.le_refl _
theorem reps1 {K : PySem.W.Frag} {m : Nat → Addr} {N : Nat} {Hv : Hp} {d : D} {vs : List V} (r : Reps K m N Hv [d] vs) : ∃ v, vs = [v] ∧ Rep K m N Hv d v := by
  obtain ⟨v, q, e, r1, r2⟩ := r
  exact ⟨v, by rw [e, show q = [] from r2], r1⟩
theorem reps2 {K : PySem.W.Frag} {m : Nat → Addr} {N : Nat} {Hv : Hp} {d d' : D} {vs : List V} (r : Reps K m N Hv [d, d'] vs) : ∃ v v', vs = [v, v'] ∧ Rep K m N Hv d v ∧ Rep K m N Hv d' v' := by
  obtain ⟨v, q, e, r1, r2⟩ := r
  obtain ⟨v', e', r'⟩ := reps1 r2
  exact ⟨v, v', by rw [e, e'], r1, r'⟩
theorem di_rng1 {a : Expr} (hg : Gl X "range") (hm : X.mg "range" = none) (ha : PA X [a] (tofA X.K U ga)) (hs : starEach [a] X.env = [(false, eval a X.env)] := by rfl) : PI X tg (.Call (.Name "range" p) [a] [] pos) (tofI X.K U (gRng1 ga)) :=
  weakI (pi_range1 hg hm ha hs) fun σ H R ⟨m, S, Z, ρ, q, w, rs, h, k⟩ => tof_in w rs h fun v1 H1 m1 d1 S1 e1 w1 r1 ⟨j, ed, h1, h2, h3⟩ => by
    subst ed
    obtain ⟨v, ev, rv⟩ := reps1 r1
    rw [Rep] at rv
    exact ⟨j, by rw [ev, rv], h1, h2, k _ _ _ _ _ _ e1 w1 yl_rng h3⟩
theorem di_enum {elts : List Expr} {kk : Nat} {a : Expr} (hg : Gl X "enumerate") (hm : X.mg "enumerate" = none) (ha : PA X [a] (tofA X.K U ga)) (hs : starEach [a] X.env = (false, eval a X.env) :: starEach [] X.env := by rfl)
    : PI X (.Tuple elts kk tpos) (.Call (.Name "enumerate" p) [a] [] pos) (tofI X.K U (gEnum ga)) :=
  weakI (pi_enum hg hm ha hs) fun σ H R ⟨m, S, Z, ρ, q, w, rs, h, k⟩ => tof_in w rs h fun v1 H1 m1 d1 S1 e1 w1 r1 ⟨d, ds, ed, hd, hq, h1⟩ => by
    subst ed
    obtain ⟨v, ev, rv⟩ := reps1 r1
    obtain ⟨a, vs, e, hr, _, hl⟩ := seqOf_rep w1 rv hq
    subst e
    refine ⟨a, vs, ev, hl hd, k _ _ _ _ _ _ e1 w1 ⟨fun {_ m' S' Z' H' i} l w hc hi => ?_, fun {_ m' S' Z' H'} l w hc => ?_⟩ h1⟩
    · obtain ⟨a', vs', e', hr', _, hl'⟩ := seqOf_rep w (rv.lt l) hc
      cases e'
      have hi' : i < ds.length := by simpa [enumD] using hi
      obtain ⟨d', hd'⟩ : ∃ d', ds[i]? = some d' := ⟨ds[i], by simp [hi']⟩
      obtain ⟨u, hu, ru⟩ := Reps.get hr' hd'
      refine ⟨⟨vs', u, hl' hd, hu⟩, fun x H2 ⟨T, x', ex, hT, eH, hx⟩ => ?_⟩
      have := hx vs' (hl' hd)
      rw [hu] at this; cases this
      subst ex eH
      obtain ⟨w3, e3, hv3⟩ := w.new (o := .tup [.int ((i : Nat) : Int), u]) hT
      refine ⟨.tup [.int ((i : Nat) : Int), d'], ?_, w3, e3, rep_tup (SqT.of hv3) (Reps.cons rep_int (Reps.one (ru.ext e3)))⟩
      unfold enumD
      rw [List.getElem?_map, List.getElem?_zipIdx, hd']
      simp
    · obtain ⟨a', vs', e', hr', _, hl'⟩ := seqOf_rep w (rv.lt l) hc
      cases e'
      exact ⟨vs', hl' hd, by rw [Reps.len hr']; simp [enumD]⟩
theorem di_zip {elts : List Expr} {kk : Nat} (hg : Gl X "zip") (hm : X.mg "zip" = none) (ha : PA X [e, e2] (tofA X.K U ga))
    (hs : starEach [e, e2] X.env = (false, eval e X.env) :: starEach [e2] X.env := by rfl) (hpl : (backTo pos (starEach [e2] X.env)).any (·.1) = false := by rfl) : PI X (.Tuple elts kk tpos) (.Call (.Name "zip" p) [e, e2] [] pos) (tofI X.K U (gZip ga)) :=
  weakI (pi_zip hg hm ha hs hpl) fun σ H R ⟨m, S, Z, ρ, q, w, rs, h, k⟩ => tof_in w rs h fun v1 H1 m1 d1 S1 e1 w1 r1 ⟨d, e, ds, es, ed, hd, he, hq, hq2, h1⟩ => by
    subst ed
    obtain ⟨v, v', ev, rv, rv'⟩ := reps2 r1
    obtain ⟨a, vs, ea, hr, _, hl⟩ := seqOf_rep w1 rv hq
    obtain ⟨b, ws, eb, hr2, _, hl2⟩ := seqOf_rep w1 rv' hq2
    subst ea eb
    refine ⟨a, b, vs, ws, ev, hl hd, hl2 he, k _ _ _ _ _ _ e1 w1 ⟨fun {_ m' S' Z' H' i} l w hc hi => ?_, fun {_ m' S' Z' H'} l w hc => ?_⟩ h1⟩
    · obtain ⟨a', vs', e', hr', _, hl'⟩ := seqOf_rep w (rv.lt l) hc.1
      obtain ⟨b', ws', e'', hr'', _, hl''⟩ := seqOf_rep w (rv'.lt l) hc.2
      cases e'
      cases e''
      have hi' : i < ds.length ∧ i < es.length := by
        have z : i < min ds.length es.length := by simpa [zipD] using hi
        omega
      obtain ⟨d', hd'⟩ : ∃ d', ds[i]? = some d' := ⟨ds[i]'hi'.1, by simp [hi'.1]⟩
      obtain ⟨f', hf'⟩ : ∃ f', es[i]? = some f' := ⟨es[i]'hi'.2, by simp [hi'.2]⟩
      obtain ⟨u, hu, ru⟩ := Reps.get hr' hd'
      obtain ⟨u', hu', ru'⟩ := Reps.get hr'' hf'
      refine ⟨⟨vs', ws', u, u', hl' hd, hl'' he, hu, hu'⟩, fun x H2 ⟨T, x', y', ex, hT, eH, hx, hy⟩ => ?_⟩
      have := hx vs' (hl' hd)
      rw [hu] at this; cases this
      have := hy ws' (hl'' he)
      rw [hu'] at this; cases this
      subst ex eH
      obtain ⟨w3, e3, hv3⟩ := w.new (o := .tup [u, u']) hT
      refine ⟨.tup [d', f'], ?_, w3, e3, rep_tup (SqT.of hv3) (Reps.cons (ru.ext e3) (Reps.one (ru'.ext e3)))⟩
      unfold zipD
      rw [List.getElem?_zipWith, hd', hf']
    · obtain ⟨a', vs', e', hr', _, hl'⟩ := seqOf_rep w (rv.lt l) hc.1
      obtain ⟨b', ws', e'', hr'', _, hl''⟩ := seqOf_rep w (rv'.lt l) hc.2
      cases e'
      cases e''
      refine ⟨vs', ws', hl' hd, hl'' he, ?_⟩
      rw [Reps.len hr', Reps.len hr'']
      simp only [zipD, List.length_zipWith]
      omega
end
def wipeD (ρ : Env_) : List Nat → Env_
  | [] => ρ
  | v :: vs => (wipeD ρ vs).set v none
theorem relS_wipe {K : PySem.W.Frag} {m : Nat → Addr} {N : Nat} {Hv : Hp} {ρ : Env_} {σ : L2.St} (r : RelS K m N Hv ρ σ) : ∀ vs : List Nat, RelS K m N Hv (wipeD ρ vs) (wipe σ vs)
  | [] => r
  | v :: vs => by
    have ih := relS_wipe r vs
    refine ⟨by unfold wipeD wipe; rw [List.length_set, List.length_set]; exact ih.1, fun i d e => ?_⟩
    unfold wipeD at e
    by_cases h : v = i
    · subst h
      by_cases hl : v < (wipeD ρ vs).length
      · rw [List.getElem?_set_self hl] at e; cases e
      · rw [List.getElem?_eq_none_iff.mpr (by rw [List.length_set]; omega)] at e; cases e
    · rw [List.getElem?_set_ne h] at e
      obtain ⟨u, h1, h2⟩ := ih.2 i d e
      exact ⟨u, by unfold wipe; rw [List.getElem?_set_ne h]; exact h1, h2⟩
def gYes : G Bool := fun _ S q => q true S
def gLc (fz : Bool) (gi : GI) (t : Tgt) (gt : G Bool) (ge : G D) (vs : List Nat) : G D := fun ρ S q => gi ρ S fun ds chk S1 => ∃ I : Nat → List D → Sto → Prop, I 0 [] S1 ∧
  (∀ i d acc S, ds[i]? = some d → I i acc S → chk S ∧ ∃ ρ', t.bind d (wipeD ρ vs) = some ρ' ∧ gt ρ' S fun b S2 => if b = true then ge ρ' S2 fun y S3 => acc.length < sizeLine ∧ I (i + 1) (acc ++ [y]) S3 else I (i + 1) acc S2) ∧
  ∀ acc S, I ds.length acc S → chk S ∧ newL fz acc S q
theorem Wd0.hide {K : PySem.W.Frag} {m : Nat → Addr} {S : Sto} {Z : Addr → Prop} {H : Hp} (w : Wd0 K m S Z H) {p : Addr} {o : HO} (hp : H p = none) (ho : ∀ ps, o ≠ .tbl ps := by intro ps z; first | (cases z; done) | (unfold excO at z; cases z)) (hou : ∀ vs, o ≠ .tup vs := by intro vs z; cases z) : Wd0 K m S (fun a => Z a ∨ a = p) (L2.upd H p o) ∧ Lt m S Z H m S (fun a => Z a ∨ a = p) (L2.upd H p o) := by
  obtain ⟨nz, nl⟩ := w.fresh hp
  have hv : ∀ a u, vis m S Z H a = some u → vis m S (fun a => Z a ∨ a = p) (L2.upd H p o) a = some u := fun a u h => by
    obtain ⟨z1, z2⟩ := vis_not h
    have nap : a ≠ p := ne_of_none (vis_sub h) hp
    exact vis_of (by rw [L2.upd_ne nap]; exact vis_sub h) (fun z => z.elim z1 nap) z2
  refine ⟨⟨w.inj, fun i l => ?_, fun a z => ?_, fun i x e => ?_, (w.tb.upd (noTb_none hp) ho).hide fun _ _ z => .inl z⟩, ⟨Nat.le_refl _, fun _ _ => rfl, hv⟩⟩
  · rintro (z | z)
    · exact w.zz i l z
    · exact nl i l z
  · by_cases e : a = p
    · rw [e, L2.upd_same]; exact ⟨_, rfl, hou⟩
    · rcases z with z | z
      · rw [L2.upd_ne e]; exact w.zx a z
      · exact absurd z e
  · exact (w.rep i x e).mono (fun _ _ => rfl) (Nat.le_refl _) hv (L2.upd_ne (nl i ⟨x, e⟩))
/-- a hidden object changes -/
theorem Wd0.hid {K : PySem.W.Frag} {m : Nat → Addr} {S : Sto} {Z : Addr → Prop} {H : Hp} (w : Wd0 K m S Z H) {p : Addr} {o : HO} (hz : Z p) (hnt : NoTb (H p)) (ho : ∀ ps, o ≠ .tbl ps := by intro ps z; first | (cases z; done) | (unfold excO at z; cases z)) (hou : ∀ vs, o ≠ .tup vs := by intro vs z; cases z) : Wd0 K m S Z (L2.upd H p o) ∧ vis m S Z (L2.upd H p o) = vis m S Z H := by
  have hv : vis m S Z (L2.upd H p o) = vis m S Z H := by
    funext a
    unfold vis
    by_cases c : Z a ∨ ∃ k, Live S k ∧ m k = a
    · rw [if_pos c, if_pos c]
    · rw [if_neg c, if_neg c]
      exact upd_ne (fun q => c (.inl (q ▸ hz)))
  refine ⟨⟨w.inj, w.zz, fun a z => ?_, fun i x e => ?_, w.tb.upd hnt ho⟩, hv⟩
  · by_cases e : a = p
    · rw [e, upd_same]; exact ⟨_, rfl, hou⟩
    · rw [upd_ne e]; exact w.zx a z
  · rw [hv]
    exact (w.rep i x e).mono (fun _ _ => rfl) (Nat.le_refl _) (fun _ _ q => q) (upd_ne (fun q => w.zz i ⟨x, e⟩ (q ▸ hz)))
theorem vis_unhide {m : Nat → Addr} {S : Sto} {Z Z' : Addr → Prop} {H : Hp} (hz : ∀ a, Z a → Z' a) {a : Addr} {o : HO} (h : vis m S Z' H a = some o) : vis m S Z H a = some o := by
  obtain ⟨z1, z2⟩ := vis_not h
  exact vis_of (vis_sub h) (fun z => z1 (hz a z)) z2
theorem Wd0.unhide {K : PySem.W.Frag} {m : Nat → Addr} {S : Sto} {Z Z' : Addr → Prop} {H : Hp} (hz : ∀ a, Z a → Z' a) (hb : ∀ P, Marked K P → Z P) (w : Wd0 K m S Z' H) : Wd0 K m S Z H :=
  ⟨w.inj, fun i l z => w.zz i l (hz _ z), fun a z => w.zx a (hz a z), fun i x e => (w.rep i x e).mono (fun _ _ => rfl) (Nat.le_refl _) (fun _ _ q => vis_unhide hz q) rfl, w.tb.hide fun P mm _ => hb P mm⟩
theorem Wd0.adopt {K : PySem.W.Frag} {m : Nat → Addr} {S : Sto} {Z : Addr → Prop} {H : Hp} {p : Addr} {ds : List D} {vs : List V} (nz : ¬ Z p) (hb : ∀ P, Marked K P → Z P) (w : Wd0 K m S (fun a => Z a ∨ a = p) H) (hp : H p = some (.lst vs)) (r : Reps K m S.length (vis m S (fun a => Z a ∨ a = p) H) ds vs) :
    ∃ m', m' S.length = p ∧ Wd0 K m' (S ++ [some (.lst ds)]) Z H ∧ (∀ i, i < S.length → m' i = m i) ∧ ∀ a u, vis m S (fun a => Z a ∨ a = p) H a = some u → vis m' (S ++ [some (.lst ds)]) Z H a = some u := by
  let m' : Nat → Addr := fun i => if i = S.length then p else m i
  have e0 : m' S.length = p := if_pos rfl
  have e1 : ∀ i, i < S.length → m' i = m i := fun i h => if_neg (Nat.ne_of_lt h)
  have lv : ∀ i, Live (S ++ [some (MO.lst ds)]) i → (i < S.length ∧ Live S i) ∨ i = S.length := fun i ⟨x, e⟩ => by
    by_cases h : i < S.length
    · exact .inl ⟨h, x, by rw [List.getElem?_append_left h] at e; exact e⟩
    · right
      have := (List.getElem?_eq_some_iff.mp e).1
      rw [List.length_append, List.length_singleton] at this
      omega
  have nl : ∀ i, Live S i → m i ≠ p := fun i l e => w.zz i l (.inr e)
  have hv : ∀ a u, vis m S (fun a => Z a ∨ a = p) H a = some u → vis m' (S ++ [some (.lst ds)]) Z H a = some u := fun a u h => by
    obtain ⟨z1, z2⟩ := vis_not h
    refine vis_of (vis_sub h) (fun z => z1 (.inl z)) fun n l => ?_
    rcases lv n l with ⟨hn, l⟩ | rfl
    · rw [e1 n hn]; exact z2 n l
    · rw [e0]; exact fun q => z1 (.inr q.symm)
  have len : (S ++ [some (MO.lst ds)]).length = S.length + 1 := by simp
  refine ⟨m', e0, ⟨fun i j li lj e => ?_, fun i li => ?_, fun a z => w.zx a (.inl z), fun i x e => ?_, w.tb.hide fun P mm _ => hb P mm⟩, e1, hv⟩
  · rcases lv i li with ⟨hi, li⟩ | rfl <;> rcases lv j lj with ⟨hj, lj⟩ | rfl
    · rw [e1 i hi, e1 j hj] at e; exact w.inj i j li lj e
    · rw [e1 i hi, e0] at e; exact absurd e (nl i li)
    · rw [e0, e1 j hj] at e; exact absurd e.symm (nl j lj)
    · rfl
  · rcases lv i li with ⟨hi, li⟩ | rfl
    · rw [e1 i hi]; exact fun z => w.zz i li (.inl z)
    · rw [e0]; exact nz
  · rw [len]
    rcases lv i ⟨x, e⟩ with ⟨hi, li⟩ | rfl
    · rw [List.getElem?_append_left hi] at e
      exact (w.rep i x e).mono e1 (Nat.le_succ _) hv (by rw [e1 i hi])
    · rw [List.getElem?_append_right (Nat.le_refl _), Nat.sub_self, List.getElem?_cons_zero] at e
      cases e
      exact ⟨vs, by rw [e0]; exact hp, Reps.mono e1 (Nat.le_succ _) hv r⟩
section
variable {K : PySem.W.Frag} {gi : GI} {t : Tgt} {gt : G Bool} {ge : G D} {vs : List Nat} {fz : Bool}
theorem lc_in (hsub : ∀ i ∈ t.slots, i ∈ vs) {σ : L2.St} {H : Hp} {Q : VK} (h : tofE K U (gLc fz gi t gt ge vs) σ H Q) : tLc (tofI K U gi) (t.gof K) (tofB K U0 gt) (tofE K U0 ge) vs σ H Q := by
  obtain ⟨m, S, Z, ρ, q, w, rs, h, k⟩ := h
  refine ⟨m, S, Z, ρ, _, w, rs, h, fun J H1 m1 S1 ds chk e1 w1 Y ⟨I, h0, hstep, hend⟩ p hp => ?_⟩
  obtain ⟨nz, nl⟩ := w1.fresh hp
  obtain ⟨w1', l1⟩ := w1.toWd0.hide (o := .lst []) hp
  let Z' : Addr → Prop := fun a => Z a ∨ a = p
  have hzp : Z' p := .inr rfl
  have hz1 : ∀ a, Z a → upd H1 p (.lst []) a = H1 a := fun a z => upd_ne (fun e => nz (e ▸ z))
  refine ⟨fun i n H' => n = ds.length - i ∧ i ≤ ds.length ∧ ∃ m' S' acc av, Lt m1 S1 Z H1 m' S' Z' H' ∧ (∀ a, Z a → (∀ ps, H1 a ≠ some (.tbl ps)) → H' a = H1 a) ∧ Wd K U0 m' S' Z' H' ∧ H' p = some (.lst av) ∧ Reps K m' S'.length (vis m' S' Z' H') acc av ∧ I i acc S',
    ⟨ds.length, by simp, Nat.zero_le _, m1, S1, [], [], l1, fun a z _ => hz1 a z, w1'.u0, upd_same, reps_nil, h0⟩, ?_⟩
  rintro i n H2 ⟨rfl, hi2, m2, S2, acc, av, l2, z2, w2, hp2, ra, I2⟩
  by_cases hlt : i < ds.length
  · right
    obtain ⟨d, hd⟩ : ∃ d, ds[i]? = some d := ⟨ds[i], by simp [hlt]⟩
    obtain ⟨hchk, ρ3, hbind, hbody⟩ := hstep i d acc S2 hd I2
    obtain ⟨g1, g2⟩ := Y.go l2 w2 hchk hlt
    refine ⟨g1, fun H' => ∃ m' S' acc av, Lt m1 S1 Z H1 m' S' Z' H' ∧ (∀ a, Z a → (∀ ps, H1 a ≠ some (.tbl ps)) → H' a = H1 a) ∧ Wd K U0 m' S' Z' H' ∧ H' p = some (.lst av) ∧ Reps K m' S'.length (vis m' S' Z' H') acc av ∧ I (i + 1) acc S', fun H' hN => ⟨ds.length - (i + 1), by omega, rfl, hlt, hN⟩, fun x H3 hy => ?_⟩
    obtain ⟨d', hd', w3, e3, r3⟩ := g2 x H3 hy
    rw [hd] at hd'; cases hd'
    have rs2 : RelS K m2 S2.length (vis m2 S2 Z' H2) ρ σ := by
      have z := rs.ext e1
      exact ⟨z.1, fun i d h => let ⟨v, h1, h2⟩ := z.2 i d h; ⟨v, h1, h2.lt l2⟩⟩
    refine Tgt.ok (vs := vs) vis_le hbind r3 (relS_wipe (rs2.ext e3) vs) fun σ4 rs4 hw4 => ⟨?_, ?_⟩
    · rw [hw4 hsub, wipe_wipe vs fun v hv => hv]
    · have lt_of : ∀ {m' S' H'}, Ext m2 S2 Z' H2 m' S' H' → Lt m1 S1 Z H1 m' S' Z' H' ∧ (∀ a, Z a → (∀ ps, H1 a ≠ some (.tbl ps)) → H' a = H1 a) := fun {m' S' H'} e => ⟨⟨Nat.le_trans l2.len e.len, fun i hi => (e.loc i (Nat.lt_of_lt_of_le hi l2.len)).trans (l2.loc i hi), fun a o q => e.vis a o (l2.vis a o q)⟩, fun a z n => (e.zed a (.inl z) (by rw [z2 a z n]; exact n)).trans (z2 a z n)⟩
      refine tof_in w3 rs4 hbody fun b H4 m4 b' S4 e4 w4 hb h4 => ?_
      cases (show b' = b from hb)
      cases b with
      | true =>
        refine tof_in w4 (rs4.ext e4) h4 fun y H5 m5 dy S5 e5 w5 ry h5 => ?_
        have e25 := (e3.trans e4).trans e5
        have hp5 : H5 p = some (.lst av) := (e25.zed p hzp (noTb_lst hp2).1).trans hp2
        obtain ⟨w6, hv6⟩ := w5.toWd0.hid (o := .lst (av ++ [y])) hzp (noTb_lst hp5)
        obtain ⟨l5, z5⟩ := lt_of e25
        refine ⟨av, hp5, by rw [Reps.len ra]; exact h5.1, m5, S5, acc ++ [dy], av ++ [y], ⟨l5.len, l5.loc, fun a o q => by rw [hv6]; exact l5.vis a o q⟩, fun a z n => (upd_ne (show a ≠ p from fun e => nz (e ▸ z))).trans (z5 a z n), w6.u0, upd_same, ?_, h5.2⟩
        rw [hv6]
        exact (ra.ext e25).append (Reps.one ry)
      | false =>
        have e24 := e3.trans e4
        obtain ⟨l4, z4⟩ := lt_of e24
        exact ⟨m4, S4, acc, av, l4, z4, w4, (e24.zed p hzp (noTb_lst hp2).1).trans hp2, ra.ext e24, h4⟩
  · left
    have ei : i = ds.length := by omega
    subst ei
    obtain ⟨hchk, hnew⟩ := hend acc S2 I2
    refine ⟨Y.stop l2 w2 hchk, ?_⟩
    cases fz with
    | true =>
      have wu : Wd0 K m2 S2 Z H2 := Wd0.unhide (fun a z => .inl z) w1.tb.z w2.toWd0
      have eu : Ext m1 S1 Z H1 m2 S2 H2 := ⟨l2.len, l2.loc, fun a o q => vis_unhide (fun a z => .inl z) (l2.vis a o q), z2⟩
      refine k.at (e1.trans eu) (w1.on eu wu) (rep_lst (vis_of hp2 nz fun n l e => w2.zz n l (.inr e)) (Reps.mono (fun _ _ => rfl) (Nat.le_refl _) (fun a o q => vis_unhide (fun a z => .inl z) q) ra)) hnew
    | false =>
      obtain ⟨m3, e0, w3, em, hv3⟩ := Wd0.adopt nz w1.tb.z w2.toWd0 hp2 ra
      have eu : Ext m1 S1 Z H1 m3 (S2 ++ [some (.lst acc)]) H2 := ⟨by rw [List.length_append]; exact Nat.le_trans l2.len (Nat.le_add_right _ _), fun i hi => (em i (Nat.lt_of_lt_of_le hi l2.len)).trans (l2.loc i hi), fun a o q => hv3 a o (l2.vis a o q), z2⟩
      exact k.at (e1.trans eu) (w1.on eu w3) (rep_loc e0 (by simp)) hnew
end
section
variable {X : Cx} {elt tg iter c : Expr} {ifs : List Expr} {scope : Scope} {own : List (Str × Nat)} {pos spos : Pos} {gi : GI} {t : Tgt} {gt : G Bool} {ge : G D}
theorem dt_nil : PTs X [] (tofB X.K U gYes) := ⟨fun pins s σ H Q I ⟨m, S, Z, ρ, q, w, rs, h, k⟩ => (pts_nil (X := X)).run pins s σ H Q I (k.now w rfl h)⟩
theorem dt_one (h : PT X c (tofB X.K U gt)) : PTs X [c] (tofB X.K U gt) := pts_one h
theorem d_lc (fz : Bool) (hc : X.calm = true) (hN : X.N.Nodup) (hi : PI X tg iter (tofI X.K U gi)) (ok : BlkOk X.N X.env.scope scope own) (hsub : ∀ i ∈ t.slots, i ∈ own.map (·.2))
    (hg : ∀ (s : Shared) (H : Hp) (C : Addr) (cl : List (Str × Addr)) (fp : List Addr), PG (X.blk s H scope (compEnvC scope cl C X.env) fp) tg (t.gof X.K)) (ht : ∀ (s : Shared) (H : Hp) (C : Addr) (cl : List (Str × Addr)) (fp : List Addr), PTs (X.blk s H scope (compEnvC scope cl C X.env) fp) ifs (tofB X.K U0 gt))
    (he : ∀ (s : Shared) (H : Hp) (C : Addr) (cl : List (Str × Addr)) (fp : List Addr), PE (X.blk s H scope (compEnvC scope cl C X.env) fp) elt (tofE X.K U0 ge)) (hs : ∀ x, foldedSetIterable iter X.env x = pure x := by intro _; rfl) :
    PE X (.ListComp elt [⟨tg, iter, ifs, 0⟩] scope pos) (tofE X.K U (gLc fz gi t gt ge (own.map (·.2)))) :=
  weakE (pe_lc hc hN hi ok hg ht he hs) fun _ _ _ h => lc_in hsub h
/-- name = [..] -/
theorem d_setLc (fz : Bool) {i : Nat} {y : Str} {py : Pos} (hc : X.calm = true) (hN : X.N.Nodup) (hy : X.N[i]? = some y) (hyl : X.env.scope.names.lookup y = some .local)
    (hsw : swapsWith (.ListComp elt [⟨tg, iter, ifs, 0⟩] scope pos) (some (.Name y py)) spos.line X.env = pure true) (hi : PI X tg iter (tofI X.K U gi)) (ok : BlkOk X.N X.env.scope scope own) (hsub : ∀ i ∈ t.slots, i ∈ own.map (·.2))
    (hg : ∀ (s : Shared) (H : Hp) (C : Addr) (cl : List (Str × Addr)) (fp : List Addr), PG (X.blk s H scope (compEnvC scope cl C X.env) fp) tg (t.gof X.K)) (ht : ∀ (s : Shared) (H : Hp) (C : Addr) (cl : List (Str × Addr)) (fp : List Addr), PTs (X.blk s H scope (compEnvC scope cl C X.env) fp) ifs (tofB X.K U0 gt))
    (he : ∀ (s : Shared) (H : Hp) (C : Addr) (cl : List (Str × Addr)) (fp : List Addr), PE (X.blk s H scope (compEnvC scope cl C X.env) fp) elt (tofE X.K U0 ge)) (hs : ∀ x, foldedSetIterable iter X.env x = pure x := by intro _; rfl) :
    PS X (.Assign [.Name y py] (.ListComp elt [⟨tg, iter, ifs, 0⟩] scope pos) spos) (tofS X.K U (gSet i (gLc fz gi t gt ge (own.map (·.2))))) :=
  weakS (ps_setLc hc hN hy hyl hsw hi ok hg ht he hs) fun E σ H ⟨m, S, Z, ρ, D, w, rs, h, k⟩ => lc_in hsub (tof_in w rs h fun v1 H1 m1 d1 S1 e1 w1 r1 h1 => k.nx.at e1 w1 ((rs.ext e1).set r1) h1)
end
end Dl
namespace Dl
open PySem L2
abbrev rMx2 : List V → Hp → VK → Prop := fun xs H Q => ∃ i j, xs = [.int i, .int j] ∧ Q (.int (if j > i then j else i)) H
abbrev rLstOf (K : PySem.W.Frag) : List V → Hp → VK → Prop := fun xs H Q => ∃ p ys, xs = [.ref p] ∧ (SqL K H p ys ∨ SqT K H p ys) ∧ ∀ l, H l = none → Q (.ref l) (upd H l (.lst ys))
abbrev showI (i : Int) : Str := ((toString i : String) : Str)
section
variable {K : PySem.W.Frag}
def aI2 (C : Int → Int → Prop) (f : Int → Int → D) : R2D := fun a b S q => ∃ i j, a = .int i ∧ b = .int j ∧ C i j ∧ q (f i j) S
theorem vr_I2 {C : Int → Int → Prop} {g : Int → Int → V} {f : Int → Int → D} (hf : ∀ m N Hv i j, Rep K m N Hv (f i j) (g i j)) : VR2 K (rI C g) (aI2 C f) := fun w r1 r2 ⟨i, j, e1, e2, h1, h2⟩ k => by
  subst e1 e2
  rw [Rep] at r1 r2
  exact ⟨i, j, r1, r2, h1, k.now w (hf _ _ _ _ _) h2⟩
theorem vr_I20 {g : Int → Int → V} {f : Int → Int → D} (hf : ∀ m N Hv i j, Rep K m N Hv (f i j) (g i j)) : VR2 K (rI0 g) (aI2 (fun _ _ => True) f) := fun w r1 r2 ⟨i, j, e1, e2, h1, h2⟩ k => by
  subst e1 e2
  rw [Rep] at r1 r2
  exact ⟨i, j, r1, r2, k.now w (hf _ _ _ _ _) h2⟩
def listOf (S : Sto) : D → Option (List D)
  | .lst ds => some ds
  | .loc n => match S[n]? with
    | some (some (.lst ds)) => some ds
    | _ => none
  | _ => none
theorem listOf_rep {m : Nat → Addr} {S : Sto} {Z : Addr → Prop} {H : Hp} {d : D} {v : V} {ds : List D} (w : Wd K U m S Z H) (r : Rep K m S.length (vis m S Z H) d v) (h : listOf S d = some ds) :
    ∃ a vs, v = .ref a ∧ H a = some (.lst vs) ∧ Reps K m S.length (vis m S Z H) ds vs := by
  cases d with
  | lst ds' => cases h; rw [Rep] at r; obtain ⟨a, vs, e, h1, h2⟩ := r; exact ⟨a, vs, e, vis_sub h1, h2⟩
  | loc n =>
    rw [Rep] at r
    obtain ⟨vs, h1, h2⟩ := w.rep n _ (loc_lst h)
    exact ⟨m n, vs, r.1, h1, h2⟩
  | non => cases h
  | bl _ => cases h
  | int _ => cases h
  | str _ => cases h
  | tup _ => cases h
  | ksq _ => cases h
  | obj _ _ _ => cases h
  | dic _ _ => cases h
  | ref _ => cases h
  | ty _ => cases h
  | exc _ _ _ => cases h
def aAdd (fz : Bool) : R2D := fun a b S q => match a, b with
  | .int i, .int j => q (.int (i + j)) S
  | .str x, .str y => x.length + y.length ≤ sizeLine ∧ q (.str (x ++ y)) S
  | .tup xs, .tup ys => xs.length + ys.length ≤ sizeLine ∧ q (.tup (xs ++ ys)) S
  | a, b => ∃ xs ys, listOf S a = some xs ∧ listOf S b = some ys ∧ xs.length + ys.length ≤ sizeLine ∧ newL fz (xs ++ ys) S q
abbrev rAddA (K : PySem.W.Frag) : R2 := fun x y H Q => rI0 (fun i j => .int (i + j)) x y H Q ∨ (∃ i j, x = .str i ∧ y = .str j ∧ i.length + j.length ≤ sizeLine ∧ Q (.str (i ++ j)) H) ∨ rCatA K x y H Q ∨ rCat x y H Q
theorem or_add {X : Cx} : OpR X (binaryOp .Add) (rAddA X.K) := op_add.or (op_add_str.or (op_catA.or op_cat))
theorem vr_add {fz : Bool} : VR2 K (rAddA K) (aAdd fz) := fun {_ m S Z H a b v u q Q} w r1 r2 h k => by
  have lists : (∃ xs ys, listOf S a = some xs ∧ listOf S b = some ys ∧ xs.length + ys.length ≤ sizeLine ∧ newL fz (xs ++ ys) S q) → rAddA K v u H Q := fun ⟨xs, ys, h1, h2, h3, h4⟩ => by
    obtain ⟨a1, vs, e1, hh1, q1⟩ := listOf_rep w r1 h1
    obtain ⟨a2, us, e2, hh2, q2⟩ := listOf_rep w r2 h2
    exact .inr (.inr (.inr ⟨a1, a2, vs, us, e1, e2, hh1, hh2, by rw [Reps.len q1, Reps.len q2]; exact h3, fun p hp => out_newL w (q1.append q2) h4 k hp⟩))
  cases a <;> cases b <;> first
    | (rw [Rep] at r1 r2; exact .inl ⟨_, _, r1, r2, k.now w rep_int h⟩)
    | (rw [Rep] at r1 r2; exact .inr (.inl ⟨_, _, r1, r2, h.1, k.now w rep_str h.2⟩))
    | exact lists h
    | skip
  case tup.tup xs ys =>
    rw [Rep] at r1 r2
    obtain ⟨a1, vs, e1, s1, q1⟩ := r1
    obtain ⟨a2, us, e2, s2, q2⟩ := r2
    subst e1 e2
    have l1 := Reps.len q1
    have l2 := Reps.len q2
    refine .inr (.inr (.inl ⟨a1, a2, vs, us, rfl, rfl, SqT.sub vis_le s1, SqT.sub vis_le s2, by rw [l1, l2]; exact h.1, fun e => ?_, fun _ e => ?_, fun _ _ p hp => ?_⟩))
    · subst e
      have e' : xs = [] := List.eq_nil_of_length_eq_zero (by simpa using l1.symm)
      subst e'
      exact k.now w (rep_tup s2 q2) h.2
    · subst e
      have e' : ys = [] := List.eq_nil_of_length_eq_zero (by simpa using l2.symm)
      subst e'
      have h2 := h.2
      rw [List.append_nil] at h2
      exact k.now w (rep_tup s1 q1) h2
    · exact out_newT w (q1.append q2) h.2 k hp
def aSub : R2D := aI2 (fun _ _ => True) fun i j => .int (i - j)
theorem vr_sub : VR2 K (rI0 fun i j => .int (i - j)) aSub := vr_I20 fun _ _ _ _ _ => rep_int
def mulOk (i j : Int) : Prop := CMul i j ∨ CMulW i j
abbrev rMulA : R2 := fun x y H Q => rI CMul (fun i j => .int (i * j)) x y H Q ∨ rI CMulW (fun i j => .int (i * j)) x y H Q ∨ rRep x y H Q
theorem or_mul {X : Cx} : OpR X (binaryOp .Mult) rMulA := op_mul.or (op_mulW.or op_rep)
def aMul (fz : Bool) : R2D := fun a b S q => match a, b with
  | .int i, .int j => mulOk i j ∧ q (.int (i * j)) S
  | a, .int k => ∃ xs, listOf S a = some xs ∧ -(2 ^ 63) ≤ k ∧ k < 2 ^ 63 ∧ xs.length * k.toNat ≤ sizeLine ∧ newL fz (List.replicate k.toNat xs).flatten S q
  | _, _ => False
theorem reps_rep {m : Nat → Addr} {N : Nat} {Hv : Hp} {ds : List D} {vs : List V} (r : Reps K m N Hv ds vs) : ∀ n : Nat, Reps K m N Hv (List.replicate n ds).flatten (List.replicate n vs).flatten
  | 0 => reps_nil
  | n + 1 => by rw [List.replicate_succ, List.replicate_succ, List.flatten_cons, List.flatten_cons]; exact r.append (reps_rep r n)
theorem vr_mul {fz : Bool} : VR2 K rMulA (aMul fz) := fun {_ m S Z H a b v u q Q} w r1 r2 h k => by
  cases b with
  | int j =>
    rw [Rep] at r2
    have lists : (∃ xs, listOf S a = some xs ∧ -(2 ^ 63) ≤ j ∧ j < 2 ^ 63 ∧ xs.length * j.toNat ≤ sizeLine ∧ newL fz (List.replicate j.toNat xs).flatten S q) → rMulA v u H Q := fun ⟨xs, h1, h2, h3, h4, h5⟩ => by
      obtain ⟨a1, vs, e1, hh1, q1⟩ := listOf_rep w r1 h1
      exact .inr (.inr ⟨a1, j, vs, e1, r2, hh1, h2, h3, by rw [Reps.len q1]; exact h4, fun p hp => out_newL w (reps_rep q1 _) h5 k hp⟩)
    cases a <;> first
      | (rw [Rep] at r1
         rcases h.1 with h1 | h1
         · exact .inl ⟨_, _, r1, r2, h1, k.now w rep_int h.2⟩
         · exact .inr (.inl ⟨_, _, r1, r2, h1, k.now w rep_int h.2⟩))
      | exact lists h
  | non => cases a <;> exact False.elim h
  | bl _ => cases a <;> exact False.elim h
  | str _ => cases a <;> exact False.elim h
  | tup _ => cases a <;> exact False.elim h
  | lst _ => cases a <;> exact False.elim h
  | ksq _ => cases a <;> exact False.elim h
  | obj _ _ _ => cases a <;> exact False.elim h
  | dic _ _ => cases a <;> exact False.elim h
  | loc _ => cases a <;> exact False.elim h
  | ref _ => cases a <;> exact False.elim h
  | ty _ => cases a <;> exact False.elim h
  | exc _ _ _ => cases a <;> exact False.elim h
def divOk (i j : Int) : Prop := CDiv i j ∨ CDivW i j
def aFdiv : R2D := aI2 divOk fun i j => .int (i / j)
abbrev rDivA : R2 := fun x y H Q => rI CDiv (fun i j => .int (i / j)) x y H Q ∨ rI CDivW (fun i j => .int (i / j)) x y H Q
theorem or_fdiv {X : Cx} : OpR X (binaryOp .FloorDiv) rDivA := op_fdiv.or op_fdivW
theorem vr_fdiv : VR2 K rDivA aFdiv := fun w r1 r2 ⟨i, j, e1, e2, h1, h2⟩ k => by
  subst e1 e2
  rw [Rep] at r1 r2
  rcases h1 with h1 | h1
  · exact .inl ⟨i, j, r1, r2, h1, k.now w rep_int h2⟩
  · exact .inr ⟨i, j, r1, r2, h1, k.now w rep_int h2⟩
def aMod : R2D := aI2 (fun _ j => 0 < j) fun i j => .int (i % j)
theorem vr_mod : VR2 K (rI (fun _ j => 0 < j) fun i j => .int (i % j)) aMod := vr_I2 fun _ _ _ _ _ => rep_int
def aPow : R2D := aI2 CPow fun i j => .int (i ^ j.toNat)
theorem vr_pow : VR2 K (rI CPow fun i j => .int (i ^ j.toNat)) aPow := vr_I2 fun _ _ _ _ _ => rep_int
def aShr : R2D := aI2 (fun _ j => 0 ≤ j) fun i j => .int (i / 2 ^ j.toNat)
def aLt : R2D := aI2 (fun _ _ => True) fun i j => .bl (decide (i < j))
def aLe : R2D := aI2 (fun _ _ => True) fun i j => .bl (decide (i ≤ j))
def aGt : R2D := aI2 (fun _ _ => True) fun i j => .bl (decide (j < i))
def aGe : R2D := aI2 (fun _ _ => True) fun i j => .bl (decide (j ≤ i))
theorem vr_lt : VR2 K (rI0 fun i j => .bl (decide (i < j))) aLt := vr_I20 fun _ _ _ _ _ => rep_bl
theorem vr_gt : VR2 K (rI0 fun i j => .bl (decide (j < i))) aGt := vr_I20 fun _ _ _ _ _ => rep_bl
theorem vr_ge : VR2 K (rI0 fun i j => .bl (decide (j ≤ i))) aGe := vr_I20 fun _ _ _ _ _ => rep_bl
/-- - of one int -/
def aNeg : R1D := fun a S q => ∃ i, a = .int i ∧ q (.int (-i)) S
theorem vr_neg : VR1 K (rU fun i => .int (-i)) aNeg := fun w r1 ⟨i, e1, h⟩ k => by
  subst e1
  rw [Rep] at r1
  exact ⟨i, r1, k.now w rep_int h⟩
end
mutual
def toPy : D → Option PyData
  | .non => some .none
  | .bl b => some (.bool b)
  | .int i => some (.int i)
  | .str x => some (.str x)
  | .tup ds => (toPys ds).map .tuple
  | .lst ds => (toPys ds).map .list
  | .ksq ds => (toPys ds).map .list
  | .obj _ _ _ => none
  | .dic _ _ => none
  | .loc _ => none
  | .ref _ => none
  | .ty _ => none
  | .exc _ _ _ => none
def toPys : List D → Option (List PyData)
  | [] => some []
  | d :: ds => match toPy d, toPys ds with
    | some p, some ps => some (p :: ps)
    | _, _ => none
end
def toPyS (S : Sto) : D → Option PyData
  | .loc n => match S[n]? with
    | some (some (.lst ds)) => (toPys ds).map .list
    | _ => none
  | d => toPy d
section
variable {K : PySem.W.Frag} {m : Nat → Addr} {N : Nat} {Hv : Hp}
mutual
theorem dp_of : ∀ {d : D} {v : V} {p : PyData}, Rep K m N Hv d v → toPy d = some p → Dp K Hv v p
  | .non, _, _, r, e => by rw [Rep] at r; rw [toPy] at e; cases e; rw [r]; exact .non
  | .bl _, _, _, r, e => by rw [Rep] at r; rw [toPy] at e; cases e; rw [r]; exact .bl _
  | .int _, _, _, r, e => by rw [Rep] at r; rw [toPy] at e; cases e; rw [r]; exact .int _
  | .str _, _, _, r, e => by rw [Rep] at r; rw [toPy] at e; cases e; rw [r]; exact .str _
  | .tup ds, _, _, r, e => by
    rw [Rep] at r
    rw [toPy] at e
    obtain ⟨a, vs, ev, h1, h2⟩ := r
    obtain ⟨ps, hp, rfl⟩ := Option.map_eq_some_iff.mp e
    rw [ev]
    exact .tup h1 (dps_of h2 hp)
  | .lst ds, _, _, r, e => by
    rw [Rep] at r
    rw [toPy] at e
    obtain ⟨a, vs, ev, h1, h2⟩ := r
    obtain ⟨ps, hp, rfl⟩ := Option.map_eq_some_iff.mp e
    rw [ev]
    exact .lst (SqL.of h1) (dps_of h2 hp)
  | .ksq ds, _, _, r, e => by
    rw [Rep] at r
    rw [toPy] at e
    obtain ⟨a, vs, ev, h1, h2⟩ := r
    obtain ⟨ps, hp, rfl⟩ := Option.map_eq_some_iff.mp e
    rw [ev]
    exact .lst h1 (dps_of h2 hp)
  | .obj _ _ _, _, _, _, e => by rw [toPy] at e; cases e
  | .dic _ _, _, _, _, e => by rw [toPy] at e; cases e
  | .loc _, _, _, _, e => by rw [toPy] at e; cases e
  | .ref _, _, _, _, e => by rw [toPy] at e; cases e
  | .ty _, _, _, _, e => by rw [toPy] at e; cases e
  | .exc _ _ _, _, _, _, e => by rw [toPy] at e; cases e
theorem dps_of : ∀ {ds : List D} {vs : List V} {ps : List PyData}, Reps K m N Hv ds vs → toPys ds = some ps → DpAll K Hv vs ps
  | [], _, _, r, e => by rw [Reps] at r; rw [toPys] at e; cases e; rw [r]; exact .nil
  | d :: ds, _, _, r, e => by
    rw [Reps] at r
    obtain ⟨v, q, ev, r1, r2⟩ := r
    rw [toPys] at e
    cases h1 : toPy d with
    | none => rw [h1] at e; cases e
    | some p =>
      cases h2 : toPys ds with
      | none => rw [h1, h2] at e; cases e
      | some ps =>
        rw [h1, h2] at e
        cases e
        rw [ev]
        exact .cons (dp_of r1 h1) (dps_of r2 h2)
end
mutual
theorem Dp.sub {H H' : Hp} (hh : ∀ a o, H a = some o → H' a = some o) : ∀ {v : V} {p : PyData}, Dp K H v p → Dp K H' v p
  | _, _, .non => .non
  | _, _, .bl b => .bl b
  | _, _, .int b => .int b
  | _, _, .str b => .str b
  | _, _, .lst h r => .lst (SqL.sub hh h) (DpAll.sub hh r)
  | _, _, .tup h r => .tup (SqT.sub hh h) (DpAll.sub hh r)
theorem DpAll.sub {H H' : Hp} (hh : ∀ a o, H a = some o → H' a = some o) : ∀ {v : List V} {p : List PyData}, DpAll K H v p → DpAll K H' v p
  | _, _, .nil => .nil
  | _, _, .cons h r => .cons (Dp.sub hh h) (DpAll.sub hh r)
end
theorem dpS_of {S : Sto} {Z : Addr → Prop} {H : Hp} {d : D} {v : V} {p : PyData} (w : Wd K U m S Z H) (r : Rep K m S.length (vis m S Z H) d v) (e : toPyS S d = some p) : Dp K H v p := by
  cases d with
  | loc n =>
    rw [toPyS] at e
    rw [Rep] at r
    cases hS : S[n]? with
    | none => rw [hS] at e; cases e
    | some o =>
      cases o with
      | none => rw [hS] at e; cases e
      | some o =>
        cases o with
        | lst ds =>
          rw [hS] at e
          obtain ⟨ps, hp, rfl⟩ := Option.map_eq_some_iff.mp e
          obtain ⟨vs, h1, h2⟩ := w.rep n _ hS
          rw [r.1]
          exact .lst (SqL.of h1) (DpAll.sub vis_le (dps_of h2 hp))
        | obj _ _ _ => rw [hS] at e; cases e
        | dic _ _ => rw [hS] at e; cases e
        | dicT _ _ => rw [hS] at e; cases e
        | lck _ _ _ _ => rw [hS] at e; cases e
        | lckT _ _ _ _ => rw [hS] at e; cases e
  | non => exact Dp.sub vis_le (dp_of r e)
  | bl _ => exact Dp.sub vis_le (dp_of r e)
  | int _ => exact Dp.sub vis_le (dp_of r e)
  | str _ => exact Dp.sub vis_le (dp_of r e)
  | tup _ => exact Dp.sub vis_le (dp_of r e)
  | lst _ => exact Dp.sub vis_le (dp_of r e)
  | ksq _ => exact Dp.sub vis_le (dp_of r e)
  | obj _ _ _ => exact Dp.sub vis_le (dp_of r e)
  | dic _ _ => exact Dp.sub vis_le (dp_of r e)
  | ref _ => exact Dp.sub vis_le (dp_of r e)
  | ty _ => exact Dp.sub vis_le (dp_of r e)
  | exc _ _ _ => exact Dp.sub vis_le (dp_of r e)
end
def aEq : R2D := fun a b S q => ∃ p p', toPyS S a = some p ∧ toPyS S b = some p' ∧ SeqAt.shaped p = true ∧ SeqAt.shaped p' = true ∧ q (.bl (PyData.eqv p p')) S
def aNe : R2D := fun a b S q => ∃ p p', toPyS S a = some p ∧ toPyS S b = some p' ∧ SeqAt.shaped p = true ∧ SeqAt.shaped p' = true ∧ q (.bl (!PyData.eqv p p')) S
section
variable {K : PySem.W.Frag}
theorem vr_eq : VR2 K (rEqD K) aEq := fun w r1 r2 ⟨p, p', h1, h2, h3, h4, h5⟩ k => ⟨p, p', dpS_of w r1 h1, dpS_of w r2 h2, h3, h4, k.now w rep_bl h5⟩
theorem vr_ne : VR2 K (rNeD K) aNe := fun w r1 r2 ⟨p, p', h1, h2, h3, h4, h5⟩ k => ⟨p, p', dpS_of w r1 h1, dpS_of w r2 h2, h3, h4, k.now w rep_bl h5⟩
def aInS : R2D := fun a b S q => ∃ (c : Nat) (z : Str), a = .str ⟨#[c]⟩ ∧ b = .str z ∧ q (.bl (decide (c ∈ z.cps.toList))) S
theorem vrn_of1 {r : List V → Hp → VK → Prop} {g : RND} (P : D → Sto → (D → Sto → Prop) → Prop) (hg : ∀ as S q, g as S q → ∃ d, as = [d] ∧ P d S q)
    (h : ∀ {U : Wi} {m : Nat → Addr} {S : Sto} {Z : Addr → Prop} {H : Hp} {d : D} {v : V} {q : D → Sto → Prop} {Q : VK}, Wd K U m S Z H → Rep K m S.length (vis m S Z H) d v → P d S q → Outs m S Z H K U (rD K) q Q → r [v] H Q) : VRN K r g := fun w rs hh k => by
  obtain ⟨d, e, hp⟩ := hg _ _ _ hh
  subst e
  obtain ⟨v, ev, rv⟩ := reps1 rs
  rw [ev]
  exact h w rv hp k
def a1 (P : D → Sto → (D → Sto → Prop) → Prop) : RND := fun as S q => ∃ d, as = [d] ∧ P d S q
def a2 (P : D → D → Sto → (D → Sto → Prop) → Prop) : RND := fun as S q => ∃ d e, as = [d, e] ∧ P d e S q
theorem vrn1 {r : List V → Hp → VK → Prop} {P : R1D} (h : ∀ {U : Wi} {m : Nat → Addr} {S : Sto} {Z : Addr → Prop} {H : Hp} {d : D} {v : V} {q : D → Sto → Prop} {Q : VK}, Wd K U m S Z H → Rep K m S.length (vis m S Z H) d v → P d S q → Outs m S Z H K U (rD K) q Q → r [v] H Q) : VRN K r (a1 P) :=
  vrn_of1 P (fun _ _ _ h => h) h
theorem vrn2 {r : List V → Hp → VK → Prop} {P : R2D} (h : ∀ {U : Wi} {m : Nat → Addr} {S : Sto} {Z : Addr → Prop} {H : Hp} {d e : D} {v u : V} {q : D → Sto → Prop} {Q : VK}, Wd K U m S Z H → Rep K m S.length (vis m S Z H) d v → Rep K m S.length (vis m S Z H) e u → P d e S q → Outs m S Z H K U (rD K) q Q → r [v, u] H Q) : VRN K r (a2 P) := fun w rs ⟨d, e, ed, hh⟩ k => by
  subst ed
  obtain ⟨v, u, ev, rv, ru⟩ := reps2 rs
  rw [ev]
  exact h w rv ru hh k
def aLen : R1D := fun d S q => match d with
  | .str x => x.length ≤ sizeLine ∧ q (.int x.length) S
  | d => ∃ ds, seqOf S d = some ds ∧ q (.int ds.length) S
abbrev rLenA (K : PySem.W.Frag) : List V → Hp → VK → Prop := fun xs H Q => (∃ p ys, xs = [.ref p] ∧ (SqL K H p ys ∨ SqT K H p ys) ∧ Q (.int ys.length) H) ∨ (∃ z, xs = [.str z] ∧ z.length ≤ sizeLine ∧ Q (.int z.length) H)
theorem or_len {X : Cx} : CallR X (.builtin "len") (rLenA X.K) := call_len_seq.or call_len_str
theorem seq_any {m : Nat → Addr} {S : Sto} {Z : Addr → Prop} {H : Hp} {d : D} {v : V} {ds : List D} (w : Wd K U m S Z H) (r : Rep K m S.length (vis m S Z H) d v) (h : seqOf S d = some ds) :
    ∃ a vs, v = .ref a ∧ Reps K m S.length (vis m S Z H) ds vs ∧ (SqL K H a vs ∨ SqT K H a vs) := by
  obtain ⟨a, vs, e, hr, ht, hl⟩ := seqOf_rep w r h
  refine ⟨a, vs, e, hr, ?_⟩
  cases hd : d.isTup with
  | true => exact .inr (ht hd)
  | false => exact .inl (hl hd)
theorem vr_len : VRN K (rLenA K) (a1 aLen) := vrn1 fun {_ m S Z H d v q Q} w r h k => by
  have go : (∃ ds, seqOf S d = some ds ∧ q (.int ds.length) S) → rLenA K [v] H Q := fun ⟨ds, h1, h2⟩ => by
    obtain ⟨a, vs, e, hr, hs⟩ := seq_any w r h1
    exact .inl ⟨a, vs, by rw [e], hs, k.now w (by rw [Reps.len hr]; exact rep_int) h2⟩
  cases d <;> first
    | (rw [Rep] at r; exact .inr ⟨_, by rw [r], h.1, k.now w rep_int h.2⟩)
    | exact go h
/-- str(int), int(text), int(bool), abs -/
def aStr : R1D := fun d S q => ∃ i, d = .int i ∧ i.natAbs.log2 < 1920 ∧ q (.str (showI i)) S
def aInt : R1D := fun d S q => match d with
  | .str x => ∃ n, PySem.intText? x = some n ∧ x.length ≤ 640 ∧ q (.int n) S
  | .int i => q (.int i) S
  | .bl b => q (.int (if b then 1 else 0)) S
  | _ => False
/-- divmod -/
def aDivmod : R2D := fun a b S q => ∃ i j, a = .int i ∧ b = .int j ∧ CDiv i j ∧ q (.tup [.int (i / j), .int (i % j)]) S
/-- max, min of two ints; of a list of ints -/
def aMax2 : R2D := fun a b S q => ∃ i j, a = .int i ∧ b = .int j ∧ q (.int (max i j)) S
def aMin2 : R2D := fun a b S q => ∃ i j, a = .int i ∧ b = .int j ∧ q (.int (min i j)) S
theorem vr_max2 : VRN K rMx2 (a2 aMax2) := vrn2 fun w r1 r2 ⟨i, j, e1, e2, h2⟩ k => by
  subst e1 e2; rw [Rep] at r1 r2
  refine ⟨i, j, by rw [r1, r2], k.now w ?_ h2⟩
  have e : (if j > i then j else i) = max i j := by by_cases h : j > i <;> simp [h] <;> omega
  rw [e]; exact rep_int
/-- list(x), tuple(x) -/
def aList (fz : Bool) : R1D := fun d S q => ∃ ds, seqOf S d = some ds ∧ newL fz ds S q
theorem vr_list {fz : Bool} : VRN K (rLstOf K) (a1 (aList fz)) := vrn1 fun w r ⟨ds, h1, h2⟩ k => by
  obtain ⟨a, vs, e, hr, hs⟩ := seq_any w r h1
  exact ⟨a, vs, by rw [e], hs, fun p hp => out_newL w hr h2 k hp⟩
/-- isinstance of a built-in class -/
def tyN (S : Sto) : D → Option String
  | .non => some "NoneType"
  | .bl _ => some "bool"
  | .int _ => some "int"
  | .str _ => some "str"
  | .tup _ => some "tuple"
  | .lst _ => some "list"
  | .loc n => match S[n]? with
    | some (some (.lst _)) => some "list"
    | some (some (.dic _ _)) => some "dict"
    | some (some (.dicT _ _)) => some "dict"
    | _ => none
  | .dic _ _ => some "dict"
  | _ => none
def isiB (a b : String) : Bool := a == b || (a == "bool" && b == "int")
def basicT : List String := ["bool", "int", "str", "tuple", "list", "dict"]
def aIsi : R2D := fun d c S q => ∃ a b, tyN S d = some a ∧ c = .ty b ∧ basicT.contains b = true ∧ q (.bl (isiB a b)) S
theorem kit_basic : ∀ a ∈ "NoneType" :: basicT, ∀ b ∈ basicT, L2.kitB a b = some (isiB a b) := by decide +kernel
theorem tyX_of {m : Nat → Addr} {S : Sto} {Z : Addr → Prop} {H : Hp} {d : D} {v : V} {a : String} (w : Wd K U m S Z H) (r : Rep K m S.length (vis m S Z H) d v) (h : tyN S d = some a) : TyX K H v (.type a) ∧ a ∈ "NoneType" :: basicT := by
  cases d with
  | non => cases h; rw [Rep] at r; rw [r]; exact ⟨.base .non, by decide⟩
  | bl _ => cases h; rw [Rep] at r; rw [r]; exact ⟨.base (.bl _), by decide⟩
  | int _ => cases h; rw [Rep] at r; rw [r]; exact ⟨.base (.int _), by decide⟩
  | str _ => cases h; rw [Rep] at r; rw [r]; exact ⟨.base (.str _), by decide⟩
  | tup _ =>
    cases h
    rw [Rep] at r
    obtain ⟨p, vs, e, h1, _⟩ := r
    rw [e]
    refine ⟨?_, by decide⟩
    rcases h1 with (h1 | ⟨o, h1⟩) | ⟨o, its, n, h1, h2, _⟩
    · exact .base (.tup (vis_sub h1))
    · exact .fTuple (vis_sub h1)
    · exact .kTuple h1 h2
  | lst _ =>
    cases h
    rw [Rep] at r
    obtain ⟨p, vs, e, h1, _⟩ := r
    rw [e]
    exact ⟨.base (.lst (vis_sub h1)), by decide⟩
  | dic _ _ =>
    cases h
    rw [Rep] at r
    obtain ⟨p, vs, e, h1, _⟩ := r
    rw [e]
    exact ⟨.base (.dK (vis_sub h1)), by decide⟩
  | loc n =>
    rw [Rep] at r
    rw [tyN] at h
    rw [r.1]
    cases hS : S[n]? with
    | none => rw [hS] at h; cases h
    | some o =>
      cases o with
      | none => rw [hS] at h; cases h
      | some o =>
        rw [hS] at h
        cases o with
        | lst ds => cases h; obtain ⟨vs, h1, _⟩ := w.rep n _ hS; exact ⟨.base (.lst h1), by decide⟩
        | obj _ _ _ => cases h
        | dic _ _ => cases h; obtain ⟨vs, h1, _⟩ := w.rep n _ hS; exact ⟨.base (.dK h1), by decide⟩
        | dicT _ _ => cases h; obtain ⟨vs, h1, _⟩ := w.rep n _ hS; exact ⟨.base (.dT h1), by decide⟩
        | lck _ _ _ _ => cases h
        | lckT _ _ _ _ => cases h
  | ksq _ => cases h
  | obj _ _ _ => cases h
  | ref _ => cases h
  | ty _ => cases h
  | exc _ _ _ => cases h
theorem vr_isi : VRN K (rIsi K) (a2 aIsi) := vrn2 fun {_ m S Z H d e v u q Q} w r1 r2 ⟨a, b, h1, e2, h3, h4⟩ k => by
  subst e2
  rw [Rep] at r2
  subst r2
  obtain ⟨h5, h6⟩ := tyX_of w r1 h1
  exact ⟨v, .ty b, .type a, .type b, isiB a b, rfl, .ty b, h5, kit_ty (kit_basic a h6 b (List.contains_iff_mem.mp h3)), k.now w rep_bl h4⟩
def aIx : R2D := fun a b S q => ∃ i, b = .int i ∧ match a with
  | .str z => z.length ≤ sizeLine ∧ ∃ c, atI z.cps.toList i = some c ∧ q (.str ⟨#[c]⟩) S
  | a => ∃ ds d, seqOf S a = some ds ∧ atI ds i = some d ∧ q d S
theorem atI_reps {m : Nat → Addr} {N : Nat} {Hv : Hp} {ds : List D} {vs : List V} {i : Int} {d : D} (r : Reps K m N Hv ds vs) (h : atI ds i = some d) : ∃ v, atI vs i = some v ∧ Rep K m N Hv d v := by
  unfold atI at h ⊢
  rw [Reps.len r]
  cases hx : ixN ds.length i with
  | none => rw [hx] at h; cases h
  | some j =>
    rw [hx] at h
    exact Reps.get r h
theorem vr_ix : VR2 K (rIx K) aIx := fun {_ m S Z H a b v u q Q} w r1 r2 ⟨i, e2, h⟩ k => by
  subst e2
  rw [Rep] at r2
  have go : (∃ ds d, seqOf S a = some ds ∧ atI ds i = some d ∧ q d S) → rIx K v u H Q := fun ⟨ds, d, h1, h2, h3⟩ => by
    obtain ⟨p, vs, e, hr, hs⟩ := seq_any w r1 h1
    obtain ⟨x, hx, rx⟩ := atI_reps hr h2
    rcases hs with hs | hs
    · exact .inl ⟨p, vs, i, x, e, r2, hs, hx, k.now w rx h3⟩
    · exact .inr (.inl ⟨p, vs, i, x, e, r2, hs, hx, k.now w rx h3⟩)
  cases a <;> first
    | (rw [Rep] at r1; obtain ⟨h1, c, h2, h3⟩ := h; exact .inr (.inr ⟨_, i, c, r1, r2, h1, h2, k.now w rep_str h3⟩))
    | exact go h
def cutD (ds : List D) (lo hi : Option Int) : List D := (ds.drop (HT.sIx ds.length 0 lo)).take (HT.sIx ds.length ds.length hi - HT.sIx ds.length 0 lo)
def aSl (fz : Bool) (a : D) (lo hi : Option Int) (S : Sto) (q : D → Sto → Prop) : Prop := match a with
  | .str z => z.length ≤ sizeLine ∧ q (.str (cutS z lo hi)) S
  | .tup ds => q (.tup (cutD ds lo hi)) S
  | a => ∃ ds, seqOf S a = some ds ∧ newL fz (cutD ds lo hi) S q
abbrev rSlAll (K : PySem.W.Frag) : V → Option Int → Option Int → Hp → VK → Prop := fun x lo hi H Q => rSlL K x lo hi H Q ∨ rSlS x lo hi H Q ∨ rSlA K x lo hi H Q
theorem or_sl {X : Cx} : SlR X (rSlAll X.K) := sl_list.or (sl_str.or sl_tupA)
theorem reps_cut {m : Nat → Addr} {N : Nat} {Hv : Hp} {ds : List D} {vs : List V} {lo hi : Option Int} (r : Reps K m N Hv ds vs) : Reps K m N Hv (cutD ds lo hi) (cutV vs lo hi) := by
  unfold cutD cutV
  rw [← Reps.len r]
  exact (r.drop _).take _
theorem vr_sl {fz : Bool} {m : Nat → Addr} {S : Sto} {Z : Addr → Prop} {H : Hp} {a : D} {v : V} {lo hi : Option Int} {q : D → Sto → Prop} {Q : VK} (w : Wd K U m S Z H) (r1 : Rep K m S.length (vis m S Z H) a v) (h : aSl fz a lo hi S q) (k : Outs m S Z H K U (rD K) q Q) : rSlAll K v lo hi H Q := by
  have go : a.isTup = false → (∃ ds, seqOf S a = some ds ∧ newL fz (cutD ds lo hi) S q) → rSlAll K v lo hi H Q := fun ht ⟨ds, h1, h2⟩ => by
    obtain ⟨p, vs, e, hr, _, hl⟩ := seqOf_rep w r1 h1
    exact .inl ⟨p, vs, e, hl ht, fun p hp => out_newL w (reps_cut hr) h2 k hp⟩
  cases a with
  | str z => rw [Rep] at r1; exact .inr (.inl ⟨z, r1, h.1, k.now w rep_str h.2⟩)
  | tup ds =>
    obtain ⟨p, vs, e, hr, ht, _⟩ := seqOf_rep (ds := ds) w r1 rfl
    refine .inr (.inr ⟨p, vs, e, ht rfl, fun hw => ?_, fun _ p hp => out_newT w (reps_cut hr) h k hp⟩)
    have e2 : cutD ds lo hi = ds := by
      unfold cutD
      rw [← Reps.len hr, hw.1, hw.2, List.drop_zero, Nat.sub_zero, Reps.len hr, List.take_length]
    have h' : q (.tup (cutD ds lo hi)) S := h
    rw [e2] at h'
    rw [← e]
    exact k.now w r1 h'
  | lst _ => exact go rfl h
  | ksq _ => exact go rfl h
  | loc _ => exact go rfl h
  | non => exact go rfl h
  | bl _ => exact go rfl h
  | int _ => exact go rfl h
  | obj _ _ _ => exact go rfl h
  | dic _ _ => exact go rfl h
  | ref _ => exact go rfl h
  | ty _ => exact go rfl h
  | exc _ _ _ => exact go rfl h
end
abbrev GO := G (Option Int)
def gNoP : GO := fun _ S q => q none S
def gPart (ge : G D) : GO := fun ρ S q => ge ρ S fun d S1 => ∃ i, d = .int i ∧ q (some i) S1
def gIx (ga gb : G D) : G D := gB2 aIx ga gb
def gSl (fz : Bool) (ga : G D) (gl gh : GO) : G D := fun ρ S q => ga ρ S fun a S1 => gl ρ S1 fun lo S2 => gh ρ S2 fun hi S3 => aSl fz a lo hi S3 q
section
variable {X : Cx} {pos p2 : Pos} {a b e : Expr} {ga gb ge : G D} {gl gh : GO} {lo hi : Option Expr}
theorem d_ix (ha : PE X a (tofE X.K U ga)) (hb : PE X b (tofE X.K U gb)) (hs : PlainIx b := by intro _ _; rfl) : PE X (.Subscript a b pos) (tofE X.K U (gIx ga gb)) :=
  weakE (pe_ix ix_seq ha hb hs) fun _ _ _ h => two_in vr_ix h
theorem do_none : PO X none (tofO X.K U gNoP) := weakO po_none fun σ H Q ⟨m, S, Z, ρ, q, w, rs, h, k⟩ => k.now w rfl h
theorem do_some (h : PE X e (tofE X.K U ge)) : PO X (some e) (tofO X.K U (gPart ge)) := weakO (po_some h) fun σ H Q ⟨m, S, Z, ρ, q, w, rs, h, k⟩ => tof_in w rs h fun v1 H1 m1 d1 S1 e1 w1 r1 ⟨i, ed, h1⟩ => by
  subst ed
  have r1' : Rep X.K m1 S1.length (vis m1 S1 Z H1) (.int i) v1 := r1
  rw [Rep] at r1'
  exact ⟨i, r1', k.at e1 w1 rfl h1⟩
theorem d_sl (fz : Bool) (ha : PE X a (tofE X.K U ga)) (hl : PO X lo (tofO X.K U gl)) (hh : PO X hi (tofO X.K U gh)) : PE X (.Subscript a (.Slice lo hi none p2) pos) (tofE X.K U (gSl fz ga gl gh)) :=
  weakE (pe_slice or_sl ha hl hh) fun σ H Q ⟨m, S, Z, ρ, q, w, rs, h, k⟩ => tof_in w rs h fun v1 H1 m1 d1 S1 e1 w1 r1 h1 => tof_in w1 (rs.ext e1) h1 fun v2 H2 m2 d2 S2 e2 w2 r2 h2 => tof_in w2 (rs.ext (e1.trans e2)) h2 fun v3 H3 m3 d3 S3 e3 w3 r3 h3 => by
    cases (show d2 = v2 from r2)
    cases (show d3 = v3 from r3)
    exact vr_sl w3 (r1.ext (e2.trans e3)) h3 (k.ext ((e1.trans e2).trans e3))
/-- a built-in class as a value -/
theorem d_gty {x : Str} {T : String} (hg : Gl X x) (hm : X.mg x = none) (hb : bootBuiltins x = some (.type T)) (hn : x ≠ "__name__" := by decide) (hd : (x == ("__debug__" : Str)) = false := by decide) : PE X (.Name x pos) (tofE X.K U (gC (.ty T))) :=
  ofC (pe_bltn (v := .ty T) hg hm hb rfl hn hd) fun _ _ _ _ => by simp [Rep]
end
def gFmt (ge : G D) : G D := fun ρ S q => ge ρ S fun d S1 => match d with
  | .str y => y.length ≤ sizeLine ∧ q (.str y) S1
  | .int i => i.natAbs.log2 < 1920 ∧ q (.str (showI i)) S1
  | _ => False
def gJs : List (G D) → Str → Env_ → Sto → (Str → Sto → Prop) → Prop
  | [], acc, _, S, q => q acc S
  | g :: gs, acc, ρ, S, q => g ρ S fun d S1 => ∃ y, d = .str y ∧ (acc ++ y).length ≤ sizeLine ∧ gJs gs (acc ++ y) ρ S1 q
def gJoined (gs : List (G D)) : G D := fun ρ S q => gJs gs Str.empty ρ S fun out S1 => q (.str out) S1
section
variable {K : PySem.W.Frag}
theorem tyV_of {m : Nat → Addr} {S : Sto} {Z : Addr → Prop} {H : Hp} {T : String} {d : D} {v : V} (w : Wd K U m S Z H) (r : Rep K m S.length (vis m S Z H) d v) (hT : T ≠ "tuple") (h : isTy T S d = true) : tyV K T v H := by
  cases d with
  | str _ => rw [Rep] at r; rw [r]; exact beq_iff_eq.mp h
  | int _ => rw [Rep] at r; rw [r]; exact beq_iff_eq.mp h
  | lst _ => rw [Rep] at r; obtain ⟨a, vs, e, h1, _⟩ := r; rw [e]; exact .inl ⟨beq_iff_eq.mp h, vs, SqL.of (vis_sub h1)⟩
  | ksq _ => rw [Rep] at r; obtain ⟨a, vs, e, h1, _⟩ := r; rw [e]; exact .inl ⟨beq_iff_eq.mp h, vs, SqL.sub vis_le h1⟩
  | dic _ _ => rw [Rep] at r; obtain ⟨a, vs, e, h1, _⟩ := r; rw [e]; exact .inr (.inr (.inl ⟨beq_iff_eq.mp h, .inl ⟨_, vis_sub h1⟩⟩))
  | tup _ => exact absurd (beq_iff_eq.mp h) hT
  | loc n =>
    rw [Rep] at r
    rw [isTy] at h
    rw [r.1]
    cases hS : S[n]? with
    | none => rw [hS] at h; cases h
    | some o =>
      cases o with
      | none => rw [hS] at h; cases h
      | some o =>
        rw [hS] at h
        cases o with
        | lst ds => obtain ⟨vs, h1, _⟩ := w.rep n _ hS; exact .inl ⟨beq_iff_eq.mp h, vs, SqL.of h1⟩
        | obj _ _ _ => cases h
        | dic _ _ => obtain ⟨vs, h1, _⟩ := w.rep n _ hS; exact .inr (.inr (.inl ⟨beq_iff_eq.mp h, .inl ⟨_, h1⟩⟩))
        | dicT _ _ => obtain ⟨vs, h1, _⟩ := w.rep n _ hS; exact .inr (.inr (.inl ⟨beq_iff_eq.mp h, .inr ⟨_, h1⟩⟩))
        | lck _ _ _ _ => cases h
        | lckT _ _ _ _ => cases h
  | non => cases h
  | bl _ => cases h
  | obj _ _ _ => cases h
  | ref _ => cases h
  | ty _ => cases h
  | exc _ _ _ => cases h
end
def gMt (T : String) (r : D → RND) (go : G D) (gs : G (List D)) : G D := fun ρ S q => go ρ S fun o S1 => isTy T S1 o = true ∧ gs ρ S1 fun ds S2 => r o ds S2 q
section
variable {X : Cx} {o e : Expr} {es : List Expr} {go : G D} {gs : G (List D)} {name : Str} {apos cpos : Pos} {T id : String} {r : V → List V → Hp → VK → Prop} {g : D → RND}
theorem d_bm (hT : T ≠ "tuple") (pa : PlainAttrs T) (slot : Slot T name id) (hty : typeOf (.builtin id) = pure (.type "method_descriptor")) (hm : MtR X id r) (hv : VRM X.K T r g) (ho : PE X o (tofE X.K U go)) (ha : PA X (e :: es) (tofA X.K U gs))
    (hbase : attributeBase o name X.env (eval o X.env) = eval o X.env := by rfl)
    (hfew : ((backTo cpos (starEach (e :: es) X.env)).all (fun x => !x.1) && (backToKw cpos (keywordEach [] X.env)).all (fun x => x.1.isSome)
      && decide ((e :: es).length + ([] : List Keyword).length + (if ([] : List Keyword).isEmpty then 0 else 1) < 30)) = true := by rfl)
    (hline : (apos.endLine == cpos.line) = true := by rfl) (hs : starEach (e :: es) X.env = (false, eval e X.env) :: starEach es X.env := by rfl) (hplain : (backTo cpos (starEach es X.env)).any (·.1) = false := by rfl) :
    PE X (.Call (.Attribute o name apos) (e :: es) [] cpos) (tofE X.K U (gMt T g go gs)) :=
  weakE (pe_bm pa slot hty hm ho ha hbase hfew hline hs hplain) fun σ H Q ⟨m, S, Z, ρ, q, w, rs, h, k⟩ => tof_in w rs h fun v1 H1 m1 d1 S1 e1 w1 r1 h1 => ⟨tyV_of w1 r1 hT h1.1, tof_in w1 (rs.ext e1) h1.2 fun v2 H2 m2 d2 S2 e2 w2 r2 h2 => hv w2 (r1.ext e2) r2 h2 (k.ext (e1.trans e2))⟩
theorem d_bm0 (hT : T ≠ "tuple") (pa : PlainAttrs T) (slot : Slot T name id) (hty : typeOf (.builtin id) = pure (.type "method_descriptor")) (hm : MtR X id r) (hv : VRM X.K T r g) (ho : PE X o (tofE X.K U go))
    (hbase : attributeBase o name X.env (eval o X.env) = eval o X.env := by rfl) (hline : (apos.endLine == cpos.line) = true := by rfl) : PE X (.Call (.Attribute o name apos) [] [] cpos) (tofE X.K U (gMt T g go gNil)) :=
  weakE (pe_bm0 pa slot hty hm ho hbase hline) fun σ H Q ⟨m, S, Z, ρ, q, w, rs, h, k⟩ => tof_in w rs h fun v1 H1 m1 d1 S1 e1 w1 r1 h1 => ⟨tyV_of w1 r1 hT h1.1, hv w1 r1 reps_nil h1.2 (k.ext e1)⟩
end
section
variable {K : PySem.W.Frag}
/-- xs.append(y) -/
def aAppend : D → RND := fun o as S q => ∃ n ds y, o = .loc n ∧ as = [y] ∧ S[n]? = some (some (.lst ds)) ∧ ds.length < sizeLine ∧ q .non (S.set n (some (.lst (ds ++ [y]))))
theorem vm_append : VRM K "list" rAppend aAppend := fun {_ m S Z H o u a v q Q} w r rs ⟨n, ds, y, e1, e2, hS, hl, h⟩ k => by
  subst e1 e2
  rw [Rep] at r
  obtain ⟨x, ex, rx⟩ := reps1 rs
  obtain ⟨vs, h1, h2⟩ := w.rep n _ hS
  obtain ⟨w3, e3, hv3⟩ := w.upd (o := .lst (vs ++ [x])) (mo := .lst (ds ++ [y])) ⟨_, hS⟩ ⟨_, upd_same, h2.append (Reps.one rx)⟩
  exact ⟨m n, vs, x, r.1, ex, h1, by rw [Reps.len h2]; exact hl, k.at e3 w3 rep_non h⟩
/-- text methods with a text or an int -/
def aS1 (C : Str → Str → Prop) (f : Str → Str → D) : D → RND := fun o as S q => ∃ x y, o = .str x ∧ as = [.str y] ∧ C x y ∧ q (f x y) S
def aS0 (C : Str → Prop) (f : Str → D) : D → RND := fun o as S q => ∃ x, o = .str x ∧ as = [] ∧ C x ∧ q (f x) S
def aSI (C : Str → Int → Prop) (f : Str → Int → D) : D → RND := fun o as S q => ∃ x y, o = .str x ∧ as = [.int y] ∧ C x y ∧ q (f x y) S
/-- sep.join(texts) -/
def aJoin : D → RND := fun o as S q => ∃ x d ys, o = .str x ∧ as = [d] ∧ seqOf S d = some (ys.map D.str) ∧ (ys.map (·.length)).sum + ys.length * x.length ≤ 16777216 ∧ q (.str (Txt.join x ys)) S
theorem vm_join : VRM K "str" (fun x xs H Q => ∃ a p, ∃ ys : List Str, x = .str a ∧ xs = [.ref p] ∧ (SqL K H p (ys.map V.str) ∨ SqT K H p (ys.map V.str)) ∧ (ys.map (·.length)).sum + ys.length * a.length ≤ 16777216 ∧ Q (.str (Txt.join a ys)) H) aJoin := fun w r rs ⟨x, d, ys, e1, e2, h1, h2, h3⟩ k => by
  subst e1 e2
  rw [Rep] at r
  obtain ⟨z, ez, rz⟩ := reps1 rs
  obtain ⟨a, vs, ea, hr, hs⟩ := seq_any w rz h1
  rw [Reps.strs hr] at hs
  exact ⟨x, a, ys, r, by rw [ez, ea], hs, h2, k.now w rep_str h3⟩
end
/-- xs[i] = v -/
def gSetIx (go gi gv : G D) : GS := fun E ρ S => gv ρ S fun v S1 => go ρ S1 fun o S2 => gi ρ S2 fun i S3 => ∃ n ds k j, o = .loc n ∧ i = .int k ∧ S3[n]? = some (some (.lst ds)) ∧ ixN ds.length k = some j ∧ E.nx ρ (S3.set n (some (.lst (ds.set j v))))
section
variable {X : Cx} {pos pos' : Pos} {o i value : Expr} {go gi gv : G D}
theorem d_setix (ho : PE X o (tofE X.K U go)) (hi : PE X i (tofE X.K U gi)) (hv : PE X value (tofE X.K U gv))
    (ha : ∀ v, assign (.Subscript o i pos') X.env v = (do
      let ov ← holding [v] (eval o X.env)
      let iv ← holding [v, ov] (eval i X.env)
      standAt pos'
      holding [v, ov, iv] (setItem ov iv v)
      release [v, ov, iv] []) := by intro _; rfl)
    (hs : swapsWithSole [.Subscript o i pos'] value pos.line X.env = pure false := by rfl) (hw : swappedStores [.Subscript o i pos'] value X.env = pure none := by rfl)
    (h1 : (assignEach [.Subscript o i pos'] X.env).map (·.2) = [assign (.Subscript o i pos') X.env] := by rfl) : PS X (.Assign [.Subscript o i pos'] value pos) (tofS X.K U (gSetIx go gi gv)) :=
  weakS (ps_asg hv (pg_sub ho hi set_list ha) hs hw h1) fun E σ H ⟨m, S, Z, ρ, D, w, rs, h, k⟩ => tof_in w rs h fun v1 H1 m1 d1 S1 e1 w1 r1 h1 => tof_in w1 (rs.ext e1) h1 fun v2 H2 m2 d2 S2 e2 w2 r2 h2 => tof_in w2 (rs.ext (e1.trans e2)) h2 fun v3 H3 m3 d3 S3 e3 w3 r3 ⟨n, ds, kk, j, eo, ei, hS, hj, h3⟩ => by
    subst eo ei
    have r2' := r2.ext e3
    rw [Rep] at r2'
    rw [rD, Rep] at r3
    obtain ⟨vs, hh, hr⟩ := w3.rep n _ hS
    obtain ⟨w4, e4, hv4⟩ := w3.upd (o := .lst (vs.set j v1)) (mo := .lst (ds.set j d1)) ⟨_, hS⟩ ⟨_, upd_same, hr.set j (r1.ext (e2.trans e3))⟩
    refine ⟨m3 n, vs, kk, j, r2'.1, r3, hh, by rw [Reps.len hr]; exact hj, k.nx.at (((e1.trans e2).trans e3).trans e4) w4 (rs.ext (((e1.trans e2).trans e3).trans e4)) h3⟩
end
end Dl
namespace Dl
open PySem L2
structure FnB (K : PySem.W.Frag) (mg : Str → Option Value) (x : Str) (st : Stmt) (dvs : List V) : Prop where
  ex : ∃ f fd, FunS K x x st dvs f fd ∧ mg x = some (.ref f)
structure MtB (K : PySem.W.Frag) (C : Addr) (m qual : Str) (st : Stmt) (dvs : List V) : Prop where
  ex : ∃ f fd, FunS K m qual st dvs f fd ∧ Meth K C m f
structure MkB (K : PySem.W.Frag) (C : Addr) (qual : Str) (st : Stmt) (dvs : List V) : Prop where
  ex : ∃ f fd, FunS K "__init__" qual st dvs f fd ∧ Mk K C f
section
variable {P : Program} {w : World} {K : PySem.W.Frag} {mg : Str → Option Value} {base : Heap} {x m qual : Str} {st : Stmt} {dvs : List V} {N ps : List Str} {k : Nat} {dsp : DSp} {C : Addr}
theorem fn_body0 {f : Addr} {fd : FuncData} (F : FunS K x qual st dvs f fd) (S : FnScope N ps (defScope st)) (len : ∀ ds S q, dsp ds S q → ds.length = ps.length) (g : GS)
    (hbody : ∀ (cdv : Value) (A : Around) (outer : List Env) (s : Shared) (H : Hp) (E : XK), RoomG k (A.deeper (PyProof.Rows.envOfC qual (defScope st) s.heap.objs.size f cdv)) →
      PSs (cxOf CX0 P w K mg base N qual (defScope st) f cdv A outer s H E).nox (defBody st) (tofS K U0 g))
    (hread : ∀ ds S q, D.unders S.length ds = true → Sto.under S.length S = true → dsp ds S q → g { nx := fun _ S' => q .non S', rt := q } (startD N ds) S) : FnG P w K mg base CX0 (k + 1) f fd ps (spOf K dsp) := by
  refine FnG.by_body F S (spOf_len len) fun cdv A outer s H vs Q E hr ⟨m, St', Z, ds, q, wd, rd, hd, kk⟩ => ?_
  refine ⟨_, (hbody cdv A outer s H E hr).nox, m, St', Z, startD N ds, _, wd, relS_start rd, hread ds St' q (Reps.below rd) wd.under hd, ⟨?_, kk, ?_, ?_⟩⟩
  · exact fun σ' H' m' ρ' S' e' w' _ h' => kk .non H' m' .non S' e' w' rep_non h'
  · exact fun _ _ _ _ _ _ _ _ h => h.elim
  · exact fun _ _ _ _ _ _ _ _ h => h.elim
theorem fnc_of (B : FnB K mg x st dvs) (S : FnScope N ps (defScope st)) (len : ∀ ds S q, dsp ds S q → ds.length = ps.length) (g : GS)
    (hbody : ∀ (f : Addr) (cdv : Value) (A : Around) (outer : List Env) (s : Shared) (H : Hp) (E : XK), RoomG k (A.deeper (PyProof.Rows.envOfC x (defScope st) s.heap.objs.size f cdv)) →
      PSs (cxOf CX0 P w K mg base N x (defScope st) f cdv A outer s H E).nox (defBody st) (tofS K U0 g))
    (hread : ∀ ds S q, D.unders S.length ds = true → Sto.under S.length S = true → dsp ds S q → g { nx := fun _ S' => fin S.length q .non S', rt := fin S.length q } (startD N ds) S) : Fnc P w K mg base x st dvs (k + 1) ps dsp := by
  obtain ⟨f, fd, F, hm⟩ := B.ex
  exact ⟨f, fd, F, hm, fn_body F S len g (hbody f) hread⟩
theorem fnc_of0 (B : FnB K mg x st dvs) (S : FnScope N ps (defScope st)) (len : ∀ ds S q, dsp ds S q → ds.length = ps.length) (g : GS)
    (hbody : ∀ (f : Addr) (cdv : Value) (A : Around) (outer : List Env) (s : Shared) (H : Hp) (E : XK), RoomG k (A.deeper (PyProof.Rows.envOfC x (defScope st) s.heap.objs.size f cdv)) →
      PSs (cxOf CX0 P w K mg base N x (defScope st) f cdv A outer s H E).nox (defBody st) (tofS K U0 g))
    (hread : ∀ ds S q, D.unders S.length ds = true → Sto.under S.length S = true → dsp ds S q → g { nx := fun _ S' => q .non S', rt := q } (startD N ds) S) : Fnc P w K mg base x st dvs (k + 1) ps dsp := by
  obtain ⟨f, fd, F, hm⟩ := B.ex
  exact ⟨f, fd, F, hm, fn_body0 F S len g (hbody f) hread⟩
theorem mfn_of (c : Cls K C) (B : MtB K C m qual st dvs) (S : FnScope N ps (defScope st)) (len : ∀ ds S q, dsp ds S q → ds.length = ps.length) (g : GS)
    (hbody : ∀ (f : Addr) (cdv : Value) (A : Around) (outer : List Env) (s : Shared) (H : Hp) (E : XK), RoomG k (A.deeper (PyProof.Rows.envOfC qual (defScope st) s.heap.objs.size f cdv)) →
      PSs (cxOf CX0 P w K mg base N qual (defScope st) f cdv A outer s H E).nox (defBody st) (tofS K U0 g))
    (hread : ∀ ds S q, D.unders S.length ds = true → Sto.under S.length S = true → dsp ds S q → g { nx := fun _ S' => fin S.length q .non S', rt := fin S.length q } (startD N ds) S) : MFn P w K mg base C m qual st dvs (k + 1) ps dsp := by
  obtain ⟨f, fd, F, hm⟩ := B.ex
  exact ⟨c, f, fd, F, hm, fn_body F S len g (hbody f) hread⟩
theorem mfn_of0 (c : Cls K C) (B : MtB K C m qual st dvs) (S : FnScope N ps (defScope st)) (len : ∀ ds S q, dsp ds S q → ds.length = ps.length) (g : GS)
    (hbody : ∀ (f : Addr) (cdv : Value) (A : Around) (outer : List Env) (s : Shared) (H : Hp) (E : XK), RoomG k (A.deeper (PyProof.Rows.envOfC qual (defScope st) s.heap.objs.size f cdv)) →
      PSs (cxOf CX0 P w K mg base N qual (defScope st) f cdv A outer s H E).nox (defBody st) (tofS K U0 g))
    (hread : ∀ ds S q, D.unders S.length ds = true → Sto.under S.length S = true → dsp ds S q → g { nx := fun _ S' => q .non S', rt := q } (startD N ds) S) : MFn P w K mg base C m qual st dvs (k + 1) ps dsp := by
  obtain ⟨f, fd, F, hm⟩ := B.ex
  exact ⟨c, f, fd, F, hm, fn_body0 F S len g (hbody f) hread⟩
theorem cfn_of0 (mC : mg x = some (.ref C)) (B : MkB K C qual st dvs) (S : FnScope N ps (defScope st)) (len : ∀ ds S q, dsp ds S q → ds.length = ps.length) (g : GS)
    (hbody : ∀ (f : Addr) (cdv : Value) (A : Around) (outer : List Env) (s : Shared) (H : Hp) (E : XK), RoomG k (A.deeper (PyProof.Rows.envOfC qual (defScope st) s.heap.objs.size f cdv)) →
      PSs (cxOf CX0 P w K mg base N qual (defScope st) f cdv A outer s H E).nox (defBody st) (tofS K U0 g))
    (hread : ∀ ds S q, D.unders S.length ds = true → Sto.under S.length S = true → dsp ds S q → g { nx := fun _ S' => q .non S', rt := q } (startD N ds) S) : CFn P w K mg base x C qual st dvs (k + 1) ps dsp := by
  obtain ⟨f, fd, F, hm⟩ := B.ex
  exact ⟨mC, f, fd, F, hm, fn_body0 F S len g (hbody f) hread⟩
/-- a weaker promise -/
theorem Fnc.imp {dsp' : DSp} (F : Fnc P w K mg base x st dvs k ps dsp) (h : ∀ ds S q, dsp' ds S q → dsp ds S q) : Fnc P w K mg base x st dvs k ps dsp' := by
  obtain ⟨f, fd, F1, hm, FO⟩ := F.ex
  exact ⟨f, fd, F1, hm, FO.imp fun vs H Q E ⟨m, S, Z, ds, q, w, r, hh, kk⟩ => ⟨m, S, Z, ds, q, w, r, h _ _ _ hh, kk⟩⟩
end
def gPar (i j : Nat) (ga : G (List D)) : GS := fun E ρ S => ga ρ S fun as S1 => ∃ v u, as = [v, u] ∧ E.nx ((ρ.set i (some v)).set j (some u)) S1
def gPar3 (i j l : Nat) (ga : G (List D)) : GS := fun E ρ S => ga ρ S fun as S1 => ∃ v u z, as = [v, u, z] ∧ E.nx (((ρ.set i (some v)).set j (some u)).set l (some z)) S1
section
variable {X : Cx} {pos : Pos} {ga : G (List D)}
theorem d_par {i j : Nat} {x y : Str} {a b : Expr} {px py pt : Pos} {kt k2 pt2} (hN : X.N.Nodup) (ha : PA X [a, b] (tofA X.K U ga)) (hc : X.calm = true := by rfl) (hi : X.N[i]? = some x := by rfl) (hj : X.N[j]? = some y := by rfl) (hij : i ≠ j := by decide)
    (hx : X.env.scope.names.lookup x = some .local := by rfl) (hy : X.env.scope.names.lookup y = some .local := by rfl)
    (hw : swappedStores [.Tuple [.Name x px, .Name y py] kt pt] (.Tuple [a, b] k2 pt2) X.env = pure (some [x, y]) := by rfl)
    (hs : swapsWithSole [.Tuple [.Name x px, .Name y py] kt pt] (.Tuple [a, b] k2 pt2) pos.line X.env = pure false := by rfl) :
    PS X (.Assign [.Tuple [.Name x px, .Name y py] kt pt] (.Tuple [a, b] k2 pt2) pos) (tofS X.K U (gPar i j ga)) :=
  weakS (ps_par hc hN hi hj hij hx hy ha hw hs) fun E σ H ⟨m, S, Z, ρ, D, w, rs, h, k⟩ => tof_in w rs h fun v1 H1 m1 d1 S1 e1 w1 r1 ⟨v, u, ed, h1⟩ => by
    subst ed
    obtain ⟨v', u', ev, rv, ru⟩ := reps2 r1
    exact ⟨v', u', ev, k.nx.at e1 w1 (((rs.ext e1).set rv).set ru) h1⟩
end
section
variable {X : Cx}
def rpartS (x y : Str) : Str × Str × Str := match Builtin.Str.lastOccurrence x y 0 x.length with
  | some i => (Builtin.Str.strSub x 0 i, y, Builtin.Str.strSub x (i + y.length) x.length)
  | none => (Str.empty, Str.empty, x)
end
section
variable {K : PySem.W.Frag}
def aRpart : D → RND := fun o as S q => ∃ x y, o = .str x ∧ as = [.str y] ∧ (y.length == 0) = false ∧ x.length ≤ sizeLine ∧ q (.tup [.str (rpartS x y).1, .str (rpartS x y).2.1, .str (rpartS x y).2.2]) S
def aPart : D → RND := fun o as S q => ∃ x y, o = .str x ∧ as = [.str y] ∧ (y.length == 0) = false ∧ x.length ≤ sizeLine ∧ q (.tup [.str (Txt.partition x y).1, .str (Txt.partition x y).2.1, .str (Txt.partition x y).2.2]) S
def aIadd : R2D := fun a b S q => match a, b with
  | .int i, .int j => q (.int (i + j)) S
  | .str x, .str y => x.length + y.length ≤ sizeLine ∧ q (.str (x ++ y)) S
  | _, _ => False
def aReverse : D → RND := fun o as S q => ∃ n ds, o = .loc n ∧ as = [] ∧ S[n]? = some (some (.lst ds)) ∧ q .non (S.set n (some (.lst ds.reverse)))
theorem vm_reverse : VRM K "list" rReverse aReverse := fun {_ m S Z H o u a v q Q} w r rs ⟨n, ds, e1, e2, hS, h⟩ k => by
  subst e1 e2
  rw [Rep] at r
  rw [Reps] at rs
  obtain ⟨vs, h1, h2⟩ := w.rep n _ hS
  obtain ⟨w3, e3, hv3⟩ := w.upd (o := .lst vs.reverse) (mo := .lst ds.reverse) ⟨_, hS⟩ ⟨_, upd_same, h2.rev⟩
  exact ⟨m n, vs, r.1, rs, h1, k.at e3 w3 rep_non h⟩
def aExtend : D → RND := fun o as S q => ∃ n ds e es, o = .loc n ∧ as = [e] ∧ S[n]? = some (some (.lst ds)) ∧ listOf S e = some es ∧ ds.length + es.length ≤ sizeLine ∧ q .non (S.set n (some (.lst (ds ++ es))))
theorem vm_extend : VRM K "list" rExtend aExtend := fun {_ m S Z H o u a v q Q} w r rs ⟨n, ds, e, es, e1, e2, hS, he, hl, h⟩ k => by
  subst e1 e2
  rw [Rep] at r
  obtain ⟨z, ez, rz⟩ := reps1 rs
  obtain ⟨b, zs, eb, hb, rb⟩ := listOf_rep w rz he
  obtain ⟨vs, h1, h2⟩ := w.rep n _ hS
  obtain ⟨w3, e3, hv3⟩ := w.upd (o := .lst (vs ++ zs)) (mo := .lst (ds ++ es)) ⟨_, hS⟩ ⟨_, upd_same, h2.append rb⟩
  exact ⟨m n, b, vs, zs, r.1, by rw [ez, eb], h1, hb, by rw [Reps.len h2, Reps.len rb]; exact hl, k.at e3 w3 rep_non h⟩
structure IsC (K : PySem.W.Frag) (C : Addr) : Prop where
  cl : Cls K C
  ha : PySem.W.findIn K (.ref C) "__class__" = some (some (.builtin "object.__class__"))
  hn : PySem.W.specialIn K (.builtin "object.__class__") "__get__" = some (some (.builtin "getset_descriptor.__get__"))
  htk : PySem.W.takesIn K (.builtin "object.__class__") = some true
  hm : PySem.W.mroIn K C (.type "object") = some true
/-- which of two classes -/
structure KitC (K : PySem.W.Frag) (C C' : Addr) (b : Bool) : Prop where
  is : PySem.W.kitOne K (.ref C) (.ref C') = some b
structure KitB (K : PySem.W.Frag) (C' : Addr) : Prop where
  no : ∀ a ∈ "NoneType" :: basicT, PySem.W.kitOne K (.type a) (.ref C') = some false
def aIsiC (K : PySem.W.Frag) : R2D := fun d c S q => ∃ C', c = .ref C' ∧ ((∃ C ks ds b, objOf S d = some (C, ks, ds) ∧ IsC K C ∧ KitC K C C' b ∧ q (.bl b) S) ∨ (∃ a, tyN S d = some a ∧ KitB K C' ∧ q (.bl false) S))
end
def aOwn (C : Addr) (dsp : DSp) : R2D := fun a b S q => (∃ ks ds, objOf S a = some (C, ks, ds)) ∧ (∃ ks ds, objOf S b = some (C, ks, ds)) ∧ dsp [a, b] S fun d S' => (∃ k, d = .bl k) ∧ q d S'
end Dl
namespace Dl
open PySem L2
def aFmt : R1D := fun d S1 q => match d with
  | .str y => y.length ≤ sizeLine ∧ q (.str y) S1
  | .int i => i.natAbs.log2 < 1920 ∧ q (.str (showI i)) S1
  | _ => False
section
variable {S : Sto} {q : D → Sto → Prop} {fz : Bool} {i j : Int} {x y : Str} {C : Int → Int → Prop} {f : Int → Int → D} {ds : List D} {n : Nat} {d e : D} {bs : List Bool} {ns : List Int} {a b : Bool}
theorem x_i2 : aI2 C f (.int i) (.int j) S q ↔ C i j ∧ q (f i j) S := by
  unfold aI2
  constructor
  · rintro ⟨i', j', e1, e2, h⟩; cases e1; cases e2; exact h
  · exact fun h => ⟨i, j, rfl, rfl, h⟩
theorem x_addI : aAdd fz (.int i) (.int j) S q ↔ q (.int (i + j)) S := Iff.rfl
theorem x_addS : aAdd fz (.str x) (.str y) S q ↔ x.length + y.length ≤ sizeLine ∧ q (.str (x ++ y)) S := Iff.rfl
theorem x_mulI : aMul fz (.int i) (.int j) S q ↔ mulOk i j ∧ q (.int (i * j)) S := Iff.rfl
theorem x_iaddS : aIadd (.str x) (.str y) S q ↔ x.length + y.length ≤ sizeLine ∧ q (.str (x ++ y)) S := Iff.rfl
theorem x_iaddI : aIadd (.int i) (.int j) S q ↔ q (.int (i + j)) S := Iff.rfl
theorem x_neg : aNeg (.int i) S q ↔ q (.int (-i)) S := ⟨fun ⟨_, e, h⟩ => by cases e; exact h, fun h => ⟨_, rfl, h⟩⟩
theorem sh_int : SeqAt.shaped (.int i) = true := rfl
theorem sh_non : SeqAt.shaped .none = true := by decide
theorem sh_bool : SeqAt.shaped (.bool a) = true := by cases a <;> decide
theorem x_eq {p p' : PyData} (h1 : toPyS S d = some p) (h2 : toPyS S e = some p') : aEq d e S q ↔ SeqAt.shaped p = true ∧ SeqAt.shaped p' = true ∧ q (.bl (PyData.eqv p p')) S := by
  unfold aEq
  rw [h1, h2]
  constructor
  · rintro ⟨_, _, e1, e2, h⟩; cases e1; cases e2; exact h
  · exact fun h => ⟨_, _, rfl, rfl, h⟩
theorem x_ne {p p' : PyData} (h1 : toPyS S d = some p) (h2 : toPyS S e = some p') : aNe d e S q ↔ SeqAt.shaped p = true ∧ SeqAt.shaped p' = true ∧ q (.bl (!PyData.eqv p p')) S := by
  unfold aNe
  rw [h1, h2]
  constructor
  · rintro ⟨_, _, e1, e2, h⟩; cases e1; cases e2; exact h
  · exact fun h => ⟨_, _, rfl, rfl, h⟩
theorem x_eqI : aEq (.int i) (.int j) S q ↔ q (.bl (decide (i = j))) S := by
  rw [x_eq rfl rfl]
  simp only [sh_int, true_and, PyData.eqv]
  rw [show (i == j) = decide (i = j) from rfl]
theorem x_neI : aNe (.int i) (.int j) S q ↔ q (.bl (decide (i ≠ j))) S := by
  rw [x_ne rfl rfl]
  simp only [sh_int, true_and, PyData.eqv]
  rw [show (!(i == j)) = decide (i ≠ j) by rw [decide_not]; rfl]
theorem x_eqS : aEq (.str x) (.str y) S q ↔ PyData.strOk x = true ∧ PyData.strOk y = true ∧ q (.bl (decide (x = y))) S := by
  rw [x_eq rfl rfl]
  have h : ∀ z, SeqAt.shaped (.str z) = PyData.strOk z := fun z => by unfold SeqAt.shaped PyData.canLay0; exact Bool.and_true _
  rw [h, h, show PyData.eqv (.str x) (.str y) = decide (x = y) by unfold PyData.eqv; rfl]
theorem x_neS : aNe (.str x) (.str y) S q ↔ PyData.strOk x = true ∧ PyData.strOk y = true ∧ q (.bl (decide (x ≠ y))) S := by
  rw [x_ne rfl rfl]
  have h : ∀ z, SeqAt.shaped (.str z) = PyData.strOk z := fun z => by unfold SeqAt.shaped PyData.canLay0; exact Bool.and_true _
  rw [h, h, show (!PyData.eqv (.str x) (.str y)) = decide (x ≠ y) by unfold PyData.eqv; rw [decide_not]; rfl]
theorem x_eqB : aEq (.bl a) (.bl b) S q ↔ q (.bl (a == b)) S := by
  rw [x_eq rfl rfl]
  simp only [sh_bool, true_and, PyData.eqv]
theorem x_neB : aNe (.bl a) (.bl b) S q ↔ q (.bl (!(a == b))) S := by
  rw [x_ne rfl rfl]
  simp only [sh_bool, true_and, PyData.eqv]
theorem x_eqNI : aEq .non (.int j) S q ↔ q (.bl false) S := by
  rw [x_eq rfl rfl]; simp only [sh_non, sh_int, true_and, PyData.eqv]
theorem x_neNI : aNe .non (.int j) S q ↔ q (.bl true) S := by
  rw [x_ne rfl rfl]; simp only [sh_non, sh_int, true_and, PyData.eqv, Bool.not_false]
theorem x_lenS : aLen (.str x) S q ↔ x.length ≤ sizeLine ∧ q (.int x.length) S := Iff.rfl
theorem x_lenL (h : seqOf S d = some ds) : aLen d S q ↔ q (.int ds.length) S := by
  have go : (∃ es, seqOf S d = some es ∧ q (.int es.length) S) ↔ q (.int ds.length) S := by
    rw [h]
    exact ⟨fun ⟨_, e, k⟩ => by cases e; exact k, fun k => ⟨_, rfl, k⟩⟩
  cases d <;> first
    | exact go
    | (cases h; done)
theorem x_str : aStr (.int i) S q ↔ i.natAbs.log2 < 1920 ∧ q (.str (showI i)) S := ⟨fun ⟨_, e, h⟩ => by cases e; exact h, fun h => ⟨_, rfl, h⟩⟩
theorem x_intI : aInt (.int i) S q ↔ q (.int i) S := Iff.rfl
theorem x_intB : aInt (.bl a) S q ↔ q (.int (if a then 1 else 0)) S := Iff.rfl
theorem x_divmod : aDivmod (.int i) (.int j) S q ↔ CDiv i j ∧ q (.tup [.int (i / j), .int (i % j)]) S := ⟨fun ⟨_, _, e1, e2, h⟩ => by cases e1; cases e2; exact h, fun h => ⟨_, _, rfl, rfl, h⟩⟩
theorem x_max2 : aMax2 (.int i) (.int j) S q ↔ q (.int (max i j)) S := ⟨fun ⟨_, _, e1, e2, h⟩ => by cases e1; cases e2; exact h, fun h => ⟨_, _, rfl, rfl, h⟩⟩
theorem x_min2 : aMin2 (.int i) (.int j) S q ↔ q (.int (min i j)) S := ⟨fun ⟨_, _, e1, e2, h⟩ => by cases e1; cases e2; exact h, fun h => ⟨_, _, rfl, rfl, h⟩⟩
theorem x_list (h : seqOf S d = some ds) : aList fz d S q ↔ newL fz ds S q := ⟨fun ⟨_, e, k⟩ => by rw [h] at e; cases e; exact k, fun k => ⟨_, h, k⟩⟩
theorem x_isi {t u : String} (h : tyN S d = some t) (hb : basicT.contains u = true) : aIsi d (.ty u) S q ↔ q (.bl (isiB t u)) S := by
  constructor
  · rintro ⟨_, _, e1, e2, _, k⟩; rw [h] at e1; cases e1; cases e2; exact k
  · exact fun k => ⟨_, _, h, rfl, hb, k⟩
theorem x_ixS : aIx (.str x) (.int i) S q ↔ x.length ≤ sizeLine ∧ ∃ c, atI x.cps.toList i = some c ∧ q (.str ⟨#[c]⟩) S := by
  unfold aIx
  exact ⟨fun ⟨_, e, h⟩ => by cases e; exact h, fun h => ⟨_, rfl, h⟩⟩
theorem x_ix (h : seqOf S d = some ds) (h2 : atI ds i = some e) : aIx d (.int i) S q ↔ q e S := by
  have go : (∃ k, D.int i = D.int k ∧ ∃ xs z, seqOf S d = some xs ∧ atI xs k = some z ∧ q z S) ↔ q e S := by
    constructor
    · rintro ⟨_, e1, xs, z, e2, e3, k⟩; cases e1; rw [h] at e2; cases e2; rw [h2] at e3; cases e3; exact k
    · exact fun k => ⟨_, rfl, _, _, h, h2, k⟩
  unfold aIx
  cases d <;> first
    | exact go
    | (cases h; done)
theorem x_slS {lo hi : Option Int} : aSl fz (.str x) lo hi S q ↔ x.length ≤ sizeLine ∧ q (.str (cutS x lo hi)) S := Iff.rfl
theorem x_slT {lo hi : Option Int} : aSl fz (.tup ds) lo hi S q ↔ q (.tup (cutD ds lo hi)) S := Iff.rfl
theorem x_slL {lo hi : Option Int} (h0 : d.isTup = false) (h : seqOf S d = some ds) : aSl fz d lo hi S q ↔ newL fz (cutD ds lo hi) S q := by
  have go : (∃ es, seqOf S d = some es ∧ newL fz (cutD es lo hi) S q) ↔ newL fz (cutD ds lo hi) S q := by
    rw [h]
    exact ⟨fun ⟨_, e, k⟩ => by cases e; exact k, fun k => ⟨_, rfl, k⟩⟩
  unfold aSl
  cases d <;> first
    | exact go
    | (cases h0; done)
    | (cases h; done)
theorem x_inS {c : Nat} : aInS (.str ⟨#[c]⟩) (.str y) S q ↔ q (.bl (decide (c ∈ y.cps.toList))) S := by
  unfold aInS
  constructor
  · rintro ⟨_, _, e1, e2, k⟩; cases e1; cases e2; exact k
  · exact fun k => ⟨_, _, rfl, rfl, k⟩
theorem x_newT : newL true ds S q ↔ q (.lst ds) S := Iff.rfl
theorem x_newF : newL false ds S q ↔ q (.loc S.length) (S ++ [some (.lst ds)]) := Iff.rfl
theorem x_si {P : Str → Int → Prop} {g : Str → Int → D} : aSI P g (.str x) [.int i] S q ↔ P x i ∧ q (g x i) S := by
  unfold aSI
  constructor
  · rintro ⟨_, _, e1, e2, k⟩; cases e1; cases e2; exact k
  · exact fun k => ⟨_, _, rfl, rfl, k⟩
theorem x_s1 {P : Str → Str → Prop} {g : Str → Str → D} : aS1 P g (.str x) [.str y] S q ↔ P x y ∧ q (g x y) S := by
  unfold aS1
  constructor
  · rintro ⟨_, _, e1, e2, k⟩; cases e1; cases e2; exact k
  · exact fun k => ⟨_, _, rfl, rfl, k⟩
theorem x_s0 {P : Str → Prop} {g : Str → D} : aS0 P g (.str x) [] S q ↔ P x ∧ q (g x) S := by
  unfold aS0
  constructor
  · rintro ⟨_, e1, e2, k⟩; cases e1; exact k
  · exact fun k => ⟨_, rfl, rfl, k⟩
theorem x_rpart : aRpart (.str x) [.str y] S q ↔ (y.length == 0) = false ∧ x.length ≤ sizeLine ∧ q (.tup [.str (rpartS x y).1, .str (rpartS x y).2.1, .str (rpartS x y).2.2]) S := by
  unfold aRpart
  constructor
  · rintro ⟨_, _, e1, e2, k⟩; cases e1; cases e2; exact k
  · exact fun k => ⟨_, _, rfl, rfl, k⟩
theorem x_part : aPart (.str x) [.str y] S q ↔ (y.length == 0) = false ∧ x.length ≤ sizeLine ∧ q (.tup [.str (Txt.partition x y).1, .str (Txt.partition x y).2.1, .str (Txt.partition x y).2.2]) S := by
  unfold aPart
  constructor
  · rintro ⟨_, _, e1, e2, k⟩; cases e1; cases e2; exact k
  · exact fun k => ⟨_, _, rfl, rfl, k⟩
theorem x_a1 {P : D → Sto → (D → Sto → Prop) → Prop} : a1 P [d] S q ↔ P d S q := by
  unfold a1
  exact ⟨fun ⟨_, e, k⟩ => by cases e; exact k, fun k => ⟨_, rfl, k⟩⟩
theorem x_a2 {P : D → D → Sto → (D → Sto → Prop) → Prop} : a2 P [d, e] S q ↔ P d e S q := by
  unfold a2
  exact ⟨fun ⟨_, _, e, k⟩ => by cases e; exact k, fun k => ⟨_, _, rfl, k⟩⟩
theorem x_app (h : S[n]? = some (some (.lst ds))) : aAppend (.loc n) [d] S q ↔ ds.length < sizeLine ∧ q .non (S.set n (some (.lst (ds ++ [d])))) := by
  unfold aAppend
  constructor
  · rintro ⟨_, _, _, e1, e2, e3, k⟩; cases e1; cases e2; rw [h] at e3; cases e3; exact k
  · exact fun k => ⟨_, _, _, rfl, rfl, h, k⟩
theorem x_slL_l {lo hi : Option Int} : aSl fz (.lst ds) lo hi S q ↔ newL fz (cutD ds lo hi) S q := x_slL rfl rfl
theorem x_slL_k {lo hi : Option Int} : aSl fz (.ksq ds) lo hi S q ↔ newL fz (cutD ds lo hi) S q := x_slL rfl rfl
theorem x_lenL_l : aLen (.lst ds) S q ↔ q (.int ds.length) S := x_lenL rfl
theorem x_lenL_k : aLen (.ksq ds) S q ↔ q (.int ds.length) S := x_lenL rfl
theorem x_lenL_t : aLen (.tup ds) S q ↔ q (.int ds.length) S := x_lenL rfl
theorem x_isiStr : aIsi (.str x) (.ty "str") S q ↔ q (.bl true) S := x_isi (t := "str") rfl (by decide)
theorem x_isiInt : aIsi (.int i) (.ty "int") S q ↔ q (.bl true) S := x_isi (t := "int") rfl (by decide)
theorem x_isiIntB : aIsi (.int i) (.ty "bool") S q ↔ q (.bl false) S := x_isi (t := "int") rfl (by decide)
theorem x_isiIntS : aIsi (.int i) (.ty "str") S q ↔ q (.bl false) S := x_isi (t := "int") rfl (by decide)
theorem x_isiBB : aIsi (.bl a) (.ty "bool") S q ↔ q (.bl true) S := x_isi (t := "bool") rfl (by decide)
theorem x_isiBI : aIsi (.bl a) (.ty "int") S q ↔ q (.bl true) S := x_isi (t := "bool") rfl (by decide)
theorem x_isiStrI : aIsi (.str x) (.ty "int") S q ↔ q (.bl false) S := x_isi (t := "str") rfl (by decide)
theorem x_isiNonI : aIsi .non (.ty "int") S q ↔ q (.bl false) S := x_isi (t := "NoneType") rfl (by decide)
theorem x_isiNonS : aIsi .non (.ty "str") S q ↔ q (.bl false) S := x_isi (t := "NoneType") rfl (by decide)
theorem x_isiT : aIsi (.tup ds) (.ty "tuple") S q ↔ q (.bl true) S := x_isi (t := "tuple") rfl (by decide)
theorem x_isiL : aIsi (.lst ds) (.ty "list") S q ↔ q (.bl true) S := x_isi (t := "list") rfl (by decide)
theorem x_ex {A : Type} {a : A} {P : A → Prop} : (∃ z, a = z ∧ P z) ↔ P a := ⟨fun ⟨_, e, h⟩ => by cases e; exact h, fun h => ⟨_, rfl, h⟩⟩
theorem x_var0 {ρ : Env_} {S : Sto} {q : D → Sto → Prop} {d : D} : gVar 0 (some d :: ρ) S q ↔ q d S := by
  unfold gVar
  simp only [List.getElem?_cons_zero, Option.some.injEq, x_ex]
theorem x_varS {ρ : Env_} {S : Sto} {q : D → Sto → Prop} {o : Option D} {i : Nat} : gVar (i + 1) (o :: ρ) S q ↔ gVar i ρ S q := by
  unfold gVar
  simp only [List.getElem?_cons_succ]
theorem x_bnm {ρ : Env_} {i : Nat} {d : D} : Tgt.bind (.nm i) d ρ = some (ρ.set i (some d)) := by rw [Tgt.bind]
theorem x_btp {ρ : Env_} {ts : List Tgt} {ds : List D} : Tgt.bind (.tp ts) (.tup ds) ρ = Tgt.binds ts ds ρ := by rw [Tgt.bind]
theorem x_bn {ρ : Env_} : Tgt.binds [] [] ρ = some ρ := by rw [Tgt.binds]
theorem x_bc {ρ : Env_} {t : Tgt} {ts : List Tgt} {d : D} {ds : List D} : Tgt.binds (t :: ts) (d :: ds) ρ = (Tgt.bind t d ρ).bind fun ρ' => Tgt.binds ts ds ρ' := by rw [Tgt.binds]
theorem x_tyS {S : Sto} {x : Str} : isTy "str" S (.str x) = true := rfl
theorem x_tyL {S : Sto} {x : List D} : isTy "list" S (.lst x) = true := rfl
theorem x_tyO {S : Sto} {n : Nat} {ds : List D} (h : S[n]? = some (some (.lst ds))) : isTy "list" S (.loc n) = true := by simp only [isTy, h]; rfl
theorem x_nnN : D.isNon .non = true := rfl
theorem x_nnI {i : Int} : D.isNon (.int i) = false := rfl
theorem x_nnS {x : Str} : D.isNon (.str x) = false := rfl
theorem x_nnB {x : Bool} : D.isNon (.bl x) = false := rfl
theorem x_nnT {x : List D} : D.isNon (.tup x) = false := rfl
theorem x_nnL {x : List D} : D.isNon (.lst x) = false := rfl
theorem x_nnO {C : Addr} {ks : List Str} {x : List D} : D.isNon (.obj C ks x) = false := rfl
theorem x_nnl {n : Nat} : D.isNon (.loc n) = false := rfl
theorem x_fmtS {ge : G D} {ρ : Env_} {S : Sto} {q : D → Sto → Prop} : gFmt ge ρ S q = ge ρ S fun d S1 => aFmt d S1 q := rfl
theorem x_afS {x : Str} {S : Sto} {q : D → Sto → Prop} : aFmt (.str x) S q ↔ x.length ≤ sizeLine ∧ q (.str x) S := Iff.rfl
theorem x_afI {i : Int} {S : Sto} {q : D → Sto → Prop} : aFmt (.int i) S q ↔ i.natAbs.log2 < 1920 ∧ q (.str (showI i)) S := Iff.rfl
theorem x_aug0 {ρ : Env_} {S : Sto} {d : D} {r : R2D} {ge : G D} {E : DE} : gAug 0 r ge E (some d :: ρ) S ↔ ge (some d :: ρ) S fun y S1 => r d y S1 fun z S2 => E.nx (some z :: ρ) S2 := by
  unfold gAug
  simp only [List.getElem?_cons_zero, Option.some.injEq, x_ex, List.set_cons_zero]
theorem x_aug {i : Nat} {ρ : Env_} {S : Sto} {d : D} {r : R2D} {ge : G D} {E : DE} (h : ρ[i]? = some (some d)) : gAug i r ge E ρ S ↔ ge ρ S fun y S1 => r d y S1 fun z S2 => E.nx (ρ.set i (some z)) S2 := by
  unfold gAug
  rw [h]
  simp only [Option.some.injEq, x_ex]
theorem x_js0 {acc : Str} {ρ : Env_} {S : Sto} {q : Str → Sto → Prop} : gJs [] acc ρ S q ↔ q acc S := by rw [gJs]
theorem x_jsc {g : G D} {gs : List (G D)} {acc : Str} {ρ : Env_} {S : Sto} {q : Str → Sto → Prop} : gJs (g :: gs) acc ρ S q ↔ g ρ S fun d S1 => ∃ y, d = .str y ∧ (acc ++ y).length ≤ sizeLine ∧ gJs gs (acc ++ y) ρ S1 q := by rw [gJs]
theorem x_rng (i k : Nat) (lo : Int) : (rngD lo k)[i]? = if i < k then some (.int (lo + ((i : Nat) : Int))) else none := by
  unfold rngD
  rw [List.getElem?_map]
  by_cases h : i < k
  · rw [if_pos h, List.getElem?_range h]; rfl
  · rw [if_neg h, List.getElem?_eq_none_iff.mpr (by simp; omega)]; rfl
theorem x_rngL (k : Nat) (lo : Int) : (rngD lo k).length = k := by unfold rngD; simp
end
def aSetIx (o i v : D) (S3 : Sto) (c : Sto → Prop) : Prop := ∃ n ds k j, o = .loc n ∧ i = .int k ∧ S3[n]? = some (some (.lst ds)) ∧ ixN ds.length k = some j ∧ c (S3.set n (some (.lst (ds.set j v))))
abbrev QI := List D → (Sto → Prop) → Sto → Prop
def aIt (d : D) (S1 : Sto) (q : QI) : Prop := match d with
  | .str x => q (signsD x) (fun _ => True) S1
  | d => ∃ ds, seqOf S1 d = some ds ∧ q ds (fun S' => seqOf S' d = some ds) S1
def aRng1 (as : List D) (S1 : Sto) (q : QI) : Prop := ∃ j : Int, as = [.int j] ∧ -(2 ^ 62) ≤ j ∧ j < 2 ^ 62 ∧ q (rngD 0 j.toNat) (fun _ => True) S1
def aRng2 (as : List D) (S1 : Sto) (q : QI) : Prop := ∃ i j : Int, as = [.int i, .int j] ∧ (-(2 ^ 62) ≤ i ∧ i < 2 ^ 62 ∧ -(2 ^ 62) ≤ j ∧ j < 2 ^ 62) ∧ q (rngD i (j - i).toNat) (fun _ => True) S1
def aEnum (as : List D) (S1 : Sto) (q : QI) : Prop := ∃ d ds, as = [d] ∧ d.isTup = false ∧ seqOf S1 d = some ds ∧ q (enumD ds) (fun S' => seqOf S' d = some ds) S1
def aZip (as : List D) (S1 : Sto) (q : QI) : Prop := ∃ d e ds es, as = [d, e] ∧ d.isTup = false ∧ e.isTup = false ∧ seqOf S1 d = some ds ∧ seqOf S1 e = some es ∧ q (zipD ds es) (fun S' => seqOf S' d = some ds ∧ seqOf S' e = some es) S1
def aLc (fz : Bool) (t : Tgt) (gt : G Bool) (ge : G D) (vs : List Nat) (ρ : Env_) (ds : List D) (chk : Sto → Prop) (S1 : Sto) (q : D → Sto → Prop) : Prop := ∃ I : Nat → List D → Sto → Prop, I 0 [] S1 ∧
  (∀ i d acc S, ds[i]? = some d → I i acc S → chk S ∧ ∃ ρ', t.bind d (wipeD ρ vs) = some ρ' ∧ gt ρ' S fun b S2 => if b = true then ge ρ' S2 fun y S3 => acc.length < sizeLine ∧ I (i + 1) (acc ++ [y]) S3 else I (i + 1) acc S2) ∧
  ∀ acc S, I ds.length acc S → chk S ∧ newL fz acc S q
def aFor (t : Tgt) (gb : GS) (E : DE) (ρ : Env_) (ds : List D) (chk : Sto → Prop) (S1 : Sto) : Prop := ∃ I : Nat → Env_ → Sto → Prop, I 0 ρ S1 ∧
  (∀ i d ρ S, ds[i]? = some d → I i ρ S → chk S ∧ ∃ ρ', t.bind d ρ = some ρ' ∧ gb { nx := I (i + 1), rt := E.rt, ct := I (i + 1), bk := E.nx } ρ' S) ∧ ∀ ρ S, I ds.length ρ S → chk S ∧ E.nx ρ S
section
variable {S R : Sto} {q : D → Sto → Prop} {ρ : Env_} {go gi' gv ge : G D} {ga : G (List D)} {gi : GI} {E : DE} {t : Tgt} {gt : G Bool} {gb : GS} {vs : List Nat} {fz : Bool} {ds es : List D} {d e a b c : D} {i j : Int} {k : QI} {cc : Sto → Prop} {x : Str}
theorem x_gset : gSetIx go gi' gv E ρ S = gv ρ S fun v S1 => go ρ S1 fun o S2 => gi' ρ S2 fun i S3 => aSetIx o i v S3 (E.nx ρ) := rfl
theorem x_lc : gLc fz gi t gt ge vs ρ S q = gi ρ S fun ds chk S1 => aLc fz t gt ge vs ρ ds chk S1 q := rfl
theorem x_for : gFor gi t gb E ρ S = gi ρ S fun ds chk S1 => aFor t gb E ρ ds chk S1 := rfl
theorem x_it : gIt ge ρ S k = ge ρ S fun d S1 => aIt d S1 k := rfl
theorem x_rn1 : gRng1 ga ρ S k = ga ρ S fun as S1 => aRng1 as S1 k := rfl
theorem x_rn2 : gRng2 ga ρ S k = ga ρ S fun as S1 => aRng2 as S1 k := rfl
theorem x_enu : gEnum ga ρ S k = ga ρ S fun as S1 => aEnum as S1 k := rfl
theorem x_zip : gZip ga ρ S k = ga ρ S fun as S1 => aZip as S1 k := rfl
theorem x_itS : aIt (.str x) S k ↔ k (signsD x) (fun _ => True) S := Iff.rfl
theorem x_itL : aIt (.lst ds) S k ↔ k ds (fun _ => True) S := by
  have h : (fun S' : Sto => seqOf S' (.lst ds) = some ds) = fun _ => True := funext fun S' => propext ⟨fun _ => trivial, fun _ => rfl⟩
  show (∃ es, seqOf S (.lst ds) = some es ∧ k es (fun S' => seqOf S' (.lst ds) = some es) S) ↔ _
  constructor
  · rintro ⟨es, e, h1⟩; cases e; rw [h] at h1; exact h1
  · exact fun h1 => ⟨ds, rfl, by rw [h]; exact h1⟩
theorem x_itK : aIt (.ksq ds) S k ↔ k ds (fun _ => True) S := by
  have h : (fun S' : Sto => seqOf S' (.ksq ds) = some ds) = fun _ => True := funext fun S' => propext ⟨fun _ => trivial, fun _ => rfl⟩
  show (∃ es, seqOf S (.ksq ds) = some es ∧ k es (fun S' => seqOf S' (.ksq ds) = some es) S) ↔ _
  constructor
  · rintro ⟨es, e, h1⟩; cases e; rw [h] at h1; exact h1
  · exact fun h1 => ⟨ds, rfl, by rw [h]; exact h1⟩
theorem x_itT : aIt (.tup ds) S k ↔ k ds (fun _ => True) S := by
  have h : (fun S' : Sto => seqOf S' (.tup ds) = some ds) = fun _ => True := funext fun S' => propext ⟨fun _ => trivial, fun _ => rfl⟩
  show (∃ es, seqOf S (.tup ds) = some es ∧ k es (fun S' => seqOf S' (.tup ds) = some es) S) ↔ _
  constructor
  · rintro ⟨es, e, h1⟩; cases e; rw [h] at h1; exact h1
  · exact fun h1 => ⟨ds, rfl, by rw [h]; exact h1⟩
theorem x_itO {n : Nat} (h : seqOf S (.loc n) = some ds) : aIt (.loc n) S k ↔ k ds (fun S' => seqOf S' (.loc n) = some ds) S := by
  show (∃ es, seqOf S (.loc n) = some es ∧ k es (fun S' => seqOf S' (.loc n) = some es) S) ↔ _
  constructor
  · rintro ⟨es, e, h1⟩; rw [h] at e; cases e; exact h1
  · exact fun h1 => ⟨ds, h, h1⟩
theorem x_rn1I : aRng1 [.int j] S k ↔ -(2 ^ 62) ≤ j ∧ j < 2 ^ 62 ∧ k (rngD 0 j.toNat) (fun _ => True) S := by
  constructor
  · rintro ⟨_, e, h⟩; cases e; exact h
  · exact fun h => ⟨j, rfl, h⟩
theorem x_rn2I : aRng2 [.int i, .int j] S k ↔ (-(2 ^ 62) ≤ i ∧ i < 2 ^ 62 ∧ -(2 ^ 62) ≤ j ∧ j < 2 ^ 62) ∧ k (rngD i (j - i).toNat) (fun _ => True) S := by
  constructor
  · rintro ⟨_, _, e, h⟩; cases e; exact h
  · exact fun h => ⟨i, j, rfl, h⟩
theorem x_enuL : aEnum [.lst ds] S k ↔ k (enumD ds) (fun _ => True) S := by
  have h : (fun S' : Sto => seqOf S' (.lst ds) = some ds) = fun _ => True := funext fun S' => propext ⟨fun _ => trivial, fun _ => rfl⟩
  constructor
  · rintro ⟨d, es, e1, _, e2, h1⟩; cases e1; cases e2; rw [h] at h1; exact h1
  · exact fun h1 => ⟨_, ds, rfl, rfl, rfl, by rw [h]; exact h1⟩
theorem x_enuK : aEnum [.ksq ds] S k ↔ k (enumD ds) (fun _ => True) S := by
  have h : (fun S' : Sto => seqOf S' (.ksq ds) = some ds) = fun _ => True := funext fun S' => propext ⟨fun _ => trivial, fun _ => rfl⟩
  constructor
  · rintro ⟨d, es, e1, _, e2, h1⟩; cases e1; cases e2; rw [h] at h1; exact h1
  · exact fun h1 => ⟨_, ds, rfl, rfl, rfl, by rw [h]; exact h1⟩
theorem x_zipL : aZip [.lst ds, .lst es] S k ↔ k (zipD ds es) (fun _ => True) S := by
  have h : (fun S' : Sto => seqOf S' (.lst ds) = some ds ∧ seqOf S' (.lst es) = some es) = fun _ => True := funext fun S' => propext ⟨fun _ => trivial, fun _ => ⟨rfl, rfl⟩⟩
  constructor
  · rintro ⟨_, _, _, _, e1, _, _, e2, e3, h1⟩; cases e1; cases e2; cases e3; rw [h] at h1; exact h1
  · exact fun h1 => ⟨_, _, ds, es, rfl, rfl, rfl, rfl, rfl, by rw [h]; exact h1⟩
theorem x_ixS0 : aIx (.loc 0) (.int i) (some (.lst ds) :: R) q ↔ ∃ e, atI ds i = some e ∧ q e (some (.lst ds) :: R) := by
  unfold aIx
  constructor
  · rintro ⟨_, e1, xs, z, e2, e3, h⟩; cases e1; cases e2; exact ⟨z, e3, h⟩
  · rintro ⟨z, e3, h⟩; exact ⟨_, rfl, ds, z, rfl, e3, h⟩
theorem x_ixL : aIx (.lst ds) (.int i) S q ↔ ∃ e, atI ds i = some e ∧ q e S := by
  unfold aIx
  constructor
  · rintro ⟨_, e1, xs, z, e2, e3, h⟩; cases e1; cases e2; exact ⟨z, e3, h⟩
  · rintro ⟨z, e3, h⟩; exact ⟨_, rfl, ds, z, rfl, e3, h⟩
theorem x_ixT : aIx (.tup ds) (.int i) S q ↔ ∃ e, atI ds i = some e ∧ q e S := by
  unfold aIx
  constructor
  · rintro ⟨_, e1, xs, z, e2, e3, h⟩; cases e1; cases e2; exact ⟨z, e3, h⟩
  · rintro ⟨z, e3, h⟩; exact ⟨_, rfl, ds, z, rfl, e3, h⟩
theorem x_ixK : aIx (.ksq ds) (.int i) S q ↔ ∃ e, atI ds i = some e ∧ q e S := by
  unfold aIx
  constructor
  · rintro ⟨_, e1, xs, z, e2, e3, h⟩; cases e1; cases e2; exact ⟨z, e3, h⟩
  · rintro ⟨z, e3, h⟩; exact ⟨_, rfl, ds, z, rfl, e3, h⟩
theorem ixN_lit {n k : Nat} (h : k < n) : ixN n (k : Int) = some k := by
  unfold ixN
  rw [if_pos (by omega), if_pos (by omega)]
  rfl
theorem atI_lit {A : Type} {xs : List A} {k : Nat} {v : A} (h : xs[k]? = some v) : atI xs (k : Int) = some v := by
  unfold atI
  rw [ixN_lit (List.getElem?_eq_some_iff.mp h).1]
  exact h
theorem x_at0 {A : Type} {a : A} {l : List A} : atI (a :: l) 0 = some a := atI_lit (k := 0) rfl
theorem x_at1 {A : Type} {a b : A} {l : List A} : atI (a :: b :: l) 1 = some b := atI_lit (k := 1) rfl
theorem x_at2 {A : Type} {a b c : A} {l : List A} : atI (a :: b :: c :: l) 2 = some c := atI_lit (k := 2) rfl
theorem x_at3 {A : Type} {a b c d : A} {l : List A} : atI (a :: b :: c :: d :: l) 3 = some d := atI_lit (k := 3) rfl
theorem x_at4 {A : Type} {a b c d e : A} {l : List A} : atI (a :: b :: c :: d :: e :: l) 4 = some e := atI_lit (k := 4) rfl
theorem x_set0 {k : Nat} {v : D} (h : k < ds.length) : aSetIx (.loc 0) (.int (k : Int)) v (some (.lst ds) :: R) cc ↔ cc (some (.lst (ds.set k v)) :: R) := by
  constructor
  · rintro ⟨n, xs, kk, j, e1, e2, e3, e4, h1⟩
    cases e1; cases e2; cases e3
    rw [ixN_lit h] at e4; cases e4
    exact h1
  · exact fun h1 => ⟨0, ds, k, k, rfl, rfl, rfl, ixN_lit h, h1⟩
theorem x_set00 {v : D} : aSetIx (.loc 0) (.int 0) v (some (.lst (a :: es)) :: R) cc ↔ cc (some (.lst (v :: es)) :: R) := x_set0 (k := 0) (by simp)
theorem x_set01 {v : D} : aSetIx (.loc 0) (.int 1) v (some (.lst (a :: b :: es)) :: R) cc ↔ cc (some (.lst (a :: v :: es)) :: R) := x_set0 (k := 1) (by simp)
theorem x_set02 {v : D} : aSetIx (.loc 0) (.int 2) v (some (.lst (a :: b :: c :: es)) :: R) cc ↔ cc (some (.lst (a :: b :: v :: es)) :: R) := x_set0 (k := 2) (by simp)
end
def aPar (i j : Nat) (ρ : Env_) (k : Env_ → Sto → Prop) (as : List D) (S1 : Sto) : Prop := ∃ v u, as = [v, u] ∧ k ((ρ.set i (some v)).set j (some u)) S1
theorem x_par {i j : Nat} {ga : G (List D)} {E : DE} {ρ : Env_} {S : Sto} : gPar i j ga E ρ S = ga ρ S fun as S1 => aPar i j ρ E.nx as S1 := rfl
theorem x_par2 {i j : Nat} {k : Env_ → Sto → Prop} {ρ : Env_} {S : Sto} {v u : D} : aPar i j ρ k [v, u] S ↔ k ((ρ.set i (some v)).set j (some u)) S := by
  constructor
  · rintro ⟨_, _, e, h⟩; cases e; exact h
  · exact fun h => ⟨v, u, rfl, h⟩
theorem toPys_int : ∀ ns : List Int, toPys (ns.map D.int) = some (ns.map PyData.int)
  | [] => by simp [toPys]
  | n :: ns => by simp [toPys, toPy, toPys_int ns]
theorem can_int : ∀ ns : List Int, PyData.canLayAll0 (ns.map PyData.int) = true
  | [] => by simp [PyData.canLayAll0]
  | n :: ns => by simp [PyData.canLayAll0, PyData.canLay0, can_int ns]
theorem dep_int : ∀ ns : List Int, PyData.depthAll (ns.map PyData.int) = 0
  | [] => by simp [PyData.depthAll]
  | n :: ns => by simp [PyData.depthAll, PyData.depth, dep_int ns]
theorem sh_ints (ns : List Int) : SeqAt.shaped (.list (ns.map PyData.int)) = true := by
  simp [SeqAt.shaped, PyData.canLay0, PyData.depth, can_int, dep_int]
theorem x_neNil {ns : List Int} {S : Sto} {q : D → Sto → Prop} : aNe (.lst (ns.map D.int)) (.lst []) S q ↔ q (.bl (decide (ns ≠ []))) S := by
  rw [x_ne (p := .list (ns.map PyData.int)) (p' := .list ([].map PyData.int)) (by simp [toPyS, toPy, toPys_int]) (by simp [toPyS, toPy, toPys])]
  simp only [sh_ints, true_and]
  cases ns with
  | nil => simp [PyData.eqv, PyData.eqvAll]
  | cons n ns => simp [PyData.eqv, PyData.eqvAll]
section
variable {S : Sto} {r : R2D} {ge : G D} {E : DE} {d : D} {ρ : Env_}
theorem x_aug1 {o0 : Option D} : gAug 1 r ge E (o0 :: some d :: ρ) S ↔ ge (o0 :: some d :: ρ) S fun y S1 => r d y S1 fun z S2 => E.nx (o0 :: some z :: ρ) S2 := x_aug rfl
theorem x_aug2 {o0 o1 : Option D} : gAug 2 r ge E (o0 :: o1 :: some d :: ρ) S ↔ ge (o0 :: o1 :: some d :: ρ) S fun y S1 => r d y S1 fun z S2 => E.nx (o0 :: o1 :: some z :: ρ) S2 := x_aug rfl
theorem x_aug3 {o0 o1 o2 : Option D} : gAug 3 r ge E (o0 :: o1 :: o2 :: some d :: ρ) S ↔ ge (o0 :: o1 :: o2 :: some d :: ρ) S fun y S1 => r d y S1 fun z S2 => E.nx (o0 :: o1 :: o2 :: some z :: ρ) S2 := x_aug rfl
theorem x_aug4 {o0 o1 o2 o3 : Option D} : gAug 4 r ge E (o0 :: o1 :: o2 :: o3 :: some d :: ρ) S ↔ ge (o0 :: o1 :: o2 :: o3 :: some d :: ρ) S fun y S1 => r d y S1 fun z S2 => E.nx (o0 :: o1 :: o2 :: o3 :: some z :: ρ) S2 := x_aug rfl
theorem x_aug5 {o0 o1 o2 o3 o4 : Option D} : gAug 5 r ge E (o0 :: o1 :: o2 :: o3 :: o4 :: some d :: ρ) S ↔ ge (o0 :: o1 :: o2 :: o3 :: o4 :: some d :: ρ) S fun y S1 => r d y S1 fun z S2 => E.nx (o0 :: o1 :: o2 :: o3 :: o4 :: some z :: ρ) S2 := x_aug rfl
theorem x_aug6 {o0 o1 o2 o3 o4 o5 : Option D} : gAug 6 r ge E (o0 :: o1 :: o2 :: o3 :: o4 :: o5 :: some d :: ρ) S ↔ ge (o0 :: o1 :: o2 :: o3 :: o4 :: o5 :: some d :: ρ) S fun y S1 => r d y S1 fun z S2 => E.nx (o0 :: o1 :: o2 :: o3 :: o4 :: o5 :: some z :: ρ) S2 := x_aug rfl
theorem x_aug7 {o0 o1 o2 o3 o4 o5 o6 : Option D} : gAug 7 r ge E (o0 :: o1 :: o2 :: o3 :: o4 :: o5 :: o6 :: some d :: ρ) S ↔ ge (o0 :: o1 :: o2 :: o3 :: o4 :: o5 :: o6 :: some d :: ρ) S fun y S1 => r d y S1 fun z S2 => E.nx (o0 :: o1 :: o2 :: o3 :: o4 :: o5 :: o6 :: some z :: ρ) S2 := x_aug rfl
theorem x_aug8 {o0 o1 o2 o3 o4 o5 o6 o7 : Option D} : gAug 8 r ge E (o0 :: o1 :: o2 :: o3 :: o4 :: o5 :: o6 :: o7 :: some d :: ρ) S ↔ ge (o0 :: o1 :: o2 :: o3 :: o4 :: o5 :: o6 :: o7 :: some d :: ρ) S fun y S1 => r d y S1 fun z S2 => E.nx (o0 :: o1 :: o2 :: o3 :: o4 :: o5 :: o6 :: o7 :: some z :: ρ) S2 := x_aug rfl
theorem x_aug9 {o0 o1 o2 o3 o4 o5 o6 o7 o8 : Option D} : gAug 9 r ge E (o0 :: o1 :: o2 :: o3 :: o4 :: o5 :: o6 :: o7 :: o8 :: some d :: ρ) S ↔ ge (o0 :: o1 :: o2 :: o3 :: o4 :: o5 :: o6 :: o7 :: o8 :: some d :: ρ) S fun y S1 => r d y S1 fun z S2 => E.nx (o0 :: o1 :: o2 :: o3 :: o4 :: o5 :: o6 :: o7 :: o8 :: some z :: ρ) S2 := x_aug rfl
theorem x_aug10 {o0 o1 o2 o3 o4 o5 o6 o7 o8 o9 : Option D} : gAug 10 r ge E (o0 :: o1 :: o2 :: o3 :: o4 :: o5 :: o6 :: o7 :: o8 :: o9 :: some d :: ρ) S ↔ ge (o0 :: o1 :: o2 :: o3 :: o4 :: o5 :: o6 :: o7 :: o8 :: o9 :: some d :: ρ) S fun y S1 => r d y S1 fun z S2 => E.nx (o0 :: o1 :: o2 :: o3 :: o4 :: o5 :: o6 :: o7 :: o8 :: o9 :: some z :: ρ) S2 := x_aug rfl
theorem x_aug11 {o0 o1 o2 o3 o4 o5 o6 o7 o8 o9 o10 : Option D} : gAug 11 r ge E (o0 :: o1 :: o2 :: o3 :: o4 :: o5 :: o6 :: o7 :: o8 :: o9 :: o10 :: some d :: ρ) S ↔ ge (o0 :: o1 :: o2 :: o3 :: o4 :: o5 :: o6 :: o7 :: o8 :: o9 :: o10 :: some d :: ρ) S fun y S1 => r d y S1 fun z S2 => E.nx (o0 :: o1 :: o2 :: o3 :: o4 :: o5 :: o6 :: o7 :: o8 :: o9 :: o10 :: some z :: ρ) S2 := x_aug rfl
theorem x_aug12 {o0 o1 o2 o3 o4 o5 o6 o7 o8 o9 o10 o11 : Option D} : gAug 12 r ge E (o0 :: o1 :: o2 :: o3 :: o4 :: o5 :: o6 :: o7 :: o8 :: o9 :: o10 :: o11 :: some d :: ρ) S ↔ ge (o0 :: o1 :: o2 :: o3 :: o4 :: o5 :: o6 :: o7 :: o8 :: o9 :: o10 :: o11 :: some d :: ρ) S fun y S1 => r d y S1 fun z S2 => E.nx (o0 :: o1 :: o2 :: o3 :: o4 :: o5 :: o6 :: o7 :: o8 :: o9 :: o10 :: o11 :: some z :: ρ) S2 := x_aug rfl
theorem x_aug13 {o0 o1 o2 o3 o4 o5 o6 o7 o8 o9 o10 o11 o12 : Option D} : gAug 13 r ge E (o0 :: o1 :: o2 :: o3 :: o4 :: o5 :: o6 :: o7 :: o8 :: o9 :: o10 :: o11 :: o12 :: some d :: ρ) S ↔ ge (o0 :: o1 :: o2 :: o3 :: o4 :: o5 :: o6 :: o7 :: o8 :: o9 :: o10 :: o11 :: o12 :: some d :: ρ) S fun y S1 => r d y S1 fun z S2 => E.nx (o0 :: o1 :: o2 :: o3 :: o4 :: o5 :: o6 :: o7 :: o8 :: o9 :: o10 :: o11 :: o12 :: some z :: ρ) S2 := x_aug rfl
theorem x_aug14 {o0 o1 o2 o3 o4 o5 o6 o7 o8 o9 o10 o11 o12 o13 : Option D} : gAug 14 r ge E (o0 :: o1 :: o2 :: o3 :: o4 :: o5 :: o6 :: o7 :: o8 :: o9 :: o10 :: o11 :: o12 :: o13 :: some d :: ρ) S ↔ ge (o0 :: o1 :: o2 :: o3 :: o4 :: o5 :: o6 :: o7 :: o8 :: o9 :: o10 :: o11 :: o12 :: o13 :: some d :: ρ) S fun y S1 => r d y S1 fun z S2 => E.nx (o0 :: o1 :: o2 :: o3 :: o4 :: o5 :: o6 :: o7 :: o8 :: o9 :: o10 :: o11 :: o12 :: o13 :: some z :: ρ) S2 := x_aug rfl
theorem x_aug15 {o0 o1 o2 o3 o4 o5 o6 o7 o8 o9 o10 o11 o12 o13 o14 : Option D} : gAug 15 r ge E (o0 :: o1 :: o2 :: o3 :: o4 :: o5 :: o6 :: o7 :: o8 :: o9 :: o10 :: o11 :: o12 :: o13 :: o14 :: some d :: ρ) S ↔ ge (o0 :: o1 :: o2 :: o3 :: o4 :: o5 :: o6 :: o7 :: o8 :: o9 :: o10 :: o11 :: o12 :: o13 :: o14 :: some d :: ρ) S fun y S1 => r d y S1 fun z S2 => E.nx (o0 :: o1 :: o2 :: o3 :: o4 :: o5 :: o6 :: o7 :: o8 :: o9 :: o10 :: o11 :: o12 :: o13 :: o14 :: some z :: ρ) S2 := x_aug rfl
theorem x_aug16 {o0 o1 o2 o3 o4 o5 o6 o7 o8 o9 o10 o11 o12 o13 o14 o15 : Option D} : gAug 16 r ge E (o0 :: o1 :: o2 :: o3 :: o4 :: o5 :: o6 :: o7 :: o8 :: o9 :: o10 :: o11 :: o12 :: o13 :: o14 :: o15 :: some d :: ρ) S ↔ ge (o0 :: o1 :: o2 :: o3 :: o4 :: o5 :: o6 :: o7 :: o8 :: o9 :: o10 :: o11 :: o12 :: o13 :: o14 :: o15 :: some d :: ρ) S fun y S1 => r d y S1 fun z S2 => E.nx (o0 :: o1 :: o2 :: o3 :: o4 :: o5 :: o6 :: o7 :: o8 :: o9 :: o10 :: o11 :: o12 :: o13 :: o14 :: o15 :: some z :: ρ) S2 := x_aug rfl
theorem x_aug17 {o0 o1 o2 o3 o4 o5 o6 o7 o8 o9 o10 o11 o12 o13 o14 o15 o16 : Option D} : gAug 17 r ge E (o0 :: o1 :: o2 :: o3 :: o4 :: o5 :: o6 :: o7 :: o8 :: o9 :: o10 :: o11 :: o12 :: o13 :: o14 :: o15 :: o16 :: some d :: ρ) S ↔ ge (o0 :: o1 :: o2 :: o3 :: o4 :: o5 :: o6 :: o7 :: o8 :: o9 :: o10 :: o11 :: o12 :: o13 :: o14 :: o15 :: o16 :: some d :: ρ) S fun y S1 => r d y S1 fun z S2 => E.nx (o0 :: o1 :: o2 :: o3 :: o4 :: o5 :: o6 :: o7 :: o8 :: o9 :: o10 :: o11 :: o12 :: o13 :: o14 :: o15 :: o16 :: some z :: ρ) S2 := x_aug rfl
theorem x_aug18 {o0 o1 o2 o3 o4 o5 o6 o7 o8 o9 o10 o11 o12 o13 o14 o15 o16 o17 : Option D} : gAug 18 r ge E (o0 :: o1 :: o2 :: o3 :: o4 :: o5 :: o6 :: o7 :: o8 :: o9 :: o10 :: o11 :: o12 :: o13 :: o14 :: o15 :: o16 :: o17 :: some d :: ρ) S ↔ ge (o0 :: o1 :: o2 :: o3 :: o4 :: o5 :: o6 :: o7 :: o8 :: o9 :: o10 :: o11 :: o12 :: o13 :: o14 :: o15 :: o16 :: o17 :: some d :: ρ) S fun y S1 => r d y S1 fun z S2 => E.nx (o0 :: o1 :: o2 :: o3 :: o4 :: o5 :: o6 :: o7 :: o8 :: o9 :: o10 :: o11 :: o12 :: o13 :: o14 :: o15 :: o16 :: o17 :: some z :: ρ) S2 := x_aug rfl
theorem x_aug19 {o0 o1 o2 o3 o4 o5 o6 o7 o8 o9 o10 o11 o12 o13 o14 o15 o16 o17 o18 : Option D} : gAug 19 r ge E (o0 :: o1 :: o2 :: o3 :: o4 :: o5 :: o6 :: o7 :: o8 :: o9 :: o10 :: o11 :: o12 :: o13 :: o14 :: o15 :: o16 :: o17 :: o18 :: some d :: ρ) S ↔ ge (o0 :: o1 :: o2 :: o3 :: o4 :: o5 :: o6 :: o7 :: o8 :: o9 :: o10 :: o11 :: o12 :: o13 :: o14 :: o15 :: o16 :: o17 :: o18 :: some d :: ρ) S fun y S1 => r d y S1 fun z S2 => E.nx (o0 :: o1 :: o2 :: o3 :: o4 :: o5 :: o6 :: o7 :: o8 :: o9 :: o10 :: o11 :: o12 :: o13 :: o14 :: o15 :: o16 :: o17 :: o18 :: some z :: ρ) S2 := x_aug rfl
theorem x_aug20 {o0 o1 o2 o3 o4 o5 o6 o7 o8 o9 o10 o11 o12 o13 o14 o15 o16 o17 o18 o19 : Option D} : gAug 20 r ge E (o0 :: o1 :: o2 :: o3 :: o4 :: o5 :: o6 :: o7 :: o8 :: o9 :: o10 :: o11 :: o12 :: o13 :: o14 :: o15 :: o16 :: o17 :: o18 :: o19 :: some d :: ρ) S ↔ ge (o0 :: o1 :: o2 :: o3 :: o4 :: o5 :: o6 :: o7 :: o8 :: o9 :: o10 :: o11 :: o12 :: o13 :: o14 :: o15 :: o16 :: o17 :: o18 :: o19 :: some d :: ρ) S fun y S1 => r d y S1 fun z S2 => E.nx (o0 :: o1 :: o2 :: o3 :: o4 :: o5 :: o6 :: o7 :: o8 :: o9 :: o10 :: o11 :: o12 :: o13 :: o14 :: o15 :: o16 :: o17 :: o18 :: o19 :: some z :: ρ) S2 := x_aug rfl
theorem x_aug21 {o0 o1 o2 o3 o4 o5 o6 o7 o8 o9 o10 o11 o12 o13 o14 o15 o16 o17 o18 o19 o20 : Option D} : gAug 21 r ge E (o0 :: o1 :: o2 :: o3 :: o4 :: o5 :: o6 :: o7 :: o8 :: o9 :: o10 :: o11 :: o12 :: o13 :: o14 :: o15 :: o16 :: o17 :: o18 :: o19 :: o20 :: some d :: ρ) S ↔ ge (o0 :: o1 :: o2 :: o3 :: o4 :: o5 :: o6 :: o7 :: o8 :: o9 :: o10 :: o11 :: o12 :: o13 :: o14 :: o15 :: o16 :: o17 :: o18 :: o19 :: o20 :: some d :: ρ) S fun y S1 => r d y S1 fun z S2 => E.nx (o0 :: o1 :: o2 :: o3 :: o4 :: o5 :: o6 :: o7 :: o8 :: o9 :: o10 :: o11 :: o12 :: o13 :: o14 :: o15 :: o16 :: o17 :: o18 :: o19 :: o20 :: some z :: ρ) S2 := x_aug rfl
theorem x_aug22 {o0 o1 o2 o3 o4 o5 o6 o7 o8 o9 o10 o11 o12 o13 o14 o15 o16 o17 o18 o19 o20 o21 : Option D} : gAug 22 r ge E (o0 :: o1 :: o2 :: o3 :: o4 :: o5 :: o6 :: o7 :: o8 :: o9 :: o10 :: o11 :: o12 :: o13 :: o14 :: o15 :: o16 :: o17 :: o18 :: o19 :: o20 :: o21 :: some d :: ρ) S ↔ ge (o0 :: o1 :: o2 :: o3 :: o4 :: o5 :: o6 :: o7 :: o8 :: o9 :: o10 :: o11 :: o12 :: o13 :: o14 :: o15 :: o16 :: o17 :: o18 :: o19 :: o20 :: o21 :: some d :: ρ) S fun y S1 => r d y S1 fun z S2 => E.nx (o0 :: o1 :: o2 :: o3 :: o4 :: o5 :: o6 :: o7 :: o8 :: o9 :: o10 :: o11 :: o12 :: o13 :: o14 :: o15 :: o16 :: o17 :: o18 :: o19 :: o20 :: o21 :: some z :: ρ) S2 := x_aug rfl
theorem x_aug23 {o0 o1 o2 o3 o4 o5 o6 o7 o8 o9 o10 o11 o12 o13 o14 o15 o16 o17 o18 o19 o20 o21 o22 : Option D} : gAug 23 r ge E (o0 :: o1 :: o2 :: o3 :: o4 :: o5 :: o6 :: o7 :: o8 :: o9 :: o10 :: o11 :: o12 :: o13 :: o14 :: o15 :: o16 :: o17 :: o18 :: o19 :: o20 :: o21 :: o22 :: some d :: ρ) S ↔ ge (o0 :: o1 :: o2 :: o3 :: o4 :: o5 :: o6 :: o7 :: o8 :: o9 :: o10 :: o11 :: o12 :: o13 :: o14 :: o15 :: o16 :: o17 :: o18 :: o19 :: o20 :: o21 :: o22 :: some d :: ρ) S fun y S1 => r d y S1 fun z S2 => E.nx (o0 :: o1 :: o2 :: o3 :: o4 :: o5 :: o6 :: o7 :: o8 :: o9 :: o10 :: o11 :: o12 :: o13 :: o14 :: o15 :: o16 :: o17 :: o18 :: o19 :: o20 :: o21 :: o22 :: some z :: ρ) S2 := x_aug rfl
end
def aFld (K : PySem.W.Frag) (f : Str) (o : D) (S1 : Sto) (q : D → Sto → Prop) : Prop := ∃ C ks ds d, objOf S1 o = some (C, ks, ds) ∧ FldOk K C f ∧ fget f ks ds = some d ∧ q d S1
def aFset (K : PySem.W.Frag) (f : Str) (o y : D) (S2 : Sto) (c : Sto → Prop) : Prop := ∃ n C ks ds, o = .loc n ∧ S2[n]? = some (some (.obj C ks ds)) ∧ FldOk K C f ∧ ks.length < 1000 ∧ c (S2.set n (some (.obj C (putK f ks) (putX f y ks ds))))
def aMakeF (C : Addr) (n nk : Nat) (src : List Src) (dds : List D) (dsp : DSp) (as zs : List D) (S1 : Sto) (q : D → Sto → Prop) : Prop := as.length = n ∧ zs.length = nk ∧ (D.unders S1.length as = true → D.unders S1.length zs = true →
  dsp (gat src (.loc S1.length :: as) dds zs) (S1 ++ [some (.obj C [] [])]) fun v S2 => v = .non ∧ ∃ ks ds, S2 = S1 ++ [some (.obj C ks ds)] ∧ D.unders S1.length ds = true ∧ q (.obj C ks ds) S1)
def aMake (C : Addr) (n nk : Nat) (src : List Src) (dds : List D) (dsp : DSp) (as zs : List D) (S1 : Sto) (q : D → Sto → Prop) : Prop := as.length = n ∧ zs.length = nk ∧
  dsp (gat src (.loc S1.length :: as) dds zs) (S1 ++ [some (.obj C [] [])]) fun v S2 => v = .non ∧ q (.loc S1.length) S2
def aMeth (C : Addr) (m : Str) (o : D) (S1 : Sto) (c : Prop) : Prop := ∃ ks ds, objOf S1 o = some (C, ks, ds) ∧ ks.contains m = false ∧ c
section
variable {K : PySem.W.Frag} {f m : Str} {C C' : Addr} {go gv : G D} {ga : GA} {ρ : Env_} {S S0 : Sto} {q : D → Sto → Prop} {E : DE} {n nk : Nat} {src : List Src} {dds ds as zs : List D} {dsp : DSp} {ks : List Str} {d y : D} {cc : Sto → Prop} {c : Prop} {b : Bool}
theorem x_fld : gFld K f go ρ S q = go ρ S fun o S1 => aFld K f o S1 q := rfl
theorem x_fset : gFldSet K f go gv E ρ S = gv ρ S fun y S1 => go ρ S1 fun o S2 => aFset K f o y S2 (E.nx ρ) := rfl
theorem x_mkF : gMakeF C n nk src dds dsp ga ρ S q = ga ρ S fun as zs S1 => aMakeF C n nk src dds dsp as zs S1 q := rfl
theorem x_mk : gMake C n nk src dds dsp ga ρ S q = ga ρ S fun as zs S1 => aMake C n nk src dds dsp as zs S1 q := rfl
theorem x_meth : gMeth C m n nk src dds dsp go ga ρ S q = go ρ S fun o S1 => aMeth C m o S1 (ga ρ S1 fun as zs S2 => as.length = n ∧ zs.length = nk ∧ dsp (gat src (o :: as) dds zs) S2 q) := by
  unfold gMeth aMeth
  refine congrArg _ (funext fun o => funext fun S1 => propext ⟨fun ⟨ks, ds, h1, h2, h3⟩ => ⟨ks, ds, h1, h2, h3⟩, fun ⟨ks, ds, h1, h2, h3⟩ => ⟨ks, ds, h1, h2, h3⟩⟩)
theorem x_fldO (hf : FldOk K C f) : aFld K f (.obj C ks ds) S q ↔ ∃ d, fget f ks ds = some d ∧ q d S := by
  constructor
  · rintro ⟨_, _, _, d, e, _, h1, h2⟩; cases e; exact ⟨d, h1, h2⟩
  · rintro ⟨d, h1, h2⟩; exact ⟨C, ks, ds, d, rfl, hf, h1, h2⟩
theorem x_fldL {k : Nat} (hf : FldOk K C f) (hS : S[k]? = some (some (.obj C ks ds))) : aFld K f (.loc k) S q ↔ ∃ d, fget f ks ds = some d ∧ q d S := by
  have e0 : objOf S (.loc k) = some (C, ks, ds) := by simp only [objOf, hS]
  constructor
  · rintro ⟨_, _, _, d, e, _, h1, h2⟩; rw [e0] at e; cases e; exact ⟨d, h1, h2⟩
  · rintro ⟨d, h1, h2⟩; exact ⟨C, ks, ds, d, e0, hf, h1, h2⟩
theorem snoc_get {o : Option MO} : (S0 ++ [o])[S0.length]? = some o := by simp
theorem snoc_set {o p : Option MO} : (S0 ++ [o]).set S0.length p = S0 ++ [p] := by simp
theorem x_fsetE (hf : FldOk K C f) : aFset K f (.loc S0.length) y (S0 ++ [some (.obj C ks ds)]) cc ↔ ks.length < 1000 ∧ cc (S0 ++ [some (.obj C (putK f ks) (putX f y ks ds))]) := by
  constructor
  · rintro ⟨_, _, _, _, e, e1, _, hl, h2⟩; cases e; rw [snoc_get] at e1; cases e1; rw [snoc_set] at h2; exact ⟨hl, h2⟩
  · rintro ⟨hl, h2⟩; exact ⟨S0.length, C, ks, ds, rfl, snoc_get, hf, hl, by rw [snoc_set]; exact h2⟩
theorem x_fldE (hf : FldOk K C f) : aFld K f (.loc S0.length) (S0 ++ [some (.obj C ks ds)]) q ↔ ∃ d, fget f ks ds = some d ∧ q d (S0 ++ [some (.obj C ks ds)]) := x_fldL hf snoc_get
theorem x_methO (h : ks.contains m = false) : aMeth C m (.obj C ks ds) S c ↔ c := by
  constructor
  · rintro ⟨_, _, _, _, h1⟩; exact h1
  · exact fun h1 => ⟨ks, ds, rfl, h, h1⟩
theorem x_isiCO (hi : IsC K C) (hk : KitC K C C' b) : aIsiC K (.obj C ks ds) (.ref C') S q ↔ q (.bl b) S := by
  constructor
  · rintro ⟨_, e, ⟨_, _, _, b', e1, _, hk', h1⟩ | ⟨_, e1, _⟩⟩
    · cases e; cases e1
      have := hk.is.symm.trans hk'.is
      cases this
      exact h1
    · cases e1
  · exact fun h1 => ⟨C', rfl, .inl ⟨C, ks, ds, b, rfl, hi, hk, h1⟩⟩
theorem x_isiCt {t : String} (h : tyN S d = some t) (hk : KitB K C') (hn : objOf S d = none) : aIsiC K d (.ref C') S q ↔ q (.bl false) S := by
  constructor
  · rintro ⟨_, e, ⟨_, _, _, _, e1, _⟩ | ⟨_, _, _, h1⟩⟩
    · rw [hn] at e1; cases e1
    · exact h1
  · exact fun h1 => ⟨C', rfl, .inr ⟨t, h, hk, h1⟩⟩
theorem x_isiCN (hk : KitB K C') : aIsiC K .non (.ref C') S q ↔ q (.bl false) S := x_isiCt (t := "NoneType") rfl hk rfl
theorem x_isiCT (hk : KitB K C') : aIsiC K (.tup ds) (.ref C') S q ↔ q (.bl false) S := x_isiCt (t := "tuple") rfl hk rfl
theorem x_isiCLi (hk : KitB K C') : aIsiC K (.lst ds) (.ref C') S q ↔ q (.bl false) S := x_isiCt (t := "list") rfl hk rfl
theorem x_isiCS {x : Str} (hk : KitB K C') : aIsiC K (.str x) (.ref C') S q ↔ q (.bl false) S := x_isiCt (t := "str") rfl hk rfl
theorem x_isiCI {i : Int} (hk : KitB K C') : aIsiC K (.int i) (.ref C') S q ↔ q (.bl false) S := x_isiCt (t := "int") rfl hk rfl
theorem x_own {ks' : List Str} {es : List D} : aOwn C dsp (.obj C ks ds) (.obj C ks' es) S q ↔ dsp [.obj C ks ds, .obj C ks' es] S fun d S' => (∃ k, d = .bl k) ∧ q d S' := by
  unfold aOwn
  exact ⟨fun ⟨_, _, h⟩ => h, fun h => ⟨⟨_, _, rfl⟩, ⟨_, _, rfl⟩, h⟩⟩
end
theorem eqv_ints : ∀ ns ms : List Int, PyData.eqvAll (ns.map PyData.int) (ms.map PyData.int) = decide (ns = ms)
  | [], [] => by simp [PyData.eqvAll]
  | [], m :: ms => by simp [PyData.eqvAll]
  | n :: ns, [] => by simp [PyData.eqvAll]
  | n :: ns, m :: ms => by
    simp only [List.map_cons, PyData.eqvAll, PyData.eqv, eqv_ints ns ms, List.cons.injEq]
    rw [show (n == m) = decide (n = m) from rfl, Bool.decide_and]
theorem sh_intT (ns : List Int) : SeqAt.shaped (.tuple (ns.map PyData.int)) = true := by
  simp [SeqAt.shaped, PyData.canLay0, PyData.depth, can_int, dep_int]
section
variable {S : Sto} {q : D → Sto → Prop} {ns ms : List Int} {a b c d e f g h : Int}
theorem x_eqLi : aEq (.lst (ns.map D.int)) (.lst (ms.map D.int)) S q ↔ q (.bl (decide (ns = ms))) S := by
  rw [x_eq (p := .list (ns.map PyData.int)) (p' := .list (ms.map PyData.int)) (by simp [toPyS, toPy, toPys_int]) (by simp [toPyS, toPy, toPys_int])]
  simp only [sh_ints, true_and, PyData.eqv, eqv_ints]
theorem x_neLi : aNe (.lst (ns.map D.int)) (.lst (ms.map D.int)) S q ↔ q (.bl (decide (ns ≠ ms))) S := by
  rw [x_ne (p := .list (ns.map PyData.int)) (p' := .list (ms.map PyData.int)) (by simp [toPyS, toPy, toPys_int]) (by simp [toPyS, toPy, toPys_int])]
  simp only [sh_ints, true_and, PyData.eqv, eqv_ints, ← decide_not, ne_eq]
theorem x_eqTi : aEq (.tup (ns.map D.int)) (.tup (ms.map D.int)) S q ↔ q (.bl (decide (ns = ms))) S := by
  rw [x_eq (p := .tuple (ns.map PyData.int)) (p' := .tuple (ms.map PyData.int)) (by simp [toPyS, toPy, toPys_int]) (by simp [toPyS, toPy, toPys_int])]
  simp only [sh_intT, true_and, PyData.eqv, eqv_ints]
theorem x_neTi : aNe (.tup (ns.map D.int)) (.tup (ms.map D.int)) S q ↔ q (.bl (decide (ns ≠ ms))) S := by
  rw [x_ne (p := .tuple (ns.map PyData.int)) (p' := .tuple (ms.map PyData.int)) (by simp [toPyS, toPy, toPys_int]) (by simp [toPyS, toPy, toPys_int])]
  simp only [sh_intT, true_and, PyData.eqv, eqv_ints, ← decide_not, ne_eq]
theorem x_eqT2 : aEq (.tup [.int a, .int b]) (.tup [.int c, .int d]) S q ↔ q (.bl (decide ([a, b] = [c, d]))) S := x_eqTi (ns := [a, b]) (ms := [c, d])
theorem x_neT2 : aNe (.tup [.int a, .int b]) (.tup [.int c, .int d]) S q ↔ q (.bl (decide ([a, b] ≠ [c, d]))) S := x_neTi (ns := [a, b]) (ms := [c, d])
theorem x_neL4 : aNe (.lst [.int a, .int b, .int c, .int d]) (.lst [.int e, .int f, .int g, .int h]) S q ↔ q (.bl (decide ([a, b, c, d] ≠ [e, f, g, h]))) S := x_neLi (ns := [a, b, c, d]) (ms := [e, f, g, h])
theorem x_eqLN : aEq (.lst (ns.map D.int)) (.lst []) S q ↔ q (.bl (decide (ns = []))) S := x_eqLi (ms := [])
end
end Dl
namespace Dl
open PySem L2
def rSortedD (K : PySem.W.Frag) : List V → Hp → VK → Prop := fun vs H Q => ∃ (a : Addr) (xs : List V) (ps : List PyData), vs = [.ref a] ∧ SqL K H a xs ∧ DpAll K H xs ps ∧ PySem.W.AllAlike ps ∧ PySem.W.Sortable ps ∧ (∀ p ∈ ps, p.depth ≤ 60) ∧
  ∀ (zs : List (V × PyData)) (p : Addr), zs = (xs.zip ps).mergeSort (PySem.W.dataLe false Prod.snd) → H p = none → Q (.ref p) (upd H p (.lst (zs.map Prod.fst)))
theorem dpAll_len {K : PySem.W.Frag} {H : Hp} : ∀ {xs : List V} {ps : List PyData}, DpAll K H xs ps → xs.length = ps.length
  | _, _, .nil => rfl
  | _, _, .cons _ h => by rw [List.length_cons, List.length_cons, dpAll_len h]
theorem readsAll_each {h : Heap} : ∀ {us : List Value} {ps : List PyData} {as : List Addr}, ReadsAll h us ps as → ∀ (i : Nat) (u : Value) (p : PyData), us[i]? = some u → ps[i]? = some p → ∃ as, Reads h u p as
  | _, _, _, .nil, i, u, p, h1, _ => by simp at h1
  | _, _, _, .cons r rs, 0, u, p, h1, h2 => by
    rw [List.getElem?_cons_zero] at h1 h2
    cases h1; cases h2
    exact ⟨_, r⟩
  | _, _, _, .cons r rs, i + 1, u, p, h1, h2 => by
    rw [List.getElem?_cons_succ] at h1 h2
    exact readsAll_each rs i u p h1 h2
theorem vals_each : ∀ {xs : List V} {us : List Value}, Vals xs us → ∀ (i : Nat) (x : V) (u : Value), xs[i]? = some x → us[i]? = some u → RelV x u
  | _, _, .nil, i, x, u, h1, _ => by simp at h1
  | _, _, .cons r rs, 0, x, u, h1, h2 => by
    rw [List.getElem?_cons_zero] at h1 h2
    cases h1; cases h2
    exact r
  | _, _, .cons r rs, i + 1, x, u, h1, h2 => by
    rw [List.getElem?_cons_succ] at h1 h2
    exact vals_each rs i x u h1 h2
theorem each_of {A B : Type} {R : A → B → Prop} : ∀ {as : List A} {bs : List B}, as.length = bs.length → (∀ (i : Nat) a b, as[i]? = some a → bs[i]? = some b → R a b) → PySem.W.EachIs R as bs
  | [], [], _, _ => .nil
  | [], _ :: _, h, _ => by simp at h
  | _ :: _, [], h, _ => by simp at h
  | a :: as, b :: bs, h, k => .cons (k 0 a b rfl rfl) (each_of (by simpa using h) fun i x y h1 h2 => k (i + 1) x y (by rw [List.getElem?_cons_succ]; exact h1) (by rw [List.getElem?_cons_succ]; exact h2))
theorem each_vals {bs : List ((Value × V) × PyData)} : ∀ {out : List Value} {bs : List ((Value × V) × PyData)}, PySem.W.EachIs (fun v b => v = b.1.1 ∧ RelV b.1.2 v) out bs → Vals (bs.map fun b => b.1.2) out
  | _, _, .nil => .nil
  | _, _, .cons h t => .cons h.2 (each_vals (bs := bs) t)
theorem zip3_get {A B C : Type} {as : List A} {bs : List B} {cs : List C} {i : Nat} {z : (A × B) × C} (h : ((as.zip bs).zip cs)[i]? = some z) : as[i]? = some z.1.1 ∧ bs[i]? = some z.1.2 ∧ cs[i]? = some z.2 := by
  rw [List.getElem?_zip_eq_some, List.getElem?_zip_eq_some] at h
  exact ⟨h.1.1, h.1.2, h.2⟩
theorem ms_map {A B : Type} {f : A → B} {r : A → A → Bool} {s : B → B → Bool} (h : ∀ a b, r a b = s (f a) (f b)) (l : List A) : (l.mergeSort r).map f = (l.map f).mergeSort s := List.map_mergeSort fun a _ b _ => h a b
theorem cr_sortedD {X : Cx} (hu : X.A.units + 64 < cLine) : CallR X (.builtin "sorted") (rSortedD X.K) := by
  intro pins s σ H vs us Q I r h
  obtain ⟨a, xs, ps, rfl, hs, hp, hal, hso, hdep, q⟩ := h
  obtain ⟨its, rv, hl, hz⟩ := I.list hs
  obtain ⟨u, rfl, ru⟩ := vals1 r
  obtain rfl : u = Value.ref a := ru
  obtain ⟨as, rd⟩ := Dp.readsAll I ps xs its hp rv
  have l1 : its.length = xs.length := rv.length.symm
  have l2 : xs.length = ps.length := dpAll_len hp
  let bs : List ((Value × V) × PyData) := (its.zip xs).zip ps
  have hbl : bs.length = ps.length := by show ((its.zip xs).zip ps).length = _; simp; omega
  have hmap : bs.map Prod.snd = ps := by
    show ((its.zip xs).zip ps).map Prod.snd = ps
    exact List.map_snd_zip (by simp; omega)
  refine PySem.W.sorted_data (β := (Value × V) × PyData) (R := fun v b => v = b.1.1 ∧ RelV b.1.2 v) (bs := bs) (enc := Prod.snd) hl.isList ?_ ?_ (by rw [hmap]; exact hal) (by rw [hmap]; exact hso) (by rw [hbl, ← l2]; exact hz) ?_ fun out ho he => ?_
  · refine each_of (by omega) fun i v b h1 h2 => ?_
    obtain ⟨g1, g2, g3⟩ := zip3_get h2
    rw [h1] at g1
    have e := Option.some.inj g1
    exact ⟨e, vals_each rv i _ _ g2 h1⟩
  · refine each_of (by omega) fun i v b h1 h2 => ?_
    obtain ⟨g1, g2, g3⟩ := zip3_get h2
    exact readsAll_each rd i v b.2 h1 g3
  · intro b hb
    have : b.2 ∈ ps := by rw [← hmap]; exact List.mem_map_of_mem hb
    have := hdep _ this
    omega
  · obtain ⟨n, hn⟩ := PyProof.Rows.sortedAll_at s.heap its out.toArray
    have kp : ∀ b o, s.heap.get? b = some o → (PyProof.Rows.sortedAll s.heap its out.toArray).get? b = some o := fun b o e => PyProof.Rows.sortedAll_old e
    have hd : s.heap.objs.size ≤ s.heap.objs.size + 1 := Nat.le_succ _
    have hvals := each_vals (bs := bs) he
    have hzs : (bs.mergeSort (PySem.W.dataLe false Prod.snd)).map (fun b => (b.1.2, b.2)) = (xs.zip ps).mergeSort (PySem.W.dataLe false Prod.snd) := by
      refine Eq.trans (ms_map (f := fun b : (Value × V) × PyData => (b.1.2, b.2)) (r := PySem.W.dataLe false Prod.snd) (s := PySem.W.dataLe false Prod.snd) (fun a b => rfl) bs) ?_
      congr 1
      apply List.ext_getElem?
      intro i
      rw [List.getElem?_map]
      cases hx : bs[i]? with
      | none =>
        have : bs.length ≤ i := List.getElem?_eq_none_iff.mp hx
        exact (List.getElem?_eq_none_iff.mpr (by simp; omega)).symm
      | some z =>
        obtain ⟨g1, g2, g3⟩ := zip3_get hx
        exact (List.getElem?_zip_eq_some (z := (z.1.2, z.2)).mpr ⟨g2, g3⟩).symm
    have hfst : ((xs.zip ps).mergeSort (PySem.W.dataLe false Prod.snd)).map Prod.fst = (bs.mergeSort (PySem.W.dataLe false Prod.snd)).map fun b => b.1.2 := by
      rw [← hzs, List.map_map]; rfl
    have q' := q _ (s.heap.objs.size + 1) rfl (I.hok.fresh hd)
    rw [hfst] at q'
    refine ⟨.ref (s.heap.objs.size + 1), upd H (s.heap.objs.size + 1) (.lst ((bs.mergeSort (PySem.W.dataLe false Prod.snd)).map fun b => b.1.2)), I.laid (t' := s.toks) kp hd ⟨?_, out, n, hvals, hn⟩, rfl, q'⟩
    rw [List.length_map, List.length_mergeSort, hbl, ← l2]
    exact hz
def aSorted (fz : Bool) : R1D := fun d S q => ∃ ds ps, seqOf S d = some ds ∧ d.isTup = false ∧ toPys ds = some ps ∧ PySem.W.AllAlike ps ∧ PySem.W.Sortable ps ∧ (∀ p ∈ ps, p.depth ≤ 60) ∧ newL fz (((ds.zip ps).mergeSort (PySem.W.dataLe false Prod.snd)).map Prod.fst) S q
theorem reps_all {K : PySem.W.Frag} {m : Nat → Addr} {N : Nat} {Hv : Hp} {A : Type} {f : A → D} {g : A → V} : ∀ {l : List A}, (∀ t ∈ l, Rep K m N Hv (f t) (g t)) → Reps K m N Hv (l.map f) (l.map g)
  | [], _ => rfl
  | t :: l, h => Reps.cons (h t (List.mem_cons_self ..)) (reps_all fun u hu => h u (List.mem_cons_of_mem _ hu))
theorem toPys_len : ∀ {ds : List D} {ps : List PyData}, toPys ds = some ps → ps.length = ds.length
  | [], ps, h => by simp [toPys] at h; subst h; rfl
  | d :: ds, ps, h => by
    rw [toPys] at h
    cases h1 : toPy d with
    | none => rw [h1] at h; cases h
    | some p =>
      cases h2 : toPys ds with
      | none => rw [h1, h2] at h; cases h
      | some qs =>
        rw [h1, h2] at h
        cases h
        rw [List.length_cons, List.length_cons, toPys_len h2]
theorem vr_sorted {K : PySem.W.Frag} {fz : Bool} : VRN K (rSortedD K) (a1 (aSorted fz)) := vrn1 fun {_ m S Z H d v q Q} w r ⟨ds, ps, h1, h2, h3, h4, h5, h6, h7⟩ k => by
  obtain ⟨a, xs, e, hr, ht, hl⟩ := seqOf_rep w r h1
  refine ⟨a, xs, ps, by rw [e], hl h2, DpAll.sub vis_le (dps_of hr h3), h4, h5, h6, fun zs p hz hp => ?_⟩
  have l1 := Reps.len hr
  have l2 := toPys_len h3
  let ts : List ((D × V) × PyData) := (ds.zip xs).zip ps
  have m1 : ts.map (fun t => (t.1.1, t.2)) = ds.zip ps := by
    apply List.ext_getElem?
    intro i
    rw [List.getElem?_map]
    cases hx : ts[i]? with
    | none =>
      have : ts.length ≤ i := List.getElem?_eq_none_iff.mp hx
      have hlen : ts.length = ds.length := by show ((ds.zip xs).zip ps).length = _; simp; omega
      exact (List.getElem?_eq_none_iff.mpr (by simp; omega)).symm
    | some z =>
      obtain ⟨g1, g2, g3⟩ := zip3_get hx
      exact (List.getElem?_zip_eq_some (z := (z.1.1, z.2)).mpr ⟨g1, g3⟩).symm
  have m2 : ts.map (fun t => (t.1.2, t.2)) = xs.zip ps := by
    apply List.ext_getElem?
    intro i
    rw [List.getElem?_map]
    cases hx : ts[i]? with
    | none =>
      have : ts.length ≤ i := List.getElem?_eq_none_iff.mp hx
      have hlen : ts.length = ds.length := by show ((ds.zip xs).zip ps).length = _; simp; omega
      exact (List.getElem?_eq_none_iff.mpr (by simp; omega)).symm
    | some z =>
      obtain ⟨g1, g2, g3⟩ := zip3_get hx
      exact (List.getElem?_zip_eq_some (z := (z.1.2, z.2)).mpr ⟨g2, g3⟩).symm
  have s1 : (ts.mergeSort (PySem.W.dataLe false Prod.snd)).map (fun t => (t.1.1, t.2)) = (ds.zip ps).mergeSort (PySem.W.dataLe false Prod.snd) := by
    refine Eq.trans (ms_map (f := fun t : (D × V) × PyData => (t.1.1, t.2)) (r := PySem.W.dataLe false Prod.snd) (s := PySem.W.dataLe false Prod.snd) (fun a b => rfl) ts) ?_
    rw [m1]
  have s2 : (ts.mergeSort (PySem.W.dataLe false Prod.snd)).map (fun t => (t.1.2, t.2)) = (xs.zip ps).mergeSort (PySem.W.dataLe false Prod.snd) := by
    refine Eq.trans (ms_map (f := fun t : (D × V) × PyData => (t.1.2, t.2)) (r := PySem.W.dataLe false Prod.snd) (s := PySem.W.dataLe false Prod.snd) (fun a b => rfl) ts) ?_
    rw [m2]
  have hrep : Reps K m S.length (vis m S Z H) (((ds.zip ps).mergeSort (PySem.W.dataLe false Prod.snd)).map Prod.fst) (zs.map Prod.fst) := by
    rw [hz, ← s1, ← s2, List.map_map, List.map_map]
    refine reps_all fun t ht => ?_
    have ht' : t ∈ ts := (List.mergeSort_perm ts _).mem_iff.mp ht
    obtain ⟨i, hi⟩ := List.getElem?_of_mem ht'
    obtain ⟨g1, g2, g3⟩ := zip3_get hi
    obtain ⟨v', hv', rv'⟩ := Reps.get hr g1
    rw [g2] at hv'
    cases hv'
    exact rv'
  exact out_newL w hrep h7 k hp
end Dl
namespace Dl
open PySem L2 PySem.W
end Dl
namespace GB
open PySem PySem.Calls PySem.Spec PyProof.Rows GQ
open PySem.SeqAt
open AutoSeq1 (wpAny_loadPart')
open MeetsSeq MeetsSeq2 MeetsSeq3 SeqRoads2
section
variable {prog : Program} {w : World} {A : Around} {R : Result → Shared → Prop}
/-- at each turn the two lists are read anew: N items each, the i-th two compared say rs i -/
def ListB (prog : Program) (w : World) (A : Around) (E : Value → Shared → Prop) (l b : Addr) (N : Nat) (rs : Nat → Bool) (I : Nat → Shared → Prop) : Prop :=
  ∀ i s, I i s → ∃ (items items2 : Array Value) (n n2 : Nat), s.heap.get? l = some { cls := .type "list", data := .seq items n } ∧ s.heap.get? b = some { cls := .type "list", data := .seq items2 n2 } ∧ items.size = N ∧ items2.size = N ∧
    ∀ (h1 : i < items.size) (h2 : i < items2.size), wpAny (model prog w) A.in1 (eqBool items[i] items2[i]) (fun r s' => r = rs i ∧ I (i + 1) s') E s
/-- code 2: ==; code 3: != -/
def okOf (c : Int) : Bool := c == 2
theorem loopB (c : Int) (hc : c = 2 ∨ c = 3) (l b : Addr) (N : Nat) (rs : Nat → Bool) (out : Bool) (h1 : (∀ j, j < N → rs j = true) → out = okOf c) (h2 : ∀ j, j < N → rs j = false → out = !okOf c) (I : Nat → Shared → Prop) (hl : ListB prog w A (fun e s' => R (.error e) s') l b N rs I)
    (fin : ∀ j s, I j s → R (.ok (.ret (.bool out))) s) (k : Nat) :
    ∀ i : Nat, N - i = k → i ≤ N → (∀ j, j < i → rs j = true) → ∀ s, I i s →
      wpAny (model prog w) A.in1 (Builtin.«list.__eq__.loop» ⟨[.ref l, .ref b, rawInt i, rawInt c], []⟩) (FinOf prog w A R) (fun e s' => R (.error e) s') s := by
  induction k with
  | zero =>
    intro i hk hi hall s h
    obtain ⟨items, items2, n, n2, hl1, hb1, hs1, hs2, _⟩ := hl _ _ h
    have hi' : i = N := by omega
    have hR : R (.ok (.ret (.bool out))) s := fin i s h
    rw [h1 (fun j hj => hall j (by omega))] at hR
    obtain ⟨hp, g, d, tk, os⟩ := s
    rcases hc with rfl | rfl
    · wp_walk using wpAny_loadPart' hl1, wpAny_loadPart' hb1
      have hi1 : items[((i : Nat) : Int).toNat]? = none := by simp; omega
      have hi2 : items2[((i : Nat) : Int).toNat]? = none := by simp; omega
      rw [hi1, hi2]
      wp_walk using wpAny_loadPart' hl1, wpAny_loadPart' hb1
      show R (.ok (.ret (.bool (items.size == items2.size)))) _
      rw [hs1, hs2]
      simpa [okOf] using hR
    · wp_walk using wpAny_loadPart' hl1, wpAny_loadPart' hb1
      have hi1 : items[((i : Nat) : Int).toNat]? = none := by simp; omega
      have hi2 : items2[((i : Nat) : Int).toNat]? = none := by simp; omega
      rw [hi1, hi2]
      wp_walk using wpAny_loadPart' hl1, wpAny_loadPart' hb1
      show R (.ok (.ret (.bool (items.size != items2.size)))) _
      rw [hs1, hs2]
      simpa [okOf] using hR
  | succ k ih =>
    intro i hk hi hall s h
    obtain ⟨items, items2, n, n2, hl1, hb1, hs1, hs2, turn⟩ := hl _ _ h
    have hlt : i < items.size := by omega
    have hlt2 : i < items2.size := by omega
    have ht := turn hlt hlt2
    have hi1 : items[((i : Nat) : Int).toNat]? = some items[i] := by simp [hlt]
    have hi2 : items2[((i : Nat) : Int).toNat]? = some items2[i] := by simp [hlt2]
    have hcc : ((i : Int) + 1) = ((i + 1 : Nat) : Int) := by omega
    cases hr : rs i with
    | true =>
      have step : ∀ s2, I (i + 1) s2 → wpAny (model prog w) A.in1 (Builtin.«list.__eq__.loop» ⟨[.ref l, .ref b, rawInt ((i + 1 : Nat) : Int), rawInt c], []⟩) (FinOf prog w A R) (fun e s' => R (.error e) s') s2 := fun s2 h2' => ih (i + 1) (by omega) (by omega) (fun j hj => by
        rcases Nat.lt_or_ge j i with q | q
        · exact hall j q
        · rw [show j = i by omega]; exact hr) s2 h2'
      obtain ⟨hp, g, d, tk, os⟩ := s
      rcases hc with rfl | rfl
      all_goals
        wp_walk using wpAny_loadPart' hl1, wpAny_loadPart' hb1
        rw [hi1, hi2]
        refine wpAny_bind (wpAny_mono ht (fun r s2 h2' => ?_) fun _ _ x => x)
        obtain ⟨hr', h2'⟩ := h2'
        rw [hr] at hr'
        subst hr'
        have hrec := step s2 h2'
        obtain ⟨hp2, g2, d2, tk2, os2⟩ := s2
        wp_walk
        rw [hcc]
        exact ⟨plainId_quiet plain_eq_loop _, codeAny_builtin entry_eq_loop (by
          rw [Around.under_plainId plain_eq_loop _]
          exact hrec)⟩
    | false =>
      have ho := h2 i (by omega) hr
      have last : ∀ s2, I (i + 1) s2 → ∃ (items items2 : Array Value) (n n2 : Nat), s2.heap.get? l = some { cls := .type "list", data := .seq items n } ∧ s2.heap.get? b = some { cls := .type "list", data := .seq items2 n2 } ∧ i < items.size ∧ i < items2.size ∧ R (.ok (.ret (.bool (!okOf c)))) s2 := fun s2 q => by
        obtain ⟨x1, x2, y1, y2, e1, e2, e3, e4, _⟩ := hl _ _ q
        exact ⟨x1, x2, y1, y2, e1, e2, by omega, by omega, ho ▸ fin _ s2 q⟩
      obtain ⟨hp, g, d, tk, os⟩ := s
      rcases hc with rfl | rfl
      all_goals
        wp_walk using wpAny_loadPart' hl1, wpAny_loadPart' hb1
        rw [hi1, hi2]
        refine wpAny_bind (wpAny_mono ht (fun r s2 h2' => ?_) fun _ _ x => x)
        obtain ⟨hr', h2'⟩ := h2'
        rw [hr] at hr'
        subst hr'
        obtain ⟨x1, x2, y1, y2, e1, e2, e3, e4, hR⟩ := last s2 h2'
        obtain ⟨hp2, g2, d2, tk2, os2⟩ := s2
        wp_walk using wpAny_loadPart' e1, wpAny_loadPart' e2
        have hj1 : x1[((i : Nat) : Int).toNat]? = some x1[i] := by simp [e3]
        have hj2 : x2[((i : Nat) : Int).toNat]? = some x2[i] := by simp [e4]
        rw [hj1, hj2]
        wp_walk
        simpa [okOf] using hR
theorem list_eqB (l b : Addr) (N : Nat) (rs : Nat → Bool) (out : Bool) (h1 : (∀ j, j < N → rs j = true) → out = true) (h2 : ∀ j, j < N → rs j = false → out = false) (I : Nat → Shared → Prop) (hl : ListB prog w A (fun e s' => R (.error e) s') l b N rs I)
    (fin : ∀ j s, I j s → R (.ok (.ret (.bool out))) s) {s : Shared} (h : I 0 s) :
    wpAny (model prog w) A.in1 (Builtin.«list.__eq__» ⟨[.ref l, .ref b], []⟩) (FinOf prog w A R) (fun e s' => R (.error e) s') s := by
  obtain ⟨items, items2, n, n2, hl1, hb1, hs1, hs2, _⟩ := hl _ _ h
  have hrec := loopB (A := A) (R := R) 2 (.inl rfl) l b N rs out h1 h2 I hl fin _ 0 rfl (Nat.zero_le _) (fun j hj => absurd hj (by omega)) s h
  obtain ⟨hp, g, d, tk, os⟩ := s
  have f3 := AutoSeq1.sub_list_list
  have hne : ¬ (items.size != items2.size) = true := by simp [hs1, hs2]
  wp_walk using wpAny_loadPart' hl1, wpAny_loadPart' hb1
  exact ⟨plainId_quiet plain_eq_loop _, codeAny_builtin entry_eq_loop (by
    rw [Around.under_plainId plain_eq_loop _]
    exact hrec)⟩
theorem list_neB (l b : Addr) (N : Nat) (rs : Nat → Bool) (out : Bool) (h1 : (∀ j, j < N → rs j = true) → out = false) (h2 : ∀ j, j < N → rs j = false → out = true) (I : Nat → Shared → Prop) (hl : ListB prog w A (fun e s' => R (.error e) s') l b N rs I)
    (fin : ∀ j s, I j s → R (.ok (.ret (.bool out))) s) {s : Shared} (h : I 0 s) :
    wpAny (model prog w) A.in1 (Builtin.«list.__ne__» ⟨[.ref l, .ref b], []⟩) (FinOf prog w A R) (fun e s' => R (.error e) s') s := by
  obtain ⟨items, items2, n, n2, hl1, hb1, hs1, hs2, _⟩ := hl _ _ h
  have hrec := loopB (A := A) (R := R) 3 (.inr rfl) l b N rs out h1 h2 I hl fin _ 0 rfl (Nat.zero_le _) (fun j hj => absurd hj (by omega)) s h
  obtain ⟨hp, g, d, tk, os⟩ := s
  have f3 := AutoSeq1.sub_list_list
  have hne : ¬ (items.size != items2.size) = true := by simp [hs1, hs2]
  wp_walk using wpAny_loadPart' hl1, wpAny_loadPart' hb1
  exact ⟨plainId_quiet plain_eq_loop _, codeAny_builtin entry_eq_loop (by
    rw [Around.under_plainId plain_eq_loop _]
    exact hrec)⟩
theorem list_eqD (l b : Addr) {items items2 : Array Value} {n n2 : Nat} {s : Shared} (hl1 : s.heap.get? l = some { cls := .type "list", data := .seq items n }) (hb1 : s.heap.get? b = some { cls := .type "list", data := .seq items2 n2 }) (hsz : items.size ≠ items2.size) (fin : R (.ok (.ret (.bool false))) s) :
    wpAny (model prog w) A.in1 (Builtin.«list.__eq__» ⟨[.ref l, .ref b], []⟩) (FinOf prog w A R) (fun e s' => R (.error e) s') s := by
  obtain ⟨hp, g, d, tk, os⟩ := s
  have f3 := AutoSeq1.sub_list_list
  have hne : (items.size != items2.size) = true := by simp [hsz]
  wp_walk using wpAny_loadPart' hl1, wpAny_loadPart' hb1
  exact fin
theorem list_neD (l b : Addr) {items items2 : Array Value} {n n2 : Nat} {s : Shared} (hl1 : s.heap.get? l = some { cls := .type "list", data := .seq items n }) (hb1 : s.heap.get? b = some { cls := .type "list", data := .seq items2 n2 }) (hsz : items.size ≠ items2.size) (fin : R (.ok (.ret (.bool true))) s) :
    wpAny (model prog w) A.in1 (Builtin.«list.__ne__» ⟨[.ref l, .ref b], []⟩) (FinOf prog w A R) (fun e s' => R (.error e) s') s := by
  obtain ⟨hp, g, d, tk, os⟩ := s
  have f3 := AutoSeq1.sub_list_list
  have hne : (items.size != items2.size) = true := by simp [hsz]
  wp_walk using wpAny_loadPart' hl1, wpAny_loadPart' hb1
  exact fin
end
section
variable {prog : Program} {w : World} {A : Around} {E : Value → Shared → Prop} {s : Shared}
theorem rc_eqB {l b : Addr} {N : Nat} {rs : Nat → Bool} {out : Bool} {Q : Value → Shared → Prop} (hu : A.units < cLine) (h1 : (∀ j, j < N → rs j = true) → out = true) (h2 : ∀ j, j < N → rs j = false → out = false) (I : Nat → Shared → Prop) (hl : ListB prog w A E l b N rs I)
    (fin : ∀ j s, I j s → Q (.bool out) s) (h : I 0 s) : wpAny (model prog w) A (richCompare .Eq (.ref l) (.ref b)) Q E s := by
  obtain ⟨items, items2, n, n2, hl1, hb1, _, _, _⟩ := hl _ _ h
  refine wpAny_richCompare_same_room (op := .Eq) ⟨_, hl1, rfl⟩ ⟨_, hb1, rfl⟩ F.slot_list_eq (call_here F.slot_list_eq ⟨_, hl1, rfl⟩ F.entry_list_eq (F.args_list_eq_2 _ _) ?_) hu
  exact list_eqB (R := wants (fun v s' => v ≠ .notImplemented ∧ Q v s') E) l b N rs out h1 h2 I hl (fun j s' q => ⟨(fun x => nomatch x), fin j s' q⟩) h
theorem rc_neB {l b : Addr} {N : Nat} {rs : Nat → Bool} {out : Bool} {Q : Value → Shared → Prop} (hu : A.units < cLine) (h1 : (∀ j, j < N → rs j = true) → out = false) (h2 : ∀ j, j < N → rs j = false → out = true) (I : Nat → Shared → Prop) (hl : ListB prog w A E l b N rs I)
    (fin : ∀ j s, I j s → Q (.bool out) s) (h : I 0 s) : wpAny (model prog w) A (richCompare .NotEq (.ref l) (.ref b)) Q E s := by
  obtain ⟨items, items2, n, n2, hl1, hb1, _, _, _⟩ := hl _ _ h
  refine wpAny_richCompare_same_room (op := .NotEq) ⟨_, hl1, rfl⟩ ⟨_, hb1, rfl⟩ F.slot_list_ne (call_here F.slot_list_ne ⟨_, hl1, rfl⟩ F.entry_list_ne (F.args_list_ne_2 _ _) ?_) hu
  exact list_neB (R := wants (fun v s' => v ≠ .notImplemented ∧ Q v s') E) l b N rs out h1 h2 I hl (fun j s' q => ⟨(fun x => nomatch x), fin j s' q⟩) h
theorem rc_eqD {l b : Addr} {items items2 : Array Value} {n n2 : Nat} {Q : Value → Shared → Prop} (hu : A.units < cLine) (hl1 : s.heap.get? l = some { cls := .type "list", data := .seq items n }) (hb1 : s.heap.get? b = some { cls := .type "list", data := .seq items2 n2 }) (hsz : items.size ≠ items2.size) (fin : Q (.bool false) s) :
    wpAny (model prog w) A (richCompare .Eq (.ref l) (.ref b)) Q E s := by
  refine wpAny_richCompare_same_room (op := .Eq) ⟨_, hl1, rfl⟩ ⟨_, hb1, rfl⟩ F.slot_list_eq (call_here F.slot_list_eq ⟨_, hl1, rfl⟩ F.entry_list_eq (F.args_list_eq_2 _ _) ?_) hu
  exact list_eqD (R := wants (fun v s' => v ≠ .notImplemented ∧ Q v s') E) l b hl1 hb1 hsz ⟨(fun x => nomatch x), fin⟩
theorem rc_neD {l b : Addr} {items items2 : Array Value} {n n2 : Nat} {Q : Value → Shared → Prop} (hu : A.units < cLine) (hl1 : s.heap.get? l = some { cls := .type "list", data := .seq items n }) (hb1 : s.heap.get? b = some { cls := .type "list", data := .seq items2 n2 }) (hsz : items.size ≠ items2.size) (fin : Q (.bool true) s) :
    wpAny (model prog w) A (richCompare .NotEq (.ref l) (.ref b)) Q E s := by
  refine wpAny_richCompare_same_room (op := .NotEq) ⟨_, hl1, rfl⟩ ⟨_, hb1, rfl⟩ F.slot_list_ne (call_here F.slot_list_ne ⟨_, hl1, rfl⟩ F.entry_list_ne (F.args_list_ne_2 _ _) ?_) hu
  exact list_neD (R := wants (fun v s' => v ≠ .notImplemented ∧ Q v s') E) l b hl1 hb1 hsz ⟨(fun x => nomatch x), fin⟩
end
end GB
namespace Dl
open PySem L2
section
variable {K : PySem.W.Frag} {m : Nat → Addr} {S : Sto} {Z : Addr → Prop} {H H' : Hp}
/-- all but the tables stay -/
structure ExtT (K : PySem.W.Frag) (H H' : Hp) : Prop where
  keep : ∀ a o, H a = some o → (∀ ps, o ≠ .tbl ps) → H' a = some o
  t : ∀ c P q, (c, P, q) ∈ tabsOf K → LamX.TabS H' P q
  n : ∀ P ps, H' P = some (.tbl ps) → Marked K P
theorem ExtT.refl (w : Wd0 K m S Z H) : ExtT K H H := ⟨fun _ _ h _ => h, w.tb.t, w.tb.n⟩
theorem ExtT.trans {H1 H2 H3 : Hp} (a : ExtT K H1 H2) (b : ExtT K H2 H3) : ExtT K H1 H3 := ⟨fun x o h n => b.keep x o (a.keep x o h n) n, b.t, b.n⟩
theorem Ext.all {m' : Nat → Addr} {n : Nat} {Zd : Addr → Prop} {S1 : Sto} (hS : S1 = List.replicate n none) (w : Wd0 K m' S1 Zd H') (e : Ext m (List.replicate n none) Zd H m' S1 H') : ExtT K H H' := by
  refine ⟨fun a o h nt => ?_, w.tb.t, w.tb.n⟩
  by_cases z : Zd a
  · rw [e.zed a z (fun ps q => nt ps (Option.some.inj (h.symm.trans q)))]; exact h
  · refine vis_sub (e.vis a o (vis_of h z fun i l => ?_))
    obtain ⟨u, hu⟩ := l
    rw [List.getElem?_replicate] at hu
    split at hu <;> cases hu
end
section
variable {X : Cx} {C : Addr} {qual : Str} {st : Stmt} {dvs : List V} {k : Nat} {ps : List Str} {dsp : DSp}
def lstOf (S : Sto) : D → Option (List D)
  | .lst ds => some ds
  | .loc n => match S[n]? with
    | some (some (.lst ds)) => some ds
    | _ => none
  | _ => none
theorem lstOf_rep {K : PySem.W.Frag} {m : Nat → Addr} {S : Sto} {Z : Addr → Prop} {H : Hp} {d : D} {v : V} {ds : List D} (w : Wd K U m S Z H) (r : Rep K m S.length (vis m S Z H) d v) (h : lstOf S d = some ds) : ∃ a vs, v = .ref a ∧ H a = some (.lst vs) ∧ Reps K m S.length (vis m S Z H) ds vs := by
  cases d with
  | lst ds' => cases h; rw [Rep] at r; obtain ⟨a, vs, e, h1, h2⟩ := r; exact ⟨a, vs, e, vis_sub h1, h2⟩
  | loc n =>
    rw [Rep] at r
    rw [lstOf] at h
    split at h
    · rename_i q; cases h; obtain ⟨vs, h1, h2⟩ := w.rep n _ q; exact ⟨m n, vs, r.1, h1, h2⟩
    · cases h
  | non => cases h
  | bl _ => cases h
  | int _ => cases h
  | str _ => cases h
  | tup _ => cases h
  | ksq _ => cases h
  | obj _ _ _ => cases h
  | dic _ _ => cases h
  | ref _ => cases h
  | ty _ => cases h
  | exc _ _ _ => cases h
end
def aRev (fz : Bool) : R1D := fun d S q => ∃ ds, seqOf S d = some ds ∧ d.isTup = false ∧ newL fz ds.reverse S q
def gRev (fz : Bool) (ge : G D) : G D := fun ρ S q => ge ρ S fun d S1 => aRev fz d S1 q
section
variable {X : Cx} {ge : G D} {e : Expr} {ga : G (List D)}
theorem d_revL {k : Nat} {p1 p2 p3 pos : Pos} (fz : Bool) (he : PE X e (tofE X.K U ge)) : PE X (.Subscript e (.Slice none none (some (.UnaryOp .USub (.Constant (.int 1) k p1) p2)) p3) pos) (tofE X.K U (gRev fz ge)) :=
  weakE (pe_revL he) fun σ H Q ⟨m, S, Z, ρ, q, w, rs, h, k⟩ => tof_in w rs h fun v1 H1 m1 d1 S1 e1 w1 r1 ⟨ds, h1, h2, h3⟩ => by
    obtain ⟨a, vs, ev, hr, ht, hl⟩ := seqOf_rep w1 r1 h1
    exact ⟨a, vs, ev, hl h2, fun p hp => out_newL w1 hr.rev h3 (k.ext e1) hp⟩
end
def aPar3 (i j l : Nat) (ρ : Env_) (k : Env_ → Sto → Prop) (as : List D) (S1 : Sto) : Prop := ∃ v u z, as = [v, u, z] ∧ k (((ρ.set i (some v)).set j (some u)).set l (some z)) S1
theorem x_par3 {i j l : Nat} {ga : G (List D)} {E : DE} {ρ : Env_} {S : Sto} : gPar3 i j l ga E ρ S = ga ρ S fun as S1 => aPar3 i j l ρ E.nx as S1 := rfl
theorem x_par33 {i j l : Nat} {k : Env_ → Sto → Prop} {ρ : Env_} {S : Sto} {v u z : D} : aPar3 i j l ρ k [v, u, z] S ↔ k (((ρ.set i (some v)).set j (some u)).set l (some z)) S := by
  constructor
  · rintro ⟨_, _, _, e, h⟩; cases e; exact h
  · exact fun h => ⟨v, u, z, rfl, h⟩
section
variable {X : Cx} {ga : G (List D)} {a b : Expr}
def aLenR : RND := fun as S1 q => ∃ i j : Int, as = [.int i, .int j] ∧ j - i < 2 ^ 62 ∧ q (.int (max 0 (j - i))) S1
def gLenR (ga : G (List D)) : G D := fun ρ S q => ga ρ S fun as S1 => ∃ i j : Int, as = [.int i, .int j] ∧ j - i < 2 ^ 62 ∧ q (.int (max 0 (j - i))) S1
theorem x_lenrI {S : Sto} {q : D → Sto → Prop} {i j : Int} : aLenR [.int i, .int j] S q ↔ j - i < 2 ^ 62 ∧ q (.int (max 0 (j - i))) S := by
  constructor
  · rintro ⟨_, _, e, h⟩; cases e; exact h
  · exact fun h => ⟨i, j, rfl, h⟩
theorem x_lenr {ρ : Env_} {S : Sto} {q : D → Sto → Prop} : gLenR ga ρ S q = ga ρ S fun as S1 => aLenR as S1 q := rfl
end
end Dl
namespace Dl
open PySem L2
section
variable {S0 S T : Sto} {ds : List D} {q : D → Sto → Prop} {c : Sto → Prop} {d v : D} {k : QI} {i : Int} {n : Nat}
theorem x_ixE : aIx (.loc S0.length) (.int i) (S0 ++ [some (.lst ds)]) q ↔ ∃ e, atI ds i = some e ∧ q e (S0 ++ [some (.lst ds)]) := by
  unfold aIx
  have e0 : seqOf (S0 ++ [some (.lst ds)]) (.loc S0.length) = some ds := by simp [seqOf]
  constructor
  · rintro ⟨_, e1, xs, z, e2, e3, h⟩; cases e1; rw [e0] at e2; cases e2; exact ⟨z, e3, h⟩
  · rintro ⟨z, e3, h⟩; exact ⟨_, rfl, ds, z, e0, e3, h⟩
theorem ixN_last {n : Nat} (h : 0 < n) : ixN n (-1) = some (n - 1) := by
  unfold ixN
  rw [if_neg (by omega), if_pos (by omega)]
  exact congrArg some (by omega)
theorem at_last {A : Type} {xs : List A} : atI xs (-1) = xs.getLast? := by
  unfold atI
  rw [List.getLast?_eq_getElem?]
  by_cases h : 0 < xs.length
  · rw [ixN_last h]; rfl
  · have : xs = [] := List.eq_nil_of_length_eq_zero (by omega)
    subst this
    rfl
theorem x_setE (h : ixN ds.length i = some n) : aSetIx (.loc S0.length) (.int i) v (S0 ++ [some (.lst ds)]) c ↔ c (S0 ++ [some (.lst (ds.set n v))]) := by
  constructor
  · rintro ⟨_, _, _, _, e1, e2, e3, e4, h1⟩
    cases e1; cases e2
    rw [snoc_get] at e3
    cases e3
    rw [h] at e4
    cases e4
    rw [snoc_set] at h1
    exact h1
  · exact fun h1 => ⟨_, ds, i, n, rfl, rfl, snoc_get, h, by rw [snoc_set]; exact h1⟩
theorem x_appE : aAppend (.loc S0.length) [d] (S0 ++ [some (.lst ds)]) q ↔ ds.length < sizeLine ∧ q .non (S0 ++ [some (.lst (ds ++ [d]))]) := by
  rw [x_app snoc_get, snoc_set]
theorem x_tyE : isTy "list" (S0 ++ [some (.lst ds)]) (.loc S0.length) = true := x_tyO snoc_get
theorem x_itE : aIt (.loc S0.length) (S0 ++ [some (.lst ds)]) k ↔ k ds (fun S' => seqOf S' (.loc S0.length) = some ds) (S0 ++ [some (.lst ds)]) := x_itO (by simp [seqOf])
theorem x_lenE : aLen (.loc S0.length) (S0 ++ [some (.lst ds)]) q ↔ q (.int ds.length) (S0 ++ [some (.lst ds)]) := x_lenL (by simp [seqOf])
theorem take_snoc : (S0 ++ T).take S0.length = S0 := by simp
/-- what a def gives back -/
theorem x_finE (hS : Sto.under S0.length S0 = true) : fin S0.length q (.loc S0.length) (S0 ++ [some (.lst ds)]) ↔ D.unders S0.length ds = true ∧ q (.lst ds) S0 := by
  unfold fin
  rw [take_snoc]
  simp [hS]
theorem x_finL (hS : Sto.under S0.length S0 = true) : fin S0.length q (.lst ds) (S0 ++ T) ↔ D.unders S0.length ds = true ∧ q (.lst ds) S0 := by
  unfold fin
  rw [take_snoc]
  simp [hS, D.under]
end
abbrev Pr := Int × Int
abbrev pD (p : Pr) : D := .tup [.int p.1, .int p.2]
abbrev pY (p : Pr) : PyData := .tuple [.int p.1, .int p.2]
theorem toPys_pr : ∀ P : List Pr, toPys (P.map pD) = some (P.map pY)
  | [] => by simp [toPys]
  | p :: P => by simp [toPys, toPy, toPys_pr P]
theorem toPy_pr (P : List Pr) : toPy (.lst (P.map pD)) = some (.list (P.map pY)) := by rw [toPy, toPys_pr]; rfl
theorem can_pr : ∀ P : List Pr, PyData.canLayAll0 (P.map pY) = true
  | [] => by simp [PyData.canLayAll0]
  | p :: P => by simp [PyData.canLayAll0, PyData.canLay0, can_pr P]
theorem dep_pr : ∀ P : List Pr, PyData.depthAll (P.map pY) ≤ 1
  | [] => by simp [PyData.depthAll]
  | p :: P => by
    have := dep_pr P
    simp [PyData.depthAll, PyData.depth]
    omega
theorem sh_pr (P : List Pr) : SeqAt.shaped (.list (P.map pY)) = true := by
  have := dep_pr P
  simp [SeqAt.shaped, PyData.canLay0, PyData.depth, can_pr]
  omega
theorem eqv_pr : ∀ P R : List Pr, PyData.eqvAll (P.map pY) (R.map pY) = decide (P = R)
  | [], [] => by simp [PyData.eqvAll]
  | [], m :: ms => by simp [PyData.eqvAll]
  | n :: ns, [] => by simp [PyData.eqvAll]
  | n :: ns, m :: ms => by
    obtain ⟨a, b⟩ := n
    obtain ⟨c, d⟩ := m
    simp only [List.map_cons, PyData.eqvAll, PyData.eqv, eqv_pr ns ms, List.cons.injEq, Prod.mk.injEq, Bool.and_true]
    rw [show (a == c) = decide (a = c) from rfl, show (b == d) = decide (b = d) from rfl, ← Bool.decide_and, ← Bool.decide_and]
section
variable {S S0 : Sto} {q : D → Sto → Prop} {P R : List Pr}
theorem x_nePr : aNe (.lst (P.map pD)) (.lst (R.map pD)) S q ↔ q (.bl (decide (P ≠ R))) S := by
  rw [x_ne (p := .list (P.map pY)) (p' := .list (R.map pY)) (show toPyS S (.lst (P.map pD)) = _ from toPy_pr P) (show toPyS S (.lst (R.map pD)) = _ from toPy_pr R)]
  simp only [sh_pr, true_and, PyData.eqv, eqv_pr, ← decide_not, ne_eq]
theorem x_eqPr : aEq (.lst (P.map pD)) (.lst (R.map pD)) S q ↔ q (.bl (decide (P = R))) S := by
  rw [x_eq (p := .list (P.map pY)) (p' := .list (R.map pY)) (show toPyS S (.lst (P.map pD)) = _ from toPy_pr P) (show toPyS S (.lst (R.map pD)) = _ from toPy_pr R)]
  simp only [sh_pr, true_and, PyData.eqv, eqv_pr]
theorem x_neE : aNe (.loc S0.length) (.lst []) (S0 ++ [some (.lst (P.map pD))]) q ↔ q (.bl (decide (P ≠ []))) (S0 ++ [some (.lst (P.map pD))]) := by
  rw [x_ne (p := .list (P.map pY)) (p' := .list (([] : List Pr).map pY)) (by simp [toPyS, toPys_pr]) (by simp [toPyS, toPy, toPys])]
  simp only [sh_pr, true_and, PyData.eqv, eqv_pr, ← decide_not, ne_eq]
end
/-- a comprehension over a list known as a map -/
theorem lc_on {A : Type} {F : A → D} (g1 : A → Option D) {L : List A} {S : Sto} {chk : Sto → Prop} {ρ : Env_} {t : Tgt} {gt : G Bool} {ge : G D} {vs : List Nat} {fz : Bool} {q : D → Sto → Prop} (hchk : chk S) (hlen : L.length ≤ sizeLine)
    (step : ∀ x ∈ L, ∀ (acc : List D) (R : List D → Sto → Prop), acc.length < sizeLine → R (acc ++ (g1 x).toList) S →
      ∃ ρ', t.bind (F x) (wipeD ρ vs) = some ρ' ∧ gt ρ' S fun b S2 => if b = true then ge ρ' S2 fun y S3 => acc.length < sizeLine ∧ R (acc ++ [y]) S3 else R acc S2)
    (h : newL fz (L.filterMap g1) S q) : aLc fz t gt ge vs ρ (L.map F) chk S q := by
  refine ⟨fun i acc S' => S' = S ∧ acc = (L.take i).filterMap g1, ⟨rfl, by simp⟩, ?_, ?_⟩
  · rintro i d acc S' hd ⟨rfl, rfl⟩
    rw [List.getElem?_map] at hd
    obtain ⟨x, hx, rfl⟩ := Option.map_eq_some_iff.mp hd
    have hi : i < L.length := (List.getElem?_eq_some_iff.mp hx).1
    have htake : L.take (i + 1) = L.take i ++ [x] := by rw [List.take_add_one, hx]; rfl
    refine ⟨hchk, step x (List.mem_of_getElem? hx) _ (fun acc S'' => S'' = S' ∧ acc = (L.take (i + 1)).filterMap g1) ?_ ⟨rfl, ?_⟩⟩
    · have := List.length_filterMap_le g1 (L.take i)
      rw [List.length_take] at this
      omega
    · rw [htake, List.filterMap_append, List.filterMap_cons]
      cases g1 x <;> simp
  · rintro acc S' ⟨rfl, rfl⟩
    rw [List.length_map, List.take_length]
    exact ⟨hchk, h⟩
theorem fm_some {A B : Type} {g : A → B} {L : List A} : L.filterMap (fun a => some (g a)) = L.map g := by rw [List.filterMap_eq_map']
theorem fm_if {A B : Type} {g : A → B} {p : A → Prop} [DecidablePred p] : ∀ {L : List A}, L.filterMap (fun a => if p a then some (g a) else none) = (L.filter fun a => decide (p a)).map g
  | [] => rfl
  | a :: L => by
    rw [List.filterMap_cons, fm_if (L := L)]
    by_cases h : p a
    · rw [if_pos h, List.filter_cons_of_pos (by simpa using h)]; rfl
    · rw [if_neg h, List.filter_cons_of_neg (by simpa using h)]
theorem x_b2 {ρ : Env_} {i j : Nat} {d e : D} : Tgt.bind (.tp [.nm i, .nm j]) (.tup [d, e]) ρ = some ((ρ.set i (some d)).set j (some e)) := by
  rw [x_btp, x_bc, x_bnm]
  show Tgt.binds [.nm j] [e] _ = _
  rw [x_bc, x_bnm]
  show Tgt.binds [] [] _ = _
  rw [x_bn]
theorem enum_get {ds : List D} {i : Nat} {d : D} (h : (enumD ds)[i]? = some d) : ∃ e, ds[i]? = some e ∧ d = .tup [.int (i : Nat), e] := by
  unfold enumD at h
  rw [List.getElem?_map, List.getElem?_zipIdx] at h
  cases hx : ds[i]? with
  | none => rw [hx] at h; cases h
  | some e =>
    rw [hx] at h
    refine ⟨e, rfl, ?_⟩
    have := Option.some.inj h
    rw [← this]
    simp
theorem enum_len {ds : List D} : (enumD ds).length = ds.length := by unfold enumD; simp
theorem x_addLL {fz : Bool} {S : Sto} {q : D → Sto → Prop} {xs ys : List D} : aAdd fz (.lst xs) (.lst ys) S q ↔ xs.length + ys.length ≤ sizeLine ∧ newL fz (xs ++ ys) S q := by
  constructor
  · rintro ⟨_, _, e1, e2, h⟩; cases e1; cases e2; exact h
  · exact fun h => ⟨xs, ys, rfl, rfl, h⟩
end Dl
namespace Dl
open PySem L2 PyProof.Rows
theorem roomCaller {k : Nat} (h : Room k callerA) : RoomG k callerA := ⟨h, rfl⟩
end Dl
namespace Dl
open PySem L2
/-- a depth that fits -/
def rRepr (K : PySem.W.Frag) : List V → Hp → VK → Prop := fun vs H Q => ∃ (x : V) (p : PyData), vs = [x] ∧ Dp K H x p ∧ p.showable = true ∧ p.hasDict = false ∧ p.depth ≤ 60 ∧ p.shown.length ≤ sizeLine ∧ Q (.str p.shown) H
theorem cr_repr {X : Cx} {k : Nat} (hr : RoomG k X.A) : CallR X (.builtin "repr") (rRepr X.K) := by
  intro pins s σ H vs us Q I r h
  obtain ⟨x, p, rfl, hp, hs, hd, hdep, hz, q⟩ := h
  obtain ⟨u, rfl, ru⟩ := vals1 r
  have un := hr.units
  cases hp with
  | non =>
    obtain rfl : u = Value.none := ru
    rw [PyData.shown] at q
    exact PySem.P.repr_of_none ⟨.str _, H, I.tok _, ⟨_, rfl⟩, q⟩
  | bl b =>
    obtain rfl : u = Value.bool b := ru
    rw [PyData.shown] at q
    exact PySem.P.repr_of_bool ⟨.str _, H, I.tok _, ⟨_, rfl⟩, q⟩
  | int i =>
    obtain ⟨t, rfl⟩ := ru
    rw [PyData.shown] at q
    rw [PyData.showable, decide_eq_true_eq] at hs
    exact PySem.P.repr_of_int hs ⟨.str _, H, I.tok _, ⟨_, rfl⟩, q⟩
  | str z =>
    obtain ⟨t, rfl⟩ := ru
    rw [PyData.shown] at q hz
    exact PySem.P.repr_of_str ⟨.str _, H, I.tok _, ⟨_, rfl⟩, q⟩ hz
  | lst h1 h2 =>
    rename_i a xs ps
    obtain ⟨as, rd⟩ := Dp.reads I _ _ _ (Dp.lst h1 h2) ru
    obtain rfl : u = Value.ref a := ru
    exact PySem.repr_of_reads' rd hs (PySem.PyData.noDict_hsm hd) hr.gd (by omega) (fun _ _ e => e) (fun h' u tk hk => ⟨.str _, H, I.kept hk, ⟨_, rfl⟩, q⟩) hz
  | tup h1 h2 =>
    rename_i a xs ps
    obtain ⟨as, rd⟩ := Dp.reads I _ _ _ (Dp.tup h1 h2) ru
    obtain rfl : u = Value.ref a := ru
    exact PySem.repr_of_reads' rd hs (PySem.PyData.noDict_hsm hd) hr.gd (by omega) (fun _ _ e => e) (fun h' u tk hk => ⟨.str _, H, I.kept hk, ⟨_, rfl⟩, q⟩) hz
def aRepr : R1D := fun d S q => ∃ p, toPyS S d = some p ∧ p.showable = true ∧ p.hasDict = false ∧ p.depth ≤ 60 ∧ p.shown.length ≤ sizeLine ∧ q (.str p.shown) S
theorem vr_repr {K : PySem.W.Frag} : VRN K (rRepr K) (a1 aRepr) := vrn1 fun {_ m S Z H d v q Q} w r ⟨p, h1, h2, h3, h4, h5, h6⟩ k => ⟨v, p, rfl, dpS_of w r h1, h2, h3, h4, h5, k.now w rep_str h6⟩
theorem x_repr {S : Sto} {q : D → Sto → Prop} {d : D} {p : PyData} (h : toPyS S d = some p) : aRepr d S q ↔ p.showable = true ∧ p.hasDict = false ∧ p.depth ≤ 60 ∧ p.shown.length ≤ sizeLine ∧ q (.str p.shown) S := by
  unfold aRepr
  rw [h]
  constructor
  · rintro ⟨_, e, r⟩; cases e; exact r
  · exact fun r => ⟨_, rfl, r⟩
theorem piled_le {M : Nat} : ∀ {ts : List Str}, (∀ t ∈ ts, t.length ≤ M) → piled ts ≤ (M + 2) * ts.length
  | [], _ => Nat.zero_le _
  | t :: r, h => by
    have h1 := h t (List.mem_cons_self ..)
    have h2 := piled_le (M := M) (ts := r) fun u hu => h u (List.mem_cons_of_mem _ hu)
    rw [piled_cons, List.length_cons, Nat.mul_add]
    omega
theorem listText_le (ts : List Str) : (listText ts).length ≤ piled ts + 2 := by
  cases ts with
  | nil => exact Nat.le_of_eq rfl
  | cons t r =>
    have h := textFrom_length_pos r 1 (("[" : Str) ++ (if (0 : Nat) > 0 then ", " else "" : String) ++ t) (Nat.succ_pos 0)
    have e1 : (listText (t :: r)).length = (textFrom 1 (("[" : Str) ++ (if (0 : Nat) > 0 then ", " else "" : String) ++ t) r).length + 1 := strLen_append _ _
    have e2 : ((("[" : Str) ++ (if (0 : Nat) > 0 then ", " else "" : String) ++ t)).length = 1 + t.length := by
      rw [strLen_append, strLen_append]
      exact congrArg (· + t.length) (show 1 + 0 = 1 from rfl)
    rw [e1, h, e2, piled_cons]
    omega
theorem tupleText_le (ts : List Str) : (tupleText ts).length ≤ piled ts + 3 := by
  unfold tupleText
  rw [strLen_append, strLen_append]
  have e1 : ((("(" : String) : Str)).length = 1 := rfl
  have e2 : (((if ts.length == 1 then ",)" else ")" : String) : Str)).length ≤ 2 := by split <;> decide
  rw [e1]
  by_cases h : ts = []
  · subst h
    have : (Str.join ", " []).length = 0 := rfl
    rw [this, piled_nil]
    omega
  · have := join_length_add ts h
    omega
theorem shownAll_map : ∀ ps : List PyData, PyData.shownAll ps = ps.map PyData.shown
  | [] => by rw [PyData.shownAll]; rfl
  | p :: ps => by rw [PyData.shownAll, shownAll_map ps]; rfl
theorem shown_list {ps : List PyData} {M : Nat} (h : ∀ p ∈ ps, p.shown.length ≤ M) : (PyData.list ps).shown.length ≤ (M + 2) * ps.length + 2 := by
  rw [PyData.shown, shownAll_map]
  refine Nat.le_trans (listText_le _) (Nat.add_le_add_right ?_ 2)
  have := piled_le (M := M) (ts := ps.map PyData.shown) fun t ht => by
    obtain ⟨p, hp, rfl⟩ := List.mem_map.mp ht
    exact h p hp
  rwa [List.length_map] at this
theorem shown_tuple {ps : List PyData} {M : Nat} (h : ∀ p ∈ ps, p.shown.length ≤ M) : (PyData.tuple ps).shown.length ≤ (M + 2) * ps.length + 3 := by
  rw [PyData.shown, shownAll_map]
  refine Nat.le_trans (tupleText_le _) (Nat.add_le_add_right ?_ 3)
  have := piled_le (M := M) (ts := ps.map PyData.shown) fun t ht => by
    obtain ⟨p, hp, rfl⟩ := List.mem_map.mp ht
    exact h p hp
  rwa [List.length_map] at this
theorem shown_str {x : Str} {M : Nat} (h : PyData.strOk x = true) (hl : x.length ≤ M) : (PyData.str x).shown.length ≤ 10 * M + 2 := by
  rw [PyData.shown]
  refine Nat.le_trans (StrLaws.reprText_len x fun c hc => ?_) (by omega)
  unfold PyData.strOk at h
  rw [← Array.all_toList, List.all_eq_true] at h
  have h1 := h c hc
  simp only [decide_eq_true_eq] at h1
  exact Nat.lt_of_lt_of_le h1 (by decide)
end Dl
namespace Dl
open PySem L2
def kget : List (Str × Str) → Str → D
  | [], _ => .non
  | p :: r, z => if z = p.1 then .str p.2 else kget r z
def aKGet (a : Addr) (kvs : List (Str × Str)) : D → RND := fun o as S q => ∃ z, o = .ref a ∧ as = [.str z] ∧ q (kget kvs z) S
def gKGet (a : Addr) (kvs : List (Str × Str)) (gs : G (List D)) : G D := fun ρ S q => gs ρ S fun as S1 => aKGet a kvs (.ref a) as S1 q
theorem x_kget {a : Addr} {kvs : List (Str × Str)} {z : Str} {S : Sto} {q : D → Sto → Prop} : aKGet a kvs (.ref a) [.str z] S q ↔ q (kget kvs z) S := ⟨fun ⟨_, _, e, h⟩ => by cases e; exact h, fun h => ⟨z, rfl, rfl, h⟩⟩
def aEqS : R2D := fun a b S q => ∃ x y, a = .str x ∧ b = .str y ∧ q (.bl (decide (x = y))) S
def aNeS : R2D := fun a b S q => ∃ x y, a = .str x ∧ b = .str y ∧ q (.bl (decide (x ≠ y))) S
theorem dec_str {x y : Str} : decide (V.str x = V.str y) = decide (x = y) := decide_eq_decide.mpr ⟨fun h => V.str.inj h, fun h => by rw [h]⟩
theorem vr_neSS {K : PySem.W.Frag} : VR2 K L2.rNe aNeS := fun {_ m S Z H a b v u q Q} w r1 r2 ⟨x, y, e1, e2, h⟩ k => by
  subst e1 e2
  rw [Rep] at r1 r2
  subst r1 r2
  refine ⟨rfl, ?_⟩
  have e : (!decide (V.str x = V.str y)) = decide (x ≠ y) := by rw [dec_str, decide_not]
  first
    | (rw [e]; exact k.now w rep_bl h)
    | (rw [decide_not, dec_str, ← decide_not]; exact k.now w rep_bl h)
theorem x_eqSS {x y : Str} {S : Sto} {q : D → Sto → Prop} : aEqS (.str x) (.str y) S q ↔ q (.bl (decide (x = y))) S := ⟨fun ⟨_, _, e1, e2, h⟩ => by cases e1; cases e2; exact h, fun h => ⟨_, _, rfl, rfl, h⟩⟩
theorem x_neSS {x y : Str} {S : Sto} {q : D → Sto → Prop} : aNeS (.str x) (.str y) S q ↔ q (.bl (decide (x ≠ y))) S := ⟨fun ⟨_, _, e1, e2, h⟩ => by cases e1; cases e2; exact h, fun h => ⟨_, _, rfl, rfl, h⟩⟩
end Dl
namespace Dl
open PySem L2 PyProof.Rows
def toKey : D → Option Key
  | .int i => some (.inl i)
  | .str x => some (.inr x)
  | _ => none
def kD : Key → D
  | .inl i => .int i
  | .inr x => .str x
theorem rep_key {K : PySem.W.Frag} {m : Nat → Addr} {N : Nat} {Hv : Hp} {d : D} {v : V} {k : Key} (r : Rep K m N Hv d v) (h : toKey d = some k) : v = kV k := by
  cases d with
  | int i => cases h; rw [Rep] at r; exact r
  | str x => cases h; rw [Rep] at r; exact r
  | _ => cases h
theorem rep_kD {K : PySem.W.Frag} {m : Nat → Addr} {N : Nat} {Hv : Hp} (k : Key) : Rep K m N Hv (kD k) (kV k) := by
  cases k with
  | inl i => exact rep_int
  | inr x => exact rep_str
/-- keys and values, one put -/
def kput (k : Key) (ks : List Key) : List Key := if (ks.any fun j => decide (j = k)) = true then ks else ks ++ [k]
def dput {A : Type} (k : Key) (y : A) (ks : List Key) (ds : List A) : List A := if (ks.any fun j => decide (j = k)) = true then List.zipWith (fun j d => if j = k then y else d) ks ds else ds ++ [y]
def dget {A : Type} (k : Key) (ks : List Key) (ds : List A) : Option A := ((ks.zip ds).find? fun kv => decide (kv.1 = k)).map (·.2)
theorem zip_any {A : Type} (k : Key) : ∀ {ks : List Key} {vs : List A}, ks.length = vs.length → ((ks.zip vs).any fun kv => decide (kv.1 = k)) = ks.any fun j => decide (j = k)
  | [], [], _ => rfl
  | j :: ks, v :: vs, h => by rw [List.zip_cons_cons, List.any_cons, List.any_cons, zip_any k (by simpa using h)]
  | [], _ :: _, h => by simp at h
  | _ :: _, [], h => by simp at h
theorem zip_mapk {A : Type} (k : Key) (y : A) : ∀ {ks : List Key} {vs : List A}, (ks.zip vs).map (fun kv => if kv.1 = k then (kv.1, y) else kv) = ks.zip (List.zipWith (fun j d => if j = k then y else d) ks vs)
  | [], _ => rfl
  | _ :: _, [] => rfl
  | j :: ks, v :: vs => by
    rw [List.zip_cons_cons, List.map_cons, zip_mapk k y, List.zipWith_cons_cons, List.zip_cons_cons]
    by_cases e : j = k
    · simp [e]
    · simp [e]
theorem putK_zip {k : Key} {y : V} {ks : List Key} {vs : List V} (h : ks.length = vs.length) : L2.putK (ks.zip vs) k y = (kput k ks).zip (dput k y ks vs) := by
  unfold L2.putK kput dput
  rw [zip_any k h]
  by_cases e : (ks.any fun j => decide (j = k)) = true
  · rw [if_pos e, if_pos e, if_pos e, zip_mapk]
  · rw [if_neg e, if_neg e, if_neg e, List.zip_append h]
    rfl
theorem put_len {A : Type} {k : Key} {y : A} {ks : List Key} {vs : List A} (h : ks.length = vs.length) : (kput k ks).length = (dput k y ks vs).length := by
  unfold kput dput
  split
  · simp [h]
  · simp [h]
theorem reps_zipW {K : PySem.W.Frag} {m : Nat → Addr} {N : Nat} {Hv : Hp} {k : Key} {y : D} {v : V} (ry : Rep K m N Hv y v) : ∀ {ks : List Key} {ds : List D} {vs : List V}, Reps K m N Hv ds vs →
    Reps K m N Hv (List.zipWith (fun j d => if j = k then y else d) ks ds) (List.zipWith (fun j d => if j = k then v else d) ks vs)
  | [], _, _, _ => by simp only [List.zipWith_nil_left]; exact reps_nil
  | _ :: _, [], vs, r => by rw [Reps] at r; subst r; exact reps_nil
  | j :: ks, d :: ds, _, r => by
    rw [Reps] at r
    obtain ⟨u, us, rfl, r1, r2⟩ := r
    rw [List.zipWith_cons_cons, List.zipWith_cons_cons]
    refine Reps.cons ?_ (reps_zipW ry r2)
    by_cases e : j = k
    · rw [if_pos e, if_pos e]; exact ry
    · rw [if_neg e, if_neg e]; exact r1
theorem reps_put {K : PySem.W.Frag} {m : Nat → Addr} {N : Nat} {Hv : Hp} {k : Key} {y : D} {v : V} {ks : List Key} {ds : List D} {vs : List V} (ry : Rep K m N Hv y v) (r : Reps K m N Hv ds vs) : Reps K m N Hv (dput k y ks ds) (dput k v ks vs) := by
  unfold dput
  split
  · exact reps_zipW ry r
  · exact r.append (Reps.one ry)
theorem reps_dget {K : PySem.W.Frag} {m : Nat → Addr} {N : Nat} {Hv : Hp} {k : Key} : ∀ {ks : List Key} {ds : List D} {vs : List V}, Reps K m N Hv ds vs → (dget k ks ds = none ∧ valV (ks.zip vs) k = none) ∨ ∃ d v, dget k ks ds = some d ∧ valV (ks.zip vs) k = some v ∧ Rep K m N Hv d v
  | [], _, _, _ => .inl ⟨rfl, rfl⟩
  | _ :: _, [], vs, r => by rw [Reps] at r; subst r; exact .inl ⟨rfl, rfl⟩
  | j :: ks, d :: ds, _, r => by
    rw [Reps] at r
    obtain ⟨u, us, rfl, r1, r2⟩ := r
    by_cases e : j = k
    · exact .inr ⟨d, u, by simp [dget, e], by simp [valV, e], r1⟩
    · have h1 : dget k (j :: ks) (d :: ds) = dget k ks ds := by simp [dget, e]
      have h2 : valV ((j :: ks).zip (u :: us)) k = valV (ks.zip us) k := by simp [valV, e]
      rw [h1, h2]
      exact reps_dget r2
def dicOf (S : Sto) : D → Option (List Key × List D)
  | .dic ks ds => some (ks, ds)
  | .loc n => match S[n]? with
    | some (some (.dic ks ds)) => some (ks, ds)
    | _ => none
  | _ => none
theorem dicOf_rep {K : PySem.W.Frag} {U : Wi} {m : Nat → Addr} {S : Sto} {Z : Addr → Prop} {H : Hp} {d : D} {v : V} {ks : List Key} {ds : List D} (w : Wd K U m S Z H) (r : Rep K m S.length (vis m S Z H) d v) (h : dicOf S d = some (ks, ds)) :
    ∃ a vs, v = .ref a ∧ H a = some (.dK (ks.zip vs)) ∧ ks.length = vs.length ∧ Reps K m S.length (vis m S Z H) ds vs := by
  cases d with
  | dic ks' ds' =>
    cases h
    rw [Rep] at r
    obtain ⟨a, vs, e, h1, h2, h3⟩ := r
    exact ⟨a, vs, e, vis_sub h1, h2, h3⟩
  | loc n =>
    rw [Rep] at r
    rw [dicOf] at h
    cases hS : S[n]? with
    | none => rw [hS] at h; cases h
    | some o =>
      cases o with
      | none => rw [hS] at h; cases h
      | some o =>
        cases o with
        | dic ks' ds' =>
          rw [hS] at h
          cases h
          obtain ⟨vs, h1, h2, h3⟩ := w.rep n _ hS
          exact ⟨m n, vs, r.1, h1, h2, h3⟩
        | lst _ => rw [hS] at h; cases h
        | obj _ _ _ => rw [hS] at h; cases h
        | dicT _ _ => rw [hS] at h; cases h
        | lck _ _ _ _ => rw [hS] at h; cases h
        | lckT _ _ _ _ => rw [hS] at h; cases h
  | _ => cases h
section
variable {X : Cx} {pos p' : Pos} {U : Wi}
/-- {} -/
def gDNew (fz : Bool) : G D := fun _ S q => if fz = true then q (.dic [] []) S else q (.loc S.length) (S ++ [some (.dic [] [])])
theorem d_dnew (fz : Bool) : PE X (.Dict [] [] pos) (tofE X.K U (gDNew fz)) := weakE pe_dnewK fun σ H Q ⟨m, S, Z, ρ, q, w, rs, h, k⟩ p hp => by
  cases fz with
  | true =>
    obtain ⟨w1, e1, hv⟩ := w.new (o := .dK []) hp
    refine k.at e1 w1 (a := .dic [] []) ?_ h
    show Rep _ _ _ _ _ _
    rw [Rep]
    exact ⟨p, [], rfl, hv, rfl, reps_nil⟩
  | false =>
    obtain ⟨m', e0, w1, e1⟩ := w.add (o := .dK []) (mo := .dic [] []) hp fun m1 N1 Hv1 _ _ _ => ⟨[], upd_same, rfl, reps_nil⟩
    exact k.at e1 w1 (a := .loc S.length) (rep_loc e0 (by simp)) h
/-- o[k] = v -/
def gDSet (go gi gv : G D) : GS := fun E ρ S => gv ρ S fun y S1 => go ρ S1 fun o S2 => gi ρ S2 fun x S3 => ∃ n ks ds k, o = .loc n ∧ S3[n]? = some (some (.dic ks ds)) ∧ toKey x = some k ∧ ks.length < sizeLine ∧ E.nx ρ (S3.set n (some (.dic (kput k ks) (dput k y ks ds))))
end
section
open PyProof.Rows
variable {X : Cx} {e : Expr} {te : TE} {p apos cpos pos : Pos} {U : Wi}
/-- sorted(o.items()) -/
def gSItems (go : G D) : G D := fun ρ S q => go ρ S fun o S1 => ∃ ks ds, dicOf S1 o = some (ks, ds) ∧ aSorted true (.lst (List.zipWith (fun k d => D.tup [kD k, d]) ks ds)) S1 q
theorem reps_sorted {K : PySem.W.Frag} {m : Nat → Addr} {N : Nat} {Hv : Hp} {ds : List D} {xs : List V} {ps : List PyData} (hr : Reps K m N Hv ds xs) (l2 : ps.length = ds.length) :
    Reps K m N Hv (((ds.zip ps).mergeSort (PySem.W.dataLe false Prod.snd)).map Prod.fst) (((xs.zip ps).mergeSort (PySem.W.dataLe false Prod.snd)).map Prod.fst) := by
  have l1 := Reps.len hr
  let ts : List ((D × V) × PyData) := (ds.zip xs).zip ps
  have m1 : ts.map (fun t => (t.1.1, t.2)) = ds.zip ps := by
    apply List.ext_getElem?
    intro i
    rw [List.getElem?_map]
    cases hx : ts[i]? with
    | none =>
      have : ts.length ≤ i := List.getElem?_eq_none_iff.mp hx
      have hlen : ts.length = ds.length := by show ((ds.zip xs).zip ps).length = _; simp; omega
      exact (List.getElem?_eq_none_iff.mpr (by simp; omega)).symm
    | some z =>
      obtain ⟨g1, g2, g3⟩ := zip3_get hx
      exact (List.getElem?_zip_eq_some (z := (z.1.1, z.2)).mpr ⟨g1, g3⟩).symm
  have m2 : ts.map (fun t => (t.1.2, t.2)) = xs.zip ps := by
    apply List.ext_getElem?
    intro i
    rw [List.getElem?_map]
    cases hx : ts[i]? with
    | none =>
      have : ts.length ≤ i := List.getElem?_eq_none_iff.mp hx
      have hlen : ts.length = ds.length := by show ((ds.zip xs).zip ps).length = _; simp; omega
      exact (List.getElem?_eq_none_iff.mpr (by simp; omega)).symm
    | some z =>
      obtain ⟨g1, g2, g3⟩ := zip3_get hx
      exact (List.getElem?_zip_eq_some (z := (z.1.2, z.2)).mpr ⟨g2, g3⟩).symm
  have s1 : (ts.mergeSort (PySem.W.dataLe false Prod.snd)).map (fun t => (t.1.1, t.2)) = (ds.zip ps).mergeSort (PySem.W.dataLe false Prod.snd) := by
    refine Eq.trans (ms_map (f := fun t : (D × V) × PyData => (t.1.1, t.2)) (r := PySem.W.dataLe false Prod.snd) (s := PySem.W.dataLe false Prod.snd) (fun a b => rfl) ts) ?_
    rw [m1]
  have s2 : (ts.mergeSort (PySem.W.dataLe false Prod.snd)).map (fun t => (t.1.2, t.2)) = (xs.zip ps).mergeSort (PySem.W.dataLe false Prod.snd) := by
    refine Eq.trans (ms_map (f := fun t : (D × V) × PyData => (t.1.2, t.2)) (r := PySem.W.dataLe false Prod.snd) (s := PySem.W.dataLe false Prod.snd) (fun a b => rfl) ts) ?_
    rw [m2]
  rw [← s1, ← s2, List.map_map, List.map_map]
  refine reps_all fun t ht => ?_
  have ht' : t ∈ ts := (List.mergeSort_perm ts _).mem_iff.mp ht
  obtain ⟨i, hi⟩ := List.getElem?_of_mem ht'
  obtain ⟨g1, g2, g3⟩ := zip3_get hi
  obtain ⟨v', hv', rv'⟩ := Reps.get hr g1
  rw [g2] at hv'
  cases hv'
  exact rv'
end
/-- max(xs, default=d), min(..) -/
def aMMDef (b : Bool) : D → D → Sto → (D → Sto → Prop) → Prop := fun o d S q => ∃ ds ps, seqOf S o = some ds ∧ o.isTup = false ∧ toPys ds = some ps ∧ PySem.W.AlikeAll ps ∧ PyData.depthAll ps ≤ 60 ∧ (ds = [] → q d S) ∧
  ∀ (y : PyData) (ys : List PyData) (i : Nat) (x : D), ps = y :: ys → ds[i]? = some x → ps[i]? = some (if b = true then PySem.W.maxD y ys else PySem.W.minD y ys) → q x S
def gMMDef (b : Bool) (ga gk : G (List D)) : G D := fun ρ S q => ga ρ S fun as S1 => gk ρ S1 fun ks S2 => ∃ o d, as = [o] ∧ ks = [d] ∧ aMMDef b o d S2 q
def gAsgL (ts : List Tgt) (ge : G D) : GS := fun E ρ S => ge ρ S fun d S1 => ∃ ds ρ', seqOf S1 d = some ds ∧ d.isTup = false ∧ Tgt.binds ts ds ρ = some ρ' ∧ E.nx ρ' S1
section
variable {X : Cx} {pos pt : Pos} {e : Expr} {es : List Expr} {ge : G D} {U : Wi} {kt : Nat}
theorem d_asgL {ts : List Tgt} (he : PE X e (tofE X.K U ge)) (hg : PGs X es (Tgt.gofs X.K ts)) (hel : es.length = ts.length) (hc : X.calm = true := by rfl) (hn : (assignEach es X.env).length = ts.length := by rfl) (hst : (assignEach es X.env).findIdx? (·.1) = none := by rfl)
    (hs : swapsWithSole [.Tuple es kt pt] e pos.line X.env = pure false := by rfl) (hw : swappedStores [.Tuple es kt pt] e X.env = pure none := by rfl)
    (h1 : (assignEach [.Tuple es kt pt] X.env).map (·.2) = [assign (.Tuple es kt pt) X.env] := by rfl) : PS X (.Assign [.Tuple es kt pt] e pos) (tofS X.K U (gAsgL ts ge)) :=
  weakS (ps_asg he (pg_lst (n := ts.length) hc hg hn hst) hs hw h1) fun E σ H ⟨m, S, Z, ρ, D, w, rs, h, k⟩ => tof_in w rs h fun v1 H1 m1 d1 S1 e1 w1 r1 ⟨ds, ρ', h2, h3, hb, h4⟩ => by
    obtain ⟨a, vs, ev, hr, _, hl⟩ := seqOf_rep w1 r1 h2
    exact ⟨a, vs, ev, hl h3, by rw [Reps.len hr, Tgt.binds_len (K := X.K) (m := m1) (N := 0) (Hv := H) (H := H) (vs := []) hb], Tgt.oks (K := X.K) (m := m1) (N := S1.length) (Hv := vis m1 S1 Z H1) (H := H1) (vs := []) vis_le hb hr (rs.ext e1) fun σ' rs' _ => k.nx.at e1 w1 rs' h4⟩
end
theorem hu_of {k : Nat} {A : Around} (hr : RoomG k A) : A.units + 1 < cLine := by
  have := hr.units
  omega
section
variable {S : Sto} {q : D → Sto → Prop} {o d : D}
theorem toPys_ints : ∀ L : List Int, toPys (L.map D.int) = some (L.map PyData.int)
  | [] => rfl
  | i :: L => by rw [List.map_cons, toPys, toPys_ints L]; rfl
end
def leI (a b : Int) : Bool := decide (a ≤ b)
def sortI (L : List Int) : List Int := L.mergeSort leI
theorem x_sortedI {L : List Int} {fz : Bool} {S : Sto} {q : D → Sto → Prop} (h : newL fz ((sortI L).map D.int) S q) : aSorted fz (.lst (L.map D.int)) S q := by
  refine ⟨L.map D.int, L.map PyData.int, rfl, rfl, toPys_ints L, PySem.W.AllAlike.of fun b b' => rfl, .inr fun d hd => ?_, fun p hp => ?_, ?_⟩
  · obtain ⟨p, _, rfl⟩ := List.mem_map.mp hd
    exact ⟨fun z => (nomatch z), fun xs z => nomatch z⟩
  · obtain ⟨p, _, rfl⟩ := List.mem_map.mp hp
    exact (by decide : (0 : Nat) ≤ 60)
  · have e1 : (L.map D.int).zip (L.map PyData.int) = L.map fun p => (D.int p, PyData.int p) := by
      rw [List.zip_map']
    have e2 : (L.mergeSort leI).map (fun p => (D.int p, PyData.int p)) = (L.map fun p => (D.int p, PyData.int p)).mergeSort (PySem.W.dataLe false Prod.snd) := by
      refine ms_map (f := fun p : Int => (D.int p, PyData.int p)) (r := leI) (s := PySem.W.dataLe false Prod.snd) (fun a b => ?_) L
      have := congrFun (congrFun (PySem.W.dataLe_int (β := Int) id) a) b
      exact this.symm
    rw [e1, ← e2, List.map_map]
    exact h
theorem x_b3 {ρ : Env_} {i j l : Nat} {d e f : D} : Tgt.bind (.tp [.nm i, .nm j, .nm l]) (.tup [d, e, f]) ρ = some (((ρ.set i (some d)).set j (some e)).set l (some f)) := by
  simp [Tgt.bind, Tgt.binds]
section
variable {X : Cx} {ρ : Env_} {S : Sto} {q : D → Sto → Prop}
theorem x_dnT : gDNew true ρ S q ↔ q (.dic [] []) S := by simp [gDNew]
theorem x_dnF : gDNew false ρ S q ↔ q (.loc S.length) (S ++ [some (.dic [] [])]) := by simp [gDNew]
end
end Dl
namespace Dl
open PySem L2
end Dl
namespace Dl
open PySem L2
/-- a comprehension with an invariant over the store, its results known by a relation -/
theorem lc_inv {ds : List D} {S : Sto} {chk : Sto → Prop} {ρ : Env_} {t : Tgt} {gt : G Bool} {ge : G D} {vs : List Nat} {fz : Bool} {q : D → Sto → Prop} (I : Nat → List D → Sto → Prop) (h0 : I 0 [] S)
    (step : ∀ i d acc S, ds[i]? = some d → I i acc S → chk S ∧ ∃ ρ', t.bind d (wipeD ρ vs) = some ρ' ∧ gt ρ' S fun b S2 => if b = true then ge ρ' S2 fun y S3 => acc.length < sizeLine ∧ I (i + 1) (acc ++ [y]) S3 else I (i + 1) acc S2)
    (h : ∀ acc S, I ds.length acc S → chk S ∧ newL fz acc S q) : aLc fz t gt ge vs ρ ds chk S q := ⟨I, h0, step, h⟩
theorem cut_to {x : Str} (k : Int) (j : Nat) (hk : k = (j : Int)) : (cutS x none (some k)).cps.toList = x.cps.toList.take j := by
  subst hk
  have hl : x.cps.toList.length = x.length := Array.length_toList
  unfold cutS
  rw [List.toList_toArray, HT.sIx_nat, HT.sIx_none, List.drop_zero, Nat.sub_zero]
  by_cases h : j ≤ x.length
  · rw [Nat.min_eq_left h]
  · rw [Nat.min_eq_right (by omega), List.take_of_length_le (by omega), List.take_of_length_le (by omega)]
end Dl
namespace Dl
open PySem L2
theorem nodup_len {A : Type} [DecidableEq A] : ∀ {l m : List A}, l.Nodup → (∀ y ∈ l, y ∈ m) → l.length ≤ m.length
  | [], _, _, _ => Nat.zero_le _
  | x :: l, m, nd, h => by
    obtain ⟨h1, h2⟩ := List.nodup_cons.mp nd
    have hx := h x List.mem_cons_self
    have := nodup_len (m := m.erase x) h2 fun y hy => (List.mem_erase_of_ne (fun e => h1 (by rw [← e]; exact hy))).mpr (h y (List.mem_cons_of_mem _ hy))
    rw [List.length_erase_of_mem hx] at this
    have := List.length_pos_of_mem hx
    rw [List.length_cons]; omega
end Dl
namespace Dl
open PySem L2 PySem.Spec PyProof.Rows
def rNil (neg : Bool) : R2 := fun x y H Q => ∃ (a b : Addr) (vs : List V), x = .ref a ∧ y = .ref b ∧ H a = some (.lst vs) ∧ H b = some (.lst []) ∧ Q (.bl (xor neg vs.isEmpty)) H
theorem or_eqNil {X : Cx} {k : Nat} (hr : RoomG k X.A) : OpR X (compareOp .Eq) (rNil false) := by
  intro pins s σ H x y v u Q I rx ry ⟨a, b, vs, ex, ey, h1, h2, q⟩
  subst ex ey
  cases rx
  cases ry
  show wpAny (model X.prog X.w) X.A (richCompare .Eq (.ref a) (.ref b)) (EP X pins σ Q) X.xe s
  obtain ⟨z1, its, n, rv, ra, hla⟩ := I.lstM h1
  obtain ⟨z2, its2, n2, rv2, rb, hlb⟩ := I.lstM h2
  cases rv2
  cases vs with
  | nil =>
    cases rv
    exact GB.rc_eqB (N := 0) (rs := fun _ => true) (out := true) hr.units0 (fun _ => rfl) (fun j hj => by omega) (fun _ s' => s' = s) (fun i s' e => by subst e; exact ⟨#[], #[], n, n2, hla, hlb, rfl, rfl, fun h => by simp at h⟩) (fun _ s' e => by subst e; exact ⟨.bl true, H, I, rfl, q⟩) rfl
  | cons w vs =>
    refine GB.rc_eqD hr.units0 hla hlb ?_ ⟨.bl false, H, I, rfl, q⟩
    rw [List.size_toArray, ← rv.length]; simp
theorem or_neNil {X : Cx} {k : Nat} (hr : RoomG k X.A) : OpR X (compareOp .NotEq) (rNil true) := by
  intro pins s σ H x y v u Q I rx ry ⟨a, b, vs, ex, ey, h1, h2, q⟩
  subst ex ey
  cases rx
  cases ry
  show wpAny (model X.prog X.w) X.A (richCompare .NotEq (.ref a) (.ref b)) (EP X pins σ Q) X.xe s
  obtain ⟨z1, its, n, rv, ra, hla⟩ := I.lstM h1
  obtain ⟨z2, its2, n2, rv2, rb, hlb⟩ := I.lstM h2
  cases rv2
  cases vs with
  | nil =>
    cases rv
    exact GB.rc_neB (N := 0) (rs := fun _ => true) (out := false) hr.units0 (fun _ => rfl) (fun j hj => by omega) (fun _ s' => s' = s) (fun i s' e => by subst e; exact ⟨#[], #[], n, n2, hla, hlb, rfl, rfl, fun h => by simp at h⟩) (fun _ s' e => by subst e; exact ⟨.bl false, H, I, rfl, q⟩) rfl
  | cons w vs =>
    refine GB.rc_neD hr.units0 hla hlb ?_ ⟨.bl true, H, I, rfl, q⟩
    rw [List.size_toArray, ← rv.length]; simp
def aNil (neg : Bool) : R2D := fun x y S q => ∃ ds, lstOf S x = some ds ∧ y = .lst [] ∧ q (.bl (xor neg ds.isEmpty)) S
theorem vr_nil {K : PySem.W.Frag} {neg : Bool} : VR2 K (rNil neg) (aNil neg) := fun {_ m S Z H a b v u q Q} w r1 r2 ⟨ds, h1, h2, h3⟩ kk => by
  subst h2
  obtain ⟨a1, vs, e1, hh1, q1⟩ := lstOf_rep w r1 h1
  obtain ⟨b1, us, e2, hh2, q2⟩ := lstOf_rep w r2 rfl
  rw [Reps] at q2
  subst q2
  refine ⟨a1, b1, vs, e1, e2, hh1, hh2, kk.now w ?_ h3⟩
  have : vs.isEmpty = ds.isEmpty := by
    have := Reps.len q1
    cases vs <;> cases ds <;> simp at this ⊢
  rw [this]
  exact rep_bl
section
variable {S : Sto} {q : D → Sto → Prop} {ds : List D}
theorem x_nilL {neg : Bool} : aNil neg (.lst ds) (.lst []) S q ↔ q (.bl (xor neg ds.isEmpty)) S := ⟨fun ⟨_, e, _, h⟩ => by cases e; exact h, fun h => ⟨ds, rfl, rfl, h⟩⟩
theorem x_nilE {neg : Bool} : aNil neg (.loc S.length) (.lst []) (S ++ [some (.lst ds)]) q ↔ q (.bl (xor neg ds.isEmpty)) (S ++ [some (.lst ds)]) := by
  have e0 : lstOf (S ++ [some (.lst ds)]) (.loc S.length) = some ds := by simp [lstOf]
  exact ⟨fun ⟨_, e, _, h⟩ => by rw [e0] at e; cases e; exact h, fun h => ⟨ds, e0, rfl, h⟩⟩
end
end Dl
namespace Dl
open PySem L2 PySem.SeqAt PyProof.Rows PySem.Spec
/-- things in a list or a tuple -/
def inP (p : PyData) (ps : List PyData) : Bool := ps.any fun z => PyData.eqv z p
def hasT (x y : Str) : Bool := !(Builtin.Str.occurrences y x 0 y.length 1).isEmpty
def aInX (neg : Bool) : R2D := fun a b S q => (∃ (c : Nat) (z : Str), a = .str ⟨#[c]⟩ ∧ b = .str z ∧ q (.bl (neg ^^ decide (c ∈ z.cps.toList))) S) ∨ (∃ x y, a = .str x ∧ b = .str y ∧ x.length ≠ 1 ∧ q (.bl (neg ^^ hasT x y)) S) ∨
  ∃ p ps, toPyS S a = some p ∧ (toPyS S b = some (.list ps) ∨ toPyS S b = some (.tuple ps)) ∧ SeqAt.shaped p = true ∧ SeqAt.shaped (.list ps) = true ∧ q (.bl (neg ^^ inP p ps)) S
section
variable {S : Sto} {q : D → Sto → Prop} {neg : Bool}
/-- a sign in a text -/
theorem x_inX1 {c : Nat} {y : Str} (h : q (.bl (neg ^^ decide (c ∈ y.cps.toList))) S) : aInX neg (.str ⟨#[c]⟩) (.str y) S q := .inl ⟨c, y, rfl, rfl, h⟩
theorem x_inXs {c : Nat} {y : Str} : aInX neg (.str ⟨#[c]⟩) (.str y) S q ↔ q (.bl (neg ^^ decide (c ∈ y.cps.toList))) S := by
  constructor
  · rintro (⟨c', z, e1, e2, h⟩ | ⟨x, y, e1, e2, hl, h⟩ | ⟨p, ps, h1, h2 | h2, _⟩)
    · cases e1; cases e2; exact h
    · cases e1; exact absurd rfl hl
    · simp [toPyS, toPy] at h2
    · simp [toPyS, toPy] at h2
  · exact x_inX1
end
end Dl
namespace PySem
namespace HandSPX
open Builtin Builtin.ObjectAttr
end HandSPX
end PySem
namespace Dl
open PySem L2 PyProof.Rows
end Dl
namespace Dl
open PySem L2 PyProof.Rows
section
variable {X : Cx} {C : Addr} {x qual : Str} {st : Stmt} {ps flds : List Str} {p pos pos2 : Pos} {es : List Expr} {n : Nat} {src : List Src} {ga : GA}
/-- raise C(..): by data, the fields the last one first -/
def gRaise (WD : XW) (C : Addr) (flds : List Str) (n : Nat) (src : List Src) (ga : GA) : GS := fun E ρ S => ga ρ S fun as zs S1 => as.length = n ∧ zs.length = 0 ∧ as.length ≤ 1000 ∧ ∃ ds, (∀ s : D, gat src (s :: as) [] [] = s :: ds) ∧ ds.length = flds.length ∧ WD (.own C) flds.reverse ds.reverse ρ S1
end
end Dl
namespace Dl
open PySem L2 PyProof.Rows
abbrev XE_ := XC → List Str → List D → Sto → Prop
/-- a promise: the arguments, the store, what is wanted of the answer, of an exception -/
abbrev XSp := List D → Sto → (D → Sto → Prop) → XE_ → Prop
def gCallX (WD : XW) (n nk : Nat) (src : List Src) (dds : List D) (dsp : XSp) (ga : GA) : G D := fun ρ S q => ga ρ S fun as ks S1 => as.length = n ∧ ks.length = nk ∧ dsp (gat src as dds ks) S1 q fun c fs ds S2 => WD c fs ds ρ S2
def gMethX (WD : XW) (C : Addr) (m : Str) (n nk : Nat) (src : List Src) (dds : List D) (dsp : XSp) (go : G D) (ga : GA) : G D := fun ρ S q => go ρ S fun o S1 => ∃ ks ds, objOf S1 o = some (C, ks, ds) ∧ ks.contains m = false ∧
  ga ρ S1 fun as zs S2 => as.length = n ∧ zs.length = nk ∧ dsp (gat src (o :: as) dds zs) S2 q fun c fs ds S3 => WD c fs ds ρ S3
/-- C(..), its __init__ may raise; the new instance given up at once -/
def gMakeX (WD : XW) (C : Addr) (n nk : Nat) (src : List Src) (dds : List D) (dsp : XSp) (ga : GA) : G D := fun ρ S q => ga ρ S fun as zs S1 => as.length = n ∧ zs.length = nk ∧ (D.unders S1.length as = true → D.unders S1.length zs = true →
  dsp (gat src (.loc S1.length :: as) dds zs) (S1 ++ [some (.obj C [] [])]) (fun v S2 => v = .non ∧ ∃ ks ds, S2 = S1 ++ [some (.obj C ks ds)] ∧ D.unders S1.length ds = true ∧ q (.obj C ks ds) S1) fun c fs ds S2 => WD c fs ds ρ S2)
end Dl
namespace Dl
open PySem L2 PyProof.Rows
/-- which class a clause takes -/
structure Exm (K : PySem.W.Frag) (cc : Value) (c : XC) (b : Bool) : Prop where
  is : PySem.W.exmOne K c.val cc = some b
/-- try: gb / except cc as i: gs -/
def gTryAs (K : PySem.W.Frag) (WD : XW) (cc : Value) (i : Nat) (gb : XW → GS) (gs : GS) : GS := fun E ρ S =>
  gb (fun c fs ds ρ' S' => ∃ b, Exm K cc c b ∧ (b = true → gs { nx := fun ρ'' S'' => E.nx (ρ''.set i none) S'', rt := E.rt, bk := fun ρ'' S'' => E.bk (ρ''.set i none) S'', ct := fun ρ'' S'' => E.ct (ρ''.set i none) S'' } (ρ'.set i (some (.exc c fs ds))) S') ∧ (b = false → WD c fs ds ρ' S')) E ρ S
/-- try: gb / except cc: gs -/
def gTryO (K : PySem.W.Frag) (WD : XW) (cc : Value) (gb : XW → GS) (gs : GS) : GS := fun E ρ S =>
  gb (fun c fs ds ρ' S' => ∃ b, Exm K cc c b ∧ (b = true → gs E ρ' S') ∧ (b = false → WD c fs ds ρ' S')) E ρ S
/-- what an exception's class must bear so that its instances are looked at -/
structure XLk (K : PySem.W.Frag) (C : Addr) : Prop where
  ga : PySem.W.findIn K (.ref C) "__getattribute__" = some (some (.builtin "BaseException.__getattribute__"))
  gg : PySem.W.findIn K (.ref C) "__getattr__" = some none
  exC : PySem.W.subIn K (.ref C) (.type "BaseException") = some true
  hdC : PySem.W.hasDictIn K C = true
  ha : PySem.W.findIn K (.ref C) "__class__" = some (some (.builtin "object.__class__"))
  hn : PySem.W.specialIn K (.builtin "object.__class__") "__get__" = some (some (.builtin "getset_descriptor.__get__"))
  ht : PySem.W.takesIn K (.builtin "object.__class__") = some true
  hm : PySem.W.mroIn K C (.type "object") = some true
structure XFd (K : PySem.W.Frag) (C : Addr) (f : Str) : Prop where
  lk : XLk K C
  no : PySem.W.findIn K (.ref C) f = some none
def gFldX (K : PySem.W.Frag) (f : Str) (go : G D) : G D := fun ρ S q => go ρ S fun o S1 => ∃ C ks ds d, o = .exc (.own C) ks ds ∧ XFd K C f ∧ fget f ks ds = some d ∧ q d S1
end Dl
namespace Dl
open PySem L2 PyProof.Rows
theorem tk0 {X : Cx} : Takes X U0.W := takes0
end Dl
namespace Dl
open PySem L2
def truD : D → Option Bool
  | .non => some false
  | .bl b => some b
  | .int i => some (i != 0)
  | .str x => if x.length ≤ sizeLine then some ((x.length : Int) != 0) else none
  | _ => none
def gOrT (ga gb : G D) : G D := fun ρ S q => ga ρ S fun d S1 => ∃ k, truD d = some k ∧ if k = true then q d S1 else gb ρ S1 q
def gAndT (ga gb : G D) : G D := fun ρ S q => ga ρ S fun d S1 => ∃ k, truD d = some k ∧ if k = true then gb ρ S1 q else q d S1
end Dl
namespace Dl
open PySem L2
def truS (S : Sto) : D → Option Bool
  | .tup ds => some (!ds.isEmpty)
  | .lst ds => some (!ds.isEmpty)
  | .ksq ds => some (!ds.isEmpty)
  | .dic ks _ => some (!ks.isEmpty)
  | .loc n => match S[n]? with
    | some (some (.lst ds)) => some (!ds.isEmpty)
    | some (some (.dic ks _)) => some (!ks.isEmpty)
    | _ => none
  | d => truD d
def gOrS (ga gb : G D) : G D := fun ρ S q => ga ρ S fun d S1 => ∃ k, truS S1 d = some k ∧ if k = true then q d S1 else gb ρ S1 q
end Dl
namespace DZ
open PySem
open PySem.Sem (wp)
/-- a list's or a tuple's iterator, and what it draws from -/
def ItOn (t : Bool) (h : Heap) (i l : Addr) (k : Nat) : Prop := if t = true then h.IsTupleIter i l k else h.IsListIter i l k
def SqOn (t : Bool) (h : Heap) (l : Addr) (xs : Array Value) : Prop := if t = true then h.IsTuple l xs else h.IsList l xs
theorem ItOn.cell {t : Bool} {h : Heap} {i l : Addr} {k : Nat} (q : ItOn t h i l k) : ∃ o, h.get? i = some o ∧ ∀ v, o.data ≠ .cell v := by
  cases t
  · obtain ⟨o, e, _, d⟩ := (show h.IsListIter i l k from q)
    exact ⟨o, e, fun v z => by rw [d] at z; cases z⟩
  · obtain ⟨o, e, _, d⟩ := (show h.IsTupleIter i l k from q)
    exact ⟨o, e, fun v z => by rw [d] at z; cases z⟩
theorem ItOn.at {t : Bool} {h h' : Heap} {i l : Addr} {k : Nat} (q : ItOn t h i l k) (e : ∀ o, h.get? i = some o → h'.get? i = some o) : ItOn t h' i l k := by
  cases t
  · exact Heap.IsListIter.at (show h.IsListIter i l k from q) e
  · exact Heap.IsTupleIter.at (show h.IsTupleIter i l k from q) e
abbrev IsZipS (h : Heap) (z TI TO : Addr) (f0 : Value) (f : Bool) : Prop :=
  h.get? z = some { cls := .type "zip", dict := none, data := .fields #[f0, .bool f, .bool true, .ref TI, .ref TO], slots := #[] }
section
variable {prog : Program} {w : World} {A : Around} {E : Value → Shared → Prop} {s : Shared} {z TI TO i1 i2 : Addr} {fp1 fp2 : List Addr} {n1 n2 i : Nat} {P1 P2 : Nat → Value → Prop} {St1 St2 : Nat → Heap → Prop} {a1 a2 f0 : Value} {f : Bool}
/-- the first field of a zip: nothing, or the number of a tuple that was given out -/
def Loose (f0 : Value) : Prop := f0 = .none ∨ ∃ T : Addr, f0 = rawInt T
end
def ZSt (t1 t2 : Bool) (z TI TO i1 i2 l1 l2 : Addr) (i : Nat) (h : Heap) : Prop :=
  ∃ f0 f, Loose f0 ∧ IsZipS h z TI TO f0 f ∧ IsTupOf2 h TI (.ref i1) (.ref i2) ∧ (∃ a1 a2, IsTupOf2 h TO a1 a2) ∧ ItOn t1 h i1 l1 i ∧ ItOn t2 h i2 l2 i
section
variable {prog : Program} {w : World} {A : Around} {E : Value → Shared → Prop} {s : Shared} {t1 t2 : Bool} {z TI TO i1 i2 l1 l2 : Addr} {i : Nat} {xs ys : Array Value} {x y : Value}
theorem ZSt.cells {h : Heap} (st : ZSt t1 t2 z TI TO i1 i2 l1 l2 i h) : ∀ b ∈ [z, TI, TO, i1, i2], ∃ o, h.get? b = some o ∧ ∀ v, o.data ≠ .cell v := fun b hb => by
  obtain ⟨f0, f, _, hz, hTI, ⟨a1, a2, hTO⟩, h1, h2⟩ := st
  have e' : b = z ∨ b = TI ∨ b = TO ∨ b = i1 ∨ b = i2 := by simpa using hb
  rcases e' with q | q | q | q | q
  · rw [q]; exact ⟨_, hz, fun v q => nomatch q⟩
  · rw [q]; exact ⟨_, hTI, fun v q => nomatch q⟩
  · rw [q]; exact ⟨_, hTO, fun v q => nomatch q⟩
  · rw [q]; exact h1.cell
  · rw [q]; exact h2.cell
theorem ZSt.keep {h h' : Heap} (st : ZSt t1 t2 z TI TO i1 i2 l1 l2 i h) (k : ∀ b ∈ [z, TI, TO, i1, i2], ∀ o, h.get? b = some o → h'.get? b = some o) : ZSt t1 t2 z TI TO i1 i2 l1 l2 i h' := by
  obtain ⟨f0, f, hl, hz, hTI, ⟨a1, a2, hTO⟩, h1, h2⟩ := st
  exact ⟨f0, f, hl, k z (by simp) _ hz, k TI (by simp) _ hTI, ⟨a1, a2, k TO (by simp) _ hTO⟩, h1.at (k i1 (by simp)), h2.at (k i2 (by simp))⟩
end
end DZ
namespace DZ
open PySem
open PySem.Sem (wp)
end DZ
namespace DZ
open PySem PySem.Spec L2
/-- a list or a tuple -/
def SqX (K : PySem.W.Frag) (t : Bool) (H : Hp) (a : Addr) (xs : List V) : Prop := if t = true then SqT K H a xs else SqL K H a xs
theorem SqX.get {X : Cx} {pins : List (Addr × Obj)} {σ : L2.St} {H : Hp} {s : Shared} {t : Bool} {a : Addr} {xs : List V} (I : Inv X pins σ H s) (h : SqX X.K t H a xs) : ∃ its : List Value, Vals xs its ∧ SqOn t s.heap a its.toArray := by
  cases t
  · obtain ⟨its, rv, p, _⟩ := I.list (show SqL X.K H a xs from h)
    exact ⟨its, rv, p.isList⟩
  · obtain ⟨its, rv, p, _⟩ := I.tuple (show SqT X.K H a xs from h)
    exact ⟨its, rv, p⟩
theorem SqX.inj {X : Cx} {pins : List (Addr × Obj)} {σ : L2.St} {H : Hp} {s : Shared} {t : Bool} {a : Addr} {xs ys : List V} (I : Inv X pins σ H s) (h : SqX X.K t H a xs) (h2 : SqX X.K t H a ys) : xs = ys := by
  cases t
  · exact I.list_inj (show SqL X.K H a xs from h) (show SqL X.K H a ys from h2)
  · exact I.tuple_inj (show SqT X.K H a xs from h) (show SqT X.K H a ys from h2)
theorem SqOn.lt {t : Bool} {h : Heap} {a : Addr} {xs : Array Value} (q : SqOn t h a xs) : a < h.objs.size := by
  cases t
  · obtain ⟨o, e, _⟩ := (show h.IsList a xs from q)
    exact Heap.lt_size e
  · obtain ⟨o, e, _⟩ := (show h.IsTuple a xs from q)
    exact Heap.lt_size e
end DZ
namespace Dl
open PySem L2 DZ
def gZipS (ga : G (List D)) : GI := fun ρ S q => ga ρ S fun as S1 => ∃ d e ds es, as = [d, e] ∧ seqOf S1 d = some ds ∧ seqOf S1 e = some es ∧ ds.length = es.length ∧ q (zipD ds es) (fun S' => seqOf S' d = some ds ∧ seqOf S' e = some es) S1
def gZipE (ga : G (List D)) : GI := fun ρ S q => ga ρ S fun as S1 => ∃ d e ds es, as = [d, e] ∧ seqOf S1 d = some ds ∧ seqOf S1 e = some es ∧ ds.length = es.length ∧ q (enumD (zipD ds es)) (fun S' => seqOf S' d = some ds ∧ seqOf S' e = some es) S1
def aZipS (as : List D) (S1 : Sto) (q : List D → (Sto → Prop) → Sto → Prop) : Prop := ∃ d e ds es, as = [d, e] ∧ seqOf S1 d = some ds ∧ seqOf S1 e = some es ∧ ds.length = es.length ∧ q (zipD ds es) (fun S' => seqOf S' d = some ds ∧ seqOf S' e = some es) S1
def aZipE (as : List D) (S1 : Sto) (q : List D → (Sto → Prop) → Sto → Prop) : Prop := aZipS as S1 fun ds c S2 => q (enumD ds) c S2
theorem x_zipS {ga : G (List D)} {ρ : Env_} {S : Sto} {k : List D → (Sto → Prop) → Sto → Prop} : gZipS ga ρ S k = ga ρ S fun as S1 => aZipS as S1 k := rfl
theorem x_zipE {ga : G (List D)} {ρ : Env_} {S : Sto} {k : List D → (Sto → Prop) → Sto → Prop} : gZipE ga ρ S k = ga ρ S fun as S1 => aZipE as S1 k := rfl
theorem x_zipSL {ds es : List D} {S : Sto} {k : List D → (Sto → Prop) → Sto → Prop} : aZipS [.lst ds, .lst es] S k ↔ ds.length = es.length ∧ k (zipD ds es) (fun _ => True) S := by
  have h : (fun S' : Sto => seqOf S' (.lst ds) = some ds ∧ seqOf S' (.lst es) = some es) = fun _ => True := funext fun S' => propext ⟨fun _ => trivial, fun _ => ⟨rfl, rfl⟩⟩
  constructor
  · rintro ⟨_, _, _, _, e1, e2, e3, e4, h1⟩; cases e1; cases e2; cases e3; rw [h] at h1; exact ⟨e4, h1⟩
  · rintro ⟨e4, h1⟩; exact ⟨_, _, _, _, rfl, rfl, rfl, e4, by rw [h]; exact h1⟩
theorem x_zipST {ds es : List D} {S : Sto} {k : List D → (Sto → Prop) → Sto → Prop} : aZipS [.tup ds, .tup es] S k ↔ ds.length = es.length ∧ k (zipD ds es) (fun _ => True) S := by
  have h : (fun S' : Sto => seqOf S' (.tup ds) = some ds ∧ seqOf S' (.tup es) = some es) = fun _ => True := funext fun S' => propext ⟨fun _ => trivial, fun _ => ⟨rfl, rfl⟩⟩
  constructor
  · rintro ⟨_, _, _, _, e1, e2, e3, e4, h1⟩; cases e1; cases e2; cases e3; rw [h] at h1; exact ⟨e4, h1⟩
  · rintro ⟨e4, h1⟩; exact ⟨_, _, _, _, rfl, rfl, rfl, e4, by rw [h]; exact h1⟩
theorem x_zipEL {ds es : List D} {S : Sto} {k : List D → (Sto → Prop) → Sto → Prop} : aZipE [.lst ds, .lst es] S k ↔ ds.length = es.length ∧ k (enumD (zipD ds es)) (fun _ => True) S := x_zipSL
end Dl
namespace DZ
open PySem PySem.Spec L2
end DZ
namespace Dl
open PySem L2 DZ
def enumK (k : Int) (ds : List D) : List D := ds.zipIdx.map fun p => .tup [.int ((p.2 : Nat) + k), p.1]
def gEnumK (k : Int) (ga : G (List D)) : GI := fun ρ S q => ga ρ S fun as S1 => ∃ d ds, as = [d] ∧ d.isTup = false ∧ seqOf S1 d = some ds ∧ q (enumK k ds) (fun S' => seqOf S' d = some ds) S1
def aEnumK (k : Int) (as : List D) (S1 : Sto) (q : List D → (Sto → Prop) → Sto → Prop) : Prop := ∃ d ds, as = [d] ∧ d.isTup = false ∧ seqOf S1 d = some ds ∧ q (enumK k ds) (fun S' => seqOf S' d = some ds) S1
theorem x_enumK {i : Int} {ga : G (List D)} {ρ : Env_} {S : Sto} {k : List D → (Sto → Prop) → Sto → Prop} : gEnumK i ga ρ S k = ga ρ S fun as S1 => aEnumK i as S1 k := rfl
theorem x_enumKL {i : Int} {ds : List D} {S : Sto} {k : List D → (Sto → Prop) → Sto → Prop} : aEnumK i [.lst ds] S k ↔ k (enumK i ds) (fun _ => True) S := by
  have h : (fun S' : Sto => seqOf S' (.lst ds) = some ds) = fun _ => True := funext fun S' => propext ⟨fun _ => trivial, fun _ => rfl⟩
  constructor
  · rintro ⟨_, _, e1, _, e3, h1⟩; cases e1; cases e3; rw [h] at h1; exact h1
  · intro h1; exact ⟨_, _, rfl, rfl, rfl, by rw [h]; exact h1⟩
end Dl
namespace Dl
open PySem L2 PyProof.Rows
def aAugIx (g : R2D) (o i : D) (S2 : Sto) (ge : (D → Sto → Prop) → Prop) (c : Sto → Prop) : Prop := ∃ n ds k j x, o = .loc n ∧ i = .int k ∧ S2[n]? = some (some (.lst ds)) ∧ ixN ds.length k = some j ∧ ds[j]? = some x ∧
  ge fun y S3 => g x y S3 fun z S4 => ∃ es j2, S4[n]? = some (some (.lst es)) ∧ ixN es.length k = some j2 ∧ c (S4.set n (some (.lst (es.set j2 z))))
def gAugIx (g : R2D) (go gi ge : G D) : GS := fun E ρ S => go ρ S fun o S1 => gi ρ S1 fun i S2 => aAugIx g o i S2 (fun q => ge ρ S2 q) (E.nx ρ)
def aIsB (neg : Bool) : R2D := fun x y S q => ∃ a b : Bool, x = .bl a ∧ y = .bl b ∧ q (.bl (neg ^^ decide (a = b))) S
theorem x_isB {a b : Bool} {S : Sto} {q : D → Sto → Prop} : aIsB false (.bl a) (.bl b) S q ↔ q (.bl (decide (a = b))) S :=
  ⟨fun ⟨_, _, e1, e2, h⟩ => by cases e1; cases e2; simpa using h, fun h => ⟨a, b, rfl, rfl, by simpa using h⟩⟩
theorem x_notB {a b : Bool} {S : Sto} {q : D → Sto → Prop} : aIsB true (.bl a) (.bl b) S q ↔ q (.bl (!decide (a = b))) S :=
  ⟨fun ⟨_, _, e1, e2, h⟩ => by cases e1; cases e2; simpa using h, fun h => ⟨a, b, rfl, rfl, by simpa using h⟩⟩
theorem x_augix {g : R2D} {go gi ge : G D} {E : DE} {ρ : Env_} {S : Sto} : gAugIx g go gi ge E ρ S = go ρ S fun o S1 => gi ρ S1 fun i S2 => aAugIx g o i S2 (fun q => ge ρ S2 q) (E.nx ρ) := rfl
end Dl
namespace Dl
open PySem L2
def gLR1 (fz : Bool) (ge : G D) : G D := fun ρ S q => ge ρ S fun d S1 => ∃ n : Int, d = .int n ∧ -(2 ^ 62) ≤ n ∧ n ≤ 2 ^ 24 ∧ newL fz (rngD 0 n.toNat) S1 q
def gLR2 (fz : Bool) (ga gb : G D) : G D := fun ρ S q => ga ρ S fun d S1 => gb ρ S1 fun e S2 => ∃ i j : Int, d = .int i ∧ e = .int j ∧ (-(2 ^ 62) ≤ i ∧ i < 2 ^ 62 ∧ -(2 ^ 62) ≤ j ∧ j < 2 ^ 62 ∧ j - i ≤ 2 ^ 24) ∧ newL fz (rngD i (j - i).toNat) S2 q
end Dl
namespace Dl
open PySem PySem.Spec PyProof.Rows L2
end Dl
namespace Dl
open PySem L2
end Dl
namespace Dl
open PySem L2
section
variable {κ : Type} [DecidableEq κ]
def kputP (k : κ) (ks : List κ) : List κ := if (ks.any fun j => decide (j = k)) = true then ks else ks ++ [k]
def dputP {A : Type} (k : κ) (y : A) (ks : List κ) (ds : List A) : List A := if (ks.any fun j => decide (j = k)) = true then List.zipWith (fun j d => if j = k then y else d) ks ds else ds ++ [y]
def dgetP {A : Type} (k : κ) (ks : List κ) (ds : List A) : Option A := ((ks.zip ds).find? fun kv => decide (kv.1 = k)).map (·.2)
theorem zip_anyP {A : Type} (k : κ) : ∀ {ks : List κ} {vs : List A}, ks.length = vs.length → ((ks.zip vs).any fun kv => decide (kv.1 = k)) = ks.any fun j => decide (j = k)
  | [], [], _ => rfl
  | j :: ks, v :: vs, h => by
    rw [List.zip_cons_cons, List.any_cons, List.any_cons, zip_anyP k (by simpa using h)]
theorem zip_mapkP {A : Type} (k : κ) (y : A) : ∀ {ks : List κ} {vs : List A}, (ks.zip vs).map (fun kv => if kv.1 = k then (kv.1, y) else kv) = ks.zip (List.zipWith (fun j d => if j = k then y else d) ks vs)
  | [], _ => rfl
  | _ :: _, [] => rfl
  | j :: ks, v :: vs => by
    rw [List.zip_cons_cons, List.map_cons, zip_mapkP k y, List.zipWith_cons_cons, List.zip_cons_cons]
    dsimp only
    split <;> rfl
theorem putK_zipP {k : κ} {y : V} {ks : List κ} {vs : List V} (h : ks.length = vs.length) : L2.putK (ks.zip vs) k y = (kputP k ks).zip (dputP k y ks vs) := by
  unfold L2.putK kputP dputP
  rw [zip_anyP k h]
  by_cases c : (ks.any fun j => decide (j = k)) = true
  · rw [if_pos c, if_pos c, if_pos c, zip_mapkP]
  · rw [if_neg c, if_neg c, if_neg c, List.zip_append h]; rfl
theorem put_lenP {A : Type} {k : κ} {y : A} {ks : List κ} {vs : List A} (h : ks.length = vs.length) : (kputP k ks).length = (dputP k y ks vs).length := by
  unfold kputP dputP
  split
  · rw [List.length_zipWith, h, Nat.min_self]
  · simp [h]
variable {K : PySem.W.Frag} {m : Nat → Addr} {N : Nat} {Hv : Hp}
theorem reps_zipWP {k : κ} {y : D} {v : V} (ry : Rep K m N Hv y v) : ∀ {ks : List κ} {ds : List D} {vs : List V}, Reps K m N Hv ds vs → Reps K m N Hv (List.zipWith (fun j d => if j = k then y else d) ks ds) (List.zipWith (fun j d => if j = k then v else d) ks vs)
  | [], _, _, _ => by simp [Reps]
  | _ :: _, [], _, r => by rw [show _ = [] from r]; simp [Reps]
  | j :: ks, d :: ds, _, r => by
    obtain ⟨u, us, e, r1, r2⟩ := r
    rw [e, List.zipWith_cons_cons, List.zipWith_cons_cons]
    refine Reps.cons ?_ (reps_zipWP ry r2)
    by_cases c : j = k
    · rw [if_pos c, if_pos c]; exact ry
    · rw [if_neg c, if_neg c]; exact r1
theorem reps_putP {k : κ} {y : D} {v : V} {ks : List κ} {ds : List D} {vs : List V} (ry : Rep K m N Hv y v) (r : Reps K m N Hv ds vs) : Reps K m N Hv (dputP k y ks ds) (dputP k v ks vs) := by
  unfold dputP
  split
  · exact reps_zipWP ry r
  · exact r.append (Reps.one ry)
theorem reps_dgetP {k : κ} : ∀ {ks : List κ} {ds : List D} {vs : List V}, Reps K m N Hv ds vs → (dgetP k ks ds = none ∧ valV (ks.zip vs) k = none) ∨ ∃ d v, dgetP k ks ds = some d ∧ valV (ks.zip vs) k = some v ∧ Rep K m N Hv d v
  | [], _, _, _ => .inl ⟨rfl, rfl⟩
  | _ :: _, [], _, r => by rw [show _ = [] from r]; exact .inl ⟨rfl, rfl⟩
  | j :: ks, d :: ds, _, r => by
    obtain ⟨u, us, e, r1, r2⟩ := r
    rw [e]
    unfold dgetP valV
    rw [List.zip_cons_cons, List.zip_cons_cons, List.find?_cons, List.find?_cons]
    by_cases c : j = k
    · rw [show decide (j = k) = true from decide_eq_true c]
      exact .inr ⟨d, u, rfl, rfl, r1⟩
    · rw [show decide (j = k) = false from decide_eq_false c]
      exact reps_dgetP r2
end
def dicTOf (S : Sto) : D → Option (List (List Key) × List D)
  | .loc n => match S[n]? with
    | some (some (.dicT ks ds)) => some (ks, ds)
    | some (some (.lckT _ _ ks ds)) => some (ks, ds)
    | _ => none
  | _ => none
theorem dicTOf_rep {K : PySem.W.Frag} {U : Wi} {m : Nat → Addr} {S : Sto} {Z : Addr → Prop} {H : Hp} {d : D} {v : V} {ks : List (List Key)} {ds : List D} (w : Wd K U m S Z H) (r : Rep K m S.length (vis m S Z H) d v) (h : dicTOf S d = some (ks, ds)) :
    ∃ n vs, d = .loc n ∧ v = .ref (m n) ∧ Rd H (m n) (.dT (ks.zip vs)) ∧ ks.length = vs.length ∧ Reps K m S.length (vis m S Z H) ds vs := by
  cases d with
  | loc n =>
    rw [Rep] at r
    rw [dicTOf] at h
    cases hS : S[n]? with
    | none => rw [hS] at h; cases h
    | some o =>
      cases o with
      | none => rw [hS] at h; cases h
      | some o =>
        cases o with
        | dicT ks' ds' =>
          rw [hS] at h
          cases h
          obtain ⟨vs, h1, h2, h3⟩ := w.rep n _ hS
          exact ⟨n, vs, rfl, r.1, .inl h1, h2, h3⟩
        | lckT ob u ks' ds' =>
          rw [hS] at h
          cases h
          obtain ⟨vs, h0, h1, h2, h3⟩ := w.rep n _ hS
          exact ⟨n, vs, rfl, r.1, .inr ⟨ob, by rw [h1, h0]⟩, h2, h3⟩
        | lst _ => rw [hS] at h; cases h
        | obj _ _ _ => rw [hS] at h; cases h
        | dic _ _ => rw [hS] at h; cases h
        | lck _ _ _ _ => rw [hS] at h; cases h
  | _ => cases h
def toKeys : List D → Option (List Key)
  | [] => some []
  | d :: ds => match toKey d, toKeys ds with
    | some k, some ks => some (k :: ks)
    | _, _ => none
theorem reps_keys {K : PySem.W.Frag} {m : Nat → Addr} {N : Nat} {Hv : Hp} : ∀ {ds : List D} {vs : List V} {ks : List Key}, Reps K m N Hv ds vs → toKeys ds = some ks → vs = ks.map kV
  | [], _, ks, r, h => by rw [show _ = [] from r]; rw [toKeys] at h; cases h; rfl
  | d :: ds, _, ks, r, h => by
    obtain ⟨v, q, e, r1, r2⟩ := r
    rw [toKeys] at h
    cases h1 : toKey d with
    | none => rw [h1] at h; cases h
    | some k =>
      cases h2 : toKeys ds with
      | none => rw [h1, h2] at h; cases h
      | some ks' =>
        rw [h1, h2] at h
        cases h
        rw [e, rep_key r1 h1, reps_keys r2 h2]; rfl
section
variable {X : Cx} {pos p' p1 apos cpos : Pos} {o i e f value : Expr} {es : List Expr} {x1 : Nat} {go gi gf gv : G D} {gs : G (List D)}
theorem dg_k {K : PySem.W.Frag} {U : Wi} {m : Nat → Addr} {S : Sto} {Z : Addr → Prop} {H : Hp} {d x : D} {u y : V} {ks : List Key} {ds : List D} {k : Key} (w : Wd K U m S Z H) (r : Rep K m S.length (vis m S Z H) d u) (rx : Rep K m S.length (vis m S Z H) x y) (h : dicOf S d = some (ks, ds)) (hk : toKey x = some k) :
    ∃ a, u = .ref a ∧ IsD H a ∧ ((dget k ks ds = none ∧ DGet H a y none) ∨ ∃ d' v', dget k ks ds = some d' ∧ DGet H a y (some v') ∧ Rep K m S.length (vis m S Z H) d' v') := by
  obtain ⟨a, vs, e, ha, hl, hr⟩ := dicOf_rep w r h
  have ey := rep_key rx hk
  subst ey
  refine ⟨a, e, .inl ⟨_, .inl ha⟩, ?_⟩
  have g := DGet.k (k := k) ha
  rcases reps_dget (k := k) (ks := ks) hr with ⟨h1, h2⟩ | ⟨d', v', h1, h2, h3⟩
  · rw [h2] at g; exact .inl ⟨h1, g⟩
  · rw [h2] at g; exact .inr ⟨d', v', h1, g, h3⟩
/-- d[k] -/
def gDIx (go gi : G D) : G D := fun ρ S q => go ρ S fun o S1 => gi ρ S1 fun x S2 => ∃ ks ds k d, dicOf S2 o = some (ks, ds) ∧ toKey x = some k ∧ dget k ks ds = some d ∧ q d S2
theorem d_dix (ho : PE X o (tofE X.K U go)) (hi : PE X i (tofE X.K U gi)) (hu : X.A.units + 1 < cLine) (hs : NoSl i := by intro _ _; rfl) : PE X (.Subscript o i pos) (tofE X.K U (gDIx go gi)) :=
  weakE (pe_dget hu ho hi hs) fun σ H Q ⟨m, S, Z, ρ, q, w, rs, h, k⟩ => tof_in w rs h fun v1 H1 m1 d1 S1 e1 w1 r1 h1 => tof_in w1 (rs.ext e1) h1 fun v2 H2 m2 d2 S2 e2 w2 r2 ⟨ks, ds, kk, d, h2, h3, h4, h5⟩ => by
    obtain ⟨a, ea, _, hg⟩ := dg_k w2 (r1.ext e2) r2 h2 h3
    rcases hg with ⟨z, _⟩ | ⟨d', v', z, g, rv⟩
    · rw [z] at h4; cases h4
    · rw [z] at h4
      cases h4
      exact ⟨a, v', ea, g, k.at (e1.trans e2) w2 rv h5⟩
theorem isD_early {K : PySem.W.Frag} {m m1 : Nat → Addr} {S S1 : Sto} {Z : Addr → Prop} {H H1 : Hp} {d : D} {u : V} (w : Wd K U m S Z H) (r : Rep K m S.length (vis m S Z H) d u) (h : ∃ ks' ds', dicOf S d = some (ks', ds')) : ∃ a, u = .ref a ∧ IsD H a := by
  obtain ⟨ks', ds', h⟩ := h
  obtain ⟨a, vs, e, ha, _⟩ := dicOf_rep w r h
  exact ⟨a, e, .inl ⟨_, .inl ha⟩⟩
end
section
variable {X : Cx} {pos p' p1 apos cpos : Pos} {o i e f value : Expr} {es : List Expr} {x1 : Nat} {go gi gf gv : G D} {gs : G (List D)}
/-- d.get(k): the dict stands while k is read -/
def gDGt1 (go gi : G D) : G D := fun ρ S q => go ρ S fun o S1 => (∃ ks' ds', dicOf S1 o = some (ks', ds')) ∧ gi ρ S1 fun x S2 => ∃ ks ds k, dicOf S2 o = some (ks, ds) ∧ toKey x = some k ∧ q ((dget k ks ds).getD .non) S2
def gDGt2 (go gi gf : G D) : G D := fun ρ S q => go ρ S fun o S1 => (∃ ks' ds', dicOf S1 o = some (ks', ds')) ∧ gi ρ S1 fun x S2 => gf ρ S2 fun z S3 => ∃ ks ds k, dicOf S3 o = some (ks, ds) ∧ toKey x = some k ∧ q ((dget k ks ds).getD z) S3
/-- k in d, k not in d -/
def gDIn (neg : Bool) (gi go : G D) : G D := fun ρ S q => gi ρ S fun x S1 => go ρ S1 fun o S2 => ∃ ks ds k, dicOf S2 o = some (ks, ds) ∧ toKey x = some k ∧ q (.bl (xor neg (dget k ks ds).isSome)) S2
/-- {} for keys that are tuples -/
def gDNewT : G D := fun _ S q => q (.loc S.length) (S ++ [some (.dicT [] [])])
theorem d_dnewT : PE X (.Dict [] [] pos) (tofE X.K U gDNewT) := weakE pe_dnewT fun σ H Q ⟨m, S, Z, ρ, q, w, rs, h, k⟩ p hp => by
  obtain ⟨m', e0, w1, e1⟩ := w.add (p := p) (o := .dT []) (mo := .dicT [] []) hp fun m1 N1 Hv1 h1 h2 h3 => ⟨[], upd_same, rfl, reps_nil⟩
  exact k.at e1 w1 (rep_loc e0 (by simp)) h
/-- a tuple's display, the tuple told -/
theorem tup_in {K : PySem.W.Frag} {m : Nat → Addr} {S : Sto} {Z : Addr → Prop} {H : Hp} {ρ : Env_} {σ : L2.St} {Q : VK} {q : List D → Sto → Prop} (w : Wd K U m S Z H) (rs : RelS K m S.length (vis m S Z H) ρ σ) (h : gs ρ S fun ds S1 => ds.length ≤ sizeLine ∧ q ds S1)
    (kk : ∀ p ds H1 m1 S1, Ext m S Z H m1 S1 H1 → Wd K U m1 S1 Z H1 → (∀ ks, toKeys ds = some ks → H1 p = some (.tup (ks.map kV))) → q ds S1 → Q (.ref p) H1) : tTup (tofA K U gs) σ H Q :=
  tof_in w rs h fun vs H1 m1 ds S1 e1 w1 r1 h1 => ⟨by rw [Reps.len r1]; exact h1.1, fun p hp => by
    obtain ⟨w2, e2, _⟩ := w1.new (o := .tup vs) hp
    refine kk p ds _ m1 S1 (e1.trans e2) w2 (fun ks hk => ?_) h1.2
    rw [upd_same, reps_keys r1 hk]⟩
theorem dg_t {K : PySem.W.Frag} {U : Wi} {m : Nat → Addr} {S : Sto} {Z : Addr → Prop} {H : Hp} {d : D} {u : V} {ks : List (List Key)} {ds : List D} {k : List Key} {p : Addr} (w : Wd K U m S Z H) (r : Rep K m S.length (vis m S Z H) d u) (h : dicTOf S d = some (ks, ds)) (hp : H p = some (.tup (k.map kV))) :
    ∃ a, u = .ref a ∧ IsD H a ∧ ((dgetP k ks ds = none ∧ DGet H a (.ref p) none) ∨ ∃ d' v', dgetP k ks ds = some d' ∧ DGet H a (.ref p) (some v') ∧ Rep K m S.length (vis m S Z H) d' v') := by
  obtain ⟨n, vs, _, e, ha, hl, hr⟩ := dicTOf_rep w r h
  refine ⟨_, e, .inr ⟨_, ha⟩, ?_⟩
  have g : DGet H (m n) (.ref p) (valV (ks.zip vs) k) := .inr ⟨_, k, p, ha, rfl, hp, rfl⟩
  rcases reps_dgetP (k := k) (ks := ks) hr with ⟨h1, h2⟩ | ⟨d', v', h1, h2, h3⟩
  · rw [h2] at g; exact .inl ⟨h1, g⟩
  · rw [h2] at g; exact .inr ⟨d', v', h1, g, h3⟩
def gDIxT (go : G D) (gs : G (List D)) : G D := fun ρ S q => go ρ S fun o S1 => gs ρ S1 fun xs S2 => xs.length ≤ sizeLine ∧ ∃ ks ds k d, dicTOf S2 o = some (ks, ds) ∧ toKeys xs = some k ∧ dgetP k ks ds = some d ∧ q d S2
theorem d_dixT (ho : PE X o (tofE X.K U go)) (ha : PA X es (tofA X.K U gs)) (hu : X.A.units + 1 < cLine) (hs : NoSl (.Tuple es x1 p1) := by intro _ _; rfl) : PE X (.Subscript o (.Tuple es x1 p1) pos) (tofE X.K U (gDIxT go gs)) :=
  weakE (pe_dget hu ho (pe_tup ha) hs) fun σ H Q ⟨m, S, Z, ρ, q, w, rs, h, k⟩ => tof_in w rs h fun v1 H1 m1 d1 S1 e1 w1 r1 h1 => tup_in w1 (rs.ext e1) h1 fun p xs H2 m2 S2 e2 w2 hp ⟨ks, ds, kk, d, h2, h3, h4, h5⟩ => by
    obtain ⟨a, ea, _, hg⟩ := dg_t w2 (r1.ext e2) h2 (hp kk h3)
    rcases hg with ⟨z, _⟩ | ⟨d', v', z, g, rv⟩
    · rw [z] at h4; cases h4
    · rw [z] at h4
      cases h4
      exact ⟨a, v', ea, g, k.at (e1.trans e2) w2 rv h5⟩
def gDGt1T (go : G D) (gs : G (List D)) : G D := fun ρ S q => go ρ S fun o S1 => (∃ ks' ds', dicTOf S1 o = some (ks', ds')) ∧ gs ρ S1 fun xs S2 => xs.length ≤ sizeLine ∧ ∃ ks ds k, dicTOf S2 o = some (ks, ds) ∧ toKeys xs = some k ∧ q ((dgetP k ks ds).getD .non) S2
theorem isD_earlyT {K : PySem.W.Frag} {m : Nat → Addr} {S : Sto} {Z : Addr → Prop} {H : Hp} {d : D} {u : V} (w : Wd K U m S Z H) (r : Rep K m S.length (vis m S Z H) d u) (h : ∃ ks' ds', dicTOf S d = some (ks', ds')) : ∃ a, u = .ref a ∧ IsD H a := by
  obtain ⟨ks', ds', h⟩ := h
  obtain ⟨n, vs, _, e, ha, _⟩ := dicTOf_rep w r h
  exact ⟨_, e, .inr ⟨_, ha⟩⟩
theorem d_dgt1T (ho : PE X o (tofE X.K U go)) (ha : PA X es (tofA X.K U gs)) (hu : X.A.units + 1 < cLine) (m : M1 X o "get" apos (.Tuple es x1 p1) cpos := by exact ⟨by rfl, by rfl, by rfl, by rfl⟩) : PE X (.Call (.Attribute o "get" apos) [.Tuple es x1 p1] [] cpos) (tofE X.K U (gDGt1T go gs)) :=
  weakE (pe_dget1 hu ho (pe_tup ha) m) fun σ H Q ⟨m, S, Z, ρ, q, w, rs, h, k⟩ => tof_in w rs h fun v1 H1 m1 d1 S1 e1 w1 r1 ⟨h0, h1⟩ => by
    obtain ⟨a, ea, hd⟩ := isD_earlyT w1 r1 h0
    subst ea
    refine ⟨a, rfl, hd, tup_in w1 (rs.ext e1) h1 fun p xs H2 m2 S2 e2 w2 hp ⟨ks, ds, kk, h2, h3, h5⟩ => ?_⟩
    obtain ⟨a', ea, _, hg⟩ := dg_t w2 (r1.ext e2) h2 (hp kk h3)
    cases ea
    rcases hg with ⟨z, g⟩ | ⟨d', v', z, g, rv⟩
    · rw [z] at h5; exact ⟨none, g, k.at (e1.trans e2) w2 rep_non h5⟩
    · rw [z] at h5; exact ⟨some v', g, k.at (e1.trans e2) w2 rv h5⟩
/-- d[(..)] = v -/
def gDSetT (go : G D) (gs : G (List D)) (gv : G D) : GS := fun E ρ S => gv ρ S fun y S1 => go ρ S1 fun o S2 => gs ρ S2 fun xs S3 => xs.length ≤ sizeLine ∧ ∃ n ks ds k, o = .loc n ∧ S3[n]? = some (some (.dicT ks ds)) ∧ toKeys xs = some k ∧ ks.length < sizeLine ∧ E.nx ρ (S3.set n (some (.dicT (kputP k ks) (dputP k y ks ds))))
theorem d_dsetT (ho : PE X o (tofE X.K U go)) (ha : PA X es (tofA X.K U gs)) (hv : PE X value (tofE X.K U gv)) (hu : X.A.units + 1 < cLine) (hs : swapsWith value (some (.Subscript o (.Tuple es x1 p1) p')) pos.line X.env = pure false := by rfl) :
    PS X (.Assign [.Subscript o (.Tuple es x1 p1) p'] value pos) (tofS X.K U (gDSetT go gs gv)) :=
  weakS (ps_dput hu ho (pe_tup ha) hv hs) fun De σ H ⟨m, S, Z, ρ, E, w, rs, h, k⟩ => tof_in w rs h fun v1 H1 m1 d1 S1 e1 w1 r1 h1 => tof_in w1 (rs.ext e1) h1 fun v2 H2 m2 d2 S2 e2 w2 r2 h2 => tup_in w2 ((rs.ext e1).ext e2) h2 fun p xs H3 m3 S3 e3 w3 hp ⟨n, ks, ds, kk, ed, hS, hk, hl, h3⟩ => by
    subst ed
    obtain ⟨vs, ha, hlen, hr⟩ := w3.rep n _ hS
    have r2' : Rep X.K m3 S3.length (vis m3 S3 Z H3) (.loc n) v2 := r2.ext e3
    rw [Rep] at r2'
    have hput : DPut H3 (m3 n) (.ref p) v1 (L2.upd H3 (m3 n) (.dT (L2.putK (ks.zip vs) kk v1))) := DPut.t ha (hp kk hk) (by rw [List.length_zip, ← hlen, Nat.min_self]; exact hl)
    refine ⟨m3 n, _, r2'.1, hput, ?_⟩
    rw [putK_zipP hlen]
    obtain ⟨w4, e4, hv4⟩ := w3.upd (o := .dT ((kputP kk ks).zip (dputP kk v1 ks vs))) (mo := .dicT (kputP kk ks) (dputP kk d1 ks ds)) ⟨_, hS⟩ ⟨_, upd_same, by rw [put_lenP hlen], reps_putP ((Rep.ext (e2.trans e3) r1)) hr⟩
    exact k.nx _ _ m3 _ _ (((e1.trans e2).trans e3).trans e4) w4 (((rs.ext e1).ext e2).ext e3 |>.ext e4) h3
end
end Dl
namespace Dl
open PySem L2 PySem.Spec PyProof.Rows
def kdrop (k : Key) (ks : List Key) : List Key := ks.filter fun j => decide (j ≠ k)
def ddrop {A : Type} (k : Key) (ks : List Key) (ds : List A) : List A := ((ks.zip ds).filter fun kv => decide (kv.1 ≠ k)).map (·.2)
section
variable {X : Cx} {U : Wi} {pos apos cpos : Pos} {o i f : Expr} {go gi gf : G D}
/-- d.setdefault(k, x) -/
def gDSetd (go gi gf : G D) : G D := fun ρ S q => go ρ S fun o S1 => (∃ ks' ds', dicOf S1 o = some (ks', ds')) ∧ gi ρ S1 fun x S2 => gf ρ S2 fun y S3 => ∃ n ks ds k, o = .loc n ∧ S3[n]? = some (some (.dic ks ds)) ∧ toKey x = some k ∧ ks.length < sizeLine ∧
  (∀ d, dget k ks ds = some d → q d S3) ∧ (dget k ks ds = none → q y (S3.set n (some (.dic (kput k ks) (dput k y ks ds)))))
theorem d_dsetd (ho : PE X o (tofE X.K U go)) (hi : PE X i (tofE X.K U gi)) (hf : PE X f (tofE X.K U gf)) (m : M2 X o "setdefault" apos i f cpos := by exact ⟨by rfl, by rfl, by rfl, by rfl⟩) : PE X (.Call (.Attribute o "setdefault" apos) [i, f] [] cpos) (tofE X.K U (gDSetd go gi gf)) :=
  weakE (pe_dsetd ho hi hf m) fun σ H Q ⟨m, S, Z, ρ, q, w, rs, h, kk⟩ => tof_in w rs h fun v1 H1 m1 d1 S1 e1 w1 r1 ⟨h0, h1⟩ => by
    obtain ⟨a, ea, hd⟩ := isD_early (m1 := m) (S1 := S) (H1 := H) w1 r1 h0
    subst ea
    refine ⟨a, rfl, hd, tof_in w1 (rs.ext e1) h1 fun v2 H2 m2 d2 S2 e2 w2 r2 h2 => tof_in w2 (rs.ext (e1.trans e2)) h2 fun v3 H3 m3 d3 S3 e3 w3 r3 ⟨n, ks, ds, k, ed, hS, hk, hl, h4, h5⟩ => ?_⟩
    subst ed
    obtain ⟨vs, ha, hlen, hr⟩ := w3.rep n _ hS
    have r1' : Rep X.K m3 S3.length (vis m3 S3 Z H3) (.loc n) (.ref a) := (r1.ext e2).ext e3
    rw [Rep] at r1'
    have ea : a = m3 n := V.ref.inj r1'.1
    subst ea
    have ey := rep_key (r2.ext e3) hk
    subst ey
    refine ⟨ks.zip vs, k, ha, rfl, by rw [List.length_zip, ← hlen, Nat.min_self]; exact hl, fun v hv => ?_, fun hv => ?_⟩
    · rcases reps_dget (k := k) (ks := ks) hr with ⟨z1, z2⟩ | ⟨d', v', z1, z2, z3⟩
      · rw [z2] at hv; cases hv
      · rw [z2] at hv
        cases hv
        exact kk.at ((e1.trans e2).trans e3) w3 z3 (h4 d' z1)
    · rcases reps_dget (k := k) (ks := ks) hr with ⟨z1, z2⟩ | ⟨d', v', z1, z2, z3⟩
      · rw [putK_zip hlen]
        obtain ⟨w4, e4, hv4⟩ := w3.upd (o := .dK ((kput k ks).zip (dput k v3 ks vs))) (mo := .dic (kput k ks) (dput k d3 ks ds)) ⟨_, hS⟩ ⟨_, upd_same, by rw [put_len hlen], reps_put r3 hr⟩
        exact kk.at (((e1.trans e2).trans e3).trans e4) w4 (Rep.ext e4 r3) (h5 z1)
      · rw [z2] at hv; cases hv
/-- d.pop(k), d.pop(k, x) -/
def gDPop1 (go gi : G D) : G D := fun ρ S q => go ρ S fun o S1 => (∃ ks' ds', dicOf S1 o = some (ks', ds')) ∧ gi ρ S1 fun x S2 => ∃ n ks ds k d, o = .loc n ∧ S2[n]? = some (some (.dic ks ds)) ∧ toKey x = some k ∧ dget k ks ds = some d ∧ q d (S2.set n (some (.dic (kdrop k ks) (ddrop k ks ds))))
def gDPop2 (go gi gf : G D) : G D := fun ρ S q => go ρ S fun o S1 => (∃ ks' ds', dicOf S1 o = some (ks', ds')) ∧ gi ρ S1 fun x S2 => gf ρ S2 fun y S3 => ∃ n ks ds k, o = .loc n ∧ S3[n]? = some (some (.dic ks ds)) ∧ toKey x = some k ∧
  (∀ d, dget k ks ds = some d → q d (S3.set n (some (.dic (kdrop k ks) (ddrop k ks ds))))) ∧ (dget k ks ds = none → q y S3)
end
structure KTt (K : PySem.W.Frag) (a : Addr) (xs : List Str) : Prop where
  ex : ∃ (o : Obj) (its : Array Value) (n : Nat), K.lookup a = some o ∧ o.cls = .type "tuple" ∧ o.dict = none ∧ o.data = .seq its n ∧ its.size ≤ sizeLine ∧ Vals (xs.map V.str) its.toList
theorem reps_strs {K : PySem.W.Frag} {m : Nat → Addr} {N : Nat} {Hv : Hp} (xs : List Str) : Reps K m N Hv (xs.map D.str) (xs.map V.str) := Reps.ofStrs xs
theorem KTt.tup {K : PySem.W.Frag} {a : Addr} {xs : List Str} (h : KTt K a xs) : KTup K (xs.map .str) a := ⟨fun m N Hv => by
  obtain ⟨o, its, n, h1, h2, h3, h4, h5, h6⟩ := h.ex
  rw [Rep]
  exact ⟨a, xs.map V.str, rfl, .inr ⟨o, its, n, h1, h2, h4, h5, h6⟩, reps_strs xs⟩⟩
def gTIdx (xs : List Str) (gs : G (List D)) : G D := fun ρ S q => gs ρ S fun as S2 => ∃ (x : Str) (j : Nat), as = [.str x] ∧ xs[j]? = some x ∧ (∀ m, m < j → xs[m]? ≠ some x) ∧ q (.int (j : Nat)) S2
section
variable {X : Cx} {U : Wi} {pos apos cpos : Pos} {e : Expr} {es : List Expr} {gs : G (List D)}
theorem d_tidx {x : Str} {a : Addr} {xs : List Str} (hg : Gl X x) (hm : X.mg x = some (.ref a)) (hk : KTt X.K a xs) (ha : PA X [e] (tofA X.K U gs)) (hd : (x == ("__debug__" : Str)) = false := by decide)
    (hbase : attributeBase (.Name x pos) "index" X.env (eval (.Name x pos) X.env) = eval (.Name x pos) X.env := by rfl)
    (hfew : ((backTo cpos (starEach [e] X.env)).all (fun x => !x.1) && (backToKw cpos (keywordEach [] X.env)).all (fun x => x.1.isSome)
      && decide (([e] : List Expr).length + ([] : List Keyword).length + (if ([] : List Keyword).isEmpty then 0 else 1) < 30)) = true := by rfl)
    (hline : (apos.endLine == cpos.line) = true := by rfl) (hs : starEach [e] X.env = (false, eval e X.env) :: starEach [] X.env := by rfl) (hplain : (backTo cpos (starEach [] X.env)).any (·.1) = false := by rfl) :
    PE X (.Call (.Attribute (.Name x pos) "index" apos) [e] [] cpos) (tofE X.K U (gTIdx xs gs)) :=
  weakE (pe_bm (T := "tuple") PySem.F.plainAttrs_tuple PySem.F.slot_tuple_index PySem.F.type_tuple_index mt_tup_index (pe_glob (v := .ref a) hg hm rfl hd) ha hbase hfew hline hs hplain) fun σ H Q ⟨m, S, Z, ρ, q, w, rs, h, k⟩ => by
    obtain ⟨o, its, n, h1, h2, h3, h4, h5, h6⟩ := hk.ex
    refine ⟨.inr (.inl ⟨rfl, o, h1, h2, h3⟩), tof_in w rs h fun v2 H2 m2 d2 S2 e2 w2 r2 ⟨x, j, ex, hj, hm, h7⟩ => ?_⟩
    subst ex
    obtain ⟨z, ez, rz⟩ := reps1 r2
    rw [Rep] at rz
    subst ez rz
    exact ⟨a, xs, x, j, rfl, rfl, .inr ⟨o, its, n, h1, h2, h4, h5, h6⟩, hj, hm, k.at e2 w2 rep_int h7⟩
end
theorem putK_new {kvs : List (Key × V)} {k : Key} {v : V} (h : k ∉ kvs.map Prod.fst) : L2.putK kvs k v = kvs ++ [(k, v)] := by
  unfold L2.putK
  rw [if_neg]
  rw [List.any_eq_true]
  rintro ⟨p, hp, e⟩
  exact h (List.mem_map.mpr ⟨p, hp, by simpa using e⟩)
theorem mergeK_new : ∀ {more kvs : List (Key × V)}, ((kvs ++ more).map Prod.fst).Nodup → L2.mergeK kvs more = kvs ++ more
  | [], kvs, _ => by simp [L2.mergeK]
  | (k, v) :: more, kvs, h => by
    have h1 : k ∉ kvs.map Prod.fst := by
      rw [List.map_append, List.nodup_append] at h
      intro hk
      exact h.2.2 k hk k (by simp) rfl
    have e : L2.mergeK kvs ((k, v) :: more) = L2.mergeK (L2.putK kvs k v) more := rfl
    rw [e, putK_new h1, mergeK_new (by simpa using h)]
    simp
structure DPP (X : Cx) (U : Wi) (pos : Pos) (keys : List (Option Expr)) (values : List Expr) (ks : List Key) (gs : G (List D)) : Prop where
  ex : ∃ trs, PPs X pos keys values trs ∧ ∀ (m : Nat → Addr) (S : Sto) (Z : Addr → Prop) (H : Hp) (ρ : Env_) (σ : L2.St) (q : List D → Sto → Prop) (Q : List (V × V) → Hp → Prop), Wd X.K U m S Z H → RelS X.K m S.length (vis m S Z H) ρ σ → gs ρ S q →
    (∀ vs H' m' ds S', Ext m S Z H m' S' H' → Wd X.K U m' S' Z H' → Reps X.K m' S'.length (vis m' S' Z H') ds vs → vs.length = ks.length → q ds S' → Q ((ks.zip vs).map fun kv => (kV kv.1, kv.2)) H') → tPairs trs σ H Q
  len : keys.length = values.length ∧ keys.all (·.isSome) = true ∧ keys.length = ks.length
theorem dpp_nil {X : Cx} {U : Wi} {pos : Pos} : DPP X U pos [] [] [] gNil := ⟨⟨[], pps_nil, fun m S Z H ρ σ q Q w rs h kk => kk [] H m [] S Ext.refl w rfl rfl h⟩, rfl, rfl, rfl⟩
theorem dpp_cons {X : Cx} {U : Wi} {pos : Pos} {ek ev : Expr} {keys : List (Option Expr)} {values : List Expr} {k : Key} {ks : List Key} {gv : G D} {gs : G (List D)} (hk : PE X ek (fun _ H Q => Q (kV k) H)) (hv : PE X ev (tofE X.K U gv)) (hr : DPP X U pos keys values ks gs) :
    DPP X U pos (some ek :: keys) (ev :: values) (k :: ks) (gCons gv gs) := by
  obtain ⟨⟨trs, hp, hc⟩, l1, l2, l3⟩ := hr
  refine ⟨⟨_, pps_cons hk hv hp, fun m S Z H ρ σ q Q w rs h kk => ?_⟩, by simp [l1], by simpa using l2, by simp [l3]⟩
  show tofE X.K U gv σ H _
  refine tof_in w rs h fun v1 H1 m1 d1 S1 e1 w1 r1 h1 => ?_
  refine hc m1 S1 Z H1 ρ σ _ _ w1 (rs.ext e1) h1 fun vs H' m' ds S' e2 w2 r2 l h2 => ?_
  exact kk (v1 :: vs) H' m' (d1 :: ds) S' (e1.trans e2) w2 (Reps.cons (r1.ext e2) r2) (by simp [l]) h2
/-- {k: v, ..}, the dict live -/
def gDisp (ks : List Key) (gs : G (List D)) : G D := fun ρ S q => gs ρ (S ++ [some (.dic [] [])]) fun ds S2 => S2[S.length]? = some (some (.dic [] [])) ∧ q (.loc S.length) (S2.set S.length (some (.dic ks ds)))
theorem d_disp {X : Cx} {U : Wi} {pos : Pos} {keys : List (Option Expr)} {values : List Expr} {ks : List Key} {gs : G (List D)} (h : DPP X U pos keys values ks gs) (hn : ks.Nodup) (h0 : keys ≠ []) (h15 : keys.length ≤ 15) : PE X (.Dict keys values pos) (tofE X.K U (gDisp ks gs)) := by
  obtain ⟨⟨trs, hp, hc⟩, l1, l2, l3⟩ := h
  refine weakE (pe_disp hp l2 l1 h0 h15) fun σ H Q ⟨m, S, Z, ρ, q, w, rs, h, kk⟩ p hpn => ?_
  obtain ⟨m', e0, w1, e1⟩ := w.add (p := p) (o := .dK []) (mo := .dic [] []) hpn fun m1 N1 Hv1 _ _ _ => ⟨[], upd_same, rfl, reps_nil⟩
  refine hc m' _ Z _ ρ σ _ _ w1 (rs.ext e1) h fun vs H' m2 ds S2 e2 w2 r2 l ⟨hS, h2⟩ => ?_
  obtain ⟨vs0, ha, hl0, hr0⟩ := w2.rep S.length _ hS
  have em : m2 S.length = p := by rw [e2.loc S.length (by simp), e0]
  rw [em] at ha
  refine ⟨by simpa using ha, ks.zip vs, rfl, by rw [List.length_zip, l, Nat.min_self, ← l3]; exact h15, ?_⟩
  rw [mergeK_new (by rw [List.nil_append, List.map_fst_zip (by omega)]; exact hn), List.nil_append]
  have w2' := w2
  obtain ⟨w4, e4, hv4⟩ := w2.upd (n := S.length) (o := .dK (ks.zip vs)) (mo := .dic ks ds) ⟨_, hS⟩ ⟨vs, upd_same, l.symm, r2⟩
  rw [em] at w4 e4
  refine kk.at ((e1.trans e2).trans e4) w4 ?_ h2
  show Rep _ _ _ _ _ _
  rw [Rep, em]
  exact ⟨rfl, by have := (List.getElem?_eq_some_iff.mp hS).1; simpa using this⟩
def gLKeys (fz : Bool) (go : G D) : G D := fun ρ S q => go ρ S fun o S1 => ∃ ks ds, dicOf S1 o = some (ks, ds) ∧ newL fz (ks.map kD) S1 q
end Dl
namespace Dl
open PySem L2
abbrev GT := D → Env_ → Sto → (Env_ → Sto → Prop) → Prop
abbrev GTs := List D → Env_ → Sto → (Env_ → Sto → Prop) → Prop
def gnm (i : Nat) : GT := fun d ρ S q => q (ρ.set i (some d)) S
def gfl (K : PySem.W.Frag) (f : Str) (go : G D) : GT := fun y ρ S q => go ρ S fun o S2 => ∃ n C ks ds, o = .loc n ∧ S2[n]? = some (some (.obj C ks ds)) ∧ FldOk K C f ∧ ks.length < 1000 ∧ q ρ (S2.set n (some (.obj C (putK f ks) (putX f y ks ds))))
def gds (go gi : G D) : GT := fun y ρ S q => go ρ S fun o S2 => gi ρ S2 fun x S3 => ∃ n ks ds k, o = .loc n ∧ S3[n]? = some (some (.dic ks ds)) ∧ toKey x = some k ∧ ks.length < sizeLine ∧ q ρ (S3.set n (some (.dic (kput k ks) (dput k y ks ds))))
def gts0 : GTs := fun ds ρ S q => ds = [] ∧ q ρ S
def gts (g : GT) (gs : GTs) : GTs := fun ds ρ S q => ∃ d r, ds = d :: r ∧ g d ρ S fun ρ1 S1 => gs r ρ1 S1 q
section
variable {X : Cx} {U : Wi} {pos : Pos} {o i : Expr} {f : Str} {go gi : G D}
/-- (t1, t2, ..) = a tuple -/
def gAsgT (gs : GTs) (n : Nat) (ge : G D) : GS := fun E ρ S => ge ρ S fun d S1 => ∃ ds, d = .tup ds ∧ ds.length = n ∧ gs ds ρ S1 E.nx
/-- o.f op= e -/
def gFldAug (K : PySem.W.Frag) (f : Str) (g : R2D) (go ge : G D) : GS := fun E ρ S => go ρ S fun o S1 => ∃ n C ks ds x, o = .loc n ∧ S1[n]? = some (some (.obj C ks ds)) ∧ FldOk K C f ∧ fget f ks ds = some x ∧ ge ρ S1 fun y S2 => g x y S2 fun z S3 => ∃ ks' ds', S3[n]? = some (some (.obj C ks' ds')) ∧ ks'.length < 1000 ∧
  E.nx ρ (S3.set n (some (.obj C (putK f ks') (putX f z ks' ds'))))
end
end Dl
namespace L2
open PySem PySem.Spec PyProof.Rows
section
variable {X : Cx} {pins : List (Addr × Obj)} {σ : St} {H : Hp} {s : Shared} {d : Addr} {o : Obj}
theorem Inv.frzT2 {kvs : List (List Key × V)} (I : Inv X pins σ H s) (h : H d = some (.frz o (.dT kvs))) :
    (d == sysModules) = false ∧ s.heap.get? d = some o ∧ o.ExactDict ∧ ∃ (es : Array DictEntry) (ep : Nat), o.data = .dict es ep ∧ es.size = kvs.length ∧
      ∀ (i : Nat) (k : List Key) (v : V), kvs[i]? = some (k, v) → ∃ (en : DictEntry) (q : Addr), es[i]? = some en ∧ en.key = .ref q ∧ H q = some (.tup (k.map kV)) ∧ RelV v en.val := by
  obtain ⟨hd, z, hs, xs, pr, o', es, ep, ho, hx, hdt, he, _⟩ := I.hok d _ h
  rw [hd] at ho
  cases ho
  refine ⟨hs, hd, hx, es, ep, hdt, ?_, fun i k v e => ?_⟩
  · have l1 : es.size = xs.length := size_of_entries he
    have l2 : kvs.length = xs.length := Paired.length pr
    omega
  · obtain ⟨b, hb, e1, e2, e3⟩ := paired_get pr e
    have q := entry_at he i
    rw [hb] at q
    exact ⟨_, b.2.1, q, rfl, e2, e3⟩
end
/-- the pairs, each a new tuple of the key's tuple and the value -/
def Itit (d : Addr) (o : Obj) (kvs : List (List Key × V)) : It :=
  ⟨fun i H => H d = some (.frz o (.dT kvs)) ∧ i < kvs.length, fun i H x H' => ∃ T k v q, kvs[i]? = some (k, v) ∧ x = .ref T ∧ H T = none ∧ H q = some (.tup (k.map kV)) ∧ H' = upd H T (.tup [.ref q, v]), fun i H => H d = some (.frz o (.dT kvs)) ∧ kvs.length ≤ i⟩
section
variable {P : Program} {w : World} {K : PySem.W.Frag} {d : Addr} {o : Obj} {es : Array DictEntry} {ep : Nat}
theorem turn_itemsT {kvs : List (List Key × V)} {elts : List Expr} {kk : Nat} {tpos : Pos} (it : Addr) (hod : o.data = .dict es ep) :
    Turn P w K (.Tuple elts kk tpos) (Itit d o kvs) [it] it (fun i h => ∃ ok ov, IsItemIter h it d i kvs.length ep ok ov) where
  mem := by simp
  obj := fun i h st b hb => by
    have e : b = it := by simpa using hb
    subst e
    obtain ⟨ok, ov, e⟩ := st
    exact ⟨_, e, fun v z => nomatch z⟩
  keep := fun i h h' st k => let ⟨ok, ov, e⟩ := st; ⟨ok, ov, k it (by simp) _ e⟩
  item := by
    intro X hP hw hK hc i pins s σ H E I hf st hg
    subst hP hw hK
    obtain ⟨hd, hi⟩ := hg
    obtain ⟨hs, hgd, hx, es', ep', hdt, hsz, ent⟩ := I.frzT2 hd
    obtain ⟨rfl, rfl⟩ := dict_ep hod hdt
    obtain ⟨⟨k, v⟩, hkv⟩ : ∃ p, kvs[i]? = some p := ⟨kvs[i], List.getElem?_eq_getElem hi⟩
    obtain ⟨en, q, hen, hkey, hq, rv⟩ := ent i k v hkv
    obtain ⟨ok, ov, he⟩ := st
    rw [← hsz] at he
    have hlt : it < s.heap.objs.size := Heap.lt_size he
    obtain ⟨hie, hen2⟩ := Array.getElem?_eq_some_iff.mp hen
    refine DT.nextI he ⟨o, hgd, hx, hdt⟩ hie fun h' ho hT hz hk => ?_
    rw [hen2] at ho hT
    refine ⟨_, rfl, wpAny_letOwnedTupleGo_items (s := { s with heap := h' }) ho fun h'' he' sb => ?_⟩
    have hT2 : h''.get? s.heap.objs.size = some { cls := .type "tuple", data := .seq #[en.key, en.val] } := (sb.2 _ (Nat.ne_of_gt hlt)).trans hT
    have new : ObjOk X.prog X.w (upd H s.heap.objs.size (.tup [.ref q, v])) h'' s.heap.objs.size (.tup [.ref q, v]) :=
      ⟨by show 2 ≤ sizeLine; decide, [en.key, en.val], .cons (by rw [hkey]; rfl) (.cons rv .nil), ⟨_, hT2, rfl, _, rfl⟩⟩
    have I1 : Inv X pins σ (upd H s.heap.objs.size (.tup [.ref q, v])) { s with heap := h'' } :=
      I.turnedNew (t' := s.toks) (ch := [it]) (fun b ob hb e => (sb.2 b (by simpa using hb)).trans (hk b ob (by simpa using hb) e)) hf (Nat.le_refl _) new
    refine ⟨.ref s.heap.objs.size, _, I1, rfl, ⟨_, k, v, q, hkv, rfl, I.hok.fresh (Nat.le_refl _), hq, rfl⟩, ⟨en.key, en.val, ?_⟩, fun b hb => ?_⟩
    · rw [← hsz]; exact he'
    · have e : b = it := by simpa using hb
      rw [e, upd_ne (Nat.ne_of_lt hlt)]
      exact (hf it (by simp)).1
  done := by
    intro X hP hw hK hc i pins s σ H E I hf st hg
    subst hP hw hK
    obtain ⟨hd, hi⟩ := hg
    obtain ⟨f0, f1, f2, f3, f4, f5⟩ := hf it (by simp)
    obtain ⟨hs, hgd, hx, es', ep', hdt, hsz, ent⟩ := I.frzT2 hd
    obtain ⟨rfl, rfl⟩ := dict_ep hod hdt
    obtain ⟨ok, ov, he⟩ := st
    rw [← hsz] at he
    exact DT.endI (I.ok.hd hc) he ⟨o, hgd, hx, hdt⟩ (by omega) fun h' eb => ⟨rfl, I.turned (t' := s.toks) (fun b ob hb e => eb b ob hb e) f0 f1 f3 f4 f5⟩
  self := fun A i s Q E st h => let ⟨_, _, e⟩ := st; PySem.W.kcp_self e h
end
def iItemsT (td : TE) : TI := fun σ H R => td σ H fun x H1 => ∃ d o kvs, x = .ref d ∧ H1 d = some (.frz o (.dT kvs)) ∧ R (Itit d o kvs) H1
section
variable {X : Cx} {tg e : Expr} {td : TE} {apos cpos : Pos}
theorem pi_itemsT {elts : List Expr} {kk : Nat} {tpos : Pos} (he : PE X e td) (hbase : attributeBase e "items" X.env (eval e X.env) = eval e X.env := by rfl) (hline : (apos.endLine == cpos.line) = true := by rfl) :
    PI X (.Tuple elts kk tpos) (.Call (.Attribute e "items" apos) [] [] cpos) (iItemsT td) := by
  refine ⟨fun pins s σ H R I h => ?_⟩
  refine wpAny_Call_method (T := "dict") (id := "dict.items") hbase rfl hline F.plainAttrs_dict F.slot_dict_items F.type_dict_items (thn (he.run pins s σ H _ I h) fun u s1 ⟨x, H1, I1, rx, d, o, kvs, ex, hd, q⟩ => ?_)
  subst ex
  obtain rfl : u = Value.ref d := rx
  obtain ⟨hs, hgd, hx, es, ep, hdt, hsz, ent⟩ := I1.frzT2 hd
  have raw : DT.Raw s1.heap d es ep := ⟨o, hgd, hx, hdt⟩
  refine ⟨raw.typeIs, fun b e => by cases e; exact ⟨o, hgd, hx.2.1⟩, ?_⟩
  have I2 : Inv X pins σ H1 { s1 with heap := s1.heap.push { cls := .type "dict_items", data := .fields #[.ref d] } } := I1.kept (t' := s1.toks) fun b ob q => Heap.get?_push_of_some _ q
  have fin : wpAny (model X.prog X.w) X.A (pyIter (.ref s1.heap.objs.size)) (PIE X pins σ (.Tuple elts kk tpos) R) X.xe { s1 with heap := s1.heap.push { cls := .type "dict_items", data := .fields #[.ref d] } } := by
    refine DT.iterI (d := d) ⟨_, Heap.get?_push_size _ rfl, rfl, rfl⟩ (raw.push _) (pi_one (tk := s1.toks) I2 _ (turn_itemsT _ hdt) ⟨.none, .none, ?_⟩ q)
    rw [← hsz]
    exact Heap.get?_push_size _ rfl
  show wpAny _ _ (callWith cpos (.builtin "dict.items") [.ref d] [] []) _ X.xe s1
  exact method_meetsIn F.slot_dict_items F.entry_dict_items rfl (PySem.evalArgs_none ⟨rfl, raw.typeIs, F.args_dict_items_1 _, _, DT.meetsItems (es := es) (ep := ep) hs, raw, fin⟩)
end
end L2
namespace Dl
open PySem L2
section
variable {K : PySem.W.Frag} {U : Wi} {m m' : Nat → Addr} {S S' : Sto} {Z : Addr → Prop} {H H' : Hp} {n : Nat} {ob : Obj} {u : HO} {ks : List (List Key)} {ds : List D}
theorem inlckT (w : Wd K U m S Z H) (hS : S[n]? = some (some (.dicT ks ds))) : ∃ u, H (m n) = some u ∧ Mut (some u) ∧ ∀ ob, Wd K U m (S.set n (some (.lckT ob u ks ds))) Z (L2.upd H (m n) (.frz ob u)) ∧ Ext m S Z H m (S.set n (some (.lckT ob u ks ds))) (L2.upd H (m n) (.frz ob u)) := by
  obtain ⟨vs, e, l, r⟩ := w.rep n _ hS
  refine ⟨.dT (ks.zip vs), e, trivial, fun ob => ?_⟩
  obtain ⟨a, b, c⟩ := w.upd (n := n) (o := .frz ob (.dT (ks.zip vs))) (mo := .lckT ob (.dT (ks.zip vs)) ks ds) ⟨_, hS⟩ ⟨vs, rfl, upd_same, l, r⟩
  exact ⟨a, b⟩
end
/-- the items of a locked dict -/
def gItemsT (ge : G D) : GI := fun ρ S q => ge ρ S fun d S1 => ∃ n ob u ks ds, d = .loc n ∧ S1[n]? = some (some (.lckT ob u ks ds)) ∧ q (List.zipWith (fun k d => D.tup [.tup (k.map kD), d]) ks ds) (fun S' => S'[n]? = some (some (.lckT ob u ks ds))) S1
theorem vis_tup {K : PySem.W.Frag} {m : Nat → Addr} {S : Sto} {Z : Addr → Prop} {H : Hp} {a : Addr} {vs : List V} (w : Wd0 K m S Z H) (h : H a = some (.tup vs)) : vis m S Z H a = some (.tup vs) := by
  refine vis_of h (fun z => ?_) fun n l e => ?_
  · obtain ⟨o, ho, nt⟩ := w.zx a z
    rw [h] at ho
    exact nt vs (Option.some.inj ho).symm
  · obtain ⟨x, hx⟩ := l
    obtain ⟨o, ho, nt⟩ := (w.rep n x hx).noTup
    rw [e, h] at ho
    exact nt vs (Option.some.inj ho).symm
theorem reps_kD {K : PySem.W.Frag} {m : Nat → Addr} {N : Nat} {Hv : Hp} : ∀ ks : List Key, Reps K m N Hv (ks.map kD) (ks.map kV)
  | [] => rfl
  | k :: ks => ⟨_, _, rfl, rep_kD k, reps_kD ks⟩
theorem reps_at {K : PySem.W.Frag} {m : Nat → Addr} {N : Nat} {Hv : Hp} : ∀ {ds : List D} {vs : List V} {i : Nat} {v : V}, Reps K m N Hv ds vs → vs[i]? = some v → ∃ d, ds[i]? = some d ∧ Rep K m N Hv d v
  | [], _, _, _, r, e => by rw [show _ = [] from r] at e; simp at e
  | d :: ds, _, 0, _, r, e => by
    obtain ⟨v, q, e1, r1, r2⟩ := r
    subst e1
    rw [List.getElem?_cons_zero] at e
    cases e
    exact ⟨d, rfl, r1⟩
  | d :: ds, _, i + 1, _, r, e => by
    obtain ⟨v, q, e1, r1, r2⟩ := r
    subst e1
    rw [List.getElem?_cons_succ] at e
    rw [List.getElem?_cons_succ]
    exact reps_at r2 e
section
variable {X : Cx} {U : Wi} {e : Expr} {apos cpos : Pos} {ge : G D} {elts : List Expr} {kk : Nat} {tpos : Pos}
theorem di_itemsT (h : PE X e (tofE X.K U ge)) (hbase : attributeBase e "items" X.env (eval e X.env) = eval e X.env := by rfl) (hline : (apos.endLine == cpos.line) = true := by rfl) :
    PI X (.Tuple elts kk tpos) (.Call (.Attribute e "items" apos) [] [] cpos) (tofI X.K U (gItemsT ge)) :=
  weakI (pi_itemsT h hbase hline) fun σ H R ⟨m, S, Z, ρ, q, w, rs, h, k⟩ => tof_in w rs h fun v1 H1 m1 d1 S1 e1 w1 r1 ⟨n, ob, u, ks, ds, ed, hS, hq⟩ => by
    subst ed
    rw [rD, Rep] at r1
    obtain ⟨vs, eu, e, l, r⟩ := w1.rep n _ hS
    subst eu
    have hz : (ks.zip vs).length = ks.length := by rw [List.length_zip, ← l, Nat.min_self]
    have lds : ds.length = vs.length := (Reps.len r).symm
    have hzw : (List.zipWith (fun k d => D.tup [.tup (k.map kD), d]) ks ds).length = ks.length := by rw [List.length_zipWith, lds, ← l, Nat.min_self]
    refine ⟨m1 n, ob, ks.zip vs, r1.1, e, k _ _ _ _ _ _ e1 w1 ⟨fun {_ m' S' Z' H' i} lt w' hc hi => ?_, fun {_ m' S' Z' H'} lt w' hc => ?_⟩ hq⟩
    · obtain ⟨vs', eu', e', l', r'⟩ := w'.rep n _ hc
      rw [lt.loc n r1.2] at e'
      rw [hzw] at hi
      refine ⟨⟨e', by rw [hz]; exact hi⟩, fun x H2 ⟨T, key, v, q0, hk, ex, hT, hq0, eH⟩ => ?_⟩
      subst eH ex
      have hzz : ks.zip vs = ks.zip vs' := by injection eu'
      rw [hzz] at hk
      obtain ⟨hk1, hk2⟩ := List.getElem?_zip_eq_some.mp hk
      obtain ⟨d, hd, rd⟩ := reps_at r' hk2
      obtain ⟨w2, e2, hv⟩ := w'.new (o := .tup [.ref q0, v]) hT
      refine ⟨.tup [.tup (key.map kD), d], ?_, w2, e2, ?_⟩
      · rw [List.getElem?_zipWith, hk1, hd]
      · have rd2 := Rep.ext e2 rd
        have hq2 := e2.vis _ _ (vis_tup w'.toWd0 hq0)
        show Rep _ _ _ _ _ _
        rw [Rep]
        refine ⟨T, _, rfl, .inl (.inl hv), _, _, rfl, ?_, _, _, rfl, rd2, rfl⟩
        rw [Rep]
        exact ⟨q0, _, rfl, .inl (.inl hq2), reps_kD key⟩
    · obtain ⟨vs', eu', e', l', r'⟩ := w'.rep n _ hc
      rw [lt.loc n r1.2] at e'
      exact ⟨e', by rw [hz, hzw]; exact Nat.le_refl _⟩
end
end Dl
namespace L2
open PySem PySem.Spec PyProof.Rows
section
variable {X : Cx} {pins : List (Addr × Obj)} {σ : St} {H : Hp} {s : Shared} {a b : Addr} {A : Around} {E : Value → Shared → Prop}
/-- d.setdefault(k, x), the keys tuples -/
theorem d_setdT {kvs : List (List Key × V)} {k : List Key} {z : V} {fv : Value} {Q : Value → Shared → Prop} (hu : A.units + 1 < cLine) (I : Inv X pins σ H s) (e : H a = some (.dT kvs)) (eb : H b = some (.tup (k.map kV))) (rz : RelV z fv) (l : kvs.length < sizeLine)
    (h1 : ∀ v, valV kvs k = some v → ∀ w' s', Inv X pins σ H s' → RelV v w' → Q w' s') (h2 : valV kvs k = none → ∀ w' s', Inv X pins σ (upd H a (.dT (putK kvs k z))) s' → RelV z w' → Q w' s') :
    wpAny (model X.prog X.w) A (call (.builtin "dict.setdefault") [.ref a, .ref b, fv]) Q E s := by
  obtain ⟨z0, hd, xs, rel, dd⟩ := dt_of I.hok e
  have hz : xs.length ≤ sizeLine := by rw [← Paired.length rel]; exact z0
  have hl : (putK kvs k z).length ≤ sizeLine := by have := length_putK kvs k z; omega
  refine call_setdefault_heap (knd := tupleKind (mixKind X.prog X.w)) (hsz := hz) (tupleKind_room_in1 hu) (key_of I.hok eb) hd dd (fun p hp => ?_) fun hn h' dd' hs => ?_
  · have r := rel.val k
    rw [hp] at r
    obtain ⟨v0, ev, rv⟩ : ∃ v0, valV kvs k = some v0 ∧ RelV v0 p.2 := by
      cases ev : valV kvs k with
      | none =>
        rw [ev] at r
        exact (show False from r).elim
      | some v0 =>
        rw [ev] at r
        exact ⟨v0, rfl, r⟩
    exact h1 v0 ev _ _ (I.tok _) rv
  · have r := rel.val k
    rw [hn] at r
    have ev : valV kvs k = none := by
      cases ev : valV kvs k with
      | none => rfl
      | some v0 =>
        rw [ev] at r
        exact (show False from r).elim
    obtain ⟨q, es, ep, hq, g2, g3, g4, _, g5⟩ := dd'
    refine h2 ev _ _ (d_write I (by rw [e]; exact True.intro) hs ⟨q, hq⟩ ⟨hl, hd, _, (rel.put k eb rz).keeps fun c ys ec => ?_, q, es, ep, hq, g2, g3, g4, g5⟩) rz
    rw [upd_ne (ne_of ec e (fun z => nomatch z))]
    exact ec
end
def tDSetdT (td ty tx : TE) : TE := fun σ H Q => td σ H fun x H1 => ∃ a, x = .ref a ∧ IsD H1 a ∧ ty σ H1 fun y H2 => tx σ H2 fun z H3 => ∃ kvs k b, H3 a = some (.dT kvs) ∧ y = .ref b ∧ H3 b = some (.tup (k.map kV)) ∧ kvs.length < sizeLine ∧
  (∀ v, valV kvs k = some v → Q v H3) ∧ (valV kvs k = none → Q z (upd H3 a (.dT (putK kvs k z))))
section
variable {X : Cx} {o e f : Expr} {apos cpos : Pos} {td ty tx : TE}
theorem pe_dsetdT (hu : X.A.units + 1 < cLine) (ho : PE X o td) (he : PE X e ty) (hf : PE X f tx) (m : M2 X o "setdefault" apos e f cpos) : PE X (.Call (.Attribute o "setdefault" apos) [e, f] [] cpos) (tDSetdT td ty tx) := by
  refine ⟨fun pins s σ H Q I h => ?_⟩
  refine wpAny_Call_method m.base m.few m.line PySem.F.plainAttrs_dict PySem.F.slot_dict_setdefault PySem.F.type_dict_setdefault (thn (ho.run pins s σ H _ I h) fun u s1 ⟨x, H1, I1, rx, a, ex, d, q1⟩ => ?_)
  subst ex
  obtain rfl : u = Value.ref a := rx
  obtain ⟨t1, t2, _⟩ := isD_at I1 d
  refine ⟨t1, t2, ?_⟩
  rw [m.trees]
  refine Calls.callWith_builtin rfl (Calls.evalArgs_plain (Calls.spliced_cons (thn (he.run pins s1 σ H1 _ I1 q1) fun iv s2 ⟨y, H2, I2, ry, q2⟩ =>
    Calls.spliced_cons (thn (hf.run pins s2 σ H2 _ I2 q2) fun fv s3 ⟨z, H3, I3, rz, kvs, k, b, ea, ey, eb, hl, q3, q4⟩ => Calls.spliced_nil ?_))))
  subst ey
  obtain rfl : iv = Value.ref b := ry
  exact d_setdT hu I3 ea eb rz hl (fun v hv w' s4 I4 rw' => ⟨v, _, I4, rw', q3 v hv⟩) fun hn w' s4 I4 rw' => ⟨z, _, I4, rw', q4 hn⟩
/-- a dict told by an expression, locked from then on -/
def tLockV (td : TE) : TE := fun σ H Q => td σ H fun v H1 => ∃ d u, v = .ref d ∧ H1 d = some u ∧ Mut (some u) ∧ ∀ ob, Q v (upd H1 d (.frz ob u))
theorem pe_lockV (h : PE X e td) : PE X e (tLockV td) := by
  refine ⟨fun pins s σ H Q I hw => ?_⟩
  refine thn (h.run pins s σ _ _ I hw) fun v s1 ⟨x, H1, I1, r, d, u, ex, hd, mu, q⟩ => ?_
  obtain ⟨od, I2⟩ := I1.lock hd mu
  exact ⟨x, _, I2, r, q od⟩
end
end L2
namespace Dl
open PySem L2
section
variable {X : Cx} {pos tpos cp p1 : Pos} {o i : Expr} {es : List Expr} {x1 : Nat} {j0 : Nat} {j : Int} {go gi : G D} {gs : G (List D)}
def gDAugK (go gi : G D) (j : Int) : GS := fun E ρ S => go ρ S fun o S1 => gi ρ S1 fun x S2 => ∃ n ks ds k i, o = .loc n ∧ S2[n]? = some (some (.dic ks ds)) ∧ toKey x = some k ∧ dget k ks ds = some (.int i) ∧ ks.length < sizeLine ∧
  E.nx ρ (S2.set n (some (.dic (kput k ks) (dput k (.int (i + j)) ks ds))))
theorem d_daugK (ho : PE X o (tofE X.K U go)) (hi : PE X i (tofE X.K U gi)) (hu : X.A.units + 1 < cLine)
    (ha : ∀ ov iv new, augStore i ov iv new = (do holding [new, ov, iv] (setItem ov iv new); release [new, ov, iv] []; pure .next) := by intros; rfl) :
    PS X (.AugAssign (.Subscript o i tpos) .Add (.Constant (.int j) j0 cp) pos) (tofS X.K U (gDAugK go gi j)) :=
  weakS (ps_daug hu ho hi pe_int (show InOp X .Add _ from iop_add) ha) fun De σ H ⟨m, S, Z, ρ, E, w, rs, h, k⟩ => tof_in w rs h fun v1 H1 m1 d1 S1 e1 w1 r1 h1 => tof_in w1 (rs.ext e1) h1 fun v2 H2 m2 d2 S2 e2 w2 r2 ⟨n, ks, ds, kk, i, ed, hS, hk, hg, hl, h3⟩ => by
    subst ed
    obtain ⟨vs, hh, hlen, hr⟩ := w2.rep n _ hS
    have r1' : Rep X.K m2 S2.length (vis m2 S2 Z H2) (.loc n) v1 := r1.ext e2
    rw [Rep] at r1'
    have ey := rep_key r2 hk
    subst ey
    rcases reps_dget (k := kk) (ks := ks) hr with ⟨z1, _⟩ | ⟨d', v', z1, z2, z3⟩
    · rw [z1] at hg; cases hg
    · rw [z1] at hg
      cases hg
      have ev : v' = .int i := by simpa [Rep] using z3
      subst ev
      have g := DGet.k (k := kk) hh
      rw [z2] at g
      refine ⟨m2 n, .int i, r1'.1, g, i, j, rfl, rfl, _, DPut.k hh (by rw [List.length_zip, ← hlen, Nat.min_self]; exact hl), ?_⟩
      rw [putK_zip hlen]
      obtain ⟨w4, e4, hv4⟩ := w2.upd (o := .dK ((kput kk ks).zip (dput kk (.int (i + j)) ks vs))) (mo := .dic (kput kk ks) (dput kk (.int (i + j)) ks ds)) ⟨_, hS⟩ ⟨_, upd_same, by rw [put_len hlen], reps_put rep_int hr⟩
      exact k.nx _ _ m2 _ _ ((e1.trans e2).trans e4) w4 (((rs.ext e1).ext e2).ext e4) h3
def gDAugT (go : G D) (gs : G (List D)) (j : Int) : GS := fun E ρ S => go ρ S fun o S1 => gs ρ S1 fun xs S2 => xs.length ≤ sizeLine ∧ ∃ n ks ds k i, o = .loc n ∧ S2[n]? = some (some (.dicT ks ds)) ∧ toKeys xs = some k ∧ dgetP k ks ds = some (.int i) ∧ ks.length < sizeLine ∧
  E.nx ρ (S2.set n (some (.dicT (kputP k ks) (dputP k (.int (i + j)) ks ds))))
theorem d_daugT (ho : PE X o (tofE X.K U go)) (hs : PA X es (tofA X.K U gs)) (hu : X.A.units + 1 < cLine)
    (ha : ∀ ov iv new, augStore (.Tuple es x1 p1) ov iv new = (do holding [new, ov, iv] (setItem ov iv new); release [new, ov, iv] []; pure .next) := by intros; rfl) :
    PS X (.AugAssign (.Subscript o (.Tuple es x1 p1) tpos) .Add (.Constant (.int j) j0 cp) pos) (tofS X.K U (gDAugT go gs j)) :=
  weakS (ps_daug hu ho (pe_tup hs) pe_int (show InOp X .Add _ from iop_add) ha) fun De σ H ⟨m, S, Z, ρ, E, w, rs, h, k⟩ => tof_in w rs h fun v1 H1 m1 d1 S1 e1 w1 r1 h1 => tup_in w1 (rs.ext e1) h1 fun p xs H2 m2 S2 e2 w2 hp ⟨n, ks, ds, kk, i, ed, hS, hk, hg, hl, h3⟩ => by
    subst ed
    obtain ⟨vs, hh, hlen, hr⟩ := w2.rep n _ hS
    have r1' : Rep X.K m2 S2.length (vis m2 S2 Z H2) (.loc n) v1 := r1.ext e2
    rw [Rep] at r1'
    rcases reps_dgetP (k := kk) (ks := ks) hr with ⟨z1, _⟩ | ⟨d', v', z1, z2, z3⟩
    · rw [z1] at hg; cases hg
    · rw [z1] at hg
      cases hg
      have ev : v' = .int i := by simpa [Rep] using z3
      subst ev
      have g := DGet.t (k := kk) hh (hp kk hk)
      rw [z2] at g
      refine ⟨m2 n, .int i, r1'.1, g, i, j, rfl, rfl, _, DPut.t hh (hp kk hk) (by rw [List.length_zip, ← hlen, Nat.min_self]; exact hl), ?_⟩
      rw [putK_zipP hlen]
      obtain ⟨w4, e4, hv4⟩ := w2.upd (o := .dT ((kputP kk ks).zip (dputP kk (.int (i + j)) ks vs))) (mo := .dicT (kputP kk ks) (dputP kk (.int (i + j)) ks ds)) ⟨_, hS⟩ ⟨_, upd_same, by rw [put_lenP hlen], reps_putP rep_int hr⟩
      exact k.nx _ _ m2 _ _ ((e1.trans e2).trans e4) w4 (((rs.ext e1).ext e2).ext e4) h3
end
section
variable {X : Cx} {pos p1 apos cpos cp : Pos} {o e e1 e2 k1 k2 : Expr} {es : List Expr} {x1 j0 : Nat} {j : Int} {go gk1 gv1 gk2 gv2 : G D} {gs : G (List D)} {U : Wi}
/-- d.setdefault((..), whole number) -/
def gDSetdT (go : G D) (gs : G (List D)) (j : Int) : G D := fun ρ S q => go ρ S fun o S1 => (∃ ks' ds', dicTOf S1 o = some (ks', ds')) ∧ gs ρ S1 fun xs S2 => xs.length ≤ sizeLine ∧ ∃ n ks ds k, o = .loc n ∧ S2[n]? = some (some (.dicT ks ds)) ∧ toKeys xs = some k ∧ ks.length < sizeLine ∧
  (∀ d, dgetP k ks ds = some d → q d S2) ∧ (dgetP k ks ds = none → q (.int j) (S2.set n (some (.dicT (kputP k ks) (dputP k (.int j) ks ds)))))
theorem d_dsetdT (ho : PE X o (tofE X.K U go)) (hs : PA X es (tofA X.K U gs)) (hu : X.A.units + 1 < cLine) (m : M2 X o "setdefault" apos (.Tuple es x1 p1) (.Constant (.int j) j0 cp) cpos := by exact ⟨by rfl, by rfl, by rfl, by rfl⟩) :
    PE X (.Call (.Attribute o "setdefault" apos) [.Tuple es x1 p1, .Constant (.int j) j0 cp] [] cpos) (tofE X.K U (gDSetdT go gs j)) :=
  weakE (pe_dsetdT hu ho (pe_tup hs) pe_int m) fun σ H Q ⟨m, S, Z, ρ, q, w, rs, h, kk⟩ => tof_in w rs h fun v1 H1 m1 d1 S1 e1 w1 r1 ⟨h0, h1⟩ => by
    obtain ⟨a, ea, hd⟩ := isD_earlyT w1 r1 h0
    subst ea
    refine ⟨a, rfl, hd, tup_in w1 (rs.ext e1) h1 fun p xs H2 m2 S2 e2 w2 hp ⟨n, ks, ds, k, ed, hS, hk, hl, h4, h5⟩ => ?_⟩
    subst ed
    obtain ⟨vs, ha, hlen, hr⟩ := w2.rep n _ hS
    have r1' : Rep X.K m2 S2.length (vis m2 S2 Z H2) (.loc n) (.ref a) := r1.ext e2
    rw [Rep] at r1'
    have ea : a = m2 n := V.ref.inj r1'.1
    subst ea
    refine ⟨ks.zip vs, k, p, ha, rfl, hp k hk, by rw [List.length_zip, ← hlen, Nat.min_self]; exact hl, fun v hv => ?_, fun hv => ?_⟩
    · rcases reps_dgetP (k := k) (ks := ks) hr with ⟨z1, z2⟩ | ⟨d', v', z1, z2, z3⟩
      · rw [z2] at hv; cases hv
      · rw [z2] at hv
        cases hv
        exact kk.at (e1.trans e2) w2 z3 (h4 d' z1)
    · rcases reps_dgetP (k := k) (ks := ks) hr with ⟨z1, z2⟩ | ⟨d', v', z1, z2, z3⟩
      · rw [putK_zipP hlen]
        obtain ⟨w4, e4, hv4⟩ := w2.upd (o := .dT ((kputP k ks).zip (dputP k (.int j) ks vs))) (mo := .dicT (kputP k ks) (dputP k (.int j) ks ds)) ⟨_, hS⟩ ⟨_, upd_same, by rw [put_lenP hlen], reps_putP rep_int hr⟩
        exact kk.at ((e1.trans e2).trans e4) w4 rep_int (h5 z1)
      · rw [z2] at hv; cases hv
/-- d.get((..), x) -/
def gDGt2T (go : G D) (gs : G (List D)) (gf : G D) : G D := fun ρ S q => go ρ S fun o S1 => (∃ ks' ds', dicTOf S1 o = some (ks', ds')) ∧ gs ρ S1 fun xs S2 => xs.length ≤ sizeLine ∧ gf ρ S2 fun y S3 => ∃ ks ds k, dicTOf S3 o = some (ks, ds) ∧ toKeys xs = some k ∧ q ((dgetP k ks ds).getD y) S3
theorem d_dgt2T {f : Expr} {gf : G D} (ho : PE X o (tofE X.K U go)) (hs : PA X es (tofA X.K U gs)) (hf : PE X f (tofE X.K U gf)) (hu : X.A.units + 1 < cLine) (m : M2 X o "get" apos (.Tuple es x1 p1) f cpos := by exact ⟨by rfl, by rfl, by rfl, by rfl⟩) :
    PE X (.Call (.Attribute o "get" apos) [.Tuple es x1 p1, f] [] cpos) (tofE X.K U (gDGt2T go gs gf)) :=
  weakE (pe_dget2 hu ho (pe_tup hs) hf m) fun σ H Q ⟨m, S, Z, ρ, q, w, rs, h, kk⟩ => tof_in w rs h fun v1 H1 m1 d1 S1 e1 w1 r1 ⟨h0, h1⟩ => by
    obtain ⟨a, ea, hd⟩ := isD_earlyT w1 r1 h0
    subst ea
    refine ⟨a, rfl, hd, tup_in w1 (rs.ext e1) h1 fun p xs H2 m2 S2 e2 w2 hp h2 => tof_in w2 ((rs.ext e1).ext e2) h2 fun v3 H3 m3 d3 S3 e3 w3 r3 ⟨ks, ds, k, h4, hk, h5⟩ => ?_⟩
    have hp3 := vis_sub (e3.vis _ _ (vis_tup w2.toWd0 (hp k hk)))
    obtain ⟨a', ea, _, hg⟩ := dg_t w3 ((r1.ext e2).ext e3) h4 hp3
    cases ea
    rcases hg with ⟨z, g⟩ | ⟨d', v', z, g, rv⟩
    · rw [z] at h5; exact ⟨none, g, kk.at ((e1.trans e2).trans e3) w3 r3 h5⟩
    · rw [z] at h5; exact ⟨some v', g, kk.at ((e1.trans e2).trans e3) w3 rv h5⟩
/-- a dict with tuple keys told by an expression, locked from then on -/
def gLckV (go : G D) : G D := fun ρ S q => go ρ S fun o S1 => ∃ n ks ds, o = .loc n ∧ S1[n]? = some (some (.dicT ks ds)) ∧ ∀ (ob : Obj) (u : HO), q o (S1.set n (some (.lckT ob u ks ds)))
theorem d_lckV (h : PE X e (tofE X.K U go)) : PE X e (tofE X.K U (gLckV go)) :=
  weakE (pe_lockV h) fun σ H Q ⟨m, S, Z, ρ, q, w, rs, h, k⟩ => tof_in w rs h fun v1 H1 m1 d1 S1 e1 w1 r1 ⟨n, ks, ds, ed, hS, hq⟩ => by
    subst ed
    obtain ⟨u, e, mu, hl⟩ := inlckT w1 hS
    have r1' := r1
    rw [rD, Rep] at r1'
    refine ⟨m1 n, u, r1'.1, e, mu, fun ob => ?_⟩
    obtain ⟨w2, e2⟩ := hl ob
    exact k.at (e1.trans e2) w2 (Rep.ext e2 r1) (hq ob u)
/-- {k1: v1, k2: v2}, the keys told too -/
def gDisp2 (gk1 gv1 gk2 gv2 : G D) : G D := fun ρ S q => gk1 ρ (S ++ [some (.dic [] [])]) fun a1 S1 => gv1 ρ S1 fun b1 S2 => gk2 ρ S2 fun a2 S3 => gv2 ρ S3 fun b2 S4 => ∃ k1 k2, toKey a1 = some k1 ∧ toKey a2 = some k2 ∧ k1 ≠ k2 ∧ S4[S.length]? = some (some (.dic [] [])) ∧
  q (.loc S.length) (S4.set S.length (some (.dic [k1, k2] [b1, b2])))
theorem d_disp2 (hk1 : PE X k1 (tofE X.K U gk1)) (hv1 : PE X e1 (tofE X.K U gv1)) (hk2 : PE X k2 (tofE X.K U gk2)) (hv2 : PE X e2 (tofE X.K U gv2)) : PE X (.Dict [some k1, some k2] [e1, e2] pos) (tofE X.K U (gDisp2 gk1 gv1 gk2 gv2)) := by
  refine weakE (pe_disp (pps_cons hk1 hv1 (pps_cons hk2 hv2 pps_nil)) rfl rfl (fun z => nomatch z) (show 2 ≤ 15 by decide)) fun σ H Q ⟨m, S, Z, ρ, q, w, rs, h, kk⟩ p hpn => ?_
  obtain ⟨m', e0, w1, e1⟩ := w.add (p := p) (o := .dK []) (mo := .dic [] []) hpn fun m1 N1 Hv1 _ _ _ => ⟨[], upd_same, rfl, reps_nil⟩
  refine tof_in w1 (rs.ext e1) h fun x1 H1 m1 a1 S1 f1 y1 r1 h1 => tof_in y1 ((rs.ext e1).ext f1) h1 fun x2 H2 m2 b1 S2 f2 y2 r2 h2 => tof_in y2 (((rs.ext e1).ext f1).ext f2) h2 fun x3 H3 m3 a2 S3 f3 y3 r3 h3 => tof_in y3 ((((rs.ext e1).ext f1).ext f2).ext f3) h3 fun x4 H4 m4 b2 S4 f4 y4 r4 ⟨kk1, kk2, t1, t2, hne, hS, h5⟩ => ?_
  have g1 := rep_key r1 t1
  have g2 := rep_key r3 t2
  subst g1 g2
  obtain ⟨vs0, ha, hl0, hr0⟩ := y4.rep S.length _ hS
  have ee := ((f1.trans f2).trans f3).trans f4
  have em : m4 S.length = p := by rw [ee.loc S.length (by simp), e0]
  rw [em] at ha
  refine ⟨by simpa using ha, [(kk1, x2), (kk2, x4)], rfl, (show 2 ≤ 15 by decide), ?_⟩
  rw [mergeK_new (by simp [hne]), List.nil_append]
  obtain ⟨w4, e4, hv4⟩ := y4.upd (n := S.length) (o := .dK ([kk1, kk2].zip [x2, x4])) (mo := .dic [kk1, kk2] [b1, b2]) ⟨_, hS⟩ ⟨[x2, x4], upd_same, rfl, Reps.cons (r2.ext (f3.trans f4)) (Reps.one r4)⟩
  rw [em] at w4 e4
  refine kk.at ((e1.trans ee).trans e4) w4 ?_ h5
  show Rep _ _ _ _ _ _
  rw [Rep, em]
  exact ⟨rfl, by have := (List.getElem?_eq_some_iff.mp hS).1; simpa using this⟩
end
end Dl
namespace Dl
open PySem L2 PySem.Calls PySem.Spec PyProof.Rows
open PySem.SeqAt
open AutoSeq1 (wpAny_loadPart')
open MeetsSeq
section
variable {X : Cx} {pins : List (Addr × Obj)} {σ : L2.St} {H : Hp} {s : Shared}
inductive BV (K : PySem.W.Frag) (H : Hp) : V → String → Prop where
  | non : BV K H .non "NoneType"
  | bl {b : Bool} : BV K H (.bl b) "bool"
  | int {i : Int} : BV K H (.int i) "int"
  | str {x : Str} : BV K H (.str x) "str"
  | lst {a : Addr} {vs : List V} (h : H a = some (.lst vs)) : BV K H (.ref a) "list"
  | dK {a : Addr} {kvs : List (Key × V)} (h : H a = some (.dK kvs)) : BV K H (.ref a) "dict"
  | tup {a : Addr} {vs : List V} (h : SqT K H a vs) : BV K H (.ref a) "tuple"
theorem BV.mem {K : PySem.W.Frag} {x : V} {t : String} (b : BV K H x t) : t ∈ "NoneType" :: basicT := by
  cases b <;> decide
end
def D.bk : D → Option String
  | .non => some "NoneType"
  | .bl _ => some "bool"
  | .int _ => some "int"
  | .str _ => some "str"
  | .tup _ => some "tuple"
  | .lst _ => some "list"
  | .dic _ _ => some "dict"
  | _ => none
structure EqE where
  C : Addr
  k : Nat
  dsp : DSp
end Dl
namespace Dl
open PySem L2 PySem.Calls PySem.Spec PyProof.Rows
open PySem.SeqAt
open AutoSeq1 (wpAny_loadPart')
open MeetsSeq MeetsSeq2 SeqRoads2
end Dl
namespace Dl
open PySem L2 PyProof.Rows
section
variable {X : Cx} {a : Expr} {ta : TE} {p p2 q pos : Pos}
theorem vals_ints : ∀ {ns : List Int} {us : List Value}, Vals (ns.map V.int) us → IntsAre us ns
  | [], _, .nil => .nil
  | k :: ns, _, .cons r t => by
    obtain ⟨tk, rfl⟩ := r
    exact .cons k tk (vals_ints t)
/-- by data: the members, rising -/
def aSortSet (fz : Bool) (d : D) (S : Sto) (q : D → Sto → Prop) : Prop := ∃ ns : List Int, seqOf S d = some (ns.map D.int) ∧ d.isTup = false ∧ ns.length ≤ 3000 ∧ ∀ ks : List Int, ks.Pairwise (· < ·) → (∀ k, k ∈ ks ↔ k ∈ ns) → newL fz (ks.map D.int) S q
def gSortSet (fz : Bool) (ge : G D) : G D := fun ρ S q => ge ρ S fun d S1 => aSortSet fz d S1 q
end
end Dl
namespace Df
open PySem PySem.Froz PyProof.Rows PySem.Calls
section
variable {P : Program} {w : World} {A : Around} {E : Value → Shared → Prop} {s : Shared}
/-- a text that is there already -/
theorem dup_x {a : Addr} {T : String} {D : SD} {l : List Str} {k : Str} {u : Tok} {Q : Bool → Shared → Prop} (ho : s.heap.get? a = some (sObj T D)) (F : TxOk P w D l) (hk : k ∈ l) (hb : l.length < scanBound) (h : Q false s) :
    wpAny (model P w) A (setAddHashed a (.str k u) (hashStr w k)) Q E s := by
  obtain ⟨es, ep, t⟩ := D
  have sz : es.size < scanBound := by
    have : es.size = l.length := F.sz
    omega
  have key := is_str (P := P) (w := w) k u
  obtain ⟨j, hj⟩ : ∃ j, List.findIdx? (fun e => (strKind P w).is k e.2) es.toList = some j := by
    cases q : List.findIdx? (fun e => (strKind P w).is k e.2) es.toList with
    | some j => exact ⟨j, rfl⟩
    | none =>
      obtain ⟨e, he, z⟩ := (F.mem k).mp hk
      rw [List.findIdx?_eq_none_iff.mp q e he] at z
      cases z
  have fit : t.fits es.size = true := F.fit
  have el : ElemsOf (strKind P w) es.toList := F.el
  unfold setAddHashed setAddHashedIn
  refine wpAny_holding (wpAny_bind (wpAny_setState_of ho rfl fit ?_))
  dsimp only
  rw [byScan_of (knd := strKind P w) (x := .str k u) rfl sz el, if_pos rfl]
  unfold setAddByScan
  refine wpAny_bind (wpAny_bind (wpAny_rule (wpAny_bind (wpAny_setScan_of (knd := strKind P w) key ho rfl fit el ?_))))
  rw [hj]
  exact wpAny_pure (wpAny_pure h)
end
section
variable {P : Program} {w : World} {A : Around} {E : Value → Shared → Prop} {s : Shared}
theorem strs_ix : ∀ {us : List Value} {xs : List Str}, StrsAre us xs → us.length = xs.length ∧ ∀ (i : Nat) (v : Value), us[i]? = some v → ∃ x t, v = .str x t ∧ xs[i]? = some x
  | _, _, .nil => ⟨rfl, fun i v h => by simp at h⟩
  | _, _, .cons x k r => ⟨congrArg Nat.succ (strs_ix r).1, fun i v h => by
      cases i with
      | zero => simp at h; exact ⟨x, k, h.symm, rfl⟩
      | succ i => exact (strs_ix r).2 i v (by simpa using h)⟩
end
end Df
namespace Dl
open PySem L2 PyProof.Rows
section
variable {X : Cx} {a : Expr} {ta : TE} {p p2 q pos : Pos}
def aLenFz (d : D) (S : Sto) (q : D → Sto → Prop) : Prop := ∃ xs : List Str, seqOf S d = some (xs.map D.str) ∧ d.isTup = false ∧ xs.length ≤ 1000 ∧ ∀ ys : List Str, ys.Nodup → (∀ y, y ∈ ys ↔ y ∈ xs) → q (.int ys.length) S
def gLenFz (ge : G D) : G D := fun ρ S q => ge ρ S fun d S1 => aLenFz d S1 q
theorem nodup_eq {A : Type} [DecidableEq A] : ∀ {l m : List A}, l.Nodup → (∀ y, y ∈ l ↔ y ∈ m) → (l.length = m.length ↔ m.Nodup) := by
  intro l m nd h
  constructor
  · intro e
    induction m generalizing l with
    | nil => exact List.nodup_nil
    | cons x m ih =>
      have hx : x ∈ l := (h x).mpr List.mem_cons_self
      have hnx : x ∉ m := fun hm => by
        have := nodup_len (m := m) nd fun y hy => by
          rcases List.mem_cons.mp ((h y).mp hy) with z | z
          · rw [z]; exact hm
          · exact z
        rw [e, List.length_cons] at this
        omega
      refine List.nodup_cons.mpr ⟨hnx, ih (l := l.erase x) (nd.erase x) (fun y => ?_) ?_⟩
      · rw [nd.mem_erase_iff, h y, List.mem_cons]
        constructor
        · rintro ⟨n, z | z⟩
          · exact absurd z n
          · exact z
        · exact fun z => ⟨fun q => hnx (q ▸ z), .inr z⟩
      · rw [List.length_erase_of_mem hx, e, List.length_cons]; rfl
  · exact fun nd2 => Nat.le_antisymm (nodup_len nd fun y hy => (h y).mp hy) (nodup_len nd2 fun y hy => (h y).mpr hy)
end
end Dl
namespace Dl
open PySem L2 PyProof.Rows
section
variable {X : Cx} {a : Expr} {ta : TE} {p p2 q pos : Pos}
def aLenSt (d : D) (S : Sto) (q : D → Sto → Prop) : Prop := ∃ ns : List Int, seqOf S d = some (ns.map D.int) ∧ d.isTup = false ∧ ns.length ≤ 3000 ∧ ∀ ks : List Int, ks.Nodup → (∀ k, k ∈ ks ↔ k ∈ ns) → q (.int ks.length) S
def gLenSt (ge : G D) : G D := fun ρ S q => ge ρ S fun d S1 => aLenSt d S1 q
theorem x_lenSt {ge : G D} {ρ : Env_} {S : Sto} {q : D → Sto → Prop} : gLenSt ge ρ S q = ge ρ S fun d S1 => aLenSt d S1 q := rfl
end
end Dl
namespace Dl
open PySem PySem.Froz L2 PyProof.Rows
end Dl
namespace Ds
open PySem PySem.Froz PyProof.Rows PySem.Calls L2 PySem.W Dl Df
/-- what a walk over the set asks besides -/
def RL (w : World) (D : SD) : Prop := Ris D.2.2.place.toList ∧ (w.params.followText "set-order" = true ∨ D.2.2.led = true)
theorem rl_add {w : World} {h : Int} {v : Value} {D : SD} (L : RL w D) : RL w (addTx h v D) := by
  obtain ⟨es, ep, t⟩ := D
  obtain ⟨l1, l2⟩ := L
  have a1 := layNew_ris t es h v l1
  have a2 := layNew_led t es h v
  unfold addTx tailTx
  generalize hT : (if (layNew t es h v).2.1.plain = true then { (layNew t es h v).2.1 with plain := false } else (layNew t es h v).2.1) = T
  have t1 : T.place = (layNew t es h v).2.1.place := by rw [← hT]; split <;> rfl
  have t2 : T.led = (layNew t es h v).2.1.led := by rw [← hT]; split <;> rfl
  dsimp only
  split
  · exact ⟨relayAll_ris _ _ _, by rw [relayAll_led, t2, a2]; exact l2⟩
  · exact ⟨by rw [t1]; exact a1, by rw [t2, a2]; exact l2⟩
theorem rl_nil {w : World} {led : Bool} (h : (!w.params.followText "set-order") = led) : RL w (#[], 0, .fresh 0 0 led) := by
  refine ⟨List.Pairwise.nil, ?_⟩
  cases q : w.params.followText "set-order" with
  | true => exact .inl rfl
  | false => rw [q] at h; exact .inr h.symm
section
variable {P : Program} {w : World} {A : Around} {R : Result → Shared → Prop} {I : Addr} {fp wr : List Addr} {G : Array GenState → Array GenState → Prop} {n : Nat} {Pv : Nat → Value → Prop} {St : Nat → Shared → Prop}
theorem upd_loop2 (W : WalksS P w A.in1 I fp wr G n Pv St) (S : Addr) (T : String) (hSf : S ∉ fp) (xs : List Str) (hn : xs.length = n) (hv : ∀ i v, Pv i v → ∃ x t, v = .str x t ∧ xs[i]? = some x) (hb : n + 1 < scanBound) :
    ∀ (k i : Nat) (s : Shared) (D : SD) (l : List Str), n - i = k → i ≤ n → St i s → s.heap.get? S = some (sObj T D) → TxOk P w D l → RL w D → (∀ y, y ∈ l ↔ y ∈ xs.take i) → l.Nodup → l.length ≤ i →
      (∀ s' D' l', Moved (S :: wr) G s s' → s'.heap.get? S = some (sObj T D') → TxOk P w D' l' → RL w D' → (∀ y, y ∈ l' ↔ y ∈ xs) → l'.Nodup → l'.length ≤ n → R (.ok (.ret .none)) s') →
      codeAny (model P w) A (.builtin "set.update.loop" ⟨[.ref S, .ref I], []⟩) R s := by
  have hSw : S ∉ wr := fun h => hSf (W.sub _ h)
  have up : ∀ b ∈ wr, b ∈ S :: wr := fun b hb => List.mem_cons_of_mem _ hb
  intro k
  induction k with
  | zero =>
    intro i s D l hk hi st ho F L hm nd hl fin
    obtain rfl : i = n := by omega
    refine codeAny_builtin PyProof.Rows.F.entry_set_update_loop ?_
    rw [Around.under_plainId PyProof.Rows.F.plain_set_update_loop _]
    show wpAny _ A.in1 (pyNext (.ref I) >>= _) _ _ s
    refine wpAny_bind (W.done s _ _ st fun s' mv => wpAny_pure (fin s' D l (mv.mono up) (mv.heap S _ hSw ho) F L (fun y => ?_) nd hl))
    rw [hm y, List.take_of_length_le (by omega)]
  | succ k ih =>
    intro i s D l hk hi st ho F L hm nd hl fin
    have hlt : i < n := by omega
    refine codeAny_builtin PyProof.Rows.F.entry_set_update_loop ?_
    rw [Around.under_plainId PyProof.Rows.F.plain_set_update_loop _]
    show wpAny _ A.in1 (pyNext (.ref I) >>= _) _ _ s
    refine wpAny_bind (W.item i s _ _ hlt st fun v s' hP st' mv => ?_)
    obtain ⟨x, t, rfl, hx⟩ := hv i v hP
    have ho' := mv.heap S _ hSw ho
    have tk1 : xs.take (i + 1) = xs.take i ++ [x] := by rw [List.take_add_one, hx]; rfl
    show wpAny _ A.in1 (holding [Value.str x t] (setAdd S (.str x t)) >>= _) _ _ s'
    refine wpAny_bind (wpAny_holding ?_)
    unfold setAdd
    refine wpAny_holding (wpAny_bind (wpAny_pyHash_str ?_))
    by_cases hx2 : x ∈ l
    · refine dup_x (s := { s' with toks := s'.toks + 1 }) ho' F hx2 (by omega) (wpAny_pure ⟨plainId_quiet PyProof.Rows.F.plain_set_update_loop _, ?_⟩)
      refine ih (i + 1) _ D l (by omega) hlt (W.frame _ s' _ _ st' (Nat.le_succ _) fun b _ o e => e) ho' F L (fun y => ?_) nd (by omega) fun s2 D2 l2 mv2 => fin s2 D2 l2 (Moved.trans W.gtrans ((mv.mono up).then_heap (Nat.le_succ _) fun b o _ e => e) mv2)
      rw [tk1, List.mem_append, ← hm y, List.mem_singleton]
      exact ⟨.inl, fun z => z.elim id fun e => e ▸ hx2⟩
    · refine add_x (s := { s' with toks := s'.toks + 1 }) ho' F hx2 (by omega) (wpAny_pure ⟨plainId_quiet PyProof.Rows.F.plain_set_update_loop _, ?_⟩)
      have off : ∀ b, b ≠ S → ∀ o, s'.heap.get? b = some o → (s'.heap.update S (fun _ => sObj T (addTx (hashStr w x) (.str x t) D))).get? b = some o := fun b hb o e => (Heap.get?_update_ne _ _ _ _ hb).trans e
      refine ih (i + 1) _ _ (x :: l) (by omega) hlt (W.frame _ s' _ _ st' (Nat.le_succ _) fun b hb o e => off b (fun z => hSf (z ▸ hb)) o e) (get_upd _ ho' rfl) (add_ok t F) (rl_add L) (fun y => ?_) (List.nodup_cons.mpr ⟨hx2, nd⟩) (by rw [List.length_cons]; omega)
        fun s2 D2 l2 mv2 => fin s2 D2 l2 (Moved.trans W.gtrans ((mv.mono up).then_heap (Nat.le_succ _) fun b o hb e => off b (fun z => hb (z ▸ List.mem_cons_self)) o e) mv2)
      rw [tk1, List.mem_append, List.mem_cons, ← hm y, List.mem_singleton]
      exact or_comm
end
section
variable {P : Program} {w : World} {A : Around} {E : Value → Shared → Prop} {s : Shared}
set_option maxHeartbeats 8000000 in
/-- set(list of texts) -/
theorem call_setX2 {l : Addr} {items : Array Value} (xs : List Str) {Q : Value → Shared → Prop} (hh : A.handled = none) (hl : s.heap.IsList l items) (hi : StrsAre items.toList xs) (hb : xs.length + 1 < scanBound)
    (h : ∀ (h' : Heap) (tk : Nat) (D : SD) (ys : List Str), h'.get? s.heap.objs.size = some (sObj "set" D) → TxOk P w D ys → RL w D → (∀ y, y ∈ ys ↔ y ∈ xs) → ys.Nodup → ys.length ≤ xs.length → (∀ b o, b < s.heap.objs.size → s.heap.get? b = some o → h'.get? b = some o) → Q (.ref s.heap.objs.size) { s with heap := h', toks := tk }) :
    wpAny (model P w) A (call (.type "set") [.ref l]) Q E s := by
  obtain ⟨c, tl, hmro⟩ := PySem.F.called_set.mro
  have hmade := PySem.F.called_set.made
  have hsub := PySem.F.called_set.sub
  refine wpAny_call (codeAny_of_tree ?_)
  show wpAny _ _ (callAny (.type "set") _) _ _ _
  refine wpAny_pure ⟨Code.quiet_builtin _ (by decide +kernel), codeAny_builtin PySem.F.entry_type_call ?_⟩
  rw [Around.under_plain (weight_type_call_type "set" [.ref l] []) rfl]
  have h1 := PySem.F.called_set.notType
  have h2 := PySem.F.called_set.canCreate
  have hct := PySem.F.typeCall_set_1 (.ref l)
  repeat (any_goals (first | assumption | wp_step))
  generalize hled : (!w.params.followText "set-order") = led
  refine codeAny_mono (code_set_led1 (.ref l) (E := E) (Q₁ := fun obj s₁ => obj = .ref s.heap.objs.size ∧ s₁ = { s with heap := s.heap.push { cls := .type "set", dict := none, data := .set #[] 0 (.fresh 0 0 led) } }) (by rw [hled]; exact ⟨rfl, rfl⟩)) fun r s₁ hr => ?_
  match r, hr with
  | .error e, hr => exact hr
  | .ok .next, hr => exact hr.elim
  | .ok .brk, hr => exact hr.elim
  | .ok .cont, hr => exact hr.elim
  | .ok (.ret obj), hr =>
    obtain ⟨rfl, rfl⟩ := hr
    have hS : (s.heap.push { cls := .type "set", dict := none, data := .set #[] 0 (.fresh 0 0 led) }).get? s.heap.objs.size = some { cls := .type "set", dict := none, data := .set #[] 0 (.fresh 0 0 led) } := Heap.get?_push_size _ rfl
    have hT : Shared.TypeIs { s with heap := s.heap.push { cls := .type "set", dict := none, data := .set #[] 0 (.fresh 0 0 led) } } (.ref s.heap.objs.size) "set" := ⟨_, hS, rfl⟩
    have hli := PySem.F.called_set.init.lookup
    have hbi := PySem.F.called_set.init.bind (.ref s.heap.objs.size)
    repeat (any_goals (first | assumption | wp_step))
    refine codeAny_mono (codeAny_call_builtin (R := wants (fun r s₂ => r = .none ∧ ∃ h' tk D ys, s₂ = { s with heap := h', toks := tk } ∧ h'.get? s.heap.objs.size = some (sObj "set" D) ∧ TxOk P w D ys ∧ RL w D ∧ (∀ y, y ∈ ys ↔ y ∈ xs) ∧ ys.Nodup ∧ ys.length ≤ xs.length ∧
      ∀ b o, b < s.heap.objs.size → s.heap.get? b = some o → h'.get? b = some o) E) PySem.F.called_set.init.plain PySem.F.entry_set_init (check_set_init_1 hT ?_)) fun r₂ s₂ hr₂ => ?_
    · have hlist := hl
      obtain ⟨ol, hol, hcl, nl, hdl⟩ := hl
      obtain ⟨ocls, odict, odata, oslots⟩ := ol
      simp only at hcl hdl
      subst hcl; subst hdl
      have hlS : l < s.heap.objs.size := Heap.lt_size hol
      have hol' : (s.heap.push { cls := .type "set", dict := none, data := .set #[] 0 (.fresh 0 0 led) }).get? l = some { cls := .type "list", dict := odict, data := .seq items nl, slots := oslots } := Heap.get?_push_of_some _ hol
      have hl1 : (s.heap.push { cls := .type "set", dict := none, data := .set #[] 0 (.fresh 0 0 led) }).IsList l items := ⟨_, hol', rfl, nl, rfl⟩
      have hsls := PySem.F.sub_list_set
      have hslf := PySem.F.sub_list_frozenset
      have hne : (Value.type "list" == Value.type "dict") = false := by decide
      unfold Builtin.«set.__init__» noKeywords Builtin.Frozenset.updateFrom
      generalize hPI : pyIter = PI
      wp_walk
      subst hPI
      refine wpAny_pyIter_list hl1 (wpAny_bind (wpAny_runValue ?_))
      have e0 := Df.strs_ix hi
      have hI : l ≠ (s.heap.push { cls := .type "set", dict := none, data := .set #[] 0 (.fresh 0 0 led) }).objs.size := by
        rw [Heap.size_push]; exact Nat.ne_of_lt (Nat.lt_succ_of_lt hlS)
      have hSf : s.heap.objs.size ∉ [(s.heap.push { cls := .type "set", dict := none, data := .set #[] 0 (.fresh 0 0 led) }).objs.size, l] := by
        rw [Heap.size_push]; simp only [List.mem_cons, List.not_mem_nil, or_false, not_or]
        exact ⟨Nat.ne_of_lt (Nat.lt_succ_self _), Nat.ne_of_gt hlS⟩
      have hS1 : ((s.heap.push { cls := .type "set", dict := none, data := .set #[] 0 (.fresh 0 0 led) }).push { cls := .type "list_iterator", data := .fields #[.ref l, .int 0 0] }).get? s.heap.objs.size = some (sObj "set" (#[], 0, .fresh 0 0 led)) := Heap.get?_push_of_some _ hS
      refine upd_loop2 (Walks.list (A := A.in1.in1.in1) (by simp [hh]) _ l hI items).toS s.heap.objs.size "set" hSf xs ?_ ?_ ?_ (items.size - 0) 0 _ (#[], 0, .fresh 0 0 led) [] rfl (Nat.zero_le _) ?_ ?_ (TxOk.nil rfl) (rl_nil hled) (fun y => by simp) List.nodup_nil (Nat.zero_le _) ?_
      · rw [← e0.1, Array.length_toList]
      · exact fun i v hv => e0.2 i v (by rw [Array.getElem?_toList]; exact hv)
      · have := e0.1
        rw [Array.length_toList] at this
        omega
      · exact ⟨⟨_, Heap.get?_push_size _ rfl, rfl, rfl⟩, hl1.push _⟩
      · exact hS1
      intro s' D' ys mv ho' F' L' hm nd hl'
      have sz : items.size = xs.length := by rw [← e0.1, Array.length_toList]
      obtain ⟨h', g', d', tk', os'⟩ := s'
      obtain rfl : g' = s.gens := mv.gens
      obtain rfl : d' = s.drawn := mv.drawn
      obtain rfl : os' = s.os := mv.os
      refine wpAny_pure (wpAny_pure ⟨rfl, h', tk', D', ys, rfl, ho', F', L', hm, nd, by omega, fun b o hb e => ?_⟩)
      refine mv.heap b o ?_ (Heap.get?_push_of_some _ (Heap.get?_push_of_some _ e))
      simp only [List.mem_cons, List.not_mem_nil, or_false, not_or]
      refine ⟨Nat.ne_of_lt hb, ?_⟩
      rw [Heap.size_push]; exact Nat.ne_of_lt (Nat.lt_succ_of_lt hb)
    · match r₂, hr₂ with
      | .error e, hr₂ => exact hr₂
      | .ok .next, hr₂ => exact hr₂.elim
      | .ok .brk, hr₂ => exact hr₂.elim
      | .ok .cont, hr₂ => exact hr₂.elim
      | .ok (.ret r), hr₂ =>
        obtain ⟨rfl, h', tk, D, ys, rfl, ho, F, L, hm, nd, hc, hk⟩ := hr₂
        repeat (any_goals (first | assumption | wp_step))
        exact h _ _ D ys ho F L hm nd hc hk
end
section
variable {P : Program} {w : World} {A : Around} {E : Value → Shared → Prop} {s : Shared}
def keyS : Value → Str
  | .str x _ => x
  | _ => Str.empty
theorem strsAre_map : ∀ vs : List Value, (∀ v ∈ vs, ∃ x t, v = .str x t) → StrsAre vs (vs.map keyS)
  | [], _ => .nil
  | v :: vs, h => by
    obtain ⟨x, t, rfl⟩ := h v List.mem_cons_self
    exact .cons x t (strsAre_map vs fun u hu => h u (List.mem_cons_of_mem _ hu))
def leX (a b : Str) : Bool := decide (a.cps.toList ≤ b.cps.toList)
/-- sorted(set of texts) -/
theorem sorted_setX {a : Addr} {D : SD} {ys : List Str} {Q : Value → Shared → Prop} (ho : s.heap.get? a = some (sObj "set" D)) (F : TxOk P w D ys) (L : RL w D) (nd : ys.Nodup) (hh : A.handled = none) (hu : A.units + 64 < cLine) (hn4 : ys.length < 4000)
    (hQ : ∀ s' p (out : List Value) (c : Nat) (ns : List Str), (∀ b o, s.heap.get? b = some o → s'.heap.get? b = some o) → s'.gens = s.gens → s'.os = s.os → s.heap.objs.size ≤ p → s'.heap.get? p = some (seqObj "list" out.toArray c) →
      StrsAre out ns → ns.Pairwise (fun a b => leX a b = true) → ns.Nodup → (∀ k, k ∈ ns ↔ k ∈ ys) → ns.length = ys.length → Q (.ref p) s') :
    wpAny (model P w) A (call (.builtin "sorted") [.ref a]) Q E s := by
  obtain ⟨es, ep, t⟩ := D
  have hn : es.size = ys.length := F.sz
  have hf : t.fits es.size = true := F.fit
  have hel : ElemsOf (strKind P w) es.toList := F.el
  have hme : ∀ k : Str, k ∈ ys ↔ ∃ e ∈ es.toList, (strKind P w).is k e.2 = true := F.mem
  have hr : Ris t.place.toList := L.1
  have hl : w.params.followText "set-order" = true ∨ t.led = true := L.2
  have hb : es.size < scanBound := by unfold scanBound; omega
  have shp : ∀ e ∈ es.toList, ∃ x tk, e.2 = .str x tk := fun e he => by
    obtain ⟨⟨k, hk, _⟩, _⟩ := hel e he
    obtain ⟨tk, z⟩ := Value.isStrOf_shape (show Value.isStrOf k e.2 = true from hk)
    exact ⟨k, tk, z⟩
  have kme : ∀ y, y ∈ ys ↔ y ∈ es.toList.map (fun e => keyS e.2) := fun y => by
    rw [hme y, List.mem_map]
    constructor
    · rintro ⟨e, he, hk⟩
      obtain ⟨tk, z⟩ := Value.isStrOf_shape (show Value.isStrOf y e.2 = true from hk)
      exact ⟨e, he, by rw [z]; rfl⟩
    · rintro ⟨e, he, hk⟩
      obtain ⟨x, tk, z⟩ := shp e he
      refine ⟨e, he, ?_⟩
      rw [z] at hk ⊢
      rw [show x = y from hk]
      exact is_str y tk
  have knd : (es.toList.map (fun e => keyS e.2)).Nodup := (nodup_eq nd kme).mp (by have q := Array.length_toList (xs := es); rw [List.length_map]; omega)
  refine Calls.call_function_entry kind_sorted plain_sorted entry_sorted (args_sorted1 _) ?_
  unfold Builtin.«sorted»
  refine wpAny_bind (m := checkCount "sorted" 1 1 _) (wpAny_pure (wpAny_bind (collect_set (A := A.in1) (es := es) (ep := ep) (t := t) hh ⟨_, ho, rfl, rfl⟩ hf hb hr hl fun s1 vs k1 hz g1 o1 pm => ?_)))
  have hvl : vs.length = ys.length := by rw [pm.length_eq, List.length_map, Array.length_toList]; exact hn
  have hI : StrsAre vs (vs.map keyS) := strsAre_map vs fun v hv => by
    obtain ⟨e, he, q⟩ := List.mem_map.mp (pm.mem_iff.mp hv)
    rw [← q]
    exact shp e he
  generalize hns : vs.map keyS = ns at hI
  have pk : ns.Perm (es.toList.map fun e => keyS e.2) := by
    have q := pm.map keyS
    rw [List.map_map, hns] at q
    exact q
  have hz2 : vs.length ≤ sizeLine := by rw [hvl, sizeLine_eq]; omega
  refine wpAny_bind (wpAny_newList ?_ hz2)
  have hoL : (s1.heap.push (seqObj "list" vs.toArray 0)).get? s1.heap.objs.size = some (seqObj "list" vs.toArray 0) := Heap.get?_push_size _ rfl
  obtain ⟨el, ei⟩ := Df.strs_ix hI
  let h0 := s1.heap.push (seqObj "list" vs.toArray 0)
  let hs := sortingHeap h0 s1.heap.objs.size vs
  have ez : ∀ i v k, vs[i]? = some v → ns[i]? = some k → ∃ t, v = Value.str k t := fun i v k h1 h2 => by
    obtain ⟨k', t', e1, e2⟩ := ei i v h1
    rw [h2] at e2
    exact ⟨t', by rw [e1, ← Option.some.inj e2]⟩
  have er : EachIs (fun v (k : Str) => ∃ as, Reads hs v (PyData.str k) as) vs ns := each_of el fun i v k h1 h2 => by
    obtain ⟨t', rfl⟩ := ez i v k h1 h2
    exact ⟨[], Reads.str k t'⟩
  have ev : EachIs (fun v (k : Str) => ∃ t, v = Value.str k t) vs ns := each_of el fun i v k h1 h2 => ez i v k h1 h2
  have al : AllAlike (ns.map PyData.str) := AllAlike.of fun b b' => rfl
  have so : Sortable (ns.map PyData.str) := .inr fun d hd => by
    obtain ⟨p, _, rfl⟩ := List.mem_map.mp hd
    exact ⟨fun z => (nomatch z), fun xs z => nomatch z⟩
  have ub : ∀ b, b ∈ ns → (A.in1.in1).units + (PyData.str b).depth < cLine := fun b _ => by
    show A.units + 1 + 1 + 0 < cLine
    omega
  refine wpAny_bind (wpAny_holding (wpAny_call_entry slot_list_sort ⟨_, hoL, rfl⟩ entry_list_sort (list_sort_vals hoL (SortsAt.data (s := { s1 with heap := hs }) (each_map (R := fun v d => ∃ as, Reads hs v d as) PyData.str er) al so (bound_map ub)) hz2 ⟨_, rfl, ?_⟩) (args_list_sort _)))
  have he : EachIs (fun v (k : Str) => ∃ t, v = Value.str k t) (sortVals (dataKind hs (ns.map PyData.str)) false vs vs) (ns.mergeSort (dataLe false PyData.str)) := sortVals_data false ev er al
  have eI : dataLe false PyData.str = leX := PySem.W.dataLe_str (β := Str) id
  rw [eI] at he
  generalize sortVals (dataKind hs (ns.map PyData.str)) false vs vs = out at he
  have perm := List.mergeSort_perm ns leX
  have hlen : out.length = vs.length := by
    have := he.length
    rw [this, List.length_mergeSort, ← el]
  obtain ⟨c, hcc⟩ := sortedHeap_at (vs := vs) (out := out.toArray) hoL
  have pn : (ns.mergeSort leX).Perm (es.toList.map fun e => keyS e.2) := perm.trans pk
  refine wpAny_pure ⟨_, rfl, hQ _ s1.heap.objs.size out c (ns.mergeSort leX) (fun b u e => ?_) g1 o1 hz hcc ?_ (List.pairwise_mergeSort (fun a b c h1 h2 => ?_) (fun a b => ?_) ns) (pn.nodup_iff.mpr knd) (fun k => by rw [pn.mem_iff, kme k]) ?_⟩
  · have q := k1 b u e
    have hlt := Heap.lt_size q
    show (sortedHeap h0 s1.heap.objs.size vs out.toArray).get? b = some u
    rw [sortedHeap_old (Nat.ne_of_lt hlt) (by rw [size_push']; exact Nat.lt_succ_of_lt hlt)]
    exact Heap.get?_push_of_some _ q
  · have : ∀ {us : List Value} {ks : List Str}, EachIs (fun v (k : Str) => ∃ t, v = Value.str k t) us ks → StrsAre us ks := by
      intro us ks h
      induction h with
      | nil => exact .nil
      | cons r _ ih =>
        obtain ⟨t, rfl⟩ := r
        exact .cons _ t ih
    exact this he
  · simp only [leX, decide_eq_true_eq] at h1 h2 ⊢
    exact List.le_trans h1 h2
  · simp only [leX, Bool.or_eq_true, decide_eq_true_eq]
    exact List.le_total _ _
  · rw [pn.length_eq, List.length_map, Array.length_toList]; exact hn
end
end Ds
namespace Dl
open PySem PySem.Froz L2 PyProof.Rows
def tSortSetX (K : PySem.W.Frag) (ta : TE) : TE := fun σ H Q => ta σ H fun x H1 => ∃ (l : Addr) (xs : List Str), x = .ref l ∧ SqL K H1 l (xs.map V.str) ∧ xs.length ≤ 3000 ∧ ∀ p ks, H1 p = none → List.Pairwise (fun a b => Ds.leX a b = true) ks → ks.Nodup → (∀ k : Str, k ∈ ks ↔ k ∈ xs) → Q (.ref p) (upd H1 p (.lst (ks.map V.str)))
section
variable {X : Cx} {a : Expr} {ta : TE} {p p2 q pos : Pos}
theorem strs_vals : ∀ {us : List Value} {ns : List Str}, StrsAre us ns → Vals (ns.map V.str) us
  | _, _, .nil => .nil
  | _, _, .cons k t r => .cons ⟨t, rfl⟩ (strs_vals r)
theorem pe_sortSetX (hc : X.calm = true) (hu : X.A.units + 64 < cLine) (hg : Gl X "sorted") (hm : X.mg "sorted" = none) (hg2 : Gl X "set") (hm2 : X.mg "set" = none) (ha : PE X a ta) (na : starEach [a] X.env = (false, eval a X.env) :: starEach [] X.env := by rfl) :
    PE X (.Call (.Name "sorted" p) [.Call (.Name "set" p2) [a] [] q] [] pos) (tSortSetX X.K ta) := by
  refine ⟨fun pins s σ H Q I h => ?_⟩
  refine Call_ (ld_blt I hg hm boot_sorted (PyProof.Rows.callWith_builtin1 (PyProof.Rows.args_cons ?_ rfl) rfl rfl))
  refine Call_ (ld_blt I hg2 hm2 boot_set (PyProof.Rows.callWith_type1 (PyProof.Rows.args_cons (thn (ha.run pins s σ H _ I h) fun v s1 ⟨x, H1, I1, r1, l, ns, ex, hq, h1, q1⟩ => PyProof.Rows.args_nil ?_) na) na rfl))
  subst ex
  obtain rfl : v = Value.ref l := r1
  obtain ⟨its, r, pl, _⟩ := I1.list hq
  refine Ds.call_setX2 ns (I1.ok.hd hc) pl.isList (by simpa using strsAre_of r) (by unfold scanBound; omega) fun h' tk D ys ho F L hm3 nd hcl kp => PyProof.Rows.args_nil ?_
  have I2 : Inv X pins σ H1 { s1 with heap := h', toks := tk } := I1.kept fun b o e => kp b o (Heap.lt_size e) e
  refine Ds.sorted_setX (s := { s1 with heap := h', toks := tk }) ho F L nd (I1.ok.hd hc) hu (by omega) fun s2 p out c2 ks k2 g2 o2 hz ho2 hi hp hnd hmem hlen => ?_
  obtain ⟨hp2, gg2, d2, t2, os2⟩ := s2
  obtain rfl : gg2 = s1.gens := g2
  obtain rfl : os2 = s1.os := o2
  have new : H1 p = none := I2.hok.fresh hz
  have hl3 : (ks.map V.str).length ≤ sizeLine := by rw [List.length_map, hlen, sizeLine_eq]; omega
  have I3 : Inv X pins σ (upd H1 p (.lst (ks.map V.str))) { ({ s1 with heap := h', toks := tk } : Shared) with heap := hp2, gens := s1.gens, drawn := d2, toks := t2 } :=
    Inv.call (s := { s1 with heap := h', toks := tk }) I2 (ch := []) (Un.laid k2 hz new) (I2.hok.laid k2 hz ⟨hl3, out, c2, strs_vals hi, ho2⟩) I2.bare (fun _ z => nomatch z)
  exact ⟨.ref p, _, I3, rfl, q1 p ks new hp hnd fun k => by rw [hmem k, hm3 k]⟩
/-- by data: the members, rising -/
def aSortSetX (fz : Bool) (d : D) (S : Sto) (q : D → Sto → Prop) : Prop := ∃ xs : List Str, seqOf S d = some (xs.map D.str) ∧ d.isTup = false ∧ xs.length ≤ 3000 ∧ ∀ ks : List Str, ks.Pairwise (fun a b => Ds.leX a b = true) → ks.Nodup → (∀ k, k ∈ ks ↔ k ∈ xs) → newL fz (ks.map D.str) S q
def gSortSetX (fz : Bool) (ge : G D) : G D := fun ρ S q => ge ρ S fun d S1 => aSortSetX fz d S1 q
theorem d_sortSetX {U : Wi} {ge : G D} (fz : Bool) (hc : X.calm = true) (hu : X.A.units + 64 < cLine) (hg : Gl X "sorted") (hm : X.mg "sorted" = none) (hg2 : Gl X "set") (hm2 : X.mg "set" = none) (ha : PE X a (tofE X.K U ge)) (na : starEach [a] X.env = (false, eval a X.env) :: starEach [] X.env := by rfl) :
    PE X (.Call (.Name "sorted" p) [.Call (.Name "set" p2) [a] [] q] [] pos) (tofE X.K U (gSortSetX fz ge)) :=
  weakE (pe_sortSetX hc hu hg hm hg2 hm2 ha na) fun σ H Q ⟨m, S, Z, ρ, q, w, rs, h, k⟩ => tof_in w rs h fun v1 H1 m1 d1 S1 e1 w1 r1 ⟨ns, h1, h2, h3, h4⟩ => by
    obtain ⟨a, vs, e, hr, ht, hl⟩ := seqOf_rep w1 r1 h1
    rw [Reps.strs hr] at hl
    refine ⟨a, ns, e, hl h2, h3, fun p ks hp pw hnd hm => ?_⟩
    exact out_newL w1 (Reps.ofStrs ks) (h4 ks pw hnd hm) (k.ext e1) hp
end
end Dl
namespace Dl
open PySem L2 PySem.Calls PySem.Spec PyProof.Rows
section
variable {X : Cx} {cs : List EqE} {n : Nat} {nm : Str}
def aStA (cs : List EqE) (n : Nat) : R1D := fun a S q => ∃ c ks ds, c ∈ cs ∧ c.k ≤ n ∧ objOf S a = some (c.C, ks, ds) ∧ c.dsp [a] S fun d S' => ∃ x, d = .str x ∧ q (.str x) S'
/-- f"{text!r}" -/
def gFmtR (ge : G D) : G D := fun ρ S q => ge ρ S fun d S1 => match d with
  | .str y => (reprText y).length ≤ sizeLine ∧ q (.str (reprText y)) S1
  | .int i => i.natAbs.log2 < 1920 ∧ q (.str (showI i)) S1
  | _ => False
end
def aFmtR : R1D := fun d S1 q => match d with
  | .str y => (reprText y).length ≤ sizeLine ∧ q (.str (reprText y)) S1
  | .int i => i.natAbs.log2 < 1920 ∧ q (.str (showI i)) S1
  | _ => False
theorem x_fmtRS {ge : G D} {ρ : Env_} {S : Sto} {q : D → Sto → Prop} : gFmtR ge ρ S q = ge ρ S fun d S1 => aFmtR d S1 q := rfl
theorem x_afRS {x : Str} {S : Sto} {q : D → Sto → Prop} : aFmtR (.str x) S q ↔ (reprText x).length ≤ sizeLine ∧ q (.str (reprText x)) S := Iff.rfl
theorem x_afRI {i : Int} {S : Sto} {q : D → Sto → Prop} : aFmtR (.int i) S q ↔ i.natAbs.log2 < 1920 ∧ q (.str (showI i)) S := Iff.rfl
/-- str(own), one class -/
theorem x_stO {C : Addr} {k n : Nat} {dsp : DSp} {ks : List Str} {ds : List D} {S : Sto} {q : D → Sto → Prop} : aStA [⟨C, k, dsp⟩] n (.obj C ks ds) S q ↔ k ≤ n ∧ dsp [.obj C ks ds] S fun d S' => ∃ x, d = .str x ∧ q (.str x) S' := by
  constructor
  · rintro ⟨c, ks', ds', hc, hk, e, h⟩
    rw [List.mem_singleton] at hc
    subst hc
    exact ⟨hk, h⟩
  · exact fun ⟨hk, h⟩ => ⟨_, ks, ds, List.mem_singleton.mpr rfl, hk, rfl, h⟩
end Dl
namespace Dl
open PySem L2
mutual
/-- the cell j is told by e -/
def D.sb (j : Nat) (e : D) : D → D
  | .loc n => if n = j then e else .loc n
  | .tup ds => .tup (D.sbs j e ds)
  | .lst ds => .lst (D.sbs j e ds)
  | .ksq ds => .ksq (D.sbs j e ds)
  | .obj C ks ds => .obj C ks (D.sbs j e ds)
  | .dic ks ds => .dic ks (D.sbs j e ds)
  | .exc c ks ds => .exc c ks (D.sbs j e ds)
  | .non => .non | .bl b => .bl b | .int i => .int i | .str x => .str x | .ref a => .ref a | .ty n => .ty n
def D.sbs (j : Nat) (e : D) : List D → List D
  | [] => []
  | d :: ds => D.sb j e d :: D.sbs j e ds
end
section
variable {K : PySem.W.Frag} {m : Nat → Addr} {N : Nat} {H : Hp} {j : Nat} {e : D}
mutual
theorem Rep.sb (he : Rep K m N H e (.ref (m j))) : ∀ {d : D} {v : V}, Rep K m N H d v → Rep K m N H (D.sb j e d) v
  | .loc n, _, r => by
    rw [D.sb]
    by_cases h : n = j
    · subst h
      rw [if_pos rfl, r.1]
      exact he
    · rw [if_neg h]
      exact r
  | .tup ds, _, r => by
    rw [D.sb]
    obtain ⟨a, vs, e1, s, q⟩ := r
    exact ⟨a, vs, e1, s, Reps.sb he q⟩
  | .lst ds, _, r => by
    rw [D.sb]
    obtain ⟨a, vs, e1, s, q⟩ := r
    exact ⟨a, vs, e1, s, Reps.sb he q⟩
  | .ksq ds, _, r => by
    rw [D.sb]
    obtain ⟨a, vs, e1, s, q⟩ := r
    exact ⟨a, vs, e1, s, Reps.sb he q⟩
  | .obj C ks ds, _, r => by
    rw [D.sb]
    obtain ⟨a, dx, vs, e1, s, l, q⟩ := r
    exact ⟨a, dx, vs, e1, s, l, Reps.sb he q⟩
  | .dic ks ds, _, r => by
    rw [D.sb]
    obtain ⟨a, vs, e1, s, l, q⟩ := r
    exact ⟨a, vs, e1, s, l, Reps.sb he q⟩
  | .exc c ks ds, _, r => by
    rw [D.sb]
    obtain ⟨a, dd, vs, e1, s, x, l, q⟩ := r
    exact ⟨a, dd, vs, e1, s, x, l, Reps.sb he q⟩
  | .non, _, r => by rw [D.sb]; exact r
  | .bl _, _, r => by rw [D.sb]; exact r
  | .int _, _, r => by rw [D.sb]; exact r
  | .str _, _, r => by rw [D.sb]; exact r
  | .ref _, _, r => by rw [D.sb]; exact r
  | .ty _, _, r => by rw [D.sb]; exact r
theorem Reps.sb (he : Rep K m N H e (.ref (m j))) : ∀ {ds : List D} {vs : List V}, Reps K m N H ds vs → Reps K m N H (D.sbs j e ds) vs
  | [], _, r => by rw [D.sbs]; exact r
  | d :: ds, _, r => by
    rw [D.sbs]
    obtain ⟨v, q, e1, r1, r2⟩ := r
    exact ⟨v, q, e1, Rep.sb he r1, Reps.sb he r2⟩
end
end
/-- an object of the store, as data -/
def MO.val : MO → Option D
  | .lst ds => some (.lst ds)
  | .obj C ks ds => some (.obj C ks ds)
  | .dic ks ds => some (.dic ks ds)
  | .dicT _ _ => none
  | .lck _ _ _ _ => none
  | .lckT _ _ _ _ => none
/-- the cells js, one by one, are given up; d tells them from then on -/
def frzD : List Nat → D → Sto → Option (D × Sto)
  | [], d, S => some (d, S)
  | j :: js, d, S => match S[j]? with
    | some (some o) => match o.val with
      | some e => frzD js (D.sb j e d) (S.set j none)
      | none => none
    | _ => none
section
variable {K : PySem.W.Frag} {m : Nat → Addr} {S : Sto} {Z : Addr → Prop} {H : Hp}
theorem Wd0.frozen (w : Wd0 K m S Z H) {k : Nat} {o : MO} {d : D} (e : S[k]? = some (some o)) (h : o.val = some d) : Rep K m (S.set k none).length (vis m (S.set k none) Z H) d (.ref (m k)) := by
  cases o with
  | lst ds => cases h; exact w.frozen_lst e
  | obj C ks ds => cases h; exact w.frozen_obj e
  | dic ks ds => cases h; exact w.frozen_dic e
  | dicT ks ds => cases h
  | lck _ _ _ _ => cases h
  | lckT _ _ _ _ => cases h
theorem frz_ok {U : Wi} {v : V} : ∀ (js : List Nat) {S S' : Sto} {d d' : D}, frzD js d S = some (d', S') → Wd K U m S Z H → Rep K m S.length (vis m S Z H) d v → Wd K U m S' Z H ∧ Ext m S Z H m S' H ∧ Rep K m S'.length (vis m S' Z H) d' v
  | [], S, S', d, d', h, w, r => by
    rw [frzD] at h
    cases h
    exact ⟨w, Ext.refl, r⟩
  | j :: js, S, S', d, d', h, w, r => by
    rw [frzD] at h
    split at h
    · rename_i o ho
      split at h
      · rename_i e he
        have e0 : Ext m S Z H m (S.set j none) H := Ext.refl.freeze j
        obtain ⟨w2, e2, r2⟩ := frz_ok js h (w.freeze j) (Rep.sb (w.toWd0.frozen ho he) (r.ext e0))
        exact ⟨w2, e0.trans e2, r2⟩
      · cases h
    · cases h
end
def aFrD (d : D) (S1 : Sto) (q : D → Sto → Prop) : Prop := ∃ js d' S', frzD js d S1 = some (d', S') ∧ q d' S'
def gFrD (ge : G D) : G D := fun ρ S q => ge ρ S fun d S1 => aFrD d S1 q
def gFzD (i : Nat) (g : GS) : GS := fun E ρ S => ∃ js d d' S', ρ[i]? = some (some d) ∧ frzD js d S = some (d', S') ∧ g E (ρ.set i (some d')) S'
section
variable {X : Cx} {U : Wi} {e : Expr} {ge : G D}
theorem d_frD (he : PE X e (tofE X.K U ge)) : PE X e (tofE X.K U (gFrD ge)) :=
  weakE he fun σ H Q ⟨m, S, Z, ρ, q, w, rs, h, k⟩ => ⟨m, S, Z, ρ, fun d S1 => aFrD d S1 q, w, rs, h, fun v H' m' d S' e w' r ⟨js, d', S2, hf, hq⟩ => by
    obtain ⟨w2, e2, r2⟩ := frz_ok js hf w' r
    exact k v H' m' d' S2 (e.trans e2) w2 r2 hq⟩
end
end Dl
namespace Ds
open PySem
open AutoSeq1 (wpAny_loadPart')
theorem meets_enumerate_newT (l : Addr) (items : Array Value) (n : Nat) (dct : Option Addr) (sl : Array (Option Value)) :
    Meets (Builtin.«enumerate.__new__» ⟨[.type "enumerate", .ref l], []⟩) (fun _ R s => s.heap.get? l = some { cls := .type "tuple", dict := dct, data := .seq items n, slots := sl } ∧
      R (.ok (.ret (.ref (s.heap.push { cls := .type "tuple_iterator", data := .fields #[.ref l, .int 0 0] }).objs.size)))
        { s with heap := (s.heap.push { cls := .type "tuple_iterator", data := .fields #[.ref l, .int 0 0] }).push { cls := .type "enumerate", data := .fields #[.none, .bool false, .ref s.heap.objs.size, rawInt 0, .none, .none] } }) :=
  .of_wp fun prog w A R s h => by
    obtain ⟨hp, g, d, tk, os⟩ := s; obtain ⟨hl, h⟩ := h
    have hsub := sub_enumerate
    have hL : Heap.IsTuple (Shared.heap ⟨hp, g, d, tk, os⟩) l items := ⟨_, hl, rfl, n, rfl⟩
    wp_walk using wpAny_loadPart' hl
    refine wpAny_stack_any fun st => wpAny_pure ?_
    split
    · rename_i c _ _ _ _ _
      cases (c == Value.type "enumerate")
      · wp_walk using wpAny_loadPart' hl, wpAny_pyIter_tuple hL
        exact ⟨_, rfl, h⟩
      · wp_walk using wpAny_loadPart' hl, wpAny_pyIter_tuple hL
        exact ⟨_, rfl, h⟩
    · wp_walk using wpAny_loadPart' hl, wpAny_pyIter_tuple hL
      exact ⟨_, rfl, h⟩
section
variable {prog : Program} {w : World} {A : Around} {E : Value → Shared → Prop} {s : Shared}
theorem call_enumerate_tup {l : Addr} {items : Array Value} {Q : Value → Shared → Prop} (hL : s.heap.IsTuple l items)
    (h : ∀ h', IsEnum h' (s.heap.objs.size + 1) s.heap.objs.size 0 .none → h'.IsTupleIter s.heap.objs.size l 0 → h'.objs.size = s.heap.objs.size + 2 →
      (∀ b o, s.heap.get? b = some o → h'.get? b = some o) → Q (.ref (s.heap.objs.size + 1)) { s with heap := h' }) :
    wpAny (model prog w) A (call (.type "enumerate") [.ref l]) Q E s := by
  obtain ⟨⟨c, dct, dt, sl⟩, hl, hc, n, hd⟩ := hL
  replace hc : c = .type "tuple" := hc
  replace hd : dt = .seq items n := hd
  subst hc hd
  refine callType_new F.called_enumerate (by decide) (F.typeCall_enumerate_1 _) (F.newCall_enumerate_1 _) (fun obj => F.args_object_init_2 obj _) F.entry_enumerate_new
    (meets_enumerate_newT l items n dct sl) ⟨hl, ?_⟩
  have hz : (s.heap.push { cls := .type "tuple_iterator", data := .fields #[.ref l, .int 0 0] }).objs.size = s.heap.objs.size + 1 := Heap.size_push ..
  show _ ∧ _
  rw [hz]
  have he : IsEnum ((s.heap.push { cls := .type "tuple_iterator", data := .fields #[.ref l, .int 0 0] }).push
      { cls := .type "enumerate", data := .fields #[.none, .bool false, .ref s.heap.objs.size, rawInt 0, .none, .none] }) (s.heap.objs.size + 1) s.heap.objs.size 0 .none := by
    have := Heap.get?_push_size (s.heap.push { cls := .type "tuple_iterator", data := .fields #[.ref l, .int 0 0] })
      (o := { cls := .type "enumerate", data := .fields #[.none, .bool false, .ref s.heap.objs.size, rawInt 0, .none, .none] }) rfl
    rw [hz] at this; exact this
  refine ⟨⟨_, he, rfl⟩, h _ he ⟨_, Heap.get?_push_of_some _ (Heap.get?_push_size _ rfl), rfl, rfl⟩ (by rw [Heap.size_push, hz]) fun b o x => Heap.get?_push_of_some _ (Heap.get?_push_of_some _ x)⟩
end
end Ds
namespace L2
open PySem PySem.Spec PyProof.Rows
def IteT (K : PySem.W.Frag) (a : Addr) : It :=
  ⟨fun i H => ∃ (xs : List V) (x : V), SqT K H a xs ∧ xs[i]? = some x, fun i H v H' => ∃ T x, v = .ref T ∧ H T = none ∧ H' = upd H T (.tup [.int (i : Nat), x]) ∧ ∀ xs, SqT K H a xs → xs[i]? = some x, fun i H => ∃ xs : List V, SqT K H a xs ∧ xs.length ≤ i⟩
theorem turn_enumT {P : Program} {w : World} {K : PySem.W.Frag} {elts : List Expr} {kk : Nat} {tpos : Pos} (a e it : Addr) :
    Turn P w K (.Tuple elts kk tpos) (IteT K a) [e, it] e (fun i h => (∃ old, IsEnum h e it ((i : Nat) : Int) old) ∧ h.IsTupleIter it a i ∧ e ≠ it) where
  mem := by simp
  obj := fun i h st b hb => by
    obtain ⟨⟨old, he⟩, ⟨o, ho, hc, hd⟩, _⟩ := st
    have e' : b = e ∨ b = it := by simpa using hb
    rcases e' with z | z
    · rw [z]; exact ⟨_, he, fun v q => nomatch q⟩
    · rw [z]; exact ⟨o, ho, fun v q => by rw [hd] at q; cases q⟩
  keep := fun i h h' st k => let ⟨⟨old, he⟩, hi, hne⟩ := st; ⟨⟨old, k e (by simp) _ he⟩, hi.at fun o q => k it (by simp) o q, hne⟩
  item := by
    intro X hP hw hK hc i pins s σ H E I hf st hg
    subst hP hw hK
    obtain ⟨⟨old, he⟩, hit, hne⟩ := st
    obtain ⟨xs, x, hq, hx⟩ := hg
    obtain ⟨its, rv, p, hz⟩ := I.tuple hq
    obtain ⟨u, hu, ru⟩ := rv.get hx
    have hel : e < s.heap.objs.size := Heap.lt_size he
    have hil : it < s.heap.objs.size := by obtain ⟨_, q, _⟩ := hit; exact Heap.lt_size q
    have pT : s.heap.IsTuple a its.toArray := p
    have hae : a ≠ e := fun z => by
      obtain ⟨o, ho, hc2, _⟩ := pT
      have he2 : s.heap.get? e = some _ := he
      rw [z, he2] at ho
      cases ho
      exact absurd (Value.type.inj hc2) (by decide)
    have hai : a ≠ it := fun z => by
      obtain ⟨o, ho, hc2, _⟩ := pT
      obtain ⟨o2, ho2, hc3, _⟩ := hit
      rw [z, ho2] at ho
      cases ho
      rw [hc3] at hc2
      exact absurd (Value.type.inj hc2) (by decide)
    refine wpAny_pyNext_enum_itemD (Draws.tuple (prog := X.prog) (w := X.w) (A := X.A.in1) (show X.A.handled = none from I.ok.hd hc) it a hai its.toArray) he ⟨hit, pT⟩ (show i < its.toArray.size by have := (List.getElem?_eq_some_iff.mp hu).1; simpa using this) hne (by simp [hne, Ne.symm hae]) fun y h' tk hP ho hst' hT hsz hk => ?_
    have hy : y = u := by
      have : its[i]? = some y := by simpa using hP
      rw [hu] at this
      exact (Option.some.inj this).symm
    subst hy
    refine ⟨_, rfl, wpAny_letOwnedTupleGo_enum (s := { s with heap := h', toks := tk + 1 }) ho fun h'' he' sb => ?_⟩
    have hT2 : h''.get? s.heap.objs.size = some { cls := .type "tuple", data := .seq #[.int i tk, y] } := (sb.2 _ (Nat.ne_of_gt hel)).trans hT
    have new : ObjOk X.prog X.w (upd H s.heap.objs.size (.tup [.int (i : Nat), x])) h'' s.heap.objs.size (.tup [.int (i : Nat), x]) :=
      ⟨by show 2 ≤ sizeLine; decide, [.int i tk, y], .cons ⟨_, rfl⟩ (.cons ru .nil), ⟨_, hT2, rfl, _, rfl⟩⟩
    have I1 : Inv X pins σ (upd H s.heap.objs.size (.tup [.int (i : Nat), x])) { s with heap := h'', toks := tk + 1 } :=
      I.turnedNew (ch := [e, it]) (fun b ob hb q => (sb.2 b (fun z => hb (by simp [z]))).trans (hk b ob (fun z => hb (by simp [z])) (fun z => hb (by simp [z])) q)) hf (Nat.le_refl _) new
    refine ⟨.ref s.heap.objs.size, _, I1, rfl, ⟨_, x, rfl, I.hok.fresh (Nat.le_refl _), rfl, fun ys hy => by rw [I.tuple_inj hy hq]; exact hx⟩, ⟨⟨y, ?_⟩, hst'.1.at fun o q => (sb.2 it (Ne.symm hne)).trans q, hne⟩, fun b hb => ?_⟩
    · have e1 : ((i + 1 : Nat) : Int) = (i : Int) + 1 := by omega
      rw [e1]; exact he'
    · have hb' : b < s.heap.objs.size := by
        have e' : b = e ∨ b = it := by simpa using hb
        rcases e' with z | z
        · rw [z]; exact hel
        · rw [z]; exact hil
      rw [upd_ne (Nat.ne_of_lt hb')]
      exact (hf b hb).1
  done := by
    intro X hP hw hK hc i pins s σ H E I hf st hg
    subst hP hw hK
    obtain ⟨⟨old, he⟩, hit, hne⟩ := st
    obtain ⟨xs, hq, hx⟩ := hg
    obtain ⟨its, rv, p, hz⟩ := I.tuple hq
    obtain ⟨f0, f1, f2, f3, f4, f5⟩ := hf it (by simp)
    have hl := rv.length
    have pT : s.heap.IsTuple a its.toArray := p
    have hT : s.TypeIs (.ref e) "enumerate" := ⟨_, he, rfl⟩
    unfold pyNext
    refine wpAny_bind (wpAny_attempt (wpAny_callSpecial?_slot (name := Str.ofString "__next__") hT PySem.F.slot_enumerate_next
      (wpAny_call_entry PySem.F.slot_enumerate_next hT PySem.F.entry_enumerate_next ?_ (PySem.F.args_enumerate_next_1 _))))
    show wpAny _ _ (field (.ref e) 2 >>= _) _ _ _
    refine wpAny_bind (wpAny_field he rfl (x := .ref it) rfl ?_)
    refine wpAny_bind (wpAny_nextOf_tuple_end (I.ok.hd hc) hit pT (by simp; omega) fun h' x he' hx' => ?_)
    obtain ⟨o, ho, hc'⟩ := hx'
    refine wpAny_bind (wpAny_isInstance (T := "StopIteration") (b := true) ⟨o, ho, hc'⟩ isSubtype_stop ?_)
    exact wpAny_pure ⟨rfl, I.turned (t' := s.toks) (fun b o hb q => he' b o hb q) f0 f1 f3 f4 f5⟩
  self := fun A i s Q E st h => let ⟨⟨_, he⟩, _⟩ := st; wpAny_pyIter_enum he h
def iEnumT (K : PySem.W.Frag) (ta : TA) : TI := fun σ H R => ta σ H fun vs H1 => ∃ a xs, vs = [.ref a] ∧ SqT K H1 a xs ∧ R (IteT K a) H1
theorem pi_enumT {X : Cx} {e : Expr} {ta : TA} {p pos tpos : Pos} {elts : List Expr} {kk : Nat} (hg : Gl X "enumerate") (hm : X.mg "enumerate" = none) (ha : PA X [e] ta) (hs : starEach [e] X.env = [(false, eval e X.env)] := by rfl) :
    PI X (.Tuple elts kk tpos) (.Call (.Name "enumerate" p) [e] [] pos) (iEnumT X.K ta) := by
  refine ⟨fun pins s σ H R I h => ?_⟩
  refine Call_ (ld_blt I hg hm boot_enumerate (PyProof.Rows.callWith_type1 (thn (ha.run pos pins s σ H _ I h) fun us s1 ⟨vs, H1, I1, r1, q1⟩ => ?_) hs rfl))
  obtain ⟨a, xs, ex, hq, q⟩ := q1
  subst ex
  cases r1 with
  | cons r rr =>
    cases rr
    cases r
    obtain ⟨its, rv, p', hz⟩ := I1.tuple hq
    refine Ds.call_enumerate_tup (show s1.heap.IsTuple a its.toArray from p') fun h' he hit hsz hk => wpAny_pyIter_enum he ?_
    have I2 : Inv X pins σ H1 { s1 with heap := h' } := I1.kept (t' := s1.toks) hk
    refine ⟨s1.heap.objs.size + 1, [s1.heap.objs.size + 1, s1.heap.objs.size], _, _, H1, rfl, I2, turn_enumT a (s1.heap.objs.size + 1) s1.heap.objs.size, ⟨⟨.none, he⟩, hit, Nat.succ_ne_self _⟩, fun b hb => ?_, q⟩
    have e' : b = s1.heap.objs.size + 1 ∨ b = s1.heap.objs.size := by simpa using hb
    have hle : s1.heap.objs.size ≤ b := by
      rcases e' with z | z
      · rw [z]; exact Nat.le_add_right _ _
      · rw [z]; exact Nat.le_refl _
    exact I1.fpOk hle (I1.hok.fresh hle)
end L2
namespace Dl
open PySem L2
section
variable {X : Cx} {U : Wi} {p pos tpos : Pos} {ga : G (List D)}
/-- enumerate of a tuple -/
def gEnumT (ga : G (List D)) : GI := fun ρ S q => ga ρ S fun as S1 => ∃ ds, as = [.tup ds] ∧ q (enumD ds) (fun _ => True) S1
theorem di_enumT {elts : List Expr} {kk : Nat} {a : Expr} (hg : Gl X "enumerate") (hm : X.mg "enumerate" = none) (ha : PA X [a] (tofA X.K U ga)) (hs : starEach [a] X.env = (false, eval a X.env) :: starEach [] X.env := by rfl)
    : PI X (.Tuple elts kk tpos) (.Call (.Name "enumerate" p) [a] [] pos) (tofI X.K U (gEnumT ga)) :=
  weakI (pi_enumT hg hm ha hs) fun σ H R ⟨m, S, Z, ρ, q, w, rs, h, k⟩ => tof_in w rs h fun v1 H1 m1 d1 S1 e1 w1 r1 ⟨ds, ed, h1⟩ => by
    subst ed
    obtain ⟨v, ev, rv⟩ := reps1 r1
    obtain ⟨a, vs, e, hr, hl, _⟩ := seqOf_rep (ds := ds) w1 rv rfl
    subst e
    refine ⟨a, vs, ev, hl rfl, k _ _ _ _ _ _ e1 w1 ⟨fun {_ m' S' Z' H' i} l w hc hi => ?_, fun {_ m' S' Z' H'} l w hc => ?_⟩ h1⟩
    · obtain ⟨a', vs', e', hr', hl', _⟩ := seqOf_rep (ds := ds) w (rv.lt l) rfl
      cases e'
      have hi' : i < ds.length := by simpa [enumD] using hi
      obtain ⟨d', hd'⟩ : ∃ d', ds[i]? = some d' := ⟨ds[i], by simp [hi']⟩
      obtain ⟨u, hu, ru⟩ := Reps.get hr' hd'
      refine ⟨⟨vs', u, hl' rfl, hu⟩, fun x H2 ⟨T, x', ex, hT, eH, hx⟩ => ?_⟩
      have := hx vs' (hl' rfl)
      rw [hu] at this; cases this
      subst ex eH
      obtain ⟨w3, e3, hv3⟩ := w.new (o := .tup [.int ((i : Nat) : Int), u]) hT
      refine ⟨.tup [.int ((i : Nat) : Int), d'], ?_, w3, e3, rep_tup (SqT.of hv3) (Reps.cons rep_int (Reps.one (ru.ext e3)))⟩
      unfold enumD
      rw [List.getElem?_map, List.getElem?_zipIdx, hd']
      simp
    · obtain ⟨a', vs', e', hr', hl', _⟩ := seqOf_rep (ds := ds) w (rv.lt l) rfl
      cases e'
      exact ⟨vs', hl' rfl, by rw [Reps.len hr']; simp [enumD]⟩
def aEnumT (as : List D) (S1 : Sto) (q : List D → (Sto → Prop) → Sto → Prop) : Prop := ∃ ds, as = [.tup ds] ∧ q (enumD ds) (fun _ => True) S1
theorem x_enumT {ga : G (List D)} {ρ : Env_} {S : Sto} {k : List D → (Sto → Prop) → Sto → Prop} : gEnumT ga ρ S k = ga ρ S fun as S1 => aEnumT as S1 k := rfl
theorem x_enumTL {ds : List D} {S : Sto} {k : List D → (Sto → Prop) → Sto → Prop} : aEnumT [.tup ds] S k ↔ k (enumD ds) (fun _ => True) S :=
  ⟨fun ⟨_, e, h⟩ => by cases e; exact h, fun h => ⟨ds, rfl, h⟩⟩
end
end Dl
namespace Dl
open PySem PySem.Spec PyProof.Rows L2 LamX NdefX
/-- the tracked heap behind it: the same, or the table has grown by a new code object -/
structure LamStep (H : Hp) (P c' : Addr) (q : Str) (H1 : Hp) : Prop where
  at_ : H1 c' = some (CodeO c' q)
  or_ : H1 = H ∨ ∃ ps ps' : Array Value, H P = some (.tbl ps) ∧ H c' = none ∧ TabS H1 P q ∧ H1 = upd (upd H P (.tbl ps')) c' (CodeO c' q)
section
variable {X : Cx} {pins : List (Addr × Obj)} {σ : L2.St} {H : Hp} {s : Shared}
theorem lam_mk {c P : Addr} {params : Arguments} {body : Expr} {scope : Scope} {pos : Pos} {E : Value → Shared → Prop} {Q : Value → Shared → Prop} (I : Inv X pins σ H s) (TB : TabB X.base X.mg c P) (hcode : X.env.code = .ref c)
    (hT : TabS H P (X.env.qual ++ "<lambda>")) (hdef : defaultsOf params X.env = ([], [])) (hfree : ∀ y ∈ scope.names, y.2 = .free → ∃ c, X.env.cells.lookup y.1 = some c)
    (h : ∀ (f c' : Addr) (pm ctv : Value) (H1 : Hp) (s' : Shared), Inv X pins σ H1 s' → LamStep H P c' (X.env.qual ++ "<lambda>") H1 → (∀ b o, b ≠ P → s.heap.get? b = some o → s'.heap.get? b = some o) → s.heap.objs.size ≤ f → H1 f = none →
      s'.heap.get? f = some (PySem.W.kla_obj "<lambda>" (X.env.qual ++ "<lambda>") params body scope (cloFrom X.env.cells scope.names []) pm c' ctv) → Q (.ref f) s') :
    wpAny (model X.prog X.w) X.A (eval (.Lambda params body scope pos) X.env) Q E s := by
  obtain ⟨ps, tab, trip, known⟩ := hT
  have tabH := I.hok P _ tab
  have bltP := TB.bm.keeps I.bk
  have codeP := TB.code.keeps I.bk
  have globP := I.mod.glob.keeps I.bk
  refine PySem.W.kla_eval hdef ?_
  match hc : codeAmong pos ps.toList with
  | some cv =>
    obtain ⟨c', ev, track⟩ := known pos cv hc
    subst ev
    refine PySem.W.kla_makeFunctionHit (mg := X.mg) (c := c) (P := P) (ps := ps) (closure_ok hfree) I.ok.glob globP hcode codeP tabH trip hc bltP fun ctv h' tk up le => ?_
    refine h h'.objs.size c' ((X.mg "__name__").getD .none) ctv H _ (I.kept fun b o e => Heap.get?_push_of_some _ (up b o e)) ⟨track, .inl rfl⟩ (fun b o _ e => Heap.get?_push_of_some _ (up b o e)) le (I.hok.fresh le) (Heap.get?_push_size _ rfl)
  | none =>
    refine PySem.W.kla_makeFunction (mg := X.mg) (c := c) (P := P) (ps := ps) (closure_ok hfree) I.ok.glob globP hcode codeP tabH trip hc TB.gP bltP fun c' ctv h' tk up ge lt rec_ tab2 => ?_
    obtain ⟨cc, oc, vs, t, ec, hoc, hdat, hname⟩ := rec_
    obtain rfl : c' = cc := by injection ec
    have new : H c' = none := I.hok.fresh ge
    have le : s.heap.objs.size ≤ h'.objs.size := Nat.le_trans ge (Nat.le_of_lt lt)
    have J := inv_table (t' := tk) (more := #[rawInt pos.line, rawInt pos.col, .ref c']) (h' := h'.push (PySem.W.kla_obj "<lambda>" (X.env.qual ++ "<lambda>") params body scope (cloFrom X.env.cells scope.names []) ((X.mg "__name__").getD .none) c' ctv)) I tab
      (fun b o ne e => Heap.get?_push_of_some _ (up b o ne e)) (Heap.get?_push_of_some _ tab2) ge ⟨oc, vs, t, Heap.get?_push_of_some _ hoc, hdat, hname⟩
    have nPc : P ≠ c' := ne_of_none tab new
    refine h h'.objs.size c' ((X.mg "__name__").getD .none) ctv _ _ J ⟨upd_same, .inr ⟨ps, _, tab, new, ⟨_, by rw [upd_ne nPc, upd_same], ?_, fun p' cv hcv => ?_⟩, rfl⟩⟩ (fun b o ne e => Heap.get?_push_of_some _ (up b o ne e)) le ?_ (Heap.get?_push_size _ rfl)
    · rw [Array.toList_append]
      exact PySem.TriplesOk_snoc _ _ _ _ trip
    · rw [Array.toList_append] at hcv
      rcases among_app (c := .ref c') (pos := pos) _ trip hcv with z | z
      · obtain ⟨c0, e1, e2⟩ := known p' cv z
        exact ⟨c0, e1, by rw [upd_ne (ne_of_none e2 new), upd_ne (fun e => codeO_ne ps (Option.some.inj (e2.symm.trans (by rw [e]; exact tab))))]; exact e2⟩
      · exact ⟨c', z, upd_same⟩
    · rw [upd_ne (Nat.ne_of_gt lt), upd_ne (Nat.ne_of_gt (Nat.lt_of_lt_of_le (I.hok.lt tab) le))]
      exact I.hok.fresh le
end
/-- the world behind it -/
theorem Wd0.lam {K : PySem.W.Frag} {m : Nat → Addr} {S : Sto} {Z : Addr → Prop} {H H1 : Hp} {c P c' : Addr} {q : Str} (w : Wd0 K m S Z H) (hm : (c, P, q) ∈ tabsOf K) (hu : ∀ c2 q2, (c2, P, q2) ∈ tabsOf K → q2 = q) (st : LamStep H P c' q H1) :
    Wd0 K m S Z H1 ∧ Ext m S Z H m S H1 := by
  rcases st.or_ with rfl | ⟨ps, ps', tab, new, ts, e1⟩
  · exact ⟨w, Ext.refl⟩
  have zP : Z P := w.tb.z P ⟨c, q, hm⟩
  have nPc : P ≠ c' := ne_of_none tab new
  have same : ∀ a, a ≠ P → a ≠ c' → H1 a = H a := fun a h1 h2 => by rw [e1, upd_ne h2, upd_ne h1]
  have atP : H1 P = some (.tbl ps') := by rw [e1, upd_ne nPc, upd_same]
  have hv : ∀ a u, vis m S Z H a = some u → vis m S Z H1 a = some u := fun a u h => by
    obtain ⟨z1, z2⟩ := vis_not h
    exact vis_of (by rw [same a (fun e => z1 (by rw [e]; exact zP)) (ne_of_none (vis_sub h) new)]; exact vis_sub h) z1 z2
  refine ⟨⟨w.inj, w.zz, fun a z => ?_, fun i x e => ?_, ⟨w.tb.z, fun c2 P2 q2 m2 => ?_, fun P2 qs e => ?_⟩⟩, ⟨Nat.le_refl _, fun _ _ => rfl, hv, fun a z nt => ?_⟩⟩
  · by_cases h : a = P
    · exact ⟨.tbl ps', by rw [h]; exact atP, fun _ z => nomatch z⟩
    · obtain ⟨o, ho, nt⟩ := w.zx a z
      exact ⟨o, by rw [same a h (ne_of_none ho new)]; exact ho, nt⟩
  · have r := w.rep i x e
    obtain ⟨u, hu2⟩ := r.there
    exact r.mono (fun _ _ => rfl) (Nat.le_refl _) hv (same _ (fun e2 => w.zz i ⟨x, e⟩ (by rw [e2]; exact zP)) (ne_of_none hu2 new))
  · by_cases h : P2 = P
    · subst h
      rw [hu c2 q2 m2]
      exact ts
    · obtain ⟨qs, h1, h2, h3⟩ := w.tb.t c2 P2 q2 m2
      refine ⟨qs, by rw [same P2 h (ne_of_none h1 new)]; exact h1, h2, fun pos cv hc => ?_⟩
      obtain ⟨d, e2, e3⟩ := h3 pos cv hc
      exact ⟨d, e2, by rw [same d (fun e => codeO_ne ps (Option.some.inj (e3.symm.trans (by rw [e]; exact tab)))) (ne_of_none e3 new)]; exact e3⟩
  · by_cases h : P2 = P
    · rw [h]; exact ⟨c, q, hm⟩
    · by_cases h2 : P2 = c'
      · rw [h2, st.at_] at e
        exact absurd (Option.some.inj e) (codeO_ne qs)
      · rw [same P2 h h2] at e
        exact w.tb.n P2 qs e
  · exact same a (fun e => nt ps (by rw [e]; exact tab)) (by obtain ⟨o, ho⟩ := w.zh a z; exact ne_of_none ho new)
section
variable {CX : CXT} {P : Program} {w : World} {K : PySem.W.Frag} {mg : Str → Option Value} {base : Heap} {N ps fr : List Str} {F : NF} {f : Addr} {k : Nat} {A : Around} {outer : List Env} {s : Shared} {H : Hp} {E : XK} {us : List Value} {vs : List V} {ws : List (Option V)}
theorem lam_run {body : Expr} {pm ctv : Value} {t : TE} {Q : VK} (S : NScope N ps fr F.scope) (hr : Room (k + 1) A) (e0 : Env0 P w K mg base A outer s H)
    (ho : s.heap.get? f = some (PySem.W.kla_obj "<lambda>" F.qual F.params body F.scope F.cl pm F.c ctv)) (hb : bindArgs (PySem.W.kla_fn "<lambda>" F.qual F.params body F.scope F.cl pm (.ref F.c) ctv) ⟨us, []⟩ = pure (ps.zip us))
    (hl : vs.length = ps.length) (hc : H F.c = some (CodeO F.c F.qual)) (C : CellsAt F.cl fr ws s.heap H) (r : Vals vs us) (hbody : PE (ncx CX P w K mg base N F f A outer s H E) body t) (h : t (startF N vs ws) H Q) :
    codeAny (model P w) A (.call (.ref f) ⟨us, []⟩) (CR CX outer P w H s Q E) s := by
  have lim : s.heap.NoLimit := e0.mod.nolimit.keeps fun b o e => (e0.bs b o e).1
  refine PySem.W.kla_callFunE hr.depth ho rfl S.co S.gen rfl (codeO_at e0.hok hc) ?_
  rw [hb]
  refine wpAny_pure (wpAny_newFunctionEnv S.nocell (fun y hy => S.par y.1 (List.of_mem_zip (a := y.1) (b := y.2) hy).1) (fun h₁ hns hsb => ⟨lim.fresh _ hsb, ?_⟩) S.kind)
  have up : ∀ b o, s.heap.get? b = some o → h₁.get? b = some o := fun b o e => hsb.extBut b o (Nat.ne_of_lt (Heap.lt_size e)) (Heap.get?_push_of_some _ e)
  have I : Inv (ncx CX P w K mg base N F f A outer s H E) [] (startF N vs ws) H { s with heap := h₁, toks := s.toks + (ps.zip us).length } := inv_startN S hr.hd e0 hl r C hns up
  refine PySem.W.kla_codeExpr (wpAny_mono (hbody.run [] _ _ H Q I h) (fun v s' hq => ?_) fun e s' hq => hq)
  obtain ⟨x, H', J, rx, q⟩ := hq
  exact ⟨x, H', J.os, J.bare, J.base, J.hok, rx, q⟩
end
end Dl
namespace Dl
open PySem PySem.Spec PyProof.Rows L2 LamX NdefX PySem.Calls PySem.W
section
variable {X : Cx} {pins : List (Addr × Obj)} {σ : L2.St} {H : Hp} {s : Shared}
theorem Inv.notcell (I : Inv X pins σ H s) {b : Addr} {o : Obj} (h : s.heap.get? b = some o) (hd : ∀ v, o.data ≠ .cell v) : ∀ x c, X.env.cells.lookup x = some c → c ≠ b := fun x c e z => by
  obtain ⟨v, o', ho, hc⟩ := I.cell x c e
  rw [z, h] at ho
  cases ho
  exact hd v hc
theorem Inv.pinlt (I : Inv X pins σ H s) : ∀ p ∈ X.pn ++ pins, p.1 < s.heap.objs.size := fun p hp => Heap.lt_size (I.pin p hp).1
theorem seq_notcell {n : String} {xs : Array Value} {e : Nat} : ∀ v, (seqObj n xs e).data ≠ .cell v := fun v z => by cases z
/-- the loop's end: the list a gets what is sorted, the keys' list is forgotten -/
theorem sortK_end {a kS : Addr} {e1 eK eO : Nat} {kA : Array Value} {h3 : Heap} {H1 : Hp} {tk : Nat} {out : List Value} {vs : List V} {s1 : Shared} (I : Inv X ((kS, seqObj "list" kA eK) :: (a, seqObj "list" #[] e1) :: pins) σ H1 s1)
    (sa : X.s_0.heap.objs.size ≤ a) (sk : X.s_0.heap.objs.size ≤ kS) (pa : ∀ p ∈ X.pn ++ pins, p.1 ≠ a ∧ p.1 ≠ kS) (keep : ∀ b o, b ≠ a → b ≠ kS → s1.heap.get? b = some o → h3.get? b = some o)
    (ha : h3.get? a = some (seqObj "list" out.toArray eO)) (rv : Vals vs out) (hz : vs.length ≤ sizeLine) :
    Inv X pins σ (upd H1 a (.lst vs)) { s1 with heap := h3, toks := tk } := by
  have pk := I.pin (kS, seqObj "list" kA eK) (List.mem_append_right _ (.head _))
  have pA := I.pin (a, seqObj "list" #[] e1) (List.mem_append_right _ (.tail _ (.head _)))
  have H1a : H1 a = none := pA.2.1
  have H1k : H1 kS = none := pk.2.1
  have I' : Inv X pins σ H1 s1 := I.pins_of fun p hp => I.pin p (List.mem_append_right _ (.tail _ (.tail _ hp)))
  have nT : ∀ b u, H1 b = some u → b ≠ a := fun b u e => ne_of_none e H1a
  have nK : ∀ b u, H1 b = some u → b ≠ kS := fun b u e => ne_of_none e H1k
  refine I'.step (g' := s1.gens) (d' := s1.drawn) (t' := tk) (ch := [a, kS]) (fun b hb => ?_) (fun b o _ _ hc e _ => keep b o (fun z => hc (by simp [z])) (fun z => hc (by simp [z])) e) (fun b o _ _ hc e _ => ⟨o.slots, keep b o (fun z => hc (by simp [z])) (fun z => hc (by simp [z])) e⟩)
    (fun b o hc _ n => by rw [upd_ne (fun z => hc (by simp [z]))]; exact n) (fun b o hc e => ⟨o, keep b o (fun z => hc (by simp [z])) (fun z => hc (by simp [z])) e⟩) (fun b xs e => by rw [upd_ne (nT b _ e)]; exact e) (fun b o u e => by rw [upd_ne (nT b _ e)]; exact e) (fun b ps e => ⟨#[], by rw [upd_ne (nT b _ e), e]; simp⟩)
    (fun m hm => ?_) (fun b u e => ?_) I'.bare
  · rcases List.mem_cons.mp hb with rfl | hb
    · exact ⟨.inr sa, pA.2.2.1, Inv.notcell I pA.1 seq_notcell, fun p hp => (pa p hp).1⟩
    · obtain rfl : b = kS := by simpa using hb
      exact ⟨.inr sk, pk.2.2.1, Inv.notcell I pk.1 seq_notcell, fun p hp => (pa p hp).2⟩
  · obtain ⟨o, es, ep, ho, r⟩ := hm
    exact ⟨o, es, ep, keep _ o (Ne.symm pA.2.2.1) (Ne.symm pk.2.2.1) ho, r⟩
  · by_cases hb : b = a
    · rw [hb, upd_same] at e
      cases e
      rw [hb]
      exact ⟨hz, out, eO, rv, ha⟩
    · rw [upd_ne hb] at e
      refine (I'.hok b u e).stay (fun c v hc q => keep c v ?_ ?_ q) (fun c q => by rw [upd_ne (nT c _ q)]; exact q) fun c xs q => by rw [upd_ne (nT c _ q)]; exact q
      · rcases hc with z | z
        · rw [z]; exact hb
        · exact nT c _ z
      · rcases hc with z | z
        · rw [z]; exact nK b u e
        · exact nK c _ z
theorem sortK_go {f : Addr} {its : List Value} {fo : Obj} {xs : List V} {J : Nat → Hp → List V → Prop} {Q : VK} {h0 : Heap} {a tk0 : Nat} {E' : Value → Shared → Prop} (I : Inv X pins σ H s) (ho : h0.get? a = some (seqObj "list" its.toArray 0)) (old : ∀ b o, s.heap.get? b = some o → h0.get? b = some o)
    (hle : @LE.le Nat _ s.heap.objs.size a) (hz : its.length ≤ sizeLine) (rv : Vals xs its)
    (hf : s.heap.get? f = some fo) (hfn : H f = none) (hfL : f ≠ X.env.locals) (hff : f ∉ X.fs) (hfc : ∀ v, fo.data ≠ .cell v) (hu : X.A.units + 64 < cLine) (j0 : J 0 H [])
    (turn : ∀ (j : Nat) (x : V) (u : Value) (pins' : List (Addr × Obj)) (H1 : Hp) (s1 : Shared) (ks : List V), xs[j]? = some x → RelV x u → Inv X pins' σ H1 s1 → s1.heap.get? f = some fo → J j H1 ks →
      wpAny (model X.prog X.w) X.A.in1.in1 (call (.ref f) [u]) (fun r s2 => ∃ k H2, Inv X pins' σ H2 s2 ∧ RelV k r ∧ J (j + 1) H2 (ks ++ [k])) (fun _ _ => False) s1)
    (fin : ∀ H1 ks, J xs.length H1 ks → ∃ ps : List PyData, DpAll X.K H1 ks ps ∧ PySem.W.AllAlike ps ∧ PySem.W.Sortable ps ∧ (∀ p ∈ ps, p.depth ≤ 60) ∧
      ∀ (zs : List (V × PyData)) (p : Addr), zs = (xs.zip ps).mergeSort (PySem.W.dataLe false Prod.snd) → H1 p = none → Q (.ref p) (upd H1 p (.lst (zs.map Prod.fst)))) :
    wpAny (model X.prog X.w) X.A.in1.in1 (Builtin.«list.sort» ⟨[.ref a], [(Str.ofString "key", .ref f)]⟩) (fun r s' => r = .done (.ret .none) ∧ EP X pins σ Q (.ref a) s') E' { s with heap := h0, toks := tk0 } := by
  rw [ksk_t1]
  have lta : @LT.lt Nat _ a h0.objs.size := Heap.lt_size ho
  obtain ⟨e1, ho1⟩ : ∃ e1, (h0.update a (Obj.mapSeq fun _ => (#[] : Array Value))).get? a = some (seqObj "list" #[] e1) := ⟨_, get?_update_seq ho fun _ => #[]⟩
  have hkS0 : ((h0.update a (Obj.mapSeq fun _ => (#[] : Array Value))).push (seqObj "tuple" its.toArray 0)).objs.size = h0.objs.size + 1 := by rw [size_push', Heap.size_update]
  unfold ksk_tree
  refine wpAny_bind (listItems_at ho rfl ?_)
  refine wpAny_bind (listUpdate_at ho rfl ?_ (by rw [List.size_toArray]; exact hz) (Nat.zero_le _))
  refine wpAny_bind (seqEpoch_at ho1 rfl ?_)
  refine wpAny_bind (wpAny_newTuple ?_ (by show its.length ≤ _; exact hz))
  refine wpAny_bind (wpAny_newList ?_ (Nat.zero_le _))
  refine wpAny_holding ?_
  have ha0 : (((h0.update a (Obj.mapSeq fun _ => (#[] : Array Value))).push (seqObj "tuple" its.toArray 0)).push (seqObj "list" #[] 0)).get? a = some (seqObj "list" #[] e1) := Heap.get?_push_of_some _ (Heap.get?_push_of_some _ ho1)
  have hk0 : (((h0.update a (Obj.mapSeq fun _ => (#[] : Array Value))).push (seqObj "tuple" its.toArray 0)).push (seqObj "list" #[] 0)).get? ((h0.update a (Obj.mapSeq fun _ => (#[] : Array Value))).push (seqObj "tuple" its.toArray 0)).objs.size = some (seqObj "list" #[] 0) := Heap.get?_push_size _ rfl
  have kp0 : ∀ b o, s.heap.get? b = some o → (((h0.update a (Obj.mapSeq fun _ => (#[] : Array Value))).push (seqObj "tuple" its.toArray 0)).push (seqObj "list" #[] 0)).get? b = some o := fun b o e => sortingHeap_old (a := a) (Nat.ne_of_lt (Nat.lt_of_lt_of_le (Heap.lt_size e) hle)) (old b o e)
  show wpAny _ _ (ksk_rest a (.ref f) false its.toArray e1 (.ref ((h0.update a (Obj.mapSeq fun _ => (#[] : Array Value))).push (seqObj "tuple" its.toArray 0)).objs.size)) _ _ { s with toks := tk0, heap := (((h0.update a (Obj.mapSeq fun _ => (#[] : Array Value))).push (seqObj "tuple" its.toArray 0)).push (seqObj "list" #[] 0)) }
  generalize (((h0.update a (Obj.mapSeq fun _ => (#[] : Array Value))).push (seqObj "tuple" its.toArray 0)).push (seqObj "list" #[] 0)) = g0 at ha0 hk0 kp0 ⊢
  generalize ((h0.update a (Obj.mapSeq fun _ => (#[] : Array Value))).push (seqObj "tuple" its.toArray 0)).objs.size = kS at hkS0 hk0 ⊢
  have hkS : @Eq Nat kS (h0.objs.size + 1) := hkS0
  have szI := I.sz
  have ltL := I.lt
  have lak : a < kS := by omega
  have I0 : Inv X pins σ H { s with heap := g0, toks := tk0 } := I.kept (t' := tk0) kp0
  have nfs : ∀ b, s.heap.objs.size ≤ b → b ≠ X.env.locals ∧ b ∉ X.fs := fun b h => ⟨Nat.ne_of_gt (Nat.lt_of_lt_of_le ltL h), I.nofs h⟩
  have pl := Inv.pinlt I
  have hflt : f < s.heap.objs.size := Heap.lt_size hf
  let pins2 : List (Addr × Obj) := (a, seqObj "list" #[] e1) :: (f, fo) :: pins
  have pne : ∀ p ∈ X.pn ++ ((f, fo) :: pins), p.1 ≠ a ∧ p.1 ≠ kS := fun p hp => by
    have : p.1 < s.heap.objs.size := by
      rcases List.mem_append.mp hp with h | h
      · exact pl p (List.mem_append_left _ h)
      · rcases List.mem_cons.mp h with rfl | h
        · exact hflt
        · exact pl p (List.mem_append_right _ h)
    exact ⟨Nat.ne_of_lt (Nat.lt_of_lt_of_le this hle), Nat.ne_of_lt (Nat.lt_of_lt_of_le this (by omega))⟩
  have pne2 : ∀ p ∈ X.pn ++ pins2, p.1 ≠ kS := fun p hp => by
    rcases List.mem_append.mp hp with h | h
    · exact (pne p (List.mem_append_left _ h)).2
    · rcases List.mem_cons.mp h with rfl | h
      · exact Nat.ne_of_lt lak
      · exact (pne p (List.mem_append_right _ h)).2
  have hlen : xs.length = its.length := rv.length
  unfold ksk_rest
  refine wpAny_bind (wpAny_rule ?_)
  first
    | rw [List.forIn_toArray]
    | (rw [← Array.forIn_toList]; simp only [List.toList_toArray])
    | rw [← Array.forIn_toList]
  refine wpAny_bind (ksk_fold (fun j s' => ∃ H1 ks kA e, Inv X ((kS, seqObj "list" kA e) :: pins2) σ H1 s' ∧ Vals ks kA.toList ∧ ks.length = j ∧ J j H1 ks) its 0 { s with heap := g0, toks := tk0 } ?start ?step ?done)
  case start =>
    refine ⟨H, [], #[], 0, I0.pins_of fun p hp => ?_, .nil, rfl, j0⟩
    rcases List.mem_cons.mp hp with rfl | hp
    · exact ⟨hk0, I.hok.fresh (by omega), (nfs kS (by omega)).1, (nfs kS (by omega)).2, seq_notcell⟩
    · rcases List.mem_cons.mp hp with rfl | hp
      · exact ⟨ha0, I.hok.fresh (by omega), (nfs a (by omega)).1, (nfs a (by omega)).2, seq_notcell⟩
      · rcases List.mem_cons.mp hp with rfl | hp
        · exact ⟨kp0 _ _ hf, hfn, hfL, hff, hfc⟩
        · exact I0.pin p (List.mem_append_right _ hp)
  case step =>
    rintro j u s' hx ⟨H1, ks, kA, e, I1, rk, hj, jj⟩
    rw [Nat.zero_add] at hj jj ⊢
    have hjl : j < its.length := (List.getElem?_eq_some_iff.mp hx).1
    obtain ⟨x, hxj⟩ : ∃ x, xs[j]? = some x := ⟨_, List.getElem?_eq_getElem (by omega)⟩
    obtain ⟨u', hu', rxu⟩ := rv.get hxj
    rw [hx] at hu'
    cases hu'
    have hf1 := (I1.pin (f, fo) (List.mem_append_right _ (.tail _ (.tail _ (.head _))))).1
    refine wpAny_bind (wpAny_attempt (wpAny_mono (turn j x u _ H1 s' ks hxj rxu I1 hf1 jj) (fun r s2 hq => ?_) fun _ _ h => h.elim))
    obtain ⟨k, H2, I2, rkr, jj2⟩ := hq
    have pk := I2.pin (kS, seqObj "list" kA e) (List.mem_append_right _ (.head _))
    have ksz : kA.size = j := by rw [← Array.length_toList, ← rk.length, hj]
    have s1 := Heap.SameBut.update s2.heap kS (Obj.mapSeq (·.push r))
    obtain ⟨c2, hc2⟩ : ∃ c2, (s2.heap.update kS (Obj.mapSeq (·.push r))).get? kS = some (seqObj "list" (kA.push r) c2) := ⟨_, get?_update_seq pk.1 (·.push r)⟩
    have hzz : j ≤ sizeLine := Nat.le_trans (Nat.le_of_lt hjl) hz
    refine wpAny_bind (listUpdate_at pk.1 rfl ?_ (by rw [ksz]; exact hzz) (by rw [Array.size_push, ksz]; exact Nat.succ_le_succ hzz))
    have I3 : Inv X pins2 σ H2 s2 := I2.pins_of fun p hp => I2.pin p (List.mem_append_right _ (.tail _ hp))
    have I4 : Inv X pins2 σ H2 { s2 with heap := s2.heap.update kS (Obj.mapSeq (·.push r)) } :=
      I3.turned (t' := s2.toks) (it := kS) (fun b o hb q => (s1.2 b hb).trans q) pk.2.1 pk.2.2.1 (.inr (by omega)) (Inv.notcell I2 pk.1 seq_notcell) pne2
    have I5 : Inv X ((kS, seqObj "list" (kA.push r) c2) :: pins2) σ H2 { s2 with heap := s2.heap.update kS (Obj.mapSeq (·.push r)) } := I4.pins_of fun p hp => by
      rcases List.mem_cons.mp hp with rfl | hp
      · exact ⟨hc2, pk.2.1, pk.2.2.1, pk.2.2.2.1, seq_notcell⟩
      · exact I4.pin p (List.mem_append_right _ hp)
    refine wpAny_pure ⟨rfl, H2, ks ++ [k], kA.push r, c2, I5, ?_, by simp [hj], jj2⟩
    rw [Array.toList_push]
    exact rk.append (.cons rkr .nil)
  case done =>
    rintro s' ⟨H1, ks, kA, e, I1, rk, hj, jj⟩
    rw [Nat.zero_add] at hj jj
    rw [← hlen] at jj
    obtain ⟨ps, hdp, hal, hso, hdep, hq⟩ := fin H1 ks jj
    have pk := I1.pin (kS, seqObj "list" kA e) (List.mem_append_right _ (.head _))
    have pA := I1.pin (a, seqObj "list" #[] e1) (List.mem_append_right _ (.tail _ (.head _)))
    obtain ⟨as, rd⟩ := Dp.readsAll I1 ps ks kA.toList hdp rk
    have l1 : ks.length = ps.length := dpAll_len hdp
    have ksz : kA.size = its.length := by rw [← Array.length_toList, ← rk.length, hj]
    have hk : PySem.W.EachIs (fun v d => ∃ as, Reads s'.heap v d as) kA.toList ps := each_of (by rw [Array.length_toList, ksz]; omega) fun i v d h1 h2 => readsAll_each rd i v d h1 h2
    refine wpAny_bind (listItems_at pk.1 rfl ?_)
    refine keyH_end (κ := dataKind s'.heap ps) (h₁ := hideAll s'.heap [kS]) (fun b o _ q => of_hideAll _ q) (hideAll_none _ (.head _)) pk.1 pA.1 (Nat.ne_of_gt lak) (SortsAt.data (s := s') hk hal hso fun d hd => by
      have h1 := hdep d hd
      show X.A.units + 1 + 1 + d.depth < cLine
      omega) ksz hz fun h3 tk3 c k3 n3 => ⟨rfl, ?_⟩
    have ko : KeyedOut false ps its (sortVals (dataKind s'.heap ps) false kA.toList its) := ⟨s'.heap, kA.toList, hal, rfl, hk⟩
    generalize sortVals (dataKind s'.heap ps) false kA.toList its = out at ko n3
    let bs : List ((Value × V) × PyData) := (its.zip xs).zip ps
    have hbl : bs.length = ps.length := by show ((its.zip xs).zip ps).length = _; simp; omega
    have hmap : bs.map Prod.snd = ps := by
      show ((its.zip xs).zip ps).map Prod.snd = ps
      exact List.map_snd_zip (by simp; omega)
    have he : EachIs (fun v (b : (Value × V) × PyData) => v = b.1.1 ∧ RelV b.1.2 v) out (bs.mergeSort (dataLe false Prod.snd)) := keyedOut_each (β := (Value × V) × PyData) (R := fun v b => v = b.1.1 ∧ RelV b.1.2 v) (bs := bs) Prod.snd (by rw [hmap]; exact ko) (each_of (by omega) fun i v b h1 h2 => by
      obtain ⟨g1, g2, g3⟩ := zip3_get h2
      rw [h1] at g1
      exact ⟨Option.some.inj g1, vals_each rv i _ _ g2 h1⟩)
    have hvals := each_vals (bs := bs) he
    have hzs : (bs.mergeSort (dataLe false Prod.snd)).map (fun b => (b.1.2, b.2)) = (xs.zip ps).mergeSort (dataLe false Prod.snd) := by
      refine Eq.trans (ms_map (f := fun b : (Value × V) × PyData => (b.1.2, b.2)) (r := dataLe false Prod.snd) (s := dataLe false Prod.snd) (fun a b => rfl) bs) ?_
      congr 1
      apply List.ext_getElem?
      intro i
      rw [List.getElem?_map]
      cases hx : bs[i]? with
      | none =>
        have : bs.length ≤ i := List.getElem?_eq_none_iff.mp hx
        exact (List.getElem?_eq_none_iff.mpr (by simp; omega)).symm
      | some z =>
        obtain ⟨g1, g2, g3⟩ := zip3_get hx
        exact (List.getElem?_zip_eq_some (z := (z.1.2, z.2)).mpr ⟨g2, g3⟩).symm
    have hfst : ((xs.zip ps).mergeSort (dataLe false Prod.snd)).map Prod.fst = (bs.mergeSort (dataLe false Prod.snd)).map fun b => b.1.2 := by
      rw [← hzs, List.map_map]; rfl
    have q' := hq _ a rfl pA.2.1
    rw [hfst] at q'
    have kpE : ∀ b o, b ≠ a → b ≠ kS → s'.heap.get? b = some o → h3.get? b = some o := fun b o h1 h2 e => k3 b o h1 (hideAll_get _ e (by simp [h2]))
    have I2 : Inv X ((kS, seqObj "list" kA e) :: (a, seqObj "list" #[] e1) :: ((f, fo) :: pins)) σ H1 s' := I1
    have J := sortK_end (tk := tk3) I2 (by omega) (by omega) pne kpE n3 hvals (by rw [List.length_map, List.length_mergeSort, hbl]; omega)
    exact ⟨.ref a, _, J.pins_of fun p hp => J.pin p (List.mem_append_right _ (.tail _ hp)), rfl, q'⟩
theorem sortK_run {l f : Addr} {its : List Value} {fo : Obj} {xs : List V} {J : Nat → Hp → List V → Prop} {Q : VK} (I : Inv X pins σ H s) (hl : s.heap.IsList l its.toArray) (hz : its.length ≤ sizeLine) (rv : Vals xs its)
    (hf : s.heap.get? f = some fo) (hfn : H f = none) (hfL : f ≠ X.env.locals) (hff : f ∉ X.fs) (hfc : ∀ v, fo.data ≠ .cell v) (hu : X.A.units + 64 < cLine) (j0 : J 0 H [])
    (turn : ∀ (j : Nat) (x : V) (u : Value) (pins' : List (Addr × Obj)) (H1 : Hp) (s1 : Shared) (ks : List V), xs[j]? = some x → RelV x u → Inv X pins' σ H1 s1 → s1.heap.get? f = some fo → J j H1 ks →
      wpAny (model X.prog X.w) X.A.in1.in1 (call (.ref f) [u]) (fun r s2 => ∃ k H2, Inv X pins' σ H2 s2 ∧ RelV k r ∧ J (j + 1) H2 (ks ++ [k])) (fun _ _ => False) s1)
    (fin : ∀ H1 ks, J xs.length H1 ks → ∃ ps : List PyData, DpAll X.K H1 ks ps ∧ PySem.W.AllAlike ps ∧ PySem.W.Sortable ps ∧ (∀ p ∈ ps, p.depth ≤ 60) ∧
      ∀ (zs : List (V × PyData)) (p : Addr), zs = (xs.zip ps).mergeSort (PySem.W.dataLe false Prod.snd) → H1 p = none → Q (.ref p) (upd H1 p (.lst (zs.map Prod.fst)))) :
    wpAny (model X.prog X.w) X.A (call (.builtin "sorted") [.ref l] [(Str.ofString "key", .ref f)]) (EP X pins σ Q) X.xe s := by
  refine sorted_of_sort hl hz (ksk_s1 _ _) (fun _ => ksk_l1 _ _) fun E' => ?_
  exact sortK_go (tk0 := s.toks) I (copyHeap_at s.heap its) (fun b o e => copyHeap_old e) (Nat.le_succ _) hz rv hf hfn hfL hff hfc hu j0 turn fin
end
end Dl
namespace Dl
open PySem PySem.Spec PyProof.Rows L2 LamX NdefX
/-- the built-ins' module, as a code object's table asks for it -/
structure BltK (K : PySem.W.Frag) (mg : Str → Option Value) (P : Addr) : Prop where
  ex : ∃ (bm : Addr) (o : Obj), mg "__builtins__" = some (.ref bm) ∧ bm ≠ builtinsNs ∧ bm ≠ mainGlobals ∧ bm ≠ P ∧ K.lookup bm = some o ∧ o.cls = .type "module" ∧ o.dict = some builtinsNs ∧ o.data = .plain
/-- what is known of a lambda's maker: its code object, that object's table -/
structure LamK (K : PySem.W.Frag) (mg : Str → Option Value) (code : Value) (q : Str) : Prop where
  ex : ∃ c P, code = .ref c ∧ PySem.W.codeHdIn K c P = true ∧ BltK K mg P ∧ mainGlobals ≠ P ∧ (c, P, q) ∈ tabsOf K ∧ ∀ c2 q2, (c2, P, q2) ∈ tabsOf K → q2 = q
theorem BltK.at_ {K : PySem.W.Frag} {mg : Str → Option Value} {P : Addr} {base : Heap} (b : BltK K mg P) (X : K.In base) : base.BuiltinsAt mg P := by
  obtain ⟨bm, o, h1, h2, h3, h4, h5, h6, h7, h8⟩ := b.ex
  exact ⟨bm, o, h1, h2, h3, h4, X _ _ h5, h6, h7, h8⟩
/-- a lambda's name within the def x -/
abbrev lamq (x : Str) : Str := (x ++ ".<locals>.") ++ "<lambda>"
/-- the def x of the top makes lambdas -/
structure LamT (K : PySem.W.Frag) (mg : Str → Option Value) (x : Str) : Prop where
  of : ∀ f o fd, mg x = some (.ref f) → K.lookup f = some o → o.data = .func fd → LamK K mg fd.code (lamq x)
/-- a code object stays -/
theorem Ext.code {K : PySem.W.Frag} {m m1 : Nat → Addr} {S S1 : Sto} {Z : Addr → Prop} {H H1 : Hp} {c : Addr} {q : Str} (w : Wd0 K m S Z H) (e : Ext m S Z H m1 S1 H1) (h : H c = some (CodeO c q)) : H1 c = some (CodeO c q) := by
  by_cases z : Z c
  · rw [e.zed c z fun ps x => codeO_ne ps (Option.some.inj (h.symm.trans x))]
    exact h
  · refine vis_sub (e.vis c _ (vis_of h z fun n l x => ?_))
    obtain ⟨o, ho⟩ := l
    exact (w.rep n o ho).noTb.2 c q (by rw [x]; exact h)
/-- what a name held -/
def slotD (ρ : Env_) (j : Nat) : Option D := match ρ[j]? with
  | some o => o
  | none => none
theorem relS_lam {K : PySem.W.Frag} {m : Nat → Addr} {n : Nat} {Hv : Hp} {ρ : Env_} {σ : L2.St} {N : List Str} {js : List Nat} {d : D} {v : V} (rs : RelS K m n Hv ρ σ) (r : Rep K m n Hv d v) (hN : N.length = 1 + js.length) :
    RelS K m n Hv (some d :: js.map (slotD ρ)) (startF N [v] (js.map (slotAt σ))) := by
  have e : startF N [v] (js.map (slotAt σ)) = some v :: js.map (slotAt σ) := by
    unfold startF
    rw [List.length_map, List.length_singleton, hN]
    simp
  rw [e]
  refine ⟨by simp, fun i d' h => ?_⟩
  cases i with
  | zero =>
    rw [List.getElem?_cons_zero] at h
    cases h
    exact ⟨v, rfl, r⟩
  | succ i =>
    rw [List.getElem?_cons_succ, List.getElem?_map] at h
    cases ej : js[i]? with
    | none => rw [ej] at h; cases h
    | some j =>
      rw [ej] at h
      have h : slotD ρ j = some d' := Option.some.inj h
      have h2 : ρ[j]? = some (some d') := by
        unfold slotD at h
        cases er : ρ[j]? with
        | none => rw [er] at h; cases h
        | some o => rw [er] at h; exact congrArg some h
      obtain ⟨x, h3, h4⟩ := rs.2 j d' h2
      exact ⟨x, by rw [List.getElem?_cons_succ, List.getElem?_map, ej]; exact congrArg some (slotAt_of h3), h4⟩
/-- the keys, one by one -/
def gKeys (gb : G D) (ws : Env_) : List D → Sto → (List D → Sto → Prop) → Prop
  | [], S, q => q [] S
  | d :: ds, S, q => gb (some d :: ws) S fun k S1 => gKeys gb ws ds S1 fun ks S2 => q (k :: ks) S2
/-- the items by their keys -/
def byKeys (ds ks : List D) (fz : Bool) (S : Sto) (q : D → Sto → Prop) : Prop := ∃ ps, toPys ks = some ps ∧ PySem.W.AllAlike ps ∧ PySem.W.Sortable ps ∧ (∀ p ∈ ps, p.depth ≤ 60) ∧ newL fz (((ds.zip ps).mergeSort (PySem.W.dataLe false Prod.snd)).map Prod.fst) S q
def gSortK (fz : Bool) (js : List Nat) (ga gb : G D) : G D := fun ρ S q => ga ρ S fun d S1 => ∃ ds, seqOf S1 d = some ds ∧ d.isTup = false ∧ gKeys gb (js.map (slotD ρ)) ds S1 fun ks S2 => byKeys ds ks fz S2 q
def gSortKR (fz : Bool) (js : List Nat) (ga gb : G D) : G D := fun ρ S q => ga ρ S fun d S1 => ∃ n : Int, d = .int n ∧ -(2 ^ 62) ≤ n ∧ n ≤ 2 ^ 24 ∧ gKeys gb (js.map (slotD ρ)) (rngD 0 n.toNat) S1 fun ks S2 => byKeys (rngD 0 n.toNat) ks fz S2 q
section
variable {X : Cx} {U : Wi} {e : Expr} {ga gb : G D} {fz : Bool} {k : Nat} {pn : Str} {js : List Nat} {N fr : List Str} {params : Arguments} {body : Expr} {scope : Scope} {p pos lpos kpos : Pos}
/-- the loop over the items, by data -/
theorem sortK_core {GOAL : Prop} {σ : L2.St} {f c' : Addr} {pm ctv : Value} {H2 : Hp} {m1 : Nat → Addr} {S1 : Sto} {Z : Addr → Prop} {ρ : Env_} {q : D → Sto → Prop} {Q : VK} {xs : List V} {ds : List D} (hr : RoomG (k + 3) X.A) (S : NScope N [pn] fr scope) (nd : ndefB X.env.scope scope fr = true)
    (hjs : js.map (fun j => X.N[j]?) = fr.map some) (hNl : N.length = 1 + js.length)
    (hb : ∀ (q : Str) (cl : List (Str × Addr)) (pm cv ctv u : Value), bindArgs (PySem.W.kla_fn "<lambda>" q params body scope cl pm cv ctv) ⟨[u], []⟩ = pure [(pn, u)])
    (hbody : ∀ (cl : List (Str × Addr)) (c' f : Addr) (A : Around) (outer : List Env) (s : Shared) (H : Hp), RoomG k (A.deeper (envF ⟨"<lambda>", X.env.qual ++ "<lambda>", params, [], scope, cl, c'⟩ f s.heap.objs.size)) →
      PE (ncx L2.CX0 X.prog X.w X.K X.mg X.base N ⟨"<lambda>", X.env.qual ++ "<lambda>", params, [], scope, cl, c'⟩ f A outer s H fun _ _ _ => False) body (tofE X.K U0 gb))
    (w2U : Wd X.K U m1 S1 Z H2) (rs2 : RelS X.K m1 S1.length (vis m1 S1 Z H2) ρ σ) (hr1 : Reps X.K m1 S1.length (vis m1 S1 Z H2) ds xs) (code2 : H2 c' = some (CodeO c' (X.env.qual ++ "<lambda>"))) (hkeys : gKeys gb (js.map (slotD ρ)) ds S1 fun ks S2 => byKeys ds ks fz S2 q) (kk : Outs m1 S1 Z H2 X.K U (rD X.K) q Q)
    (run : ∀ J : Nat → Hp → List V → Prop, J 0 H2 [] →
      (∀ (j : Nat) (x : V) (u : Value) (pins' : List (Addr × Obj)) (H1 : Hp) (s1 : Shared) (ks : List V), xs[j]? = some x → RelV x u → Inv X pins' σ H1 s1 → s1.heap.get? f = some (PySem.W.kla_obj "<lambda>" (X.env.qual ++ "<lambda>") params body scope (cloFrom X.env.cells scope.names []) pm c' ctv) → J j H1 ks →
        wpAny (model X.prog X.w) X.A.in1.in1 (call (.ref f) [u]) (fun r s2 => ∃ k H2, Inv X pins' σ H2 s2 ∧ RelV k r ∧ J (j + 1) H2 (ks ++ [k])) (fun _ _ => False) s1) →
      (∀ H1 ks, J xs.length H1 ks → ∃ ps : List PyData, DpAll X.K H1 ks ps ∧ PySem.W.AllAlike ps ∧ PySem.W.Sortable ps ∧ (∀ p ∈ ps, p.depth ≤ 60) ∧
        ∀ (zs : List (V × PyData)) (p : Addr), zs = (xs.zip ps).mergeSort (PySem.W.dataLe false Prod.snd) → H1 p = none → Q (.ref p) (upd H1 p (.lst (zs.map Prod.fst)))) → GOAL) : GOAL := by
  have lenx := Reps.len hr1
  refine run (fun j H' ks => ∃ m' S' kds, Ext m1 S1 Z H2 m' S' H' ∧ Wd X.K U m' S' Z H' ∧ Reps X.K m' S'.length (vis m' S' Z H') kds ks ∧ kds.length = j ∧ gKeys gb (js.map (slotD ρ)) (ds.drop j) S' fun rest S2 => byKeys ds (kds ++ rest) fz S2 q)
    ⟨m1, S1, [], Ext.refl, w2U, reps_nil, rfl, hkeys⟩ (fun j x u pins' H3 s3 ks hx rxu I3 hf3 hJ => ?_) fun H3 ks hJ => ?_
  · obtain ⟨m', S', kds, e', w', rk, hlen, hg⟩ := hJ
    have code := Ext.code w2U.toWd0 e' code2
    have hjl : j < ds.length := by rw [← lenx]; exact (List.getElem?_eq_some_iff.mp hx).1
    obtain ⟨d', hd'⟩ : ∃ d', ds[j]? = some d' := ⟨_, List.getElem?_eq_getElem hjl⟩
    obtain ⟨x', hx', rd'⟩ := Reps.get hr1 hd'
    rw [hx] at hx'
    cases hx'
    have hdrop : ds.drop j = d' :: ds.drop (j + 1) := by
      rw [List.drop_eq_getElem_cons hjl]
      congr 1
      rw [List.getElem?_eq_getElem hjl] at hd'
      exact Option.some.inj hd'
    rw [hdrop] at hg
    have hg2 : gb (some d' :: js.map (slotD ρ)) S' fun k S1 => gKeys gb (js.map (slotD ρ)) (ds.drop (j + 1)) S1 fun rest S2 => byKeys ds ((kds ++ [k]) ++ rest) fz S2 q := by
      have z : (fun k S1 => gKeys gb (js.map (slotD ρ)) (ds.drop (j + 1)) S1 fun rest S2 => byKeys ds ((kds ++ [k]) ++ rest) fz S2 q) = fun k S1 => gKeys gb (js.map (slotD ρ)) (ds.drop (j + 1)) S1 fun rest S2 => byKeys ds (kds ++ k :: rest) fz S2 q := by
        funext k S1
        congr 1
        funext rest S2
        rw [List.append_assoc]
        rfl
      rw [z]
      exact hg
    have run := lam_run (CX := L2.CX0) (E := fun _ _ _ => False) (Q := fun v H'' => ∃ m'' S'' kds', Ext m1 S1 Z H2 m'' S'' H'' ∧ Wd X.K U m'' S'' Z H'' ∧ Reps X.K m'' S''.length (vis m'' S'' Z H'') kds' (ks ++ [v]) ∧ kds'.length = j + 1 ∧ gKeys gb (js.map (slotD ρ)) (ds.drop (j + 1)) S'' fun rest S2 => byKeys ds (kds' ++ rest) fz S2 q)
      (F := ⟨"<lambda>", X.env.qual ++ "<lambda>", params, [], scope, cloFrom X.env.cells scope.names [], c'⟩) (us := [u]) (vs := [x]) S hr.in1.in1.toRoom I3.env0.in1.in1 hf3 (hb _ _ _ _ _ u) rfl code (cells_of I3 (Caps.made I3.ok (ndef_free nd) (ndef_fr nd) hjs)) (.cons rxu .nil)
      (hbody _ c' f X.A.in1.in1 X.stack s3 H3 (hr.in1.in1.deeper _))
      ⟨m', S', Z, some d' :: js.map (slotD ρ), _, w'.w0, relS_lam (rs2.ext e') (rd'.ext e') hNl, hg2, fun v H'' m'' dk S'' e'' w'' rdk hk => ⟨m'', S'', kds ++ [dk], e'.trans e'', w'.on e'' w''.toWd0, (Reps.ext e'' rk).append (Reps.one rdk), by simp [hlen], hk⟩⟩
    refine wpAny_call (codeAny_mono run fun r s' hq => ?_)
    cases r with
    | error e => exact hq.elim
    | ok fl =>
      cases fl with
      | ret u => exact I3.after hq
      | next => exact hq.elim
      | brk => exact hq.elim
      | cont => exact hq.elim
  · obtain ⟨m', S', kds, e', w', rk, hlen, hg⟩ := hJ
    rw [lenx, List.drop_length] at hg
    have hg : byKeys ds (kds ++ []) fz S' q := hg
    rw [List.append_nil] at hg
    obtain ⟨ps, hps, al, so, dep, hn⟩ := hg
    refine ⟨ps, DpAll.sub vis_le (dps_of rk hps), al, so, dep, fun zs p hz hp => ?_⟩
    rw [hz]
    exact out_newL w' (reps_sorted (Reps.ext e' hr1) (by rw [toPys_len hps, hlen, lenx])) hn (kk.ext e') hp
theorem d_sortK (lm : LamK X.K X.mg X.env.code (X.env.qual ++ "<lambda>")) (hr : RoomG (k + 3) X.A) (hg : Gl X "sorted") (hmg : X.mg "sorted" = none) (ha : PE X e (tofE X.K U ga)) (S : NScope N [pn] fr scope) (nd : ndefB X.env.scope scope fr = true)
    (hjs : js.map (fun j => X.N[j]?) = fr.map some) (hNl : N.length = 1 + js.length) (hdef : defaultsOf params X.env = ([], []))
    (hb : ∀ (q : Str) (cl : List (Str × Addr)) (pm cv ctv u : Value), bindArgs (PySem.W.kla_fn "<lambda>" q params body scope cl pm cv ctv) ⟨[u], []⟩ = pure [(pn, u)])
    (hbody : ∀ (cl : List (Str × Addr)) (c' f : Addr) (A : Around) (outer : List Env) (s : Shared) (H : Hp), RoomG k (A.deeper (envF ⟨"<lambda>", X.env.qual ++ "<lambda>", params, [], scope, cl, c'⟩ f s.heap.objs.size)) →
      PE (ncx L2.CX0 X.prog X.w X.K X.mg X.base N ⟨"<lambda>", X.env.qual ++ "<lambda>", params, [], scope, cl, c'⟩ f A outer s H fun _ _ _ => False) body (tofE X.K U0 gb))
    (hs : starEach [e] X.env = (false, eval e X.env) :: starEach [] X.env := by rfl) (hv : bootBuiltins "sorted" = some (.builtin "sorted") := by decide +kernel)
    (he : backTo pos (starEach [e] X.env) = (false, eval e X.env) :: backTo pos (starEach [] X.env) := by rfl) (hpl : (backTo pos (starEach [e] X.env)).any (·.1) = false := by rfl) :
    PE X (.Call (.Name "sorted" p) [e] [⟨some (Str.ofString "key"), .Lambda params body scope lpos, kpos⟩] pos) (tofE X.K U (gSortK fz js ga gb)) := by
  refine ⟨fun pins s σ H Q I ⟨m, S0, Z, ρ, q, w, rs, h, kk⟩ => ?_⟩
  obtain ⟨c, P, hcode, hhd, hbl, hgP, hm, hu⟩ := lm.ex
  have TB : TabB X.base X.mg c P := ⟨PySem.W.codeHd_of_K I.ok.mod.kin hhd, hbl.at_ I.ok.mod.kin, hgP⟩
  refine wpAny_Call_Name_kw (ld_blt I hg hmg hv ?_ (by decide) (by decide))
  let q1 : List D → Sto → Prop := fun as S1 => match as with
    | [d] => ∃ ds, seqOf S1 d = some ds ∧ d.isTup = false ∧ gKeys gb (js.map (slotD ρ)) ds S1 fun ks S2 => byKeys ds ks fz S2 q
    | _ => False
  refine PyProof.Rows.callWith_kw (thn ((d_cons ha d_nil hs).run pos pins s σ H (fun vs H1 => ∃ m1 S1 as, Ext m S0 Z H m1 S1 H1 ∧ Wd X.K U m1 S1 Z H1 ∧ Reps X.K m1 S1.length (vis m1 S1 Z H1) as vs ∧ q1 as S1) I
    ⟨m, S0, Z, ρ, q1, w, rs, h, fun b H' m' a S' e' w' r' h' => ⟨m', S', a, e', w', r', h'⟩⟩) fun us s1 ⟨vs, H1, I1, rv, m1, S1, as, e1, w1, r1, h1⟩ => ?_) he hpl rfl rfl
  obtain ⟨d, has⟩ : ∃ d, as = [d] := by
    match as, h1 with
    | [d], _ => exact ⟨d, rfl⟩
    | [], h1 => exact h1.elim
    | _ :: _ :: _, h1 => exact h1.elim
  subst has
  obtain ⟨ds, hseq, htup, hkeys⟩ := h1
  rw [Reps] at r1
  obtain ⟨v, r0, evs, rd, er0⟩ := r1
  rw [Reps] at er0
  subst er0
  subst evs
  have hfree : ∀ y ∈ scope.names, y.2 = .free → ∃ c, X.env.cells.lookup y.1 = some c := fun y hy e => (ndef_free nd y hy e).elim (fun z => I1.ok.has _ (.inl z)) fun z => I1.ok.has _ (.inr z)
  show wpAny _ _ (evalAll ((do let v ← eval (.Lambda params body scope lpos) X.env; standAt pos; pure v) :: [])) _ _ s1
  refine wpAny_evalAll_cons (wpAny_bind (lam_mk I1 TB hcode (w1.tb.t c P _ hm) hdef hfree fun f c' pm ctv H2 s2 I2 st _ le fn fo => wpAny_bind (wpAny_standAt (wpAny_pure (wpAny_evalAll_nil ?_)))))
  obtain ⟨w2, e2⟩ := w1.toWd0.lam hm hu st
  have w2U : Wd X.K U m1 S1 Z H2 := w1.on e2 w2
  obtain ⟨l, xs, ev, hr1, _, hl⟩ := seqOf_rep w2U (rd.ext e2) hseq
  subst ev
  obtain ⟨u, rfl, ru⟩ := vals1 rv
  obtain rfl : u = Value.ref l := ru
  obtain ⟨its, rvi, hli, hz⟩ := I2.list (hl htup)
  have rs2 := rs.ext (e1.trans e2)
  show wpAny _ _ (call (.builtin "sorted") [.ref l] [(Str.ofString "key", .ref f)]) _ _ s2
  exact sortK_core (xs := xs) (ds := ds) hr S nd hjs hNl hb hbody w2U rs2 hr1 st.at_ hkeys (kk.ext (e1.trans e2)) fun J j0 turn fin =>
    sortK_run I2 hli.isList (by rw [← rvi.length]; exact hz) rvi fo fn (Nat.ne_of_gt (Nat.lt_of_lt_of_le I1.lt le)) (I1.nofs le) (fun v z => by cases z) hr.units j0 turn fin
end
section
variable {P : Program} {w : World} {K : PySem.W.Frag} {mg : Str → Option Value} {base : Heap} {x : Str} {st : Stmt} {dvs : List V} {N ps : List Str} {k : Nat} {dsp : DSp}
theorem FnG.by_bodyC {CX : CXT} {f : Addr} {fd : FuncData} {sp : Sp} {qual : Str} {params : Arguments} {body : List Stmt} {scope : Scope} {kws : List (Str × V)} (F : FunD K x qual params body scope dvs kws f fd) (S : FnScope N ps scope) (len : ∀ vs H Q E, sp vs H Q E → vs.length = ps.length)
    (go : ∀ (cdv : Value) (A : Around) (outer : List Env) (s : Shared) (H : Hp) (vs : List V) (Q : VK) (E : XK), (∃ o fd, K.lookup f = some o ∧ o.data = .func fd ∧ fd.code = cdv) → RoomG k (A.deeper (envOfC qual scope s.heap.objs.size f cdv)) → sp vs H Q E →
      ∃ t, PSs (cxOf CX P w K mg base N qual scope f cdv A outer s H E) body t ∧ t { nx := fun _ H' => Q .non H', rt := Q } (L2.start N vs) H) : FnG P w K mg base CX (k + 1) f fd ps sp := by
  have F2 := F
  obtain ⟨oc, od, dV, kV, doc, pm, an, cdv, ct, osl, efd, lk, hcd, _, _⟩ := F.ex
  refine ⟨len, fun A outer s H args us vs Q E hr e0 hb hv hsp => ?_⟩
  subst efd
  have kept : ∀ b o, base.get? b = some o → s.heap.get? b = some o := fun b o e => (e0.bs b o e).1
  have inK := e0.mod.kin.keeps kept
  refine codeAny_call_function hr.toRoom.depth (inK _ _ lk) rfl S.co S.gen rfl (PySem.W.codeRec_of inK hcd) (hb _ _ _ _ ?_)
  refine wpAny_newFunctionEnv_cells S.kind (fun y hy => ?_) fun env he s1 x => ?_
  · rcases S.par y.1 (List.of_mem_zip (a := y.1) (b := y.2) hy).1 with q | q
    · left; exact q
    · right; exact ⟨q, PySem.W.cellsFrom_some _ _ _ (.inl q)⟩
  subst he
  obtain ⟨t, ht, hq⟩ := go cdv A outer s H vs Q E ⟨_, _, lk, rfl, rfl⟩ (hr.deeper _) hsp
  refine ⟨(e0.mod.nolimit.keeps kept).keeps x.toInCall.keep, codeAny_func (wpAny_mono (ht.run [] s1 _ H _ (inv_start S hr.hd e0 (len _ _ _ _ hsp) hv x) hq) (fun fl s' hs => ?_) fun e s' hs => hs)⟩
  cases fl with
  | ret u => obtain ⟨v, σ', H', J, rv, q⟩ := hs; exact ⟨v, H', J.os, J.bare, J.base, J.hok, rv, q⟩
  | next => obtain ⟨σ', H', J, q⟩ := hs; exact ⟨.non, H', J.os, J.bare, J.base, J.hok, rfl, q⟩
  | brk => obtain ⟨σ', H', J, q⟩ := hs; exact q.elim
  | cont => obtain ⟨σ', H', J, q⟩ := hs; exact q.elim
/-- by its reading, the store cut back -/
theorem fn_bodyL {f : Addr} {fd : FuncData} (F : FunS K x x st dvs f fd) (hm : mg x = some (.ref f)) (lm : LamT K mg x) (S : FnScope N ps (defScope st)) (len : ∀ ds S q, dsp ds S q → ds.length = ps.length) (g : GS)
    (hbody : ∀ (cdv : Value) (A : Around) (outer : List Env) (s : Shared) (H : Hp) (E : XK), LamK K mg cdv (lamq x) → RoomG k (A.deeper (envOfC x (defScope st) s.heap.objs.size f cdv)) →
      PSs (cxOf CX0 P w K mg base N x (defScope st) f cdv A outer s H E).nox (defBody st) (tofS K U0 g))
    (hread : ∀ ds S q, D.unders S.length ds = true → Sto.under S.length S = true → dsp ds S q → g { nx := fun _ S' => fin S.length q .non S', rt := fin S.length q } (startD N ds) S) : FnG P w K mg base CX0 (k + 1) f fd ps (spOf K dsp) := by
  refine FnG.by_bodyC F S (fun vs H Q E ⟨m, S', Z, ds, q, w, r, h, k⟩ => by rw [Reps.len r]; exact len _ _ _ h) fun cdv A outer s H vs Q E hcd hr ⟨m, St', Z, ds, q, wd, rd, hd, kk⟩ => ?_
  obtain ⟨o, fd', h1, h2, h3⟩ := hcd
  refine ⟨_, (hbody cdv A outer s H E (by rw [← h3]; exact lm.of _ _ _ hm h1 h2) hr).nox, m, St', Z, startD N ds, _, wd, relS_start rd, hread ds St' q (Reps.below rd) wd.under hd, ⟨?_, out_fin wd kk, ?_, ?_⟩⟩
  · exact fun σ' H' m' ρ' S' e' w' _ h' => out_fin wd kk .non H' m' .non S' e' w' rep_non h'
  · exact fun _ _ _ _ _ _ _ _ h => h.elim
  · exact fun _ _ _ _ _ _ _ _ h => h.elim
theorem fnc_ofL (B : FnB K mg x st dvs) (lm : LamT K mg x) (S : FnScope N ps (defScope st)) (len : ∀ ds S q, dsp ds S q → ds.length = ps.length) (g : GS)
    (hbody : ∀ (f : Addr) (cdv : Value) (A : Around) (outer : List Env) (s : Shared) (H : Hp) (E : XK), LamK K mg cdv (lamq x) → RoomG k (A.deeper (envOfC x (defScope st) s.heap.objs.size f cdv)) →
      PSs (cxOf CX0 P w K mg base N x (defScope st) f cdv A outer s H E).nox (defBody st) (tofS K U0 g))
    (hread : ∀ ds S q, D.unders S.length ds = true → Sto.under S.length S = true → dsp ds S q → g { nx := fun _ S' => fin S.length q .non S', rt := fin S.length q } (startD N ds) S) : Fnc P w K mg base x st dvs (k + 1) ps dsp := by
  obtain ⟨f, fd, F, hm⟩ := B.ex
  exact ⟨f, fd, F, hm, fn_bodyL F hm lm S len g (hbody f) hread⟩
end
end Dl
namespace Hd
open PySem PySem.Spec PyProof.Rows L2 Dl
abbrev Fq := PySem.W.Frag → Bool
def obsQ (fa : List Fq) (fn : List He.DefD) (K : PySem.W.Frag) : He.AlD := ((fa.all fun f => f K) && fn.all fun d => d.ok K, fn.map fun d => He.fnW K d.at_)
def SaysQ (fa : List Fq) (fn : List He.DefD) (K : PySem.W.Frag) : Prop := obsQ fa fn K = He.valD fn
/-- what the module's names reach in n steps, step by step -/
def goF (g : Addr → Option Obj) : Nat → List Addr → List Addr
  | 0, fr => fr
  | n + 1, fr => fr ++ goF g n (fr.flatMap fun a => match g a with
    | some o => He.refsD o
    | none => [])
abbrev Qs := List (List Fq × List He.DefD)
def valL (qs : Qs) : List He.AlD := qs.map fun q => He.valD q.2
def SaysL (qs : Qs) (K : PySem.W.Frag) : Prop := ∀ q ∈ qs, SaysQ q.1 q.2 K
section
open PySem.W PySem.Calls
def Looks (r : OpenRow) (q : Program) (M : Nat) (loose : List PySem.Str) (w : World) : Prop :=
  ∀ os : OsState, (HandSHeadRun.endF (HandSHeadRun.stepQ (HandSHeadRun.denQ HandSHeadRun.tabQ) r.prog w) M r.prog w os).map (fun s => (HandSHeadRun.looksF r.prog (boot_heap w.params) s.abs, HandSHeadRun.seenQ q loose (importedModules r.prog.main.body) (fun s => xlAt q [] s && recOk r.toRowW.records s) s.abs)) = some (true, openGood q loose)
variable {r : OpenRow} {q : Program} {n M : Nat} {loose : List PySem.Str} {w : World} {qs : Qs} {fa : List Fq} {fn : List He.DefD}
end
section
variable {fa : List Fq} {fn : List He.DefD} {K : PySem.W.Frag}
theorem SaysQ.fact (c : SaysQ fa fn K) (i : Nat) {f : Fq} (h : fa[i]? = some f) : f K = true := by
  have c1 := (He.ba (show ((fa.all fun f => f K) && fn.all fun d => d.ok K) = true from congrArg (fun z : He.AlD => z.1) c)).1
  exact List.all_eq_true.mp c1 f (List.mem_of_getElem? h)
theorem SaysQ.def_ (c : SaysQ fa fn K) (i : Nat) {d : He.DefD} (h : fn[i]? = some d) : ∃ fd, FunD K d.name d.qual d.params d.body d.scope (d.dvs K) (d.kws K) (He.fAd K d.at_) fd := by
  have c2 := (He.ba (show ((fa.all fun f => f K) && fn.all fun d => d.ok K) = true from congrArg (fun z : He.AlD => z.1) c)).2
  have e : fn.map (fun d => He.fnW K d.at_) = fn.map He.DefD.val := congrArg (fun z : He.AlD => z.2) c
  have e2 : (fn.map fun d => He.fnW K d.at_)[i]? = (fn.map He.DefD.val)[i]? := by rw [e]
  rw [List.getElem?_map, List.getElem?_map, h] at e2
  exact He.DefD.funD (Option.some.inj e2) (List.all_eq_true.mp c2 d (List.mem_of_getElem? h))
end
/-- a constant tuple of texts -/
def kttB (K : PySem.W.Frag) (a : Addr) (xs : List Str) : Bool := match K.lookup a with
  | some ⟨.type c, none, .seq its _, _⟩ => decide (c = "tuple") && (decide (its.size ≤ sizeLine) && He.relAll (xs.map V.str) its.toList)
  | _ => false
theorem kttB_ok {K : PySem.W.Frag} {a : Addr} {xs : List Str} (h : kttB K a xs = true) : ∃ (o : Obj) (its : Array Value) (n : Nat), K.lookup a = some o ∧ o.cls = .type "tuple" ∧ o.dict = none ∧ o.data = .seq its n ∧ its.size ≤ sizeLine ∧ Vals (xs.map V.str) its.toList := by
  unfold kttB at h
  split at h
  · rename_i c its n sl q
    obtain ⟨h1, h⟩ := He.ba h
    obtain ⟨h2, h3⟩ := He.ba h
    have e1 : c = "tuple" := of_decide_eq_true h1
    subst e1
    exact ⟨_, its, n, q, rfl, rfl, rfl, of_decide_eq_true h2, He.relAll_ok h3⟩
  · cases h
end Hd
namespace Mt
open PySem L2 Dl
def hm (h m : Nat) : Str := ⟨#[48 + h / 10, 48 + h % 10, 58, 48 + m / 10, 48 + m % 10]⟩
def plus : Str := (("+" : String) : Str)
/-- a minute as the text shows it -/
def T (w : Nat) : Str := if w < 1440 then hm (w / 60) (w % 60) else hm (w % 1440 / 60) (w % 60) ++ (plus ++ showI (w / 1440 : Nat))
theorem log2_small {i : Int} (h0 : 0 ≤ i) (h : i < 2 ^ 64) : i.natAbs.log2 < 1920 := by
  have h1 : i.natAbs < 2 ^ 64 := by omega
  by_cases hz : i.natAbs = 0
  · rw [hz]; decide
  · have := (Nat.log2_lt hz).mpr h1
    omega
end Mt
namespace Mt
open PySem L2 Dl
def Tp (B : Int) (o : Option MO) : Prop := ∃ (ns : List Int) (t r : Int), o = some (.lst [.lst (ns.map .int), .int t, .int r]) ∧ 0 ≤ t ∧ t ≤ B ∧ 0 ≤ r
theorem Tp.mono {B B' : Int} {o : Option MO} (h : Tp B o) (l : B ≤ B') : Tp B' o := by
  obtain ⟨ns, t, r, e, h1, h2, h3⟩ := h
  exact ⟨ns, t, r, e, h1, by omega, h3⟩
/-- a def that draws at most k times -/
def tk (k : Int) (args : List D) (R : D → Prop) : DSp := fun ds S q => ∃ o R0 B, ds = .loc 0 :: args ∧ S = o :: R0 ∧ Tp B o ∧ B + k ≤ 10 ^ 12 ∧ ∀ d o', R d → Tp (B + k) o' → q d (o' :: R0)
theorem tk_in {k B : Int} {args : List D} {R : D → Prop} {o : Option MO} {R0 : Sto} {q : D → Sto → Prop} (h : Tp B o) (hb : B + k ≤ 10 ^ 12) (hq : ∀ d o', R d → Tp (B + k) o' → q d (o' :: R0)) : tk k args R (.loc 0 :: args) (o :: R0) q :=
  ⟨o, R0, B, rfl, rfl, h, hb, hq⟩
theorem tk_len {k : Int} {args : List D} {R : D → Prop} {ds : List D} {S : Sto} {q : D → Sto → Prop} {n : Nat} (hn : args.length + 1 = n) (h : tk k args R ds S q) : ds.length = n := by
  obtain ⟨o, R0, B, e, _⟩ := h
  rw [e, ← hn]; rfl
def intIn (lo hi : Int) : D → Prop := fun d => ∃ x, d = .int x ∧ lo ≤ x ∧ x < hi
def draw : DSp := fun ds S q => ∃ many, 0 < many ∧ many < 1073741824 ∧ tk 1 [.int many] (intIn 0 many) ds S q
theorem draw_in {many B : Int} {o : Option MO} {R0 : Sto} {q : D → Sto → Prop} (h1 : 0 < many) (h2 : many < 1073741824) (h : Tp B o) (hb : B + 1 ≤ 10 ^ 12) (hq : ∀ x o', 0 ≤ x → x < many → Tp (B + 1) o' → q (.int x) (o' :: R0)) :
    draw [.loc 0, .int many] (o :: R0) q := ⟨many, h1, h2, tk_in h hb fun d o' ⟨x, e, h3, h4⟩ t => by subst e; exact hq x o' h3 h4 t⟩
def val (x : Str) : Int := (PySem.NumText.digitsVal x.cps.toList : Nat)
def tape : DSp := fun ds S q => ∃ ns : List Int, ds = [.ksq (ns.map .int)] ∧ S = [] ∧ q (.loc 0) [some (.lst [.lst ((ns.take 63).map .int), .int 0, .int 0])]
def law : DSp := fun ds S q => ∃ ns : List Int, ds = [.ksq (ns.map .int)] ∧ S = [] ∧ ∀ S', q (.bl true) S'
theorem ok_all {x : Str} : PyData.strOk x = true ↔ ∀ c ∈ x.cps.toList, c < 0x110000 := by
  unfold PyData.strOk
  rw [← Array.all_toList, List.all_eq_true]
  simp only [decide_eq_true_eq]
theorem ten15 : (10 : Int) ^ 12 = 1000000000000 := by decide
/-- from a list of the store too -/
def pickL : DSp := fun ds S q => ∃ d es, 0 < es.length ∧ (es.length : Int) < 1073741824 ∧ (∃ o R0 B, ds = [.loc 0, d] ∧ S = o :: R0 ∧ Tp B o ∧ B + 1 ≤ 10 ^ 12 ∧ (∀ o', seqOf (o' :: R0) d = some es) ∧ ∀ e o', e ∈ es → Tp (B + 1) o' → q e (o' :: R0))
theorem pickL_in {es : List D} {B : Int} {o : Option MO} {R0 : Sto} {q : D → Sto → Prop} (h1 : 0 < es.length) (h2 : (es.length : Int) < 1073741824) (h : Tp B o) (hb : B + 1 ≤ 10 ^ 12) (hq : ∀ e o', e ∈ es → Tp (B + 1) o' → q e (o' :: R0)) :
    pickL [.loc 0, .lst es] (o :: R0) q := ⟨.lst es, es, h1, h2, o, R0, B, rfl, rfl, h, hb, fun _ => rfl, hq⟩
end Mt
namespace Dl
open PySem L2
theorem mulOk_r {i j : Int} (h : -(2 ^ 64) < j) (h' : j < 2 ^ 64) : mulOk i j := .inl (.inr ⟨h, h'⟩)
theorem mulOk_l {i j : Int} (h : -(2 ^ 64) < i) (h' : i < 2 ^ 64) : mulOk i j := .inl (.inl ⟨h, h'⟩)
end Dl
namespace Hd
open PySem PySem.Spec PyProof.Rows L2 Dl
abbrev Lams := List ((Str × Option Str) × Str)
/-- a def's code object and its table -/
def lamC (K : PySem.W.Frag) (p : Str × Option Str) : Addr × Addr := match K.lookup (He.fAd K p) with
  | some ⟨_, _, .func fd, _⟩ => (match fd.code with
    | .ref c => (c, match K.lookup c with
      | some ⟨_, _, .fields vs, _⟩ => (match (vs[11]? : Option Value) with
        | some (.ref P) => P
        | _ => 0)
      | _ => 0)
    | _ => (0, 0))
  | _ => (0, 0)
def lamFd (K : PySem.W.Frag) (p : Str × Option Str) : Bool := match K.lookup (He.fAd K p) with
  | some ⟨_, _, .func fd, _⟩ => decide (fd.code = .ref (lamC K p).1)
  | _ => false
def realG (n : Nat) (g : Addr → Option Obj) : PySem.W.Frag := (He.frT g (goF g n [mainGlobals])).filter fun p => (markOf p).isNone
def markE (K : PySem.W.Frag) (l : (Str × Option Str) × Str) : Addr × Obj := (mainGlobals, { cls := .type "#lam", data := .fields #[.ref (lamC K l.1).1, .ref (lamC K l.1).2, .str l.2 0] })
def partL (n : Nat) (lam : Lams) (g : Addr → Option Obj) : PySem.W.Frag := realG n g ++ lam.map (markE (realG n g))
def obsTb (n : Nat) (lam : Lams) (g : Addr → Option Obj) : Bool := ((realG n g).lookup mainGlobals).isSome && lam.all fun l => decide (lamC (partL n lam g) l.1 = lamC (realG n g) l.1) && (match g (lamC (realG n g) l.1).2 with
  | some o => He.emptyTab o
  | none => false)
structure SaysTb (lam : Lams) (K : PySem.W.Frag) (h : Heap) : Prop where
  tabs : tabsOf K = lam.map fun l => ((lamC K l.1).1, (lamC K l.1).2, l.2)
  out : ∀ l ∈ lam, K.lookup (lamC K l.1).2 = none
  empty : ∀ l ∈ lam, h.get? (lamC K l.1).2 = some { cls := .none, data := .fields #[] }
theorem realG_at {n : Nat} {g : Addr → Option Obj} {a : Addr} {o : Obj} (h : (realG n g).lookup a = some o) : g a = some o ∧ He.emptyTab o = false := by
  have h1 := (List.mem_filter.mp (He.lookup_mem h)).1
  obtain ⟨h2, h3⟩ := List.mem_filter.mp h1
  exact ⟨He.frG_mem h2, by cases q : He.emptyTab o with
    | false => rfl
    | true =>
      have h3 : (!He.emptyTab o) = true := h3
      rw [q] at h3
      cases h3⟩
theorem marks_at {K : PySem.W.Frag} {lam : Lams} {a : Addr} {o : Obj} (h : (lam.map (markE K)).lookup a = some o) : a = mainGlobals := by
  obtain ⟨l, _, e⟩ := List.mem_map.mp (He.lookup_mem h)
  exact (congrArg Prod.fst e).symm
theorem part_at {n : Nat} {lam : Lams} {g : Addr → Option Obj} (hm : ((realG n g).lookup mainGlobals).isSome = true) {a : Addr} : (partL n lam g).lookup a = (realG n g).lookup a := by
  unfold partL
  rw [List.lookup_append]
  cases q : (realG n g).lookup a with
  | some o => rfl
  | none =>
    cases q2 : (lam.map (markE (realG n g))).lookup a with
    | none => rfl
    | some o =>
      rw [marks_at q2] at q
      rw [q] at hm
      cases hm
theorem mark_of {K : PySem.W.Frag} {l : (Str × Option Str) × Str} : markOf (markE K l) = some ((lamC K l.1).1, (lamC K l.1).2, l.2) := by
  unfold markOf markE
  simp
theorem tabs_of {n : Nat} {lam : Lams} {g : Addr → Option Obj} : tabsOf (partL n lam g) = lam.map fun l => ((lamC (realG n g) l.1).1, (lamC (realG n g) l.1).2, l.2) := by
  unfold tabsOf partL
  rw [List.filterMap_append, List.filterMap_map]
  have e1 : (realG n g).filterMap markOf = [] := List.filterMap_eq_nil_iff.mpr fun p hp => by
    have := (List.mem_filter.mp hp).2
    exact Option.isNone_iff_eq_none.mp this
  rw [e1, List.nil_append]
  have e2 : (markOf ∘ markE (realG n g)) = fun l => some ((lamC (realG n g) l.1).1, (lamC (realG n g) l.1).2, l.2) := funext fun l => mark_of
  rw [e2, List.filterMap_eq_map']
theorem saysTb_of {n : Nat} {lam : Lams} {h : Heap} (e : obsTb n lam h.get? = true) : (partL n lam h.get?).In h ∧ SaysTb lam (partL n lam h.get?) h := by
  obtain ⟨h1, h2⟩ := He.ba e
  have key : ∀ l ∈ lam, lamC (partL n lam h.get?) l.1 = lamC (realG n h.get?) l.1 ∧ ∃ o, h.get? (lamC (realG n h.get?) l.1).2 = some o ∧ He.emptyTab o = true := fun l hl => by
    obtain ⟨h3, h4⟩ := He.ba (List.all_eq_true.mp h2 l hl)
    refine ⟨of_decide_eq_true h3, ?_⟩
    cases q : h.get? (lamC (realG n h.get?) l.1).2 with
    | none => rw [q] at h4; cases h4
    | some o => rw [q] at h4; exact ⟨o, rfl, h4⟩
  refine ⟨fun a o q => ?_, ?_, fun l hl => ?_, fun l hl => ?_⟩
  · rw [part_at h1] at q
    exact (realG_at q).1
  · rw [tabs_of]
    exact List.map_congr_left fun l hl => by rw [(key l hl).1]
  · obtain ⟨e1, o, e2, e3⟩ := key l hl
    rw [e1, part_at h1]
    cases q : (realG n h.get?).lookup (lamC (realG n h.get?) l.1).2 with
    | none => rfl
    | some u =>
      obtain ⟨z1, z2⟩ := realG_at q
      rw [e2] at z1
      rw [← Option.some.inj z1, e3] at z2
      cases z2
  · obtain ⟨e1, o, e2, e3⟩ := key l hl
    rw [e1, e2, He.emptyTab_eq e3]
def obsLL (n : Nat) (lam : Lams) (qs : Qs) (g : Addr → Option Obj) : List He.AlD := qs.map fun q => obsQ q.1 q.2 (partL n lam g)
theorem saysL_of {n : Nat} {lam : Lams} {g : Addr → Option Obj} : ∀ {qs : Qs}, obsLL n lam qs g = valL qs → SaysL qs (partL n lam g)
  | [], _, q, h => (nomatch h)
  | q0 :: qs, e, q, h => by
    have e1 : obsQ q0.1 q0.2 (partL n lam g) = He.valD q0.2 := (List.cons.inj e).1
    rcases List.mem_cons.mp h with z | z
    · rw [z]; exact e1
    · exact saysL_of (List.cons.inj e).2 q z
def hookT (n : Nat) (lam : Lams) (qs : Qs) : PySem.W.Hook where
  α := Bool × List He.AlD
  obs := fun s => (obsTb n lam s.heap.get?, obsLL n lam qs s.heap.get?)
  val := fun _ => (true, valL qs)
  says := fun _ h => ∃ K : PySem.W.Frag, K.In h ∧ SaysL qs K ∧ SaysTb lam K h
  of := fun _ _ e => ⟨_, (saysTb_of (congrArg Prod.fst e)).1, saysL_of (congrArg Prod.snd e), (saysTb_of (congrArg Prod.fst e)).2⟩
  keeps := fun _ _ _ ⟨K, hK, c, t⟩ k => ⟨K, PySem.W.Frag.In.keeps hK k, c, ⟨t.tabs, t.out, fun l hl => k _ _ (t.empty l hl)⟩⟩
theorem obsT_eq {n : Nat} {lam : Lams} {qs : Qs} {g : Addr → Option Obj} {s : Shared} (h : ∀ a, g a = s.heap.get? a) : (obsTb n lam g, obsLL n lam qs g) = (hookT n lam qs).obs s := by
  have e : g = s.heap.get? := funext h
  rw [e] <;> rfl
section
open PySem.W PySem.Calls
def ObsTb (r : OpenRow) (n : Nat) (lam : Lams) (M : Nat) (w : World) : Prop :=
  ∀ os : OsState, (HandSHeadRun.endF (HandSHeadRun.stepQ (HandSHeadRun.denQ HandSHeadRun.tabQ) r.prog w) M r.prog w os).map (fun s => obsTb n lam (HandSHeadRun.getT s)) = some true
def Obs1L (r : OpenRow) (n : Nat) (lam : Lams) (fa : List Fq) (fn : List He.DefD) (M : Nat) (w : World) : Prop :=
  ∀ os : OsState, (HandSHeadRun.endF (HandSHeadRun.stepQ (HandSHeadRun.denQ HandSHeadRun.tabQ) r.prog w) M r.prog w os).map (fun s => obsQ fa fn (partL n lam (HandSHeadRun.getT s))) = some (He.valD fn)
def ObsAL (r : OpenRow) (n : Nat) (lam : Lams) (qs : Qs) (M : Nat) (w : World) : Prop :=
  ∀ os : OsState, (HandSHeadRun.endF (HandSHeadRun.stepQ (HandSHeadRun.denQ HandSHeadRun.tabQ) r.prog w) M r.prog w os).map (fun s => obsLL n lam qs (HandSHeadRun.getT s)) = some (valL qs)
variable {r : OpenRow} {q : Program} {n M : Nat} {loose : List PySem.Str} {w : World} {qs : Qs} {fa : List Fq} {fn : List He.DefD} {lam : Lams}
theorem obsAL_nil (h : Looks r q M loose w) : ObsAL r n lam [] M w := fun os => by
  have := h os
  cases e : HandSHeadRun.endF (HandSHeadRun.stepQ (HandSHeadRun.denQ HandSHeadRun.tabQ) r.prog w) M r.prog w os with
  | none => rw [e] at this; cases this
  | some s => rfl
theorem obsAL_cons (h1 : Obs1L r n lam fa fn M w) (h2 : ObsAL r n lam qs M w) : ObsAL r n lam ((fa, fn) :: qs) M w := fun os => by
  have a := h1 os
  have b := h2 os
  cases e : HandSHeadRun.endF (HandSHeadRun.stepQ (HandSHeadRun.denQ HandSHeadRun.tabQ) r.prog w) M r.prog w os with
  | none => rw [e] at a; cases a
  | some s =>
    rw [e] at a b
    have a2 : obsQ fa fn (partL n lam (HandSHeadRun.getT s)) = He.valD fn := Option.some.inj a
    have b2 : obsLL n lam qs (HandSHeadRun.getT s) = valL qs := Option.some.inj b
    show some (obsQ fa fn (partL n lam (HandSHeadRun.getT s)) :: obsLL n lam qs (HandSHeadRun.getT s)) = some (He.valD fn :: valL qs)
    rw [a2, b2]
theorem runEqT_of (h1 : Looks r q M loose w) (h2 : ObsAL r n lam qs M w) (h3 : ObsTb r n lam M w) : HandSHeadRun.RunEq r q (hookT n lam qs) (fun s => (obsTb n lam (HandSHeadRun.getT s), obsLL n lam qs (HandSHeadRun.getT s))) M loose w := fun os => by
  have a := h1 os
  have b := h2 os
  have c := h3 os
  cases e : HandSHeadRun.endF (HandSHeadRun.stepQ (HandSHeadRun.denQ HandSHeadRun.tabQ) r.prog w) M r.prog w os with
  | none => rw [e] at a; cases a
  | some s =>
    rw [e] at a b c
    have a2 := Option.some.inj a
    have b2 : obsLL n lam qs (HandSHeadRun.getT s) = valL qs := Option.some.inj b
    have c2 : obsTb n lam (HandSHeadRun.getT s) = true := Option.some.inj c
    obtain ⟨a3, a4⟩ := Prod.mk.injEq .. ▸ a2
    show some (HandSHeadRun.looksF r.prog (boot_heap w.params) s.abs, HandSHeadRun.seenQ q loose (importedModules r.prog.main.body) (fun s => xlAt q [] s && recOk r.toRowW.records s) s.abs, (obsTb n lam (HandSHeadRun.getT s), obsLL n lam qs (HandSHeadRun.getT s))) = some (true, openGood q loose, (true, valL qs))
    rw [a3, a4, b2, c2]
end
def bltB (K : PySem.W.Frag) : Bool := match K.lookup (He.ga K "__builtins__") with
  | some ⟨.type t, some d, .plain, _⟩ => decide (t = "module") && (decide (d = builtinsNs) && (decide (He.ga K "__builtins__" ≠ builtinsNs) && decide (He.ga K "__builtins__" ≠ mainGlobals)))
  | _ => false
def lamB (K : PySem.W.Frag) (lam : Lams) (l : (Str × Option Str) × Str) : Bool := lamFd K l.1 && (PySem.W.codeHdIn K (lamC K l.1).1 (lamC K l.1).2 && (decide (He.ga K "__builtins__" ≠ (lamC K l.1).2) && (decide (mainGlobals ≠ (lamC K l.1).2) && lam.all fun k => decide ((lamC K k.1).2 = (lamC K l.1).2 → k.2 = l.2))))
def lamsB (lam : Lams) (K : PySem.W.Frag) : Bool := bltB K && (decide (PySem.W.nsIn K mainGlobals "__builtins__" = some (some (.ref (He.ga K "__builtins__")))) && lam.all (lamB K lam))
theorem lamT_mk {K : PySem.W.Frag} {h : Heap} {mg : Str → Option Value} {lam : Lams} {x : Str} (X : K.In h) (G : h.Ns mainGlobals mg) (ta : SaysTb lam K h) (b : lamsB lam K = true) (ha : mg x = some (.ref (He.fAd K (x, none)))) (hm : ((x, none), lamq x) ∈ lam) : LamT K mg x := by
  obtain ⟨b1, b2⟩ := He.ba b
  obtain ⟨b3, b4⟩ := He.ba b2
  have hbm := PySem.W.mg_of X G (of_decide_eq_true b3)
  obtain ⟨c1, c⟩ := He.ba (List.all_eq_true.mp b4 _ hm)
  obtain ⟨c2, c⟩ := He.ba c
  obtain ⟨c3, c⟩ := He.ba c
  obtain ⟨c4, c5⟩ := He.ba c
  refine ⟨fun f o fd e1 e2 e3 => ?_⟩
  rw [ha] at e1
  cases e1
  refine ⟨(lamC K (x, none)).1, (lamC K (x, none)).2, ?_, c2, ?_, of_decide_eq_true c4, ?_, fun cc q hq => ?_⟩
  · unfold lamFd at c1
    rw [e2] at c1
    obtain ⟨o1, o2, o3, o4⟩ := o
    have e3 : o3 = .func fd := e3
    subst e3
    exact of_decide_eq_true c1
  · unfold bltB at b1
    split at b1
    · rename_i t d sl q
      obtain ⟨d1, d2⟩ := He.ba b1
      obtain ⟨d3, d4⟩ := He.ba d2
      obtain ⟨d5, d6⟩ := He.ba d4
      have g1 : t = "module" := of_decide_eq_true d1
      have g2 : d = builtinsNs := of_decide_eq_true d3
      subst g1 g2
      exact ⟨_, _, hbm, of_decide_eq_true d5, of_decide_eq_true d6, of_decide_eq_true c3, q, rfl, rfl, rfl⟩
    · cases b1
  · rw [ta.tabs]
    exact List.mem_map.mpr ⟨_, hm, rfl⟩
  · rw [ta.tabs] at hq
    obtain ⟨k, hk, e⟩ := List.mem_map.mp hq
    have z := of_decide_eq_true (List.all_eq_true.mp c5 k hk)
    have e4 : (lamC K k.1).2 = (lamC K (x, none)).2 := congrArg (fun p => p.2.1) e
    have e5 : k.2 = q := congrArg (fun p => p.2.2) e
    rw [← e5]
    exact z e4
def OnlyT (K : PySem.W.Frag) (H : Hp) : Prop := ∀ b, H b = none ∨ (Marked K b ∧ H b = some (.tbl #[])) ∨ ∃ o xs, H b = some (.frz o (.lst xs))
theorem start_T {K : PySem.W.Frag} {H : Hp} {a : Addr} {ns : List Int} {dsp : DSp} {E : XK} (hd : dsp [.ksq (ns.map .int)] [] fun d _ => d = .bl true) (hT : ∀ P, Marked K P → H P = some (.tbl #[])) (hO : OnlyT K H) (hS : SqL K H a (ns.map V.int)) : spOf K dsp [.ref a] H (fun v _ => v = .bl true) E := by
  have nl : ∀ n, ¬ Live ([] : Sto) n := fun n ⟨o, l⟩ => by simp at l
  have hv : ∀ u, H a = some u → (∀ ps, u ≠ .tbl ps) → vis (fun _ => a) [] (Marked K) H a = some u := fun u e n => vis_of e (fun z => n _ (Option.some.inj (e.symm.trans (hT a z)))) fun n l => absurd l (nl n)
  have hS' : SqL K (vis (fun _ => a) [] (Marked K) H) a (ns.map V.int) := by
    rcases hS with (r | ⟨o, r⟩) | r
    · exact .inl (.inl (hv _ r fun ps z => by cases z))
    · exact .inl (.inr ⟨o, hv _ r fun ps z => by cases z⟩)
    · exact .inr r
  refine ⟨fun _ => a, [], Marked K, [.ksq (ns.map .int)], fun d _ => d = .bl true, Wd0.u0 ⟨fun i j l => absurd l (nl i), fun i l => absurd l (nl i), fun b z => ⟨.tbl #[], hT b z, fun _ z => nomatch z⟩, fun i o l => by simp at l, ⟨fun P m => m, fun c P q m => LamX.TabS.nil (hT P ⟨c, q, m⟩), fun P ps e => ?_⟩⟩, ?_, hd, ?_⟩
  · rcases hO P with z | ⟨z, _⟩ | ⟨o, xs, z⟩
    · rw [z] at e; cases e
    · exact z
    · rw [z] at e; cases e
  · exact Reps.one (by rw [Rep]; exact ⟨a, _, rfl, hS', Reps.ofInts ns⟩)
  · intro v H' m' d S' e w r hd
    subst hd
    exact r
section
variable {P : Program} {w : World} {K : PySem.W.Frag} {mg mb : Str → Option Value} {CX : CXT} {k : Nat} {fa a : Addr} {fd : FuncData} {x : Str} {sp : Sp} {s : Shared} {vs : List Value} {ns : List Int}
theorem law_overT {H : Hp} (KX : K.In s.heap) (gl : s.heap.Ns mainGlobals mg) (bl : s.heap.Ns builtinsNs mb) (bb : ∀ y : Str, y ≠ "__name__" → mb y = bootBuiltins y) (lim : s.heap.NoLimit) (g0 : s.gens = #[])
    (tabs : ∀ b, Marked K b → s.heap.get? b = some { cls := .none, data := .fields #[] } ∧ K.lookup b = none ∧ isCodeTable s.heap b)
    (ha : s.heap.get? a = some { cls := .type "list", data := .seq vs.toArray }) (room : Room k callerA) (F : ∀ base : Heap, K.In base → base.Ns mainGlobals mg → FnG P w K mg base CX k fa fd [x] sp) (bind : ∀ (s' : Shared) (u : Value), BindsTo s' fd ⟨[u], []⟩ [(x, u)])
    (hsp : sp [.ref a] H (fun v _ => v = .bl true) fun _ _ _ => False) (out : ∀ e s', CX [] H s (fun _ _ _ => False) e s' → False) (only : OnlyT K H) (ok : HOk P w H s.heap) (at_a : ∀ b, H b ≠ none → b = a ∨ Marked K b) (own : H a ≠ none → K.lookup a = none) :
    codeAny (model P w) callerA (.call (.ref fa) ⟨[.ref a], []⟩) (fun r s' => r = .ok (.ret (.bool true)) ∧ OldK s.heap s'.heap ∧ s'.os = s.os ∧ AllBare s'.gens) s := by
  have free : ∀ {b : Addr} {o : Obj} {es : Array DictEntry} {ep : Nat}, s.heap.get? b = some o → o.data = .dict es ep → H b = none := fun {b o es ep} e d => by
    by_cases z : H b = none
    · exact z
    · rcases at_a b z with e2 | e2
      · rw [e2, ha] at e
        cases e
        cases d
      · rw [(tabs b e2).1] at e
        cases e
        cases d
  have ns_of : ∀ {b : Addr} {m : Str → Option Value}, s.heap.Ns b m → (hidT s.heap H).Ns b m := by
    rintro b m ⟨o, es, ep, e, d, r⟩
    exact ⟨o, es, ep, hidT_get e (free e d), d, r⟩
  have kin : K.In (hidT s.heap H) := fun b o e => hidT_get (KX b o e) (by
    by_cases z : H b = none
    · exact z
    · rcases at_a b z with e2 | e2
      · subst e2
        rw [own z] at e
        cases e
      · rw [(tabs b e2).2.1] at e
        cases e)
  have lim' : (hidT s.heap H).NoLimit := by
    obtain ⟨mc, h1, h2⟩ := lim
    exact ⟨mc, ns_of h1, h2⟩
  have env : Env0 P w K mg (hidT s.heap H) callerA [] s H := ⟨rfl, ⟨kin, ns_of gl, ⟨mb, ns_of bl, bb⟩, lim'⟩, fun b o e => of_hidT e, Nat.le_of_eq (hidT_size _ _), trivial, fun b hb => absurd hb (by simp [frs]), ok, .of_eq g0⟩
  have run := (F (hidT s.heap H) kin (ns_of gl)).run callerA [] s H ⟨[.ref a], []⟩ [.ref a] [.ref a] _ _ (roomCaller room) env (bind s (.ref a)) (.cons rfl .nil) hsp
  refine codeAny_mono run fun r s' h => ?_
  match r, h with
  | .error e, h => exact (out e s' h).elim
  | .ok .next, h => exact h.elim
  | .ok .brk, h => exact h.elim
  | .ok .cont, h => exact h.elim
  | .ok (.ret u), ⟨v, H', os, bare, un, ok', rv, q⟩ =>
    have ev : v = .bl true := q
    subst ev
    have eu : u = Value.bool true := rv
    subst eu
    have grown : ∀ b, H b = some (.tbl #[]) → ∃ more : Array Value, s'.heap.get? b = some { cls := .none, data := .fields more } := fun b z => by
      obtain ⟨more, z2⟩ := un.tbls b #[] z
      exact ⟨_, ok' b _ z2⟩
    have kept : ∀ b o, s.heap.get? b = some o → (∀ more, H b = some (.tbl more) → False) → s'.heap.get? b = some o := fun b o e n => by
      rcases only b with z | ⟨_, z⟩ | ⟨ob, xs, z⟩
      · exact un.keep b o e z (by simp [frs]) (by simp)
      · exact (n _ z).elim
      · obtain ⟨e1, _⟩ := ok b _ z
        obtain ⟨e2, _⟩ := ok' b _ (un.frzs b ob _ z)
        rw [e1] at e
        rw [e2, e]
    refine ⟨rfl, ⟨fun b o e => ?_, fun b o e => ?_⟩, os, bare⟩
    · rcases only b with z | ⟨mk, z⟩ | ⟨ob, xs, z⟩
      · exact .inl (kept b o e fun more z2 => by rw [z] at z2; cases z2)
      · obtain ⟨t1, _, t3⟩ := tabs b mk
        obtain ⟨more, hm⟩ := grown b z
        rw [t1] at e
        cases e
        exact .inr (.inl ⟨t3, rfl, #[], more, rfl, by rw [Array.empty_append]; exact hm⟩)
      · exact .inl (kept b o e fun more z2 => by rw [z] at z2; cases z2)
    · rcases only b with z | ⟨mk, z⟩ | ⟨ob, xs, z⟩
      · exact ⟨o, kept b o e fun more z2 => by rw [z] at z2; cases z2⟩
      · obtain ⟨more, hm⟩ := grown b z
        exact ⟨_, hm⟩
      · exact ⟨o, kept b o e fun more z2 => by rw [z] at z2; cases z2⟩
open Classical in
theorem law_callT (KX : K.In s.heap) (gl : s.heap.Ns mainGlobals mg) (bl : s.heap.Ns builtinsNs mb) (bb : ∀ y : Str, y ≠ "__name__" → mb y = bootBuiltins y) (lim : s.heap.NoLimit) (g0 : s.gens = #[])
    (tabs : ∀ b, Marked K b → s.heap.get? b = some { cls := .none, data := .fields #[] } ∧ K.lookup b = none ∧ isCodeTable s.heap b)
    (ha : s.heap.get? a = some { cls := .type "list", data := .seq vs.toArray }) (hi : IntsAre vs ns) (hl : ns.length ≤ sizeLine) (room : Room k callerA) (F : ∀ base : Heap, K.In base → base.Ns mainGlobals mg → FnG P w K mg base CX k fa fd [x] sp)
    (bind : ∀ (s' : Shared) (u : Value), BindsTo s' fd ⟨[u], []⟩ [(x, u)]) (hsp : ∀ H : Hp, (∀ b, Marked K b → H b = some (.tbl #[])) → OnlyT K H → SqL K H a (ns.map V.int) → sp [.ref a] H (fun v _ => v = .bl true) fun _ _ _ => False) (out : ∀ H e s', CX [] H s (fun _ _ _ => False) e s' → False) :
    codeAny (model P w) callerA (.call (.ref fa) ⟨[.ref a], []⟩) (fun r s' => r = .ok (.ret (.bool true)) ∧ OldK s.heap s'.heap ∧ s'.os = s.os ∧ AllBare s'.gens) s := by
  have rv := vals_ints hi
  have aT : ¬ Marked K a := fun z => by
    have q := (tabs a z).1
    rw [ha] at q
    cases q
  by_cases kn : K.lookup a = none
  · have h1 : ∀ b, Marked K b → b ≠ a := fun b m e => aT (e ▸ m)
    let Ha : Hp := fun b => if b = a then some (.frz { cls := .type "list", data := .seq vs.toArray } (.lst (ns.map V.int))) else if Marked K b then some (.tbl #[]) else none
    have ea : Ha a = some (.frz { cls := .type "list", data := .seq vs.toArray } (.lst (ns.map V.int))) := if_pos rfl
    have eT : ∀ b, Marked K b → Ha b = some (.tbl #[]) := fun b m => (if_neg (h1 b m)).trans (if_pos m)
    have e0 : ∀ b, b ≠ a → ¬ Marked K b → Ha b = none := fun b n m => (if_neg n).trans (if_neg m)
    have all : ∀ b, (b = a) ∨ Marked K b ∨ Ha b = none := fun b => by
      by_cases z1 : b = a
      · exact .inl z1
      · by_cases z2 : Marked K b
        · exact .inr (.inl z2)
        · exact .inr (.inr (e0 b z1 z2))
    have only : OnlyT K Ha := fun b => by
      rcases all b with z | z | z
      · rw [z]; exact .inr (.inr ⟨_, _, ea⟩)
      · exact .inr (.inl ⟨z, eT b z⟩)
      · exact .inl z
    refine law_overT (H := Ha) KX gl bl bb lim g0 tabs ha room F bind (hsp Ha eT only (.inl (.inr ⟨_, ea⟩))) (out Ha) only (fun b u z => ?_) (fun b z => ?_) fun _ => kn
    · rcases all b with q | q | q
      · subst q
        rw [ea] at z
        cases z
        exact ⟨ha, by rw [List.length_map]; exact hl, vs, _, rv, ha⟩
      · rw [eT b q] at z
        cases z
        exact (tabs b q).1
      · rw [q] at z; cases z
    · rcases all b with q | q | q
      · exact .inl q
      · exact .inr q
      · exact absurd q z
  · obtain ⟨o, hk⟩ := Option.ne_none_iff_exists'.mp kn
    have e := KX a o hk
    rw [ha] at e
    cases e
    let Ha : Hp := fun b => if Marked K b then some (.tbl #[]) else none
    have eT : ∀ b, Marked K b → Ha b = some (.tbl #[]) := fun b m => if_pos m
    have e0 : ∀ b, ¬ Marked K b → Ha b = none := fun b m => if_neg m
    have only : OnlyT K Ha := fun b => by
      by_cases z : Marked K b
      · exact .inr (.inl ⟨z, eT b z⟩)
      · exact .inl (e0 b z)
    refine law_overT (H := Ha) KX gl bl bb lim g0 tabs ha room F bind (hsp Ha eT only (.inr ⟨_, vs.toArray, _, hk, rfl, rfl, rfl, ?_, ?_⟩)) (out Ha) only (fun b u z => ?_) (fun b z => ?_) fun z => absurd (e0 a aT) z
    · rw [List.size_toArray, hi.length]; exact hl
    · simpa using rv
    · by_cases q : Marked K b
      · rw [eT b q] at z
        cases z
        exact (tabs b q).1
      · rw [e0 b q] at z; cases z
    · by_cases q : Marked K b
      · exact .inr q
      · exact absurd (e0 b q) z
end
theorem tabs_facts {lam : Lams} {K : PySem.W.Frag} {h : Heap} (X : K.In h) (ta : SaysTb lam K h) (b : lamsB lam K = true) : ∀ P, Marked K P → h.get? P = some { cls := .none, data := .fields #[] } ∧ K.lookup P = none ∧ isCodeTable h P := by
  rintro P ⟨c, q, m⟩
  rw [ta.tabs] at m
  obtain ⟨l, hl, e⟩ := List.mem_map.mp m
  have eP : (lamC K l.1).2 = P := congrArg (fun p => p.2.1) e
  obtain ⟨b1, b2⟩ := He.ba b
  obtain ⟨b3, b4⟩ := He.ba b2
  obtain ⟨c1, c⟩ := He.ba (List.all_eq_true.mp b4 _ hl)
  obtain ⟨c2, _⟩ := He.ba c
  have hd := PySem.W.codeHd_of_K X c2
  have em := ta.empty l hl
  rw [← eP]
  exact ⟨em, ta.out l hl, (hd.tab em).isCodeTable⟩
theorem walk_ofT {l : PySem.W.OpenLaw} {n k : Nat} {q : Program} {loose : List Str} {XP : (Str → Option Value) → Heap → Prop} {YP : World → Heap → Prop} {d : DefRec} {x : Str} {sp : PySem.W.Frag → Sp}
    (hn : l.most = some n) (hn2 : n ≤ sizeLine) (hdf : d.params.defaults = []) (room : Room k callerA)
    (F : ∀ (w : World) (mg : Str → Option Value) (fa : Addr) (h : Heap), YP w h → h.Ns mainGlobals mg → mg d.name = some (.ref fa) →
      ∃ (K : PySem.W.Frag) (fd : FuncData), K.In h ∧ (∀ P, Marked K P → h.get? P = some { cls := .none, data := .fields #[] } ∧ K.lookup P = none ∧ isCodeTable h P) ∧ (∀ (s : Shared) (u : Value), BindsTo s fd ⟨[u], []⟩ [(x, u)]) ∧ ∀ base : Heap, K.In base → base.Ns mainGlobals mg → FnG l.prog w K mg base CX0 k fa fd [x] (sp K))
    (hsp : ∀ (K : PySem.W.Frag) (H : Hp) (a : Addr) (ns : List Int), ns.length ≤ n → (∀ b, Marked K b → H b = some (.tbl #[])) → OnlyT K H → SqL K H a (ns.map V.int) → sp K [.ref a] H (fun v _ => v = .bl true) fun _ _ _ => False) : PySem.W.WalkO q loose XP YP l.row.toRowW d [] (fun f vs => PySem.call f vs) := by
  refine Att.attach_call hn hdf fun w s₀ s₁ mg mb fa o pm cd doc a vs ns G Y ho hd hcd hmg hobj hints hlen hg => ?_
  obtain ⟨K, fd, KX, tb, hb, hF⟩ := F w mg fa _ Y G.T.g hmg
  exact law_callT KX G.T.g G.T.b G.T.builtins G.T.nolimit hg tb hobj hints (Nat.le_trans hlen hn2) room hF hb (fun H hT o q => hsp K H a ns hlen hT o q) fun H e s' z => z
end Hd
namespace Lw
open PySem L2 Dl
def top (i : Nat) : Stmt := PySem.Challenge.pw_boatbridge_k71_crossings.main.body.getD i (.Pass ⟨0, 0, 0, 0⟩)
abbrev s_other_bank : Stmt := (top 5)
abbrev N_other_bank : List Str := ["bank"]
abbrev ps_other_bank : List Str := ["bank"]
theorem sc_other_bank : FnScope N_other_bank ps_other_bank (defScope s_other_bank) := ⟨rfl, rfl, rfl, by decide +kernel, rfl, by decide +kernel, by decide +kernel⟩
abbrev dv_other_bank : List V := []
abbrev s_Book_init : Stmt := (inClass (top 12) 0)
abbrev N_Book_init : List Str := ["self", "bank"]
abbrev ps_Book_init : List Str := ["self", "bank"]
theorem sc_Book_init : FnScope N_Book_init ps_Book_init (defScope s_Book_init) := ⟨rfl, rfl, rfl, by decide +kernel, rfl, by decide +kernel, by decide +kernel⟩
abbrev dv_Book_init : List V := []
abbrev s_Book_write : Stmt := (inClass (top 12) 1)
abbrev N_Book_write : List Str := ["self", "minute", "word", "name"]
abbrev ps_Book_write : List Str := ["self", "minute", "word", "name"]
theorem sc_Book_write : FnScope N_Book_write ps_Book_write (defScope s_Book_write) := ⟨rfl, rfl, rfl, by decide +kernel, rfl, by decide +kernel, by decide +kernel⟩
abbrev dv_Book_write : List V := []
abbrev s_Book_rows : Stmt := (inClass (top 12) 2)
abbrev N_Book_rows : List Str := ["self"]
abbrev ps_Book_rows : List Str := ["self"]
theorem sc_Book_rows : FnScope N_Book_rows ps_Book_rows (defScope s_Book_rows) := ⟨rfl, rfl, rfl, by decide +kernel, rfl, by decide +kernel, by decide +kernel⟩
abbrev dv_Book_rows : List V := []
abbrev s_numbered : Stmt := (top 14)
abbrev N_numbered : List Str := ["book", "wanted", "counts", "found", "minute", "word", "name", "place"]
abbrev ps_numbered : List Str := ["book", "wanted"]
theorem sc_numbered : FnScope N_numbered ps_numbered (defScope s_numbered) := ⟨rfl, rfl, rfl, by decide +kernel, rfl, by decide +kernel, by decide +kernel⟩
abbrev dv_numbered : List V := []
abbrev s_faults_of : Stmt := (top 15)
abbrev N_faults_of : List Str := ["book", "other", "partners", "counts", "found", "place", "minute", "word", "name", "many", "partner"]
abbrev ps_faults_of : List Str := ["book", "other"]
theorem sc_faults_of : FnScope N_faults_of ps_faults_of (defScope s_faults_of) := ⟨rfl, rfl, rfl, by decide +kernel, rfl, by decide +kernel, by decide +kernel⟩
abbrev dv_faults_of : List V := []
abbrev s_crossings : Stmt := (top 16)
abbrev N_crossings : List Str := ["one", "other", "books", "faults", "minute", "number", "place", "name", "word", "found", "bank", "offs", "off"]
abbrev ps_crossings : List Str := ["one", "other"]
theorem sc_crossings : FnScope N_crossings ps_crossings (defScope s_crossings) := ⟨rfl, rfl, rfl, by decide +kernel, rfl, by decide +kernel, by decide +kernel⟩
abbrev dv_crossings : List V := []
abbrev s__law_feed : Stmt := (top 18)
abbrev N__law_feed : List Str := ["_law_script"]
abbrev ps__law_feed : List Str := ["_law_script"]
theorem sc__law_feed : FnScope N__law_feed ps__law_feed (defScope s__law_feed) := ⟨rfl, rfl, rfl, by decide +kernel, rfl, by decide +kernel, by decide +kernel⟩
abbrev dv__law_feed : List V := []
abbrev s__law_draw : Stmt := (top 19)
abbrev N__law_draw : List Str := ["_law_feed_here", "_law_many", "_law_found", "_law_spot", "_law_cell", "_law_mixed"]
abbrev ps__law_draw : List Str := ["_law_feed_here", "_law_many"]
theorem sc__law_draw : FnScope N__law_draw ps__law_draw (defScope s__law_draw) := ⟨rfl, rfl, rfl, by decide +kernel, rfl, by decide +kernel, by decide +kernel⟩
abbrev dv__law_draw : List V := []
abbrev s__law_of : Stmt := (top 20)
abbrev N__law_of : List Str := ["_law_feed_here", "_law_some"]
abbrev ps__law_of : List Str := ["_law_feed_here", "_law_some"]
theorem sc__law_of : FnScope N__law_of ps__law_of (defScope s__law_of) := ⟨rfl, rfl, rfl, by decide +kernel, rfl, by decide +kernel, by decide +kernel⟩
abbrev dv__law_of : List V := []
abbrev s__law_names : Stmt := (top 21)
abbrev N__law_names : List Str := ["_law_feed_here", "_law_many", "_law_letters", "_law_some", "_law_place", "_law_short", "_law_found", "_law_k", "_law_turned", "_law_shown", "_law_mark"]
abbrev ps__law_names : List Str := ["_law_feed_here", "_law_many"]
theorem sc__law_names : FnScope N__law_names ps__law_names (defScope s__law_names) := ⟨rfl, rfl, rfl, by decide +kernel, rfl, by decide +kernel, by decide +kernel⟩
abbrev dv__law_names : List V := []
abbrev s__law_days : Stmt := (top 22)
abbrev N__law_days : List Str := ["_law_feed_here", "_law_names_here", "_law_found", "_law_last", "_law_k", "_law_who", "_law_side", "_law_start", "_law_upto"]
abbrev ps__law_days : List Str := ["_law_feed_here", "_law_names_here"]
theorem sc__law_days : FnScope N__law_days ps__law_days (defScope s__law_days) := ⟨rfl, rfl, rfl, by decide +kernel, rfl, by decide +kernel, by decide +kernel⟩
abbrev dv__law_days : List V := []
abbrev s__law_rows_of : Stmt := (top 23)
abbrev N__law_rows_of : List Str := ["_law_days_here", "_law_side", "_law_found", "_law_who", "_law_begin", "_law_start", "_law_upto"]
abbrev ps__law_rows_of : List Str := ["_law_days_here", "_law_side"]
theorem sc__law_rows_of : FnScope N__law_rows_of ps__law_rows_of (defScope s__law_rows_of) := ⟨rfl, rfl, rfl, by decide +kernel, rfl, by decide +kernel, by decide +kernel⟩
abbrev dv__law_rows_of : List V := []
abbrev s__law_book : Stmt := (top 24)
abbrev N__law_book : List Str := ["_law_side", "_law_rows", "_law_found", "_law_when", "_law_deed", "_law_who"]
abbrev ps__law_book : List Str := ["_law_side", "_law_rows"]
theorem sc__law_book : FnScope N__law_book ps__law_book (defScope s__law_book) := ⟨rfl, rfl, rfl, by decide +kernel, rfl, by decide +kernel, by decide +kernel⟩
abbrev dv__law_book : List V := []
abbrev s__law_due : Stmt := (top 25)
abbrev N__law_due : List Str := ["_law_days_here", "_law_found", "_law_who", "_law_side", "_law_ons", "_law_offs", "_law_day", "_law_start", "_law_upto"]
abbrev ps__law_due : List Str := ["_law_days_here"]
theorem sc__law_due : FnScope N__law_due ps__law_due (defScope s__law_due) := ⟨rfl, rfl, rfl, by decide +kernel, rfl, by decide +kernel, by decide +kernel⟩
abbrev dv__law_due : List V := []
abbrev s_law : Stmt := (top 26)
abbrev N_law : List Str := ["_law_script", "_law_feed_here", "_law_k", "_law_days_here", "_law_drawn", "_law_near", "_law_far", "_law_due_here", "_law_kept", "_law_some", "_law_side"]
abbrev ps_law : List Str := ["_law_script"]
theorem sc_law : FnScope N_law ps_law (defScope s_law) := ⟨rfl, rfl, rfl, by decide +kernel, rfl, by decide +kernel, by decide +kernel⟩
abbrev dv_law : List V := []
structure Ad where
  C_Book : Addr
  T_BANKS : Addr
theorem bnd_Book_rows_1 : Bnd "rows" "Book.rows" s_Book_rows ps_Book_rows 1 [] [.p 0] dv_Book_rows.length := .zero fun _ _ _ _ _ _ us ws h1 h2 => match us, ws, h1, h2 with | [_], [], _, _ => rfl
theorem bnd_numbered_2 : Bnd "numbered" "numbered" s_numbered ps_numbered 2 [] [.p 0, .p 1] dv_numbered.length := .zero fun _ _ _ _ _ _ us ws h1 h2 => match us, ws, h1, h2 with | [_, _], [], _, _ => rfl
theorem bnd_faults_of_2 : Bnd "faults_of" "faults_of" s_faults_of ps_faults_of 2 [] [.p 0, .p 1] dv_faults_of.length := .zero fun _ _ _ _ _ _ us ws h1 h2 => match us, ws, h1, h2 with | [_, _], [], _, _ => rfl
theorem bnd_other_bank_1 : Bnd "other_bank" "other_bank" s_other_bank ps_other_bank 1 [] [.p 0] dv_other_bank.length := .zero fun _ _ _ _ _ _ us ws h1 h2 => match us, ws, h1, h2 with | [_], [], _, _ => rfl
theorem bnd__law_draw_2 : Bnd "_law_draw" "_law_draw" s__law_draw ps__law_draw 2 [] [.p 0, .p 1] dv__law_draw.length := .zero fun _ _ _ _ _ _ us ws h1 h2 => match us, ws, h1, h2 with | [_, _], [], _, _ => rfl
theorem bnd__law_of_2 : Bnd "_law_of" "_law_of" s__law_of ps__law_of 2 [] [.p 0, .p 1] dv__law_of.length := .zero fun _ _ _ _ _ _ us ws h1 h2 => match us, ws, h1, h2 with | [_, _], [], _, _ => rfl
theorem bnd_Book_init_2 : Bnd "__init__" "Book.__init__" s_Book_init ps_Book_init 2 [] [.p 0, .p 1] dv_Book_init.length := .zero fun _ _ _ _ _ _ us ws h1 h2 => match us, ws, h1, h2 with | [_, _], [], _, _ => rfl
theorem bnd_Book_write_4 : Bnd "write" "Book.write" s_Book_write ps_Book_write 4 [] [.p 0, .p 1, .p 2, .p 3] dv_Book_write.length := .zero fun _ _ _ _ _ _ us ws h1 h2 => match us, ws, h1, h2 with | [_, _, _, _], [], _, _ => rfl
theorem bnd__law_feed_1 : Bnd "_law_feed" "_law_feed" s__law_feed ps__law_feed 1 [] [.p 0] dv__law_feed.length := .zero fun _ _ _ _ _ _ us ws h1 h2 => match us, ws, h1, h2 with | [_], [], _, _ => rfl
theorem bnd__law_days_2 : Bnd "_law_days" "_law_days" s__law_days ps__law_days 2 [] [.p 0, .p 1] dv__law_days.length := .zero fun _ _ _ _ _ _ us ws h1 h2 => match us, ws, h1, h2 with | [_, _], [], _, _ => rfl
theorem bnd__law_names_2 : Bnd "_law_names" "_law_names" s__law_names ps__law_names 2 [] [.p 0, .p 1] dv__law_names.length := .zero fun _ _ _ _ _ _ us ws h1 h2 => match us, ws, h1, h2 with | [_, _], [], _, _ => rfl
theorem bnd__law_book_2 : Bnd "_law_book" "_law_book" s__law_book ps__law_book 2 [] [.p 0, .p 1] dv__law_book.length := .zero fun _ _ _ _ _ _ us ws h1 h2 => match us, ws, h1, h2 with | [_, _], [], _, _ => rfl
theorem bnd__law_rows_of_2 : Bnd "_law_rows_of" "_law_rows_of" s__law_rows_of ps__law_rows_of 2 [] [.p 0, .p 1] dv__law_rows_of.length := .zero fun _ _ _ _ _ _ us ws h1 h2 => match us, ws, h1, h2 with | [_, _], [], _, _ => rfl
theorem bnd__law_due_1 : Bnd "_law_due" "_law_due" s__law_due ps__law_due 1 [] [.p 0] dv__law_due.length := .zero fun _ _ _ _ _ _ us ws h1 h2 => match us, ws, h1, h2 with | [_], [], _, _ => rfl
theorem bnd_crossings_0_other_one : Bnd "crossings" "crossings" s_crossings ps_crossings 0 ["other", "one"] [.k 1, .k 0] dv_crossings.length := .zero fun _ _ _ _ _ _ us ws h1 h2 => match us, ws, h1, h2 with | [], [_, _], _, _ => rfl
theorem bnd_crossings_2 : Bnd "crossings" "crossings" s_crossings ps_crossings 2 [] [.p 0, .p 1] dv_crossings.length := .zero fun _ _ _ _ _ _ us ws h1 h2 => match us, ws, h1, h2 with | [_, _], [], _, _ => rfl
structure Txt (K : PySem.W.Frag) (mg : Str → Option Value) (a : Ad) : Prop where
  b_other_bank : FnB K mg "other_bank" s_other_bank dv_other_bank
  b_Book_init : MkB K a.C_Book "Book.__init__" s_Book_init dv_Book_init
  b_Book_write : MtB K a.C_Book "write" "Book.write" s_Book_write dv_Book_write
  b_Book_rows : MtB K a.C_Book "rows" "Book.rows" s_Book_rows dv_Book_rows
  b_numbered : FnB K mg "numbered" s_numbered dv_numbered
  b_faults_of : FnB K mg "faults_of" s_faults_of dv_faults_of
  b_crossings : FnB K mg "crossings" s_crossings dv_crossings
  b__law_feed : FnB K mg "_law_feed" s__law_feed dv__law_feed
  b__law_draw : FnB K mg "_law_draw" s__law_draw dv__law_draw
  b__law_of : FnB K mg "_law_of" s__law_of dv__law_of
  b__law_names : FnB K mg "_law_names" s__law_names dv__law_names
  b__law_days : FnB K mg "_law_days" s__law_days dv__law_days
  lm__law_rows_of : LamT K mg "_law_rows_of"
  b__law_rows_of : FnB K mg "_law_rows_of" s__law_rows_of dv__law_rows_of
  b__law_book : FnB K mg "_law_book" s__law_book dv__law_book
  lm__law_due : LamT K mg "_law_due"
  b__law_due : FnB K mg "_law_due" s__law_due dv__law_due
  b_law : FnB K mg "law" s_law dv_law
  mC_Book : mg "Book" = some (.ref a.C_Book)
  cl_Book : Cls K a.C_Book
  no_enumerate : mg "enumerate" = none
  no_isinstance : mg "isinstance" = none
  no_len : mg "len" = none
  no_list : mg "list" = none
  no_max : mg "max" = none
  no_range : mg "range" = none
  no_repr : mg "repr" = none
  no_set : mg "set" = none
  no_sorted : mg "sorted" = none
  no_zip : mg "zip" = none
  c_BANKS : mg "BANKS" = some (.ref a.T_BANKS)
  ck_BANKS : KTt K a.T_BANKS ["near", "far"]
  f_Book_bank : FldOk K a.C_Book "bank"
  f_Book_kept : FldOk K a.C_Book "kept"
theorem st_other_bank (d0 : D) : startD N_other_bank [d0] = [some d0] := rfl
theorem st_Book_init (d0 d1 : D) : startD N_Book_init [d0, d1] = [some d0, some d1] := rfl
theorem st_Book_write (d0 d1 d2 d3 : D) : startD N_Book_write [d0, d1, d2, d3] = [some d0, some d1, some d2, some d3] := rfl
theorem st_Book_rows (d0 : D) : startD N_Book_rows [d0] = [some d0] := rfl
theorem st_numbered (d0 d1 : D) : startD N_numbered [d0, d1] = [some d0, some d1, none, none, none, none, none, none] := rfl
theorem st_faults_of (d0 d1 : D) : startD N_faults_of [d0, d1] = [some d0, some d1, none, none, none, none, none, none, none, none, none] := rfl
theorem st_crossings (d0 d1 : D) : startD N_crossings [d0, d1] = [some d0, some d1, none, none, none, none, none, none, none, none, none, none, none] := rfl
theorem st__law_feed (d0 : D) : startD N__law_feed [d0] = [some d0] := rfl
theorem st__law_draw (d0 d1 : D) : startD N__law_draw [d0, d1] = [some d0, some d1, none, none, none, none] := rfl
theorem st__law_of (d0 d1 : D) : startD N__law_of [d0, d1] = [some d0, some d1] := rfl
theorem st__law_names (d0 d1 : D) : startD N__law_names [d0, d1] = [some d0, some d1, none, none, none, none, none, none, none, none, none] := rfl
theorem st__law_days (d0 d1 : D) : startD N__law_days [d0, d1] = [some d0, some d1, none, none, none, none, none, none, none] := rfl
theorem st__law_rows_of (d0 d1 : D) : startD N__law_rows_of [d0, d1] = [some d0, some d1, none, none, none, none, none] := rfl
theorem st__law_book (d0 d1 : D) : startD N__law_book [d0, d1] = [some d0, some d1, none, none, none, none] := rfl
theorem st__law_due (d0 : D) : startD N__law_due [d0] = [some d0, none, none, none, none, none, none, none, none] := rfl
theorem st_law (d0 : D) : startD N_law [d0] = [some d0, none, none, none, none, none, none, none, none, none, none] := rfl
theorem pk_Book_bank : putK "bank" [] = (["bank"] : List Str) := by decide +kernel
theorem px_Book_bank {x0 : D} : putX "bank" x0 [] [] = [x0] := rfl
theorem fg_Book_bank {x0 x1 : D} : fget "bank" ["bank", "kept"] [x0, x1] = some x0 := rfl
theorem pk_Book_kept : putK "kept" ["bank"] = (["bank", "kept"] : List Str) := by decide +kernel
theorem px_Book_kept {x0 x1 : D} : putX "kept" x1 ["bank"] [x0] = [x0, x1] := rfl
theorem fg_Book_kept {x0 x1 : D} : fget "kept" ["bank", "kept"] [x0, x1] = some x1 := rfl
end Lw
namespace Lw
open PySem L2 Dl
def NmOk (x : Str) : Prop := 1 ≤ x.length ∧ x.length ≤ 8 ∧ ∀ c ∈ x.cps.toList, 97 ≤ c ∧ c ≤ 122
theorem nm_ok {x : Str} (h : NmOk x) : PyData.strOk x = true := Mt.ok_all.mpr fun c hc => by have := h.2.2 c hc; omega
/-- a row of a book -/
structure Rw where
  m : Nat
  w : Str
  n : Str
  deriving DecidableEq
def WdOk (x : Str) : Prop := x = "on" ∨ x = "off"
def BaOk (x : Str) : Prop := x = "near" ∨ x = "far"
def RwOk (r : Rw) : Prop := r.m ≤ 1000000 ∧ WdOk r.w ∧ NmOk r.n
def Rise (R : List Rw) : Prop := R.Pairwise fun r s => r.m ≤ s.m
abbrev rwD (r : Rw) : D := .tup [.int (r.m : Nat), .str r.w, .str r.n]
abbrev bkO (a : Ad) (b : Str) (j : Nat) : MO := .obj a.C_Book ["bank", "kept"] [.str b, .loc j]
/-- a book in the store: its cell, the cell of its rows -/
def BkAt (a : Ad) (S : Sto) (n j : Nat) (b : Str) (R : List Rw) : Prop := S[n]? = some (some (bkO a b j)) ∧ S[j]? = some (some (.lst (R.map rwD)))
abbrev bk2 (a : Ad) (n : Nat) (b : Str) (R : List Rw) : Sto := [some (bkO a b (n + 1)), some (.lst (R.map rwD))]
/-- a book given up -/
abbrev bkV (a : Ad) (b : Str) (R : List Rw) : D := .obj a.C_Book ["bank", "kept"] [.str b, .lst (R.map rwD)]
structure BkOk (b : Str) (R : List Rw) : Prop where
  ba : BaOk b
  ro : ∀ r ∈ R, RwOk r
  ri : Rise R
  le : R.length ≤ 1000
def oth (b : Str) : Str := if b = (("near" : String) : Str) then "far" else "near"
abbrev sp_other_bank (a : Ad) : DSp := fun ds S q => ∃ b, ds = [.str b] ∧ BaOk b ∧ q (.str (oth b)) S
abbrev sp_Book_init (a : Ad) : DSp := fun ds S q => ∃ S0 b, ds = [.loc S0.length, .str b] ∧ S = S0 ++ [some (.obj a.C_Book [] [])] ∧ q .non (S0 ++ bk2 a S0.length b [])
abbrev sp_Book_write (a : Ad) : DSp := fun ds S q => ∃ n j b R m w x, ds = [.loc n, .int ((m : Nat) : Int), .str w, .str x] ∧ BkAt a S n j b R ∧ R.length ≤ 100000 ∧ (∀ r, R.getLast? = some r → r.m ≤ m) ∧ q .non (S.set j (some (.lst ((R ++ [(⟨m, w, x⟩ : Rw)]).map rwD))))
abbrev sp_Book_rows (a : Ad) : DSp := fun ds S q => ∃ b R, ds = [bkV a b R] ∧ R.length ≤ 100000 ∧ q (.lst (R.map rwD)) S
abbrev Nu := Str × Nat × Nat
def cnt (L : List Nu) (n : Str) : Nat := (L.filter fun t => decide (t.1 = n)).length
def nStep (w : Str) (L : List Nu) (r : Rw) : List Nu := if r.w = w then L ++ [(r.n, cnt L r.n, r.m)] else L
def numL (w : Str) (R : List Rw) : List Nu := R.foldl (nStep w) []
def nKey (n : Str) (k : Nat) : List Key := [.inr n, .inl (k : Int)]
abbrev nMO (L : List Nu) : MO := .dicT (L.map fun t => nKey t.1 t.2.1) (L.map fun t => .int (t.2.2 : Nat))
abbrev sp_numbered (a : Ad) : DSp := fun ds S q => ∃ b R w, ds = [bkV a b R, .str w] ∧ R.length ≤ 1000 ∧ (∀ r ∈ R, RwOk r) ∧ WdOk w ∧ ∀ ks ds', q (.loc (S.length + 1)) (S ++ [some (.dic ks ds'), some (nMO (numL w R))])
/-- the minute that stands for a name and a place -/
def pt (L : List Nu) (n : Str) (k : Nat) : Option Nat := (L.find? fun t => decide (t.1 = n ∧ t.2.1 = k)).map (·.2.2)
def ow (w : Str) : Str := if w = (("on" : String) : Str) then "off" else "on"
/-- how many rows of this word and name -/
def cw (R : List Rw) (w n : Str) : Nat := (R.filter fun r => decide (r.w = w ∧ r.n = n)).length
/-- no row lacks its other one -/
def NoF (R R' : List Rw) : Prop := ∀ i r, R[i]? = some r → ∃ m, pt (numL (ow r.w) R') r.n (cw (R.take i) r.w r.n) = some m ∧ (r.w = (("on" : String) : Str) → r.m ≤ m)
abbrev sp_faults_of (a : Ad) : DSp := fun ds S q => ∃ b R b' R', ds = [bkV a b R, bkV a b' R'] ∧ BkOk b R ∧ BkOk b' R' ∧ NoF R R' ∧ q (.lst []) S
/-- a crossing as it is found: minute, name, bank's number, place, off -/
abbrev Cr := Nat × Str × Nat × Nat × Nat
abbrev crD5 (t : Cr) : D := .tup [.int (t.1 : Nat), .str t.2.1, .int (t.2.2.1 : Nat), .int (t.2.2.2.1 : Nat), .int (t.2.2.2.2 : Nat)]
def crF (R R' : List Rw) (no : Nat) : List Cr := (numL "on" R).map fun t => (t.2.2, t.1, no, t.2.1, (pt (numL "off" R') t.1 t.2.1).getD 0)
def crAll (N F : List Rw) : List Cr := crF N F 0 ++ crF F N 1
def crP (t : Cr) : PyData := .tuple [.int (t.1 : Nat), .str t.2.1, .int (t.2.2.1 : Nat), .int (t.2.2.2.1 : Nat), .int (t.2.2.2.2 : Nat)]
/-- as sorted() has it -/
def le5 (x y : Cr) : Bool := PySem.W.dataLe false crP x y
abbrev Dy := Str × Str × Nat × Nat
abbrev dyD (d : Dy) : D := .tup [.str d.1, .str d.2.1, .int (d.2.2.1 : Nat), .int (d.2.2.2 : Nat)]
def bankN (k : Nat) : Str := if k = 0 then "near" else "far"
def crs (N F : List Rw) : List Dy := ((crAll N F).mergeSort le5).map fun t => (t.2.1, bankN t.2.2.1, t.1, t.2.2.2.2)
def Two (a : Ad) (ds : List D) (N F : List Rw) : Prop := ds = [bkV a "near" N, bkV a "far" F] ∨ ds = [bkV a "far" F, bkV a "near" N]
structure CrOk (N F : List Rw) : Prop where
  n : BkOk "near" N
  f : BkOk "far" F
  nf : NoF N F
  fn : NoF F N
abbrev sp_crossings (a : Ad) : DSp := fun ds S q => ∃ d e, ds = [d, e] ∧ ∃ N F, Two a ds N F ∧ CrOk N F ∧ q (.lst ((crs N F).map dyD)) S
abbrev sp_crossings_live (a : Ad) : DSp := fun ds S q => ∃ d e, ds = [d, e] ∧ ∃ N F, Two a ds N F ∧ CrOk N F ∧ ∀ T, q (.loc (S ++ T).length) (S ++ T ++ [some (.lst ((crs N F).map dyD))])
abbrev sp__law_feed (a : Ad) : DSp := Mt.tape
abbrev sp__law_draw (a : Ad) : DSp := Mt.draw
abbrev sp__law_of (a : Ad) : DSp := Mt.pickL
abbrev sp__law_names (a : Ad) : DSp := fun ds S q => ∃ many : Int, 0 < many ∧ many ≤ 26 ∧ Mt.tk 20 [.int many] (fun d => ∃ xs : List Str, d = .lst (xs.map D.str) ∧ (xs.length : Int) = many ∧ xs.Nodup ∧ ∀ x ∈ xs, NmOk x) ds S q
/-- the last of a name and bank -/
def lastOf (L : List Dy) (n b : Str) : Nat × Nat := ((L.filter fun d => decide (d.1 = n ∧ d.2.1 = b)).getLast?.map fun d => (d.2.2.1, d.2.2.2)).getD (0, 0)
/-- of one name and bank they rise -/
def Grow (L : List Dy) : Prop := L.Pairwise fun d e => d.1 = e.1 → d.2.1 = e.2.1 → d.2.2.1 ≤ e.2.2.1 ∧ d.2.2.2 ≤ e.2.2.2
structure DyOk (L : List Dy) : Prop where
  nm : ∀ d ∈ L, NmOk d.1
  ba : ∀ d ∈ L, BaOk d.2.1
  le : ∀ d ∈ L, d.2.2.1 ≤ d.2.2.2 ∧ d.2.2.2 ≤ 100000
  gr : Grow L
  len : L.length ≤ 61
abbrev sp__law_days (a : Ad) : DSp := fun ds S q => ∃ xs : List Str, (0 < xs.length ∧ xs.length ≤ 26 ∧ ∀ x ∈ xs, NmOk x) ∧ Mt.tk 1000 [.lst (xs.map D.str)] (fun d => ∃ L : List Dy, d = .lst (L.map dyD) ∧ DyOk L) ds S q
def rowOf (s : Str) (d : Dy) : Rw := if d.2.1 = s then ⟨d.2.2.1, "on", d.1⟩ else ⟨d.2.2.2, "off", d.1⟩
def leM (r s : Rw) : Bool := decide (r.m ≤ s.m)
def rowsOf (L : List Dy) (s : Str) : List Rw := (L.map (rowOf s)).mergeSort leM
abbrev sp__law_rows_of (a : Ad) : DSp := fun ds S q => ∃ L s, ds = [.lst (L.map dyD), .str s] ∧ L.length ≤ 100 ∧ (∀ d ∈ L, BaOk d.2.1) ∧ BaOk s ∧ q (.lst ((rowsOf L s).map rwD)) S
abbrev sp__law_book (a : Ad) : DSp := fun ds S q => ∃ b R, ds = [.str b, .lst (R.map rwD)] ∧ BkOk b R ∧ q (bkV a b R) S
def ofNB (L : List Dy) (n b : Str) : List Dy := L.filter fun d => decide (d.1 = n ∧ d.2.1 = b)
def dueB (L : List Dy) (ns : List Str) : List Dy := ns.flatMap fun n => ofNB L n "near" ++ ofNB L n "far"
/-- by the minute on, the name, the near bank -/
def leK (x y : Dy) : Bool := decide (x.2.2.1 < y.2.2.1 ∨ (x.2.2.1 = y.2.2.1 ∧ (x.1.cps.toList < y.1.cps.toList ∨ (x.1 = y.1 ∧ (x.2.1 = (("far" : String) : Str) → y.2.1 = (("far" : String) : Str))))))
def dueL (L : List Dy) (ns : List Str) : List Dy := (dueB L ns).mergeSort leK
def NsOf (L : List Dy) (ns : List Str) : Prop := ns.Nodup ∧ ns.Pairwise (fun x y => Ds.leX x y = true) ∧ ∀ n, n ∈ ns ↔ n ∈ L.map (·.1)
abbrev sp__law_due (a : Ad) : DSp := fun ds S q => ∃ L, ds = [.lst (L.map dyD)] ∧ DyOk L ∧ ∀ ns, NsOf L ns → q (.lst ((dueL L ns).map dyD)) S
abbrev sp_law : DSp := Mt.law
end Lw
namespace Lw
open PySem L2 Dl
section
variable {P : Program} {w : World} {K : PySem.W.Frag} {mg : Str → Option Value} {base : Heap} {a : Ad}
def g_other_bank (K : PySem.W.Frag) (a : Ad) : GS :=
  (gRet (gIx (gC (.tup [.str "near", .str "far"])) (gB2 aSub (gC (.int 1)) (gTIdx ["near", "far"] (Dl.gCons (gVar 0) Dl.gNil)))))
theorem t_other_bank (T : Txt K mg a)  {f : Addr} {cdv : Value} {A : Around} {outer : List Env} {s : Shared} {H : Hp} {E : XK} (hr : RoomG 0 (A.deeper (PyProof.Rows.envOfC "other_bank" (defScope s_other_bank) s.heap.objs.size f cdv))) :
    PSs (cxOf CX0 P w K mg base N_other_bank "other_bank" (defScope s_other_bank) f cdv A outer s H E).nox (defBody s_other_bank) (tofS K U0 (g_other_bank K a)) :=
  (ds_one (d_ret (d_ix (d_gtup (by rfl) T.c_BANKS T.ck_BANKS.tup) (d_op op_sub vr_sub d_int (d_tidx (by rfl) T.c_BANKS T.ck_BANKS (d_cons (d_var 0) d_nil))))))
def g_Book_init (K : PySem.W.Frag) (a : Ad) : GS :=
  (gSeq (gFldSet K "bank" (gVar 0) (gVar 1)) (gFldSet K "kept" (gVar 0) (Dl.gLst false Dl.gNil)))
theorem t_Book_init (T : Txt K mg a)  {f : Addr} {cdv : Value} {A : Around} {outer : List Env} {s : Shared} {H : Hp} {E : XK} (hr : RoomG 0 (A.deeper (PyProof.Rows.envOfC "Book.__init__" (defScope s_Book_init) s.heap.objs.size f cdv))) :
    PSs (cxOf CX0 P w K mg base N_Book_init "Book.__init__" (defScope s_Book_init) f cdv A outer s H E).nox (defBody s_Book_init) (tofS K U0 (g_Book_init K a)) :=
  (ds_cons (d_fldset (d_var 0) (d_var 1))
    (ds_one (d_fldset (d_var 0) (d_lst false d_nil))))
def g_Book_write (K : PySem.W.Frag) (a : Ad) : GS :=
  (gSeq (gIfS (gAndB (gTest (gB2 (aNil true) (gFld K "kept" (gVar 0)) (Dl.gLst true Dl.gNil))) (gTest (gB2 aLt (gVar 1) (gIx (gIx (gFld K "kept" (gVar 0)) (gU aNeg (gC (.int 1)))) (gC (.int 0)))))) gDead gNext) (gDrop (gMt "list" aAppend (gFld K "kept" (gVar 0)) (Dl.gCons (Dl.gTup (Dl.gCons (gVar 1) (Dl.gCons (gVar 2) (Dl.gCons (gVar 3) Dl.gNil)))) Dl.gNil))))
theorem t_Book_write (T : Txt K mg a)  {f : Addr} {cdv : Value} {A : Around} {outer : List Env} {s : Shared} {H : Hp} {E : XK} (hr : RoomG 0 (A.deeper (PyProof.Rows.envOfC "Book.write" (defScope s_Book_write) s.heap.objs.size f cdv))) :
    PSs (cxOf CX0 P w K mg base N_Book_write "Book.write" (defScope s_Book_write) f cdv A outer s H E).nox (defBody s_Book_write) (tofS K U0 (g_Book_write K a)) :=
  (ds_cons (d_if (PW.pt (d_and (d_tcmp (or_neNil hr) vr_nil (d_fld (d_var 0)) (d_lst true d_nil)) (d_and1 (d_tcmp op_lt vr_lt (d_var 1) (d_ix (d_ix (d_fld (d_var 0)) (d_un un_neg vr_neg d_int)) d_int)))))
      (ds_one d_dead)
      ds_nil)
    (ds_one (d_expr (d_bm (by decide) PySem.F.plainAttrs_list PySem.F.slot_list_append PySem.F.type_list_append mt_append vm_append (d_fld (d_var 0)) (d_cons (d_tup (d_cons (d_var 1) (d_cons (d_var 2) (d_cons (d_var 3) d_nil)))) d_nil)))))
def g_Book_rows (K : PySem.W.Frag) (a : Ad) : GS :=
  (gRet (gCB (a1 (aList true)) (Dl.gCons (gFld K "kept" (gVar 0)) Dl.gNil)))
theorem t_Book_rows (T : Txt K mg a)  {f : Addr} {cdv : Value} {A : Around} {outer : List Env} {s : Shared} {H : Hp} {E : XK} (hr : RoomG 0 (A.deeper (PyProof.Rows.envOfC "Book.rows" (defScope s_Book_rows) s.heap.objs.size f cdv))) :
    PSs (cxOf CX0 P w K mg base N_Book_rows "Book.rows" (defScope s_Book_rows) f cdv A outer s H E).nox (defBody s_Book_rows) (tofS K U0 (g_Book_rows K a)) :=
  (ds_one (d_ret (d_callTy call_list_of (vr_list (fz := true)) (by rfl) T.no_list (by decide +kernel) (d_cons (d_fld (d_var 0)) d_nil))))
def g_numbered (K : PySem.W.Frag) (a : Ad) : GS :=
  (gSeq (gPar 2 3 (Dl.gCons (gDNew false) (Dl.gCons gDNewT Dl.gNil))) (gSeq (gFor (gIt (gMeth a.C_Book "rows" 0 0 [.p 0] [] (sp_Book_rows a) (gVar 0) (gArgs Dl.gNil Dl.gNil))) (.tp [(.nm 4), (.nm 5), (.nm 6)]) (gIfS (gTest (gB2 aEq (gVar 5) (gVar 1))) (gSeq (gSet 7 (gDSetd (gVar 2) (gVar 6) (gC (.int 0)))) (gSeq (gDSetT (gVar 3) (Dl.gCons (gVar 6) (Dl.gCons (gVar 7) Dl.gNil)) (gVar 4)) (gDAugK (gVar 2) (gVar 6) 1))) gNext)) (gRet (gVar 3))))
theorem t_numbered (T : Txt K mg a) (F_Book_rows : MFn P w K mg base a.C_Book "rows" "Book.rows" s_Book_rows dv_Book_rows 1 ps_Book_rows (sp_Book_rows a)) {f : Addr} {cdv : Value} {A : Around} {outer : List Env} {s : Shared} {H : Hp} {E : XK} (hr : RoomG 1 (A.deeper (PyProof.Rows.envOfC "numbered" (defScope s_numbered) s.heap.objs.size f cdv))) :
    PSs (cxOf CX0 P w K mg base N_numbered "numbered" (defScope s_numbered) f cdv A outer s H E).nox (defBody s_numbered) (tofS K U0 (g_numbered K a)) :=
  (ds_cons (d_par sc_numbered.nd (d_cons (d_dnew false) (d_cons d_dnewT d_nil)))
    (ds_cons (d_for (t := (.tp [(.nm 4), (.nm 5), (.nm 6)])) PassesOwn.never rfl (di_seq (d_meth F_Book_rows (hr.mono (by decide)) bnd_Book_rows_1 dfv_nil (d_var 0) da_00)) (pg_tup rfl (pgs_cons (pg_name (i := 4) sc_numbered.nd rfl (by first | exact .inl rfl | exact .inr rfl)) (pgs_cons (pg_name (i := 5) sc_numbered.nd rfl (by first | exact .inl rfl | exact .inr rfl)) (pgs_cons (pg_name (i := 6) sc_numbered.nd rfl (by first | exact .inl rfl | exact .inr rfl)) pgs_nil))))
      (ds_one (d_if (d_tcmp (op_eqD hr.units) vr_eq (d_var 5) (d_var 1))
      (ds_cons (d_set (i := 7) sc_numbered.nd rfl (by first | exact .inl rfl | exact .inr rfl) (d_dsetd (d_var 2) (d_var 6) d_int))
    (ds_cons (d_dsetT (d_var 3) (d_cons (d_var 6) (d_cons (d_var 7) d_nil)) (d_var 4) (hu_of hr))
    (ds_one (d_daugK (j := 1) (d_var 2) (d_var 6) (hu_of hr)))))
      ds_nil)))
    (ds_one (d_ret (d_var 3)))))
def g_faults_of (K : PySem.W.Frag) (a : Ad) : GS :=
  (gSeq (gSet 2 (gDisp [.inr "on", .inr "off"] (Dl.gCons (gCall 2 0 [.p 0, .p 1] [] (sp_numbered a) (gArgs (Dl.gCons (gVar 1) (Dl.gCons (gC (.str "off")) Dl.gNil)) Dl.gNil)) (Dl.gCons (gCall 2 0 [.p 0, .p 1] [] (sp_numbered a) (gArgs (Dl.gCons (gVar 1) (Dl.gCons (gC (.str "on")) Dl.gNil)) Dl.gNil)) Dl.gNil)))) (gSeq (gPar 3 4 (Dl.gCons gDNewT (Dl.gCons (Dl.gLst false Dl.gNil) Dl.gNil))) (gSeq (gFor (gEnum (Dl.gCons (gMeth a.C_Book "rows" 0 0 [.p 0] [] (sp_Book_rows a) (gVar 0) (gArgs Dl.gNil Dl.gNil)) Dl.gNil)) (.tp [(.nm 5), (.tp [(.nm 6), (.nm 7), (.nm 8)])]) (gSeq (gSet 9 (gDSetdT (gVar 3) (Dl.gCons (gVar 7) (Dl.gCons (gVar 8) Dl.gNil)) 0)) (gSeq (gDAugT (gVar 3) (Dl.gCons (gVar 7) (Dl.gCons (gVar 8) Dl.gNil)) 1) (gSeq (gSet 10 (gDGt1T (gDIx (gVar 2) (gVar 7)) (Dl.gCons (gVar 8) (Dl.gCons (gVar 9) Dl.gNil)))) (gIfS (gOrB (gTest (gIsN (gVar 10))) (gAndB (gTest (gB2 aEq (gVar 7) (gC (.str "on")))) (gTest (gB2 aLt (gVar 10) (gVar 6))))) (gDrop (gMt "list" aAppend (gVar 4) (Dl.gCons (Dl.gTup (Dl.gCons (gVar 6) (Dl.gCons (gTIdx ["near", "far"] (Dl.gCons (gFld K "bank" (gVar 0)) Dl.gNil)) (Dl.gCons (gVar 5) (Dl.gCons (gVar 8) (Dl.gCons (gVar 7) Dl.gNil)))))) Dl.gNil))) gNext))))) (gRet (gVar 4)))))
theorem t_faults_of (T : Txt K mg a) (F_Book_rows : MFn P w K mg base a.C_Book "rows" "Book.rows" s_Book_rows dv_Book_rows 1 ps_Book_rows (sp_Book_rows a)) (F_numbered : Fnc P w K mg base "numbered" s_numbered dv_numbered 2 ps_numbered (sp_numbered a)) {f : Addr} {cdv : Value} {A : Around} {outer : List Env} {s : Shared} {H : Hp} {E : XK} (hr : RoomG 2 (A.deeper (PyProof.Rows.envOfC "faults_of" (defScope s_faults_of) s.heap.objs.size f cdv))) :
    PSs (cxOf CX0 P w K mg base N_faults_of "faults_of" (defScope s_faults_of) f cdv A outer s H E).nox (defBody s_faults_of) (tofS K U0 (g_faults_of K a)) :=
  (ds_cons (d_set (i := 2) sc_faults_of.nd rfl (by first | exact .inl rfl | exact .inr rfl) (d_disp (ks := [.inr "on", .inr "off"]) (dpp_cons pe_str (d_call F_numbered (hr.mono (by decide)) (by rfl) bnd_numbered_2 dfv_nil (da_p0 (d_cons (d_var 1) (d_cons d_str d_nil)))) (dpp_cons pe_str (d_call F_numbered (hr.mono (by decide)) (by rfl) bnd_numbered_2 dfv_nil (da_p0 (d_cons (d_var 1) (d_cons d_str d_nil)))) dpp_nil)) (by decide) (by simp) (by decide)))
    (ds_cons (d_par sc_faults_of.nd (d_cons d_dnewT (d_cons (d_lst false d_nil) d_nil)))
    (ds_cons (d_for (t := (.tp [(.nm 5), (.tp [(.nm 6), (.nm 7), (.nm 8)])])) PassesOwn.never rfl (di_enum (by rfl) T.no_enumerate (d_cons (d_meth F_Book_rows (hr.mono (by decide)) bnd_Book_rows_1 dfv_nil (d_var 0) da_00) d_nil)) (pg_tup rfl (pgs_cons (pg_name (i := 5) sc_faults_of.nd rfl (by first | exact .inl rfl | exact .inr rfl)) (pgs_cons (pg_tup rfl (pgs_cons (pg_name (i := 6) sc_faults_of.nd rfl (by first | exact .inl rfl | exact .inr rfl)) (pgs_cons (pg_name (i := 7) sc_faults_of.nd rfl (by first | exact .inl rfl | exact .inr rfl)) (pgs_cons (pg_name (i := 8) sc_faults_of.nd rfl (by first | exact .inl rfl | exact .inr rfl)) pgs_nil)))) pgs_nil)))
      (ds_cons (d_set (i := 9) sc_faults_of.nd rfl (by first | exact .inl rfl | exact .inr rfl) (d_dsetdT (j := 0) (d_var 3) (d_cons (d_var 7) (d_cons (d_var 8) d_nil)) (hu_of hr)))
    (ds_cons (d_daugT (j := 1) (d_var 3) (d_cons (d_var 7) (d_cons (d_var 8) d_nil)) (hu_of hr))
    (ds_cons (d_set (i := 10) sc_faults_of.nd rfl (by first | exact .inl rfl | exact .inr rfl) (d_dgt1T (d_dix (d_var 2) (d_var 7) (hu_of hr)) (d_cons (d_var 8) (d_cons (d_var 9) d_nil)) (hu_of hr)))
    (ds_one (d_if (PW.pt (d_or (d_tisN (d_var 10)) (d_or1 (PW.pt (d_and (d_tcmp (op_eqD hr.units) vr_eq (d_var 7) d_str) (d_and1 (d_tcmp op_lt vr_lt (d_var 10) (d_var 6))))))))
      (ds_one (d_expr (d_bm (by decide) PySem.F.plainAttrs_list PySem.F.slot_list_append PySem.F.type_list_append mt_append vm_append (d_var 4) (d_cons (d_tup (d_cons (d_var 6) (d_cons (d_tidx (by rfl) T.c_BANKS T.ck_BANKS (d_cons (d_fld (d_var 0)) d_nil)) (d_cons (d_var 5) (d_cons (d_var 8) (d_cons (d_var 7) d_nil)))))) d_nil))))
      ds_nil))))))
    (ds_one (d_ret (d_var 4))))))
def g_crossings (K : PySem.W.Frag) (a : Ad) : GS :=
  (gSeq (gSet 2 (gDisp2 (gFld K "bank" (gVar 0)) (gVar 0) (gFld K "bank" (gVar 1)) (gVar 1))) (gSeq (gSet 3 (gB2 (aAdd true) (gCall 2 0 [.p 0, .p 1] [] (sp_faults_of a) (gArgs (Dl.gCons (gVar 0) (Dl.gCons (gVar 1) Dl.gNil)) Dl.gNil)) (gCall 2 0 [.p 0, .p 1] [] (sp_faults_of a) (gArgs (Dl.gCons (gVar 1) (Dl.gCons (gVar 0) Dl.gNil)) Dl.gNil)))) (gSeq (gIfS (gTest (gB2 (aNil true) (gVar 3) (Dl.gLst true Dl.gNil))) (gSeq (gAsg (.tp [(.nm 4), (.nm 5), (.nm 6), (.nm 7), (.nm 8)]) gDeadE) gDead) gNext) (gSeq (gSet 9 (Dl.gLst false Dl.gNil)) (gSeq (gFor (gEnumT (Dl.gCons (gC (.tup [.str "near", .str "far"])) Dl.gNil)) (.tp [(.nm 5), (.nm 10)]) (gSeq (gSet 11 (gCall 2 0 [.p 0, .p 1] [] (sp_numbered a) (gArgs (Dl.gCons (gDIx (gVar 2) (gCall 1 0 [.p 0] [] (sp_other_bank a) (gArgs (Dl.gCons (gVar 10) Dl.gNil) Dl.gNil))) (Dl.gCons (gC (.str "off")) Dl.gNil)) Dl.gNil))) (gFor (gItemsT (gLckV (gCall 2 0 [.p 0, .p 1] [] (sp_numbered a) (gArgs (Dl.gCons (gDIx (gVar 2) (gVar 10)) (Dl.gCons (gC (.str "on")) Dl.gNil)) Dl.gNil)))) (.tp [(.tp [(.nm 7), (.nm 6)]), (.nm 4)]) (gDrop (gMt "list" aAppend (gVar 9) (Dl.gCons (Dl.gTup (Dl.gCons (gVar 4) (Dl.gCons (gVar 7) (Dl.gCons (gVar 5) (Dl.gCons (gVar 6) (Dl.gCons (gDIxT (gVar 11) (Dl.gCons (gVar 7) (Dl.gCons (gVar 6) Dl.gNil))) Dl.gNil)))))) Dl.gNil)))))) (gRet (gLc false (gIt (gCB (a1 (aSorted true)) (Dl.gCons (gVar 9) Dl.gNil))) (.tp [(.nm 4), (.nm 7), (.nm 5), (.nm 6), (.nm 12)]) gYes (Dl.gTup (Dl.gCons (gVar 7) (Dl.gCons (gIx (gC (.tup [.str "near", .str "far"])) (gVar 5)) (Dl.gCons (gVar 4) (Dl.gCons (gVar 12) Dl.gNil))))) [4, 7, 5, 6, 12])))))))
theorem t_crossings (T : Txt K mg a) (F_faults_of : Fnc P w K mg base "faults_of" s_faults_of dv_faults_of 3 ps_faults_of (sp_faults_of a)) (F_numbered : Fnc P w K mg base "numbered" s_numbered dv_numbered 2 ps_numbered (sp_numbered a)) (F_other_bank : Fnc P w K mg base "other_bank" s_other_bank dv_other_bank 1 ps_other_bank (sp_other_bank a)) {f : Addr} {cdv : Value} {A : Around} {outer : List Env} {s : Shared} {H : Hp} {E : XK} (hr : RoomG 3 (A.deeper (PyProof.Rows.envOfC "crossings" (defScope s_crossings) s.heap.objs.size f cdv))) :
    PSs (cxOf CX0 P w K mg base N_crossings "crossings" (defScope s_crossings) f cdv A outer s H E).nox (defBody s_crossings) (tofS K U0 (g_crossings K a)) :=
  (ds_cons (d_set (i := 2) sc_crossings.nd rfl (by first | exact .inl rfl | exact .inr rfl) (d_disp2 (d_fld (d_var 0)) (d_var 0) (d_fld (d_var 1)) (d_var 1)))
    (ds_cons (d_set (i := 3) sc_crossings.nd rfl (by first | exact .inl rfl | exact .inr rfl) (d_op or_add (vr_add (fz := true)) (d_call F_faults_of (hr.mono (by decide)) (by rfl) bnd_faults_of_2 dfv_nil (da_p0 (d_cons (d_var 0) (d_cons (d_var 1) d_nil)))) (d_call F_faults_of (hr.mono (by decide)) (by rfl) bnd_faults_of_2 dfv_nil (da_p0 (d_cons (d_var 1) (d_cons (d_var 0) d_nil))))))
    (ds_cons (d_if (d_tcmp (or_neNil hr) vr_nil (d_var 3) (d_lst true d_nil))
      (ds_cons (d_asg (t := (.tp [(.nm 4), (.nm 5), (.nm 6), (.nm 7), (.nm 8)])) d_deadE (pg_tup rfl (pgs_cons (pg_name (i := 4) sc_crossings.nd rfl (by first | exact .inl rfl | exact .inr rfl)) (pgs_cons (pg_name (i := 5) sc_crossings.nd rfl (by first | exact .inl rfl | exact .inr rfl)) (pgs_cons (pg_name (i := 6) sc_crossings.nd rfl (by first | exact .inl rfl | exact .inr rfl)) (pgs_cons (pg_name (i := 7) sc_crossings.nd rfl (by first | exact .inl rfl | exact .inr rfl)) (pgs_cons (pg_name (i := 8) sc_crossings.nd rfl (by first | exact .inl rfl | exact .inr rfl)) pgs_nil)))))))
    (ds_one d_dead))
      ds_nil)
    (ds_cons (d_set (i := 9) sc_crossings.nd rfl (by first | exact .inl rfl | exact .inr rfl) (d_lst false d_nil))
    (ds_cons (d_for (t := (.tp [(.nm 5), (.nm 10)])) PassesOwn.never rfl (di_enumT (by rfl) T.no_enumerate (d_cons (d_gtup (by rfl) T.c_BANKS T.ck_BANKS.tup) d_nil)) (pg_tup rfl (pgs_cons (pg_name (i := 5) sc_crossings.nd rfl (by first | exact .inl rfl | exact .inr rfl)) (pgs_cons (pg_name (i := 10) sc_crossings.nd rfl (by first | exact .inl rfl | exact .inr rfl)) pgs_nil)))
      (ds_cons (d_set (i := 11) sc_crossings.nd rfl (by first | exact .inl rfl | exact .inr rfl) (d_call F_numbered (hr.mono (by decide)) (by rfl) bnd_numbered_2 dfv_nil (da_p0 (d_cons (d_dix (d_var 2) (d_call F_other_bank (hr.mono (by decide)) (by rfl) bnd_other_bank_1 dfv_nil (da_p0 (d_cons (d_var 10) d_nil))) (hu_of hr)) (d_cons d_str d_nil)))))
    (ds_one (d_for (t := (.tp [(.tp [(.nm 7), (.nm 6)]), (.nm 4)])) PassesOwn.never rfl (di_itemsT (d_lckV (d_call F_numbered (hr.mono (by decide)) (by rfl) bnd_numbered_2 dfv_nil (da_p0 (d_cons (d_dix (d_var 2) (d_var 10) (hu_of hr)) (d_cons d_str d_nil)))))) (pg_tup rfl (pgs_cons (pg_tup rfl (pgs_cons (pg_name (i := 7) sc_crossings.nd rfl (by first | exact .inl rfl | exact .inr rfl)) (pgs_cons (pg_name (i := 6) sc_crossings.nd rfl (by first | exact .inl rfl | exact .inr rfl)) pgs_nil))) (pgs_cons (pg_name (i := 4) sc_crossings.nd rfl (by first | exact .inl rfl | exact .inr rfl)) pgs_nil)))
      (ds_one (d_expr (d_bm (by decide) PySem.F.plainAttrs_list PySem.F.slot_list_append PySem.F.type_list_append mt_append vm_append (d_var 9) (d_cons (d_tup (d_cons (d_var 4) (d_cons (d_var 7) (d_cons (d_var 5) (d_cons (d_var 6) (d_cons (d_dixT (d_var 11) (d_cons (d_var 7) (d_cons (d_var 6) d_nil)) (hu_of hr)) d_nil)))))) d_nil))))))))
    (ds_one (d_ret (d_lc (own := [("minute", 4), ("name", 7), ("number", 5), ("place", 6), ("off", 12)]) (t := (.tp [(.nm 4), (.nm 7), (.nm 5), (.nm 6), (.nm 12)])) false rfl sc_crossings.nd (di_seq (d_callB (cr_sortedD hr.units) (vr_sorted (fz := true)) (by rfl) T.no_sorted (by decide +kernel) (d_cons (d_var 9) d_nil))) (blkOk_by (own := [("minute", 4), ("name", 7), ("number", 5), ("place", 6), ("off", 12)]) (N := N_crossings) (sc := defScope s_crossings) (by decide +kernel)) (by decide) (fun _ _ _ _ _ => (pg_tup rfl (pgs_cons (pg_name (i := 4) sc_crossings.nd rfl (by first | exact .inl rfl | exact .inr rfl)) (pgs_cons (pg_name (i := 7) sc_crossings.nd rfl (by first | exact .inl rfl | exact .inr rfl)) (pgs_cons (pg_name (i := 5) sc_crossings.nd rfl (by first | exact .inl rfl | exact .inr rfl)) (pgs_cons (pg_name (i := 6) sc_crossings.nd rfl (by first | exact .inl rfl | exact .inr rfl)) (pgs_cons (pg_name (i := 12) sc_crossings.nd rfl (by first | exact .inl rfl | exact .inr rfl)) pgs_nil))))))) (fun _ _ _ _ _ => dt_nil) (fun _ _ _ _ _ => (d_tup (d_cons (d_var 7) (d_cons (d_ix (d_gtup (by rfl) T.c_BANKS T.ck_BANKS.tup) (d_var 5)) (d_cons (d_var 4) (d_cons (d_var 12) d_nil))))))))))))))
def g__law_feed (K : PySem.W.Frag) (a : Ad) : GS :=
  (gRet (Dl.gLst false (Dl.gCons (gCB (a1 (aList true)) (Dl.gCons (gSl true (gVar 0) gNoP (gPart (gC (.int 63)))) Dl.gNil)) (Dl.gCons (gC (.int 0)) (Dl.gCons (gC (.int 0)) Dl.gNil)))))
theorem t__law_feed (T : Txt K mg a)  {f : Addr} {cdv : Value} {A : Around} {outer : List Env} {s : Shared} {H : Hp} {E : XK} (hr : RoomG 0 (A.deeper (PyProof.Rows.envOfC "_law_feed" (defScope s__law_feed) s.heap.objs.size f cdv))) :
    PSs (cxOf CX0 P w K mg base N__law_feed "_law_feed" (defScope s__law_feed) f cdv A outer s H E).nox (defBody s__law_feed) (tofS K U0 (g__law_feed K a)) :=
  (ds_one (d_ret (d_lst false (d_cons (d_callTy call_list_of (vr_list (fz := true)) (by rfl) T.no_list (by decide +kernel) (d_cons (d_sl true (d_var 0) do_none (do_some d_int)) d_nil)) (d_cons d_int (d_cons d_int d_nil))))))
def g__law_draw (K : PySem.W.Frag) (a : Ad) : GS :=
  (gSeq (gIfS (gTest (gB2 aGt (gIx (gVar 0) (gC (.int 2))) (gC (.int 0)))) (gSeq (gSet 2 (gB2 aMod (gIx (gVar 0) (gC (.int 2))) (gVar 1))) (gSeq (gSetIx (gVar 0) (gC (.int 2)) (gB2 aFdiv (gIx (gVar 0) (gC (.int 2))) (gVar 1))) (gRet (gVar 2)))) gNext) (gSeq (gSet 3 (gIx (gVar 0) (gC (.int 1)))) (gSeq (gSetIx (gVar 0) (gC (.int 1)) (gB2 (aAdd true) (gVar 3) (gC (.int 1)))) (gSeq (gSet 4 (gIf (gTest (gB2 aNe (gIx (gVar 0) (gC (.int 0))) (Dl.gLst true Dl.gNil))) (gIx (gIx (gVar 0) (gC (.int 0))) (gB2 aMod (gVar 3) (gCB (a1 aLen) (Dl.gCons (gIx (gVar 0) (gC (.int 0))) Dl.gNil)))) (gB2 (aAdd true) (gB2 (aMul true) (gC (.int 7919)) (gVar 3)) (gC (.int 11))))) (gSeq (gIfS (gAndB (gTest (gB2 aLt (gVar 3) (gCB (a1 aLen) (Dl.gCons (gIx (gVar 0) (gC (.int 0))) Dl.gNil)))) (gTest (gB2 aGe (gVar 4) (gB2 aPow (gC (.int 10)) (gC (.int 18)))))) (gSeq (gSetIx (gVar 0) (gC (.int 2)) (gB2 aFdiv (gVar 4) (gVar 1))) (gRet (gB2 aMod (gVar 4) (gVar 1)))) gNext) (gSeq (gSet 5 (gB2 aMod (gB2 aPow (gB2 (aAdd true) (gB2 (aAdd true) (gB2 aMod (gVar 4) (gC (.int 2147483629))) (gB2 (aMul true) (gC (.int 104729)) (gVar 3))) (gC (.int 1013))) (gC (.int 3))) (gC (.int 2147483647)))) (gSeq (gSet 5 (gB2 aMod (gB2 (aMul true) (gB2 (aAdd true) (gB2 aFdiv (gVar 5) (gC (.int 16))) (gC (.int 40763))) (gB2 (aAdd true) (gB2 aMod (gB2 (aMul true) (gC (.int 48271)) (gVar 3)) (gC (.int 65521))) (gC (.int 3)))) (gC (.int 2147483587)))) (gRet (gB2 aMod (gB2 aFdiv (gVar 5) (gC (.int 32))) (gVar 1))))))))))
theorem t__law_draw (T : Txt K mg a)  {f : Addr} {cdv : Value} {A : Around} {outer : List Env} {s : Shared} {H : Hp} {E : XK} (hr : RoomG 0 (A.deeper (PyProof.Rows.envOfC "_law_draw" (defScope s__law_draw) s.heap.objs.size f cdv))) :
    PSs (cxOf CX0 P w K mg base N__law_draw "_law_draw" (defScope s__law_draw) f cdv A outer s H E).nox (defBody s__law_draw) (tofS K U0 (g__law_draw K a)) :=
  (ds_cons (d_if (d_tcmp op_gt vr_gt (d_ix (d_var 0) d_int) d_int)
      (ds_cons (d_set (i := 2) sc__law_draw.nd rfl (by first | exact .inl rfl | exact .inr rfl) (d_op op_mod vr_mod (d_ix (d_var 0) d_int) (d_var 1)))
    (ds_cons (d_setix (d_var 0) d_int (d_op or_fdiv vr_fdiv (d_ix (d_var 0) d_int) (d_var 1)))
    (ds_one (d_ret (d_var 2)))))
      ds_nil)
    (ds_cons (d_set (i := 3) sc__law_draw.nd rfl (by first | exact .inl rfl | exact .inr rfl) (d_ix (d_var 0) d_int))
    (ds_cons (d_setix (d_var 0) d_int (d_op or_add (vr_add (fz := true)) (d_var 3) d_int))
    (ds_cons (d_set (i := 4) sc__law_draw.nd rfl (by first | exact .inl rfl | exact .inr rfl) (d_ifExp (d_tcmp (op_neD hr.units) vr_ne (d_ix (d_var 0) d_int) (d_lst true d_nil)) (d_ix (d_ix (d_var 0) d_int) (d_op op_mod vr_mod (d_var 3) (d_callB or_len vr_len (by rfl) T.no_len (by decide +kernel) (d_cons (d_ix (d_var 0) d_int) d_nil)))) (d_op or_add (vr_add (fz := true)) (d_op or_mul (vr_mul (fz := true)) d_int (d_var 3)) d_int)))
    (ds_cons (d_if (PW.pt (d_and (d_tcmp op_lt vr_lt (d_var 3) (d_callB or_len vr_len (by rfl) T.no_len (by decide +kernel) (d_cons (d_ix (d_var 0) d_int) d_nil))) (d_and1 (d_tcmp op_ge vr_ge (d_var 4) (d_op op_pow vr_pow d_int d_int)))))
      (ds_cons (d_setix (d_var 0) d_int (d_op or_fdiv vr_fdiv (d_var 4) (d_var 1)))
    (ds_one (d_ret (d_op op_mod vr_mod (d_var 4) (d_var 1)))))
      ds_nil)
    (ds_cons (d_set (i := 5) sc__law_draw.nd rfl (by first | exact .inl rfl | exact .inr rfl) (d_op op_mod vr_mod (d_op op_pow vr_pow (d_op or_add (vr_add (fz := true)) (d_op or_add (vr_add (fz := true)) (d_op op_mod vr_mod (d_var 4) d_int) (d_op or_mul (vr_mul (fz := true)) d_int (d_var 3))) d_int) d_int) d_int))
    (ds_cons (d_set (i := 5) sc__law_draw.nd rfl (by first | exact .inl rfl | exact .inr rfl) (d_op op_mod vr_mod (d_op or_mul (vr_mul (fz := true)) (d_op or_add (vr_add (fz := true)) (d_op or_fdiv vr_fdiv (d_var 5) d_int) d_int) (d_op or_add (vr_add (fz := true)) (d_op op_mod vr_mod (d_op or_mul (vr_mul (fz := true)) d_int (d_var 3)) d_int) d_int)) d_int))
    (ds_one (d_ret (d_op op_mod vr_mod (d_op or_fdiv vr_fdiv (d_var 5) d_int) (d_var 1)))))))))))
def g__law_of (K : PySem.W.Frag) (a : Ad) : GS :=
  (gRet (gIx (gVar 1) (gCall 2 0 [.p 0, .p 1] [] (sp__law_draw a) (gArgs (Dl.gCons (gVar 0) (Dl.gCons (gCB (a1 aLen) (Dl.gCons (gVar 1) Dl.gNil)) Dl.gNil)) Dl.gNil))))
theorem t__law_of (T : Txt K mg a) (F__law_draw : Fnc P w K mg base "_law_draw" s__law_draw dv__law_draw 1 ps__law_draw (sp__law_draw a)) {f : Addr} {cdv : Value} {A : Around} {outer : List Env} {s : Shared} {H : Hp} {E : XK} (hr : RoomG 1 (A.deeper (PyProof.Rows.envOfC "_law_of" (defScope s__law_of) s.heap.objs.size f cdv))) :
    PSs (cxOf CX0 P w K mg base N__law_of "_law_of" (defScope s__law_of) f cdv A outer s H E).nox (defBody s__law_of) (tofS K U0 (g__law_of K a)) :=
  (ds_one (d_ret (d_ix (d_var 1) (d_call F__law_draw (hr.mono (by decide)) (by rfl) bnd__law_draw_2 dfv_nil (da_p0 (d_cons (d_var 0) (d_cons (d_callB or_len vr_len (by rfl) T.no_len (by decide +kernel) (d_cons (d_var 1) d_nil)) d_nil)))))))
def g__law_names (K : PySem.W.Frag) (a : Ad) : GS :=
  (gSeq (gSet 2 (gC (.str "abcdefghijklmnopqrstuvwxyz"))) (gSeq (gSet 3 (gLc true (gRng1 (Dl.gCons (gB2 (aAdd true) (gC (.int 1)) (gCall 2 0 [.p 0, .p 1] [] (sp__law_draw a) (gArgs (Dl.gCons (gVar 0) (Dl.gCons (gC (.int 8)) Dl.gNil)) Dl.gNil))) Dl.gNil)) (.nm 7) gYes (gCall 2 0 [.p 0, .p 1] [] (sp__law_draw a) (gArgs (Dl.gCons (gVar 0) (Dl.gCons (gC (.int 26)) Dl.gNil)) Dl.gNil)) [7])) (gSeq (gPar 4 5 (Dl.gCons (gCall 2 0 [.p 0, .p 1] [] (sp__law_draw a) (gArgs (Dl.gCons (gVar 0) (Dl.gCons (gCB (a1 aLen) (Dl.gCons (gVar 3) Dl.gNil)) Dl.gNil)) Dl.gNil)) (Dl.gCons (gCall 2 0 [.p 0, .p 1] [] (sp__law_draw a) (gArgs (Dl.gCons (gVar 0) (Dl.gCons (gC (.int 2)) Dl.gNil)) Dl.gNil)) Dl.gNil))) (gSeq (gSet 6 (Dl.gLst false Dl.gNil)) (gSeq (gFor (gRng1 (Dl.gCons (gVar 1) Dl.gNil)) (.nm 7) (gSeq (gSet 8 (gCB (a1 (aList false)) (Dl.gCons (gVar 3) Dl.gNil))) (gSeq (gSetIx (gVar 8) (gVar 4) (gB2 aMod (gB2 (aAdd true) (gIx (gVar 3) (gVar 4)) (gB2 (aMul true) (gC (.int 7)) (gVar 7))) (gC (.int 26)))) (gSeq (gSet 9 (gMt "str" aJoin (gC (.str "")) (Dl.gCons (gLc true (gIt (gVar 8)) (.nm 10) gYes (gIx (gVar 2) (gVar 10)) [10]) Dl.gNil))) (gDrop (gMt "list" aAppend (gVar 6) (Dl.gCons (gSl true (gVar 9) gNoP (gPart (gCB (a2 aMax2) (Dl.gCons (gB2 (aAdd true) (gVar 4) (gC (.int 1))) (Dl.gCons (gB2 aSub (gCB (a1 aLen) (Dl.gCons (gVar 9) Dl.gNil)) (gB2 (aMul true) (gVar 5) (gB2 aMod (gVar 7) (gC (.int 3))))) Dl.gNil))))) Dl.gNil))))))) (gRet (gVar 6)))))))
theorem t__law_names (T : Txt K mg a) (F__law_draw : Fnc P w K mg base "_law_draw" s__law_draw dv__law_draw 1 ps__law_draw (sp__law_draw a)) {f : Addr} {cdv : Value} {A : Around} {outer : List Env} {s : Shared} {H : Hp} {E : XK} (hr : RoomG 1 (A.deeper (PyProof.Rows.envOfC "_law_names" (defScope s__law_names) s.heap.objs.size f cdv))) :
    PSs (cxOf CX0 P w K mg base N__law_names "_law_names" (defScope s__law_names) f cdv A outer s H E).nox (defBody s__law_names) (tofS K U0 (g__law_names K a)) :=
  (ds_cons (d_set (i := 2) sc__law_names.nd rfl (by first | exact .inl rfl | exact .inr rfl) d_str)
    (ds_cons (d_setLc (own := [("_law_k", 7)]) (t := (.nm 7)) true (i := 3) rfl sc__law_names.nd rfl rfl (sw_true rfl rfl rfl (by decide +kernel)) (di_rng1 (by rfl) T.no_range (d_cons (d_op or_add (vr_add (fz := true)) d_int (d_call F__law_draw (hr.mono (by decide)) (by rfl) bnd__law_draw_2 dfv_nil (da_p0 (d_cons (d_var 0) (d_cons d_int d_nil))))) d_nil)) (blkOk_by (own := [("_law_k", 7)]) (N := N__law_names) (sc := defScope s__law_names) (by decide +kernel)) (by decide) (fun _ _ _ _ _ => (pg_name (i := 7) sc__law_names.nd rfl (by first | exact .inl rfl | exact .inr rfl))) (fun _ _ _ _ _ => dt_nil) (fun _ _ _ _ _ => (d_call F__law_draw (hr.mono (by decide)) (by rfl) bnd__law_draw_2 dfv_nil (da_p0 (d_cons (d_var 0) (d_cons d_int d_nil))))))
    (ds_cons (d_par sc__law_names.nd (d_cons (d_call F__law_draw (hr.mono (by decide)) (by rfl) bnd__law_draw_2 dfv_nil (da_p0 (d_cons (d_var 0) (d_cons (d_callB or_len vr_len (by rfl) T.no_len (by decide +kernel) (d_cons (d_var 3) d_nil)) d_nil)))) (d_cons (d_call F__law_draw (hr.mono (by decide)) (by rfl) bnd__law_draw_2 dfv_nil (da_p0 (d_cons (d_var 0) (d_cons d_int d_nil)))) d_nil)))
    (ds_cons (d_set (i := 6) sc__law_names.nd rfl (by first | exact .inl rfl | exact .inr rfl) (d_lst false d_nil))
    (ds_cons (d_for (t := (.nm 7)) PassesOwn.never rfl (di_rng1 (by rfl) T.no_range (d_cons (d_var 1) d_nil)) (pg_name (i := 7) sc__law_names.nd rfl (by first | exact .inl rfl | exact .inr rfl))
      (ds_cons (d_set (i := 8) sc__law_names.nd rfl (by first | exact .inl rfl | exact .inr rfl) (d_callTy call_list_of (vr_list (fz := false)) (by rfl) T.no_list (by decide +kernel) (d_cons (d_var 3) d_nil)))
    (ds_cons (d_setix (d_var 8) (d_var 4) (d_op op_mod vr_mod (d_op or_add (vr_add (fz := true)) (d_ix (d_var 3) (d_var 4)) (d_op or_mul (vr_mul (fz := true)) d_int (d_var 7))) d_int))
    (ds_cons (d_set (i := 9) sc__law_names.nd rfl (by first | exact .inl rfl | exact .inr rfl) (d_bm (by decide) PySem.F.plainAttrs_str PySem.F.slot_str_join PySem.F.type_str_join mt_join vm_join d_str (d_cons (d_lc (own := [("_law_mark", 10)]) (t := (.nm 10)) true rfl sc__law_names.nd (di_seq (d_var 8)) (blkOk_by (own := [("_law_mark", 10)]) (N := N__law_names) (sc := defScope s__law_names) (by decide +kernel)) (by decide) (fun _ _ _ _ _ => (pg_name (i := 10) sc__law_names.nd rfl (by first | exact .inl rfl | exact .inr rfl))) (fun _ _ _ _ _ => dt_nil) (fun _ _ _ _ _ => (d_ix (d_var 2) (d_var 10)))) d_nil)))
    (ds_one (d_expr (d_bm (by decide) PySem.F.plainAttrs_list PySem.F.slot_list_append PySem.F.type_list_append mt_append vm_append (d_var 6) (d_cons (d_sl true (d_var 9) do_none (do_some (d_callB (call_max2 rfl) vr_max2 (by rfl) T.no_max (by decide +kernel) (d_cons (d_op or_add (vr_add (fz := true)) (d_var 4) d_int) (d_cons (d_op op_sub vr_sub (d_callB or_len vr_len (by rfl) T.no_len (by decide +kernel) (d_cons (d_var 9) d_nil)) (d_op or_mul (vr_mul (fz := true)) (d_var 5) (d_op op_mod vr_mod (d_var 7) d_int))) d_nil))))) d_nil))))))))
    (ds_one (d_ret (d_var 6))))))))
def g__law_days (K : PySem.W.Frag) (a : Ad) : GS :=
  (gSeq (gPar 2 3 (Dl.gCons (Dl.gLst false Dl.gNil) (Dl.gCons gDNewT Dl.gNil))) (gSeq (gFor (gRng1 (Dl.gCons (gCall 2 0 [.p 0, .p 1] [] (sp__law_draw a) (gArgs (Dl.gCons (gVar 0) (Dl.gCons (gCall 2 0 [.p 0, .p 1] [] (sp__law_of a) (gArgs (Dl.gCons (gVar 0) (Dl.gCons (Dl.gLst true (Dl.gCons (gC (.int 12)) (Dl.gCons (gC (.int 12)) (Dl.gCons (gC (.int 61)) Dl.gNil)))) Dl.gNil)) Dl.gNil)) Dl.gNil)) Dl.gNil)) Dl.gNil)) (.nm 4) (gSeq (gPar 5 6 (Dl.gCons (gCall 2 0 [.p 0, .p 1] [] (sp__law_of a) (gArgs (Dl.gCons (gVar 0) (Dl.gCons (gVar 1) Dl.gNil)) Dl.gNil)) (Dl.gCons (gIx (Dl.gLst true (Dl.gCons (gC (.str "near")) (Dl.gCons (gC (.str "far")) Dl.gNil))) (gCall 2 0 [.p 0, .p 1] [] (sp__law_draw a) (gArgs (Dl.gCons (gVar 0) (Dl.gCons (gC (.int 2)) Dl.gNil)) Dl.gNil))) Dl.gNil))) (gSeq (gAsg (.tp [(.nm 7), (.nm 8)]) (gDGt2T (gVar 3) (Dl.gCons (gVar 5) (Dl.gCons (gVar 6) Dl.gNil)) (Dl.gTup (Dl.gCons (gC (.int 0)) (Dl.gCons (gC (.int 0)) Dl.gNil))))) (gSeq (gSet 7 (gB2 (aAdd true) (gVar 7) (gCall 2 0 [.p 0, .p 1] [] (sp__law_of a) (gArgs (Dl.gCons (gVar 0) (Dl.gCons (Dl.gLst true (Dl.gCons (gC (.int 0)) (Dl.gCons (gC (.int 1)) (Dl.gCons (gCall 2 0 [.p 0, .p 1] [] (sp__law_draw a) (gArgs (Dl.gCons (gVar 0) (Dl.gCons (gC (.int 30)) Dl.gNil)) Dl.gNil)) (Dl.gCons (gCall 2 0 [.p 0, .p 1] [] (sp__law_draw a) (gArgs (Dl.gCons (gVar 0) (Dl.gCons (gC (.int 900)) Dl.gNil)) Dl.gNil)) Dl.gNil))))) Dl.gNil)) Dl.gNil)))) (gSeq (gSet 8 (gB2 (aAdd true) (gCB (a2 aMax2) (Dl.gCons (gVar 8) (Dl.gCons (gVar 7) Dl.gNil))) (gCall 2 0 [.p 0, .p 1] [] (sp__law_of a) (gArgs (Dl.gCons (gVar 0) (Dl.gCons (Dl.gLst true (Dl.gCons (gC (.int 0)) (Dl.gCons (gC (.int 1)) (Dl.gCons (gC (.int 3)) (Dl.gCons (gCall 2 0 [.p 0, .p 1] [] (sp__law_draw a) (gArgs (Dl.gCons (gVar 0) (Dl.gCons (gC (.int 40)) Dl.gNil)) Dl.gNil)) Dl.gNil))))) Dl.gNil)) Dl.gNil)))) (gSeq (gDSetT (gVar 3) (Dl.gCons (gVar 5) (Dl.gCons (gVar 6) Dl.gNil)) (Dl.gTup (Dl.gCons (gVar 7) (Dl.gCons (gVar 8) Dl.gNil)))) (gDrop (gMt "list" aAppend (gVar 2) (Dl.gCons (Dl.gTup (Dl.gCons (gVar 5) (Dl.gCons (gVar 6) (Dl.gCons (gVar 7) (Dl.gCons (gVar 8) Dl.gNil))))) Dl.gNil))))))))) (gRet (gVar 2))))
theorem t__law_days (T : Txt K mg a) (F__law_draw : Fnc P w K mg base "_law_draw" s__law_draw dv__law_draw 1 ps__law_draw (sp__law_draw a)) (F__law_of : Fnc P w K mg base "_law_of" s__law_of dv__law_of 2 ps__law_of (sp__law_of a)) {f : Addr} {cdv : Value} {A : Around} {outer : List Env} {s : Shared} {H : Hp} {E : XK} (hr : RoomG 2 (A.deeper (PyProof.Rows.envOfC "_law_days" (defScope s__law_days) s.heap.objs.size f cdv))) :
    PSs (cxOf CX0 P w K mg base N__law_days "_law_days" (defScope s__law_days) f cdv A outer s H E).nox (defBody s__law_days) (tofS K U0 (g__law_days K a)) :=
  (ds_cons (d_par sc__law_days.nd (d_cons (d_lst false d_nil) (d_cons d_dnewT d_nil)))
    (ds_cons (d_for (t := (.nm 4)) PassesOwn.never rfl (di_rng1 (by rfl) T.no_range (d_cons (d_call F__law_draw (hr.mono (by decide)) (by rfl) bnd__law_draw_2 dfv_nil (da_p0 (d_cons (d_var 0) (d_cons (d_call F__law_of (hr.mono (by decide)) (by rfl) bnd__law_of_2 dfv_nil (da_p0 (d_cons (d_var 0) (d_cons (d_lst true (d_cons d_int (d_cons d_int (d_cons d_int d_nil)))) d_nil)))) d_nil)))) d_nil)) (pg_name (i := 4) sc__law_days.nd rfl (by first | exact .inl rfl | exact .inr rfl))
      (ds_cons (d_par sc__law_days.nd (d_cons (d_call F__law_of (hr.mono (by decide)) (by rfl) bnd__law_of_2 dfv_nil (da_p0 (d_cons (d_var 0) (d_cons (d_var 1) d_nil)))) (d_cons (d_ix (d_lst true (d_cons d_str (d_cons d_str d_nil))) (d_call F__law_draw (hr.mono (by decide)) (by rfl) bnd__law_draw_2 dfv_nil (da_p0 (d_cons (d_var 0) (d_cons d_int d_nil))))) d_nil)))
    (ds_cons (d_asg (t := (.tp [(.nm 7), (.nm 8)])) (d_dgt2T (d_var 3) (d_cons (d_var 5) (d_cons (d_var 6) d_nil)) (d_tup (d_cons d_int (d_cons d_int d_nil))) (hu_of hr)) (pg_tup rfl (pgs_cons (pg_name (i := 7) sc__law_days.nd rfl (by first | exact .inl rfl | exact .inr rfl)) (pgs_cons (pg_name (i := 8) sc__law_days.nd rfl (by first | exact .inl rfl | exact .inr rfl)) pgs_nil))))
    (ds_cons (d_set (i := 7) sc__law_days.nd rfl (by first | exact .inl rfl | exact .inr rfl) (d_op or_add (vr_add (fz := true)) (d_var 7) (d_call F__law_of (hr.mono (by decide)) (by rfl) bnd__law_of_2 dfv_nil (da_p0 (d_cons (d_var 0) (d_cons (d_lst true (d_cons d_int (d_cons d_int (d_cons (d_call F__law_draw (hr.mono (by decide)) (by rfl) bnd__law_draw_2 dfv_nil (da_p0 (d_cons (d_var 0) (d_cons d_int d_nil)))) (d_cons (d_call F__law_draw (hr.mono (by decide)) (by rfl) bnd__law_draw_2 dfv_nil (da_p0 (d_cons (d_var 0) (d_cons d_int d_nil)))) d_nil))))) d_nil))))))
    (ds_cons (d_set (i := 8) sc__law_days.nd rfl (by first | exact .inl rfl | exact .inr rfl) (d_op or_add (vr_add (fz := true)) (d_callB (call_max2 rfl) vr_max2 (by rfl) T.no_max (by decide +kernel) (d_cons (d_var 8) (d_cons (d_var 7) d_nil))) (d_call F__law_of (hr.mono (by decide)) (by rfl) bnd__law_of_2 dfv_nil (da_p0 (d_cons (d_var 0) (d_cons (d_lst true (d_cons d_int (d_cons d_int (d_cons d_int (d_cons (d_call F__law_draw (hr.mono (by decide)) (by rfl) bnd__law_draw_2 dfv_nil (da_p0 (d_cons (d_var 0) (d_cons d_int d_nil)))) d_nil))))) d_nil))))))
    (ds_cons (d_dsetT (d_var 3) (d_cons (d_var 5) (d_cons (d_var 6) d_nil)) (d_tup (d_cons (d_var 7) (d_cons (d_var 8) d_nil))) (hu_of hr))
    (ds_one (d_expr (d_bm (by decide) PySem.F.plainAttrs_list PySem.F.slot_list_append PySem.F.type_list_append mt_append vm_append (d_var 2) (d_cons (d_tup (d_cons (d_var 5) (d_cons (d_var 6) (d_cons (d_var 7) (d_cons (d_var 8) d_nil))))) d_nil))))))))))
    (ds_one (d_ret (d_var 2)))))
def g__law_rows_of (K : PySem.W.Frag) (a : Ad) : GS :=
  (gSeq (gSet 2 (Dl.gLst false Dl.gNil)) (gSeq (gFor (gIt (gVar 0)) (.tp [(.nm 3), (.nm 4), (.nm 5), (.nm 6)]) (gDrop (gMt "list" aAppend (gVar 2) (Dl.gCons (gIf (gTest (gB2 aEq (gVar 4) (gVar 1))) (Dl.gTup (Dl.gCons (gVar 5) (Dl.gCons (gC (.str "on")) (Dl.gCons (gVar 3) Dl.gNil)))) (Dl.gTup (Dl.gCons (gVar 6) (Dl.gCons (gC (.str "off")) (Dl.gCons (gVar 3) Dl.gNil))))) Dl.gNil)))) (gRet (gSortK true [] (gVar 2) (gIx (gVar 0) (gC (.int 0)))))))
theorem t__law_rows_of (T : Txt K mg a)  {f : Addr} {cdv : Value} {A : Around} {outer : List Env} {s : Shared} {H : Hp} {E : XK} (lm : LamK K mg cdv (lamq "_law_rows_of")) (hr : RoomG 5 (A.deeper (PyProof.Rows.envOfC "_law_rows_of" (defScope s__law_rows_of) s.heap.objs.size f cdv))) :
    PSs (cxOf CX0 P w K mg base N__law_rows_of "_law_rows_of" (defScope s__law_rows_of) f cdv A outer s H E).nox (defBody s__law_rows_of) (tofS K U0 (g__law_rows_of K a)) :=
  (ds_cons (d_set (i := 2) sc__law_rows_of.nd rfl (by first | exact .inl rfl | exact .inr rfl) (d_lst false d_nil))
    (ds_cons (d_for (t := (.tp [(.nm 3), (.nm 4), (.nm 5), (.nm 6)])) PassesOwn.never rfl (di_seq (d_var 0)) (pg_tup rfl (pgs_cons (pg_name (i := 3) sc__law_rows_of.nd rfl (by first | exact .inl rfl | exact .inr rfl)) (pgs_cons (pg_name (i := 4) sc__law_rows_of.nd rfl (by first | exact .inl rfl | exact .inr rfl)) (pgs_cons (pg_name (i := 5) sc__law_rows_of.nd rfl (by first | exact .inl rfl | exact .inr rfl)) (pgs_cons (pg_name (i := 6) sc__law_rows_of.nd rfl (by first | exact .inl rfl | exact .inr rfl)) pgs_nil)))))
      (ds_one (d_expr (d_bm (by decide) PySem.F.plainAttrs_list PySem.F.slot_list_append PySem.F.type_list_append mt_append vm_append (d_var 2) (d_cons (d_ifExp (d_tcmp (op_eqD hr.units) vr_eq (d_var 4) (d_var 1)) (d_tup (d_cons (d_var 5) (d_cons d_str (d_cons (d_var 3) d_nil)))) (d_tup (d_cons (d_var 6) (d_cons d_str (d_cons (d_var 3) d_nil))))) d_nil)))))
    (ds_one (d_ret (d_sortK (k := 2) (pn := "_law_row") (fr := []) (N := ["_law_row"]) (js := []) (fz := true) lm (hr.mono (by decide)) (by rfl) T.no_sorted (d_var 2) (NdefX.nscope_by (by decide +kernel)) (show NdefX.ndefB (defScope s__law_rows_of) _ [] = true from by decide +kernel) rfl rfl rfl (fun _ _ _ _ _ _ => rfl) (fun cl c1 f1 A1 outer1 s1 H1 hr => (d_ix (d_var 0) d_int)))))))
def g__law_book (K : PySem.W.Frag) (a : Ad) : GS :=
  (gSeq (gSet 2 (gMake a.C_Book 1 0 [.p 0, .p 1] [] (sp_Book_init a) (gArgs (Dl.gCons (gVar 0) Dl.gNil) Dl.gNil))) (gSeq (gFor (gIt (gVar 1)) (.tp [(.nm 3), (.nm 4), (.nm 5)]) (gDrop (gMeth a.C_Book "write" 3 0 [.p 0, .p 1, .p 2, .p 3] [] (sp_Book_write a) (gVar 2) (gArgs (Dl.gCons (gVar 3) (Dl.gCons (gVar 4) (Dl.gCons (gVar 5) Dl.gNil))) Dl.gNil)))) (gRet (gFrD (gVar 2)))))
theorem t__law_book (T : Txt K mg a) (F_Book_init : CFn P w K mg base "Book" a.C_Book "Book.__init__" s_Book_init dv_Book_init 1 ps_Book_init (sp_Book_init a)) (F_Book_write : MFn P w K mg base a.C_Book "write" "Book.write" s_Book_write dv_Book_write 1 ps_Book_write (sp_Book_write a)) {f : Addr} {cdv : Value} {A : Around} {outer : List Env} {s : Shared} {H : Hp} {E : XK} (hr : RoomG 2 (A.deeper (PyProof.Rows.envOfC "_law_book" (defScope s__law_book) s.heap.objs.size f cdv))) :
    PSs (cxOf CX0 P w K mg base N__law_book "_law_book" (defScope s__law_book) f cdv A outer s H E).nox (defBody s__law_book) (tofS K U0 (g__law_book K a)) :=
  (ds_cons (d_set (i := 2) sc__law_book.nd rfl (by first | exact .inl rfl | exact .inr rfl) (d_make F_Book_init (hr.mono (by decide)) (by rfl) bnd_Book_init_2 dfv_nil (da_p0 (d_cons (d_var 0) d_nil))))
    (ds_cons (d_for (t := (.tp [(.nm 3), (.nm 4), (.nm 5)])) PassesOwn.never rfl (di_seq (d_var 1)) (pg_tup rfl (pgs_cons (pg_name (i := 3) sc__law_book.nd rfl (by first | exact .inl rfl | exact .inr rfl)) (pgs_cons (pg_name (i := 4) sc__law_book.nd rfl (by first | exact .inl rfl | exact .inr rfl)) (pgs_cons (pg_name (i := 5) sc__law_book.nd rfl (by first | exact .inl rfl | exact .inr rfl)) pgs_nil))))
      (ds_one (d_expr (d_meth F_Book_write (hr.mono (by decide)) bnd_Book_write_4 dfv_nil (d_var 2) (da_p0 (d_cons (d_var 3) (d_cons (d_var 4) (d_cons (d_var 5) d_nil))))))))
    (ds_one (d_ret (d_frD (d_var 2))))))
def g__law_due (K : PySem.W.Frag) (a : Ad) : GS :=
  (gSeq (gSet 1 (Dl.gLst false Dl.gNil)) (gSeq (gFor (gIt (gSortSetX true (gLc true (gIt (gVar 0)) (.nm 6) gYes (gIx (gVar 6) (gC (.int 0))) [6]))) (.nm 2) (gFor (gIt (Dl.gTup (Dl.gCons (gC (.str "near")) (Dl.gCons (gC (.str "far")) Dl.gNil)))) (.nm 3) (gSeq (gSet 4 (gCB (a1 (aSorted true)) (Dl.gCons (gLc true (gIt (gVar 0)) (.nm 6) (gAndB (gTest (gB2 aEq (gIx (gVar 6) (gC (.int 0))) (gVar 2))) (gTest (gB2 aEq (gIx (gVar 6) (gC (.int 1))) (gVar 3)))) (gIx (gVar 6) (gC (.int 2))) [6]) Dl.gNil))) (gSeq (gSet 5 (gCB (a1 (aSorted true)) (Dl.gCons (gLc true (gIt (gVar 0)) (.nm 6) (gAndB (gTest (gB2 aEq (gIx (gVar 6) (gC (.int 0))) (gVar 2))) (gTest (gB2 aEq (gIx (gVar 6) (gC (.int 1))) (gVar 3)))) (gIx (gVar 6) (gC (.int 3))) [6]) Dl.gNil))) (gDrop (gMt "list" aExtend (gVar 1) (Dl.gCons (gLc true (gZip (Dl.gCons (gVar 4) (Dl.gCons (gVar 5) Dl.gNil))) (.tp [(.nm 7), (.nm 8)]) gYes (Dl.gTup (Dl.gCons (gVar 2) (Dl.gCons (gVar 3) (Dl.gCons (gVar 7) (Dl.gCons (gVar 8) Dl.gNil))))) [7, 8]) Dl.gNil))))))) (gRet (gSortK true [] (gVar 1) (Dl.gTup (Dl.gCons (gIx (gVar 0) (gC (.int 2))) (Dl.gCons (gIx (gVar 0) (gC (.int 0))) (Dl.gCons (gB2 aEq (gIx (gVar 0) (gC (.int 1))) (gC (.str "far"))) Dl.gNil))))))))
theorem t__law_due (T : Txt K mg a)  {f : Addr} {cdv : Value} {A : Around} {outer : List Env} {s : Shared} {H : Hp} {E : XK} (lm : LamK K mg cdv (lamq "_law_due")) (hr : RoomG 5 (A.deeper (PyProof.Rows.envOfC "_law_due" (defScope s__law_due) s.heap.objs.size f cdv))) :
    PSs (cxOf CX0 P w K mg base N__law_due "_law_due" (defScope s__law_due) f cdv A outer s H E).nox (defBody s__law_due) (tofS K U0 (g__law_due K a)) :=
  (ds_cons (d_set (i := 1) sc__law_due.nd rfl (by first | exact .inl rfl | exact .inr rfl) (d_lst false d_nil))
    (ds_cons (d_for (t := (.nm 2)) PassesOwn.never rfl (di_seq (d_sortSetX true rfl hr.units (by rfl) T.no_sorted (by rfl) T.no_set (d_lc (own := [("_law_day", 6)]) (t := (.nm 6)) true rfl sc__law_due.nd (di_seq (d_var 0)) (blkOk_by (own := [("_law_day", 6)]) (N := N__law_due) (sc := defScope s__law_due) (by decide +kernel)) (by decide) (fun _ _ _ _ _ => (pg_name (i := 6) sc__law_due.nd rfl (by first | exact .inl rfl | exact .inr rfl))) (fun _ _ _ _ _ => dt_nil) (fun _ _ _ _ _ => (d_ix (d_var 6) d_int))))) (pg_name (i := 2) sc__law_due.nd rfl (by first | exact .inl rfl | exact .inr rfl))
      (ds_one (d_for (t := (.nm 3)) PassesOwn.never rfl (di_seq (d_tup (d_cons d_str (d_cons d_str d_nil)))) (pg_name (i := 3) sc__law_due.nd rfl (by first | exact .inl rfl | exact .inr rfl))
      (ds_cons (d_set (i := 4) sc__law_due.nd rfl (by first | exact .inl rfl | exact .inr rfl) (d_callB (cr_sortedD hr.units) (vr_sorted (fz := true)) (by rfl) T.no_sorted (by decide +kernel) (d_cons (d_lc (own := [("_law_day", 6)]) (t := (.nm 6)) true rfl sc__law_due.nd (di_seq (d_var 0)) (blkOk_by (own := [("_law_day", 6)]) (N := N__law_due) (sc := defScope s__law_due) (by decide +kernel)) (by decide) (fun _ _ _ _ _ => (pg_name (i := 6) sc__law_due.nd rfl (by first | exact .inl rfl | exact .inr rfl))) (fun _ _ _ _ _ => (dt_one (PW.pt (d_and (d_tcmp (op_eqD hr.units) vr_eq (d_ix (d_var 6) d_int) (d_var 2)) (d_and1 (d_tcmp (op_eqD hr.units) vr_eq (d_ix (d_var 6) d_int) (d_var 3))))))) (fun _ _ _ _ _ => (d_ix (d_var 6) d_int))) d_nil)))
    (ds_cons (d_set (i := 5) sc__law_due.nd rfl (by first | exact .inl rfl | exact .inr rfl) (d_callB (cr_sortedD hr.units) (vr_sorted (fz := true)) (by rfl) T.no_sorted (by decide +kernel) (d_cons (d_lc (own := [("_law_day", 6)]) (t := (.nm 6)) true rfl sc__law_due.nd (di_seq (d_var 0)) (blkOk_by (own := [("_law_day", 6)]) (N := N__law_due) (sc := defScope s__law_due) (by decide +kernel)) (by decide) (fun _ _ _ _ _ => (pg_name (i := 6) sc__law_due.nd rfl (by first | exact .inl rfl | exact .inr rfl))) (fun _ _ _ _ _ => (dt_one (PW.pt (d_and (d_tcmp (op_eqD hr.units) vr_eq (d_ix (d_var 6) d_int) (d_var 2)) (d_and1 (d_tcmp (op_eqD hr.units) vr_eq (d_ix (d_var 6) d_int) (d_var 3))))))) (fun _ _ _ _ _ => (d_ix (d_var 6) d_int))) d_nil)))
    (ds_one (d_expr (d_bm (by decide) PySem.F.plainAttrs_list PySem.F.slot_list_extend PySem.F.type_list_extend mt_extend vm_extend (d_var 1) (d_cons (d_lc (own := [("_law_start", 7), ("_law_upto", 8)]) (t := (.tp [(.nm 7), (.nm 8)])) true rfl sc__law_due.nd (di_zip (by rfl) T.no_zip (d_cons (d_var 4) (d_cons (d_var 5) d_nil))) (blkOk_by (own := [("_law_start", 7), ("_law_upto", 8)]) (N := N__law_due) (sc := defScope s__law_due) (by decide +kernel)) (by decide) (fun _ _ _ _ _ => (pg_tup rfl (pgs_cons (pg_name (i := 7) sc__law_due.nd rfl (by first | exact .inl rfl | exact .inr rfl)) (pgs_cons (pg_name (i := 8) sc__law_due.nd rfl (by first | exact .inl rfl | exact .inr rfl)) pgs_nil)))) (fun _ _ _ _ _ => dt_nil) (fun _ _ _ _ _ => (d_tup (d_cons (d_var 2) (d_cons (d_var 3) (d_cons (d_var 7) (d_cons (d_var 8) d_nil))))))) d_nil)))))))))
    (ds_one (d_ret (d_sortK (k := 2) (pn := "_law_day") (fr := []) (N := ["_law_day"]) (js := []) (fz := true) lm (hr.mono (by decide)) (by rfl) T.no_sorted (d_var 1) (NdefX.nscope_by (by decide +kernel)) (show NdefX.ndefB (defScope s__law_due) _ [] = true from by decide +kernel) rfl rfl rfl (fun _ _ _ _ _ _ => rfl) (fun cl c1 f1 A1 outer1 s1 H1 hr => (d_tup (d_cons (d_ix (d_var 0) d_int) (d_cons (d_ix (d_var 0) d_int) (d_cons (d_cmp (op_eqD hr.units) vr_eq (d_ix (d_var 0) d_int) d_str) d_nil))))))))))
def g_law_c151 (K : PySem.W.Frag) (a : Ad) : GS :=
  (gSeq (gFor (gIt (Dl.gTup (Dl.gCons (gCall 2 0 [.p 0, .p 1] [] (sp_crossings_live a) (gArgs (Dl.gCons (gVar 5) (Dl.gCons (gVar 6) Dl.gNil)) Dl.gNil)) (Dl.gCons (gCall 2 0 [.p 0, .p 1] [] (sp_crossings_live a) (gArgs (Dl.gCons (gVar 6) (Dl.gCons (gVar 5) Dl.gNil)) Dl.gNil)) (Dl.gCons (gCall 0 2 [.k 1, .k 0] [] (sp_crossings_live a) (gArgs Dl.gNil (Dl.gCons (gVar 6) (Dl.gCons (gVar 5) Dl.gNil)))) Dl.gNil))))) (.nm 9) (gSeq (gIfS (gOrB (gNotB (gTest (gCB (a2 aIsi) (Dl.gCons (gVar 9) (Dl.gCons (gC (.ty "list")) Dl.gNil))))) (gTest (gB2 aNeS (gCB (a1 aRepr) (Dl.gCons (gVar 9) Dl.gNil)) (gVar 7)))) (gRet (gC (.bl false))) gNext) (gSeq (gDrop (gMt "list" aAppend (gVar 9) (Dl.gCons (gC .non) Dl.gNil))) (gDrop (gMt "list" aReverse (gVar 9) Dl.gNil))))) (gIfS (gOrB (gTest (gB2 aNeS (gCB (a1 aRepr) (Dl.gCons (Dl.gLst true (Dl.gCons (gMeth a.C_Book "rows" 0 0 [.p 0] [] (sp_Book_rows a) (gVar 5) (gArgs Dl.gNil Dl.gNil)) (Dl.gCons (gMeth a.C_Book "rows" 0 0 [.p 0] [] (sp_Book_rows a) (gVar 6) (gArgs Dl.gNil Dl.gNil)) Dl.gNil))) Dl.gNil)) (gVar 8))) (gTest (gB2 aNeS (gCB (a1 aRepr) (Dl.gCons (gCall 2 0 [.p 0, .p 1] [] (sp_crossings a) (gArgs (Dl.gCons (gVar 5) (Dl.gCons (gVar 6) Dl.gNil)) Dl.gNil)) Dl.gNil)) (gVar 7)))) (gRet (gC (.bl false))) gNext))
def g_law_c148 (K : PySem.W.Frag) (a : Ad) : GS :=
  (gSeq (gAsgL [(.nm 5), (.nm 6)] (gLc true (gIt (Dl.gTup (Dl.gCons (gC (.str "near")) (Dl.gCons (gC (.str "far")) Dl.gNil)))) (.nm 10) gYes (gCall 2 0 [.p 0, .p 1] [] (sp__law_book a) (gArgs (Dl.gCons (gVar 10) (Dl.gCons (gCall 2 0 [.p 0, .p 1] [] (sp__law_rows_of a) (gArgs (Dl.gCons (gVar 4) (Dl.gCons (gVar 10) Dl.gNil)) Dl.gNil)) Dl.gNil)) Dl.gNil)) [10])) (gSeq (gSet 7 (gCB (a1 aRepr) (Dl.gCons (gCall 1 0 [.p 0] [] (sp__law_due a) (gArgs (Dl.gCons (gVar 3) Dl.gNil) Dl.gNil)) Dl.gNil))) (gSeq (gSet 8 (gCB (a1 aRepr) (Dl.gCons (Dl.gLst true (Dl.gCons (gMeth a.C_Book "rows" 0 0 [.p 0] [] (sp_Book_rows a) (gVar 5) (gArgs Dl.gNil Dl.gNil)) (Dl.gCons (gMeth a.C_Book "rows" 0 0 [.p 0] [] (sp_Book_rows a) (gVar 6) (gArgs Dl.gNil Dl.gNil)) Dl.gNil))) Dl.gNil))) (g_law_c151 K a))))
def g_law (K : PySem.W.Frag) (a : Ad) : GS :=
  (gSeq (gSet 1 (gCall 1 0 [.p 0] [] (sp__law_feed a) (gArgs (Dl.gCons (gVar 0) Dl.gNil) Dl.gNil))) (gSeq (gFor (gRng1 (Dl.gCons (gC (.int 3)) Dl.gNil)) (.nm 2) (gSeq (gSet 3 (gCall 2 0 [.p 0, .p 1] [] (sp__law_days a) (gArgs (Dl.gCons (gVar 1) (Dl.gCons (gCall 2 0 [.p 0, .p 1] [] (sp__law_names a) (gArgs (Dl.gCons (gVar 1) (Dl.gCons (gC (.int 4)) Dl.gNil)) Dl.gNil)) Dl.gNil)) Dl.gNil))) (gSeq (gSet 4 (gIf (gTest (gB2 aEq (gCall 2 0 [.p 0, .p 1] [] (sp__law_draw a) (gArgs (Dl.gCons (gVar 1) (Dl.gCons (gC (.int 2)) Dl.gNil)) Dl.gNil)) (gC (.int 0)))) (gRev true (gVar 3)) (gVar 3))) (g_law_c148 K a)))) (gRet (gB2 (aNil false) (gCall 2 0 [.p 0, .p 1] [] (sp_crossings a) (gArgs (Dl.gCons (gFrD (gMake a.C_Book 1 0 [.p 0, .p 1] [] (sp_Book_init a) (gArgs (Dl.gCons (gC (.str "far")) Dl.gNil) Dl.gNil))) (Dl.gCons (gFrD (gMake a.C_Book 1 0 [.p 0, .p 1] [] (sp_Book_init a) (gArgs (Dl.gCons (gC (.str "near")) Dl.gNil) Dl.gNil))) Dl.gNil)) Dl.gNil)) (Dl.gLst true Dl.gNil)))))
theorem t_law (T : Txt K mg a) (F_Book_init : CFn P w K mg base "Book" a.C_Book "Book.__init__" s_Book_init dv_Book_init 1 ps_Book_init (sp_Book_init a)) (F_Book_rows : MFn P w K mg base a.C_Book "rows" "Book.rows" s_Book_rows dv_Book_rows 1 ps_Book_rows (sp_Book_rows a)) (F__law_book : Fnc P w K mg base "_law_book" s__law_book dv__law_book 3 ps__law_book (sp__law_book a)) (F__law_days : Fnc P w K mg base "_law_days" s__law_days dv__law_days 3 ps__law_days (sp__law_days a)) (F__law_draw : Fnc P w K mg base "_law_draw" s__law_draw dv__law_draw 1 ps__law_draw (sp__law_draw a)) (F__law_due : Fnc P w K mg base "_law_due" s__law_due dv__law_due 6 ps__law_due (sp__law_due a)) (F__law_feed : Fnc P w K mg base "_law_feed" s__law_feed dv__law_feed 1 ps__law_feed (sp__law_feed a)) (F__law_names : Fnc P w K mg base "_law_names" s__law_names dv__law_names 2 ps__law_names (sp__law_names a)) (F__law_rows_of : Fnc P w K mg base "_law_rows_of" s__law_rows_of dv__law_rows_of 6 ps__law_rows_of (sp__law_rows_of a)) (F_crossings_live : Fnc P w K mg base "crossings" s_crossings dv_crossings 4 ps_crossings (sp_crossings_live a)) (F_crossings : Fnc P w K mg base "crossings" s_crossings dv_crossings 4 ps_crossings (sp_crossings a)) {f : Addr} {cdv : Value} {A : Around} {outer : List Env} {s : Shared} {H : Hp} {E : XK} (hr : RoomG 6 (A.deeper (PyProof.Rows.envOfC "law" (defScope s_law) s.heap.objs.size f cdv))) :
    PSs (cxOf CX0 P w K mg base N_law "law" (defScope s_law) f cdv A outer s H E).nox (defBody s_law) (tofS K U0 (g_law K a)) :=
  (ds_cons (d_set (i := 1) sc_law.nd rfl (by first | exact .inl rfl | exact .inr rfl) (d_call F__law_feed (hr.mono (by decide)) (by rfl) bnd__law_feed_1 dfv_nil (da_p0 (d_cons (d_var 0) d_nil))))
    (ds_cons (d_for (t := (.nm 2)) PassesOwn.never rfl (di_rng1 (by rfl) T.no_range (d_cons d_int d_nil)) (pg_name (i := 2) sc_law.nd rfl (by first | exact .inl rfl | exact .inr rfl))
      (ds_cons (d_set (i := 3) sc_law.nd rfl (by first | exact .inl rfl | exact .inr rfl) (d_call F__law_days (hr.mono (by decide)) (by rfl) bnd__law_days_2 dfv_nil (da_p0 (d_cons (d_var 1) (d_cons (d_call F__law_names (hr.mono (by decide)) (by rfl) bnd__law_names_2 dfv_nil (da_p0 (d_cons (d_var 1) (d_cons d_int d_nil)))) d_nil)))))
    (ds_cons (d_set (i := 4) sc_law.nd rfl (by first | exact .inl rfl | exact .inr rfl) (d_ifExp (d_tcmp (op_eqD hr.units) vr_eq (d_call F__law_draw (hr.mono (by decide)) (by rfl) bnd__law_draw_2 dfv_nil (da_p0 (d_cons (d_var 1) (d_cons d_int d_nil)))) d_int) (d_revL true (d_var 3)) (d_var 3)))
    (ds_cons (d_asgL (ts := [(.nm 5), (.nm 6)]) (d_lc (own := [("_law_side", 10)]) (t := (.nm 10)) true rfl sc_law.nd (di_seq (d_tup (d_cons d_str (d_cons d_str d_nil)))) (blkOk_by (own := [("_law_side", 10)]) (N := N_law) (sc := defScope s_law) (by decide +kernel)) (by decide) (fun _ _ _ _ _ => (pg_name (i := 10) sc_law.nd rfl (by first | exact .inl rfl | exact .inr rfl))) (fun _ _ _ _ _ => dt_nil) (fun _ _ _ _ _ => (d_call F__law_book (hr.mono (by decide)) (by rfl) bnd__law_book_2 dfv_nil (da_p0 (d_cons (d_var 10) (d_cons (d_call F__law_rows_of (hr.mono (by decide)) (by rfl) bnd__law_rows_of_2 dfv_nil (da_p0 (d_cons (d_var 4) (d_cons (d_var 10) d_nil)))) d_nil)))))) (pgs_cons (pg_name (i := 5) sc_law.nd rfl (by first | exact .inl rfl | exact .inr rfl)) (pgs_cons (pg_name (i := 6) sc_law.nd rfl (by first | exact .inl rfl | exact .inr rfl)) pgs_nil)) (by rfl))
    (ds_cons (d_set (i := 7) sc_law.nd rfl (by first | exact .inl rfl | exact .inr rfl) (d_callB (cr_repr hr) vr_repr (by rfl) T.no_repr (by decide +kernel) (d_cons (d_call F__law_due (hr.mono (by decide)) (by rfl) bnd__law_due_1 dfv_nil (da_p0 (d_cons (d_var 3) d_nil))) d_nil)))
    (ds_cons (d_set (i := 8) sc_law.nd rfl (by first | exact .inl rfl | exact .inr rfl) (d_callB (cr_repr hr) vr_repr (by rfl) T.no_repr (by decide +kernel) (d_cons (d_lst true (d_cons (d_meth F_Book_rows (hr.mono (by decide)) bnd_Book_rows_1 dfv_nil (d_var 5) da_00) (d_cons (d_meth F_Book_rows (hr.mono (by decide)) bnd_Book_rows_1 dfv_nil (d_var 6) da_00) d_nil))) d_nil)))
    (ds_cons (d_for (t := (.nm 9)) PassesOwn.never rfl (di_seq (d_tup (d_cons (d_call F_crossings_live (hr.mono (by decide)) (by rfl) bnd_crossings_2 dfv_nil (da_p0 (d_cons (d_var 5) (d_cons (d_var 6) d_nil)))) (d_cons (d_call F_crossings_live (hr.mono (by decide)) (by rfl) bnd_crossings_2 dfv_nil (da_p0 (d_cons (d_var 6) (d_cons (d_var 5) d_nil)))) (d_cons (d_call F_crossings_live (hr.mono (by decide)) (by rfl) bnd_crossings_0_other_one dfv_nil (da_0k (dk_cons (d_var 6) (dk_cons (d_var 5) dk_nil)))) d_nil))))) (pg_name (i := 9) sc_law.nd rfl (by first | exact .inl rfl | exact .inr rfl))
      (ds_cons (d_if (PW.pt (d_or (d_not (d_val (d_callB call_isi vr_isi (by rfl) T.no_isinstance (by decide +kernel) (d_cons (d_var 9) (d_cons (d_gty (by rfl) T.no_list (by decide +kernel)) d_nil))))) (d_or1 (d_tcmp op_ne vr_neSS (d_callB (cr_repr hr) vr_repr (by rfl) T.no_repr (by decide +kernel) (d_cons (d_var 9) d_nil)) (d_var 7)))))
      (ds_one (d_ret d_bl))
      ds_nil)
    (ds_cons (d_expr (d_bm (by decide) PySem.F.plainAttrs_list PySem.F.slot_list_append PySem.F.type_list_append mt_append vm_append (d_var 9) (d_cons d_non d_nil)))
    (ds_one (d_expr (d_bm0 (by decide) PySem.F.plainAttrs_list PySem.F.slot_list_reverse PySem.F.type_list_reverse mt_reverse vm_reverse (d_var 9)))))))
    (ds_one (d_if (PW.pt (d_or (d_tcmp op_ne vr_neSS (d_callB (cr_repr hr) vr_repr (by rfl) T.no_repr (by decide +kernel) (d_cons (d_lst true (d_cons (d_meth F_Book_rows (hr.mono (by decide)) bnd_Book_rows_1 dfv_nil (d_var 5) da_00) (d_cons (d_meth F_Book_rows (hr.mono (by decide)) bnd_Book_rows_1 dfv_nil (d_var 6) da_00) d_nil))) d_nil)) (d_var 8)) (d_or1 (d_tcmp op_ne vr_neSS (d_callB (cr_repr hr) vr_repr (by rfl) T.no_repr (by decide +kernel) (d_cons (d_call F_crossings (hr.mono (by decide)) (by rfl) bnd_crossings_2 dfv_nil (da_p0 (d_cons (d_var 5) (d_cons (d_var 6) d_nil)))) d_nil)) (d_var 7)))))
      (ds_one (d_ret d_bl))
      ds_nil)))))))))
    (ds_one (d_ret (d_cmp (or_eqNil hr) vr_nil (d_call F_crossings (hr.mono (by decide)) (by rfl) bnd_crossings_2 dfv_nil (da_p0 (d_cons (d_frD (d_make F_Book_init (hr.mono (by decide)) (by rfl) bnd_Book_init_2 dfv_nil (da_p0 (d_cons d_str d_nil)))) (d_cons (d_frD (d_make F_Book_init (hr.mono (by decide)) (by rfl) bnd_Book_init_2 dfv_nil (da_p0 (d_cons d_str d_nil)))) d_nil)))) (d_lst true d_nil))))))
end
end Lw
namespace Lw
open PySem L2 Dl
section
variable {P : Program} {w : World} {K : PySem.W.Frag} {mg : Str → Option Value} {base : Heap} {a : Ad}
theorem r__law_feed : ∀ ds S q, sp__law_feed a ds S q → g__law_feed K a { nx := fun _ S' => q .non S', rt := q } (startD N__law_feed ds) S := by
  rintro ds S q ⟨ns, rfl, rfl, h⟩
  rw [st__law_feed]
  simp only [g__law_feed, ↓gRet, ↓gCB, ↓gC, ↓Dl.gCons, ↓Dl.gNil, ↓Dl.gLst, ↓gSl, ↓gPart, ↓gNoP, ↓x_slL_k, ↓x_newT, ↓x_newF, ↓x_a1, ↓x_var0, Option.some.injEq, D.bl.injEq, D.int.injEq, D.str.injEq, D.tup.injEq, D.lst.injEq, List.cons.injEq, List.length_cons, List.length_nil, exists_eq_left']
  refine ⟨_, rfl, ?_⟩
  rw [x_newT]
  refine ⟨by decide, ?_⟩
  rw [show cutD (ns.map D.int) none (some 63) = (ns.take 63).map D.int from ?_]
  · exact h
  · simp [cutD, HT.sIx, List.map_take]
theorem r__law_draw : ∀ ds S q, sp__law_draw a ds S q → g__law_draw K a { nx := fun _ S' => q .non S', rt := q } (startD N__law_draw ds) S := by
  rintro ds S q ⟨many, h1, h2, o, R0, B, rfl, rfl, ⟨ns, t, r, rfl, h3, h4, h5⟩, hb, h⟩
  rw [st__law_draw]
  simp only [g__law_draw, ↓x_neNil, ↓x_gset, ↓x_ixS0, ↓x_ixL, x_at0, x_at1, x_at2, ↓x_set01, ↓x_set02, Int.reduceToNat, Int.reducePow, ↓gSeq, ↓gIfS, ↓gSet, ↓gRet, ↓gNext, ↓gCB, ↓gB2, ↓gC, ↓Dl.gCons, ↓Dl.gNil, ↓Dl.gLst, ↓gTest, ↓gAndB, ↓gIf, ↓gIx, ↓x_i2, ↓aFdiv, ↓aMod, ↓aPow, ↓aLt, ↓aGt, ↓aGe, ↓x_addI, ↓x_mulI, ↓x_lenL_l, ↓x_newT, ↓x_a1, ↓x_var0, ↓x_varS, Option.some.injEq, D.bl.injEq, D.int.injEq, D.str.injEq, D.tup.injEq, D.lst.injEq, List.cons.injEq, true_and, List.set_cons_zero, List.set_cons_succ, List.length_nil, ↓reduceIte, Bool.false_eq_true, decide_eq_true_eq, exists_eq_left']
  have hT : ∀ x r', 0 ≤ x → x < many → 0 ≤ r' → q (.int x) (some (.lst [.lst (ns.map .int), .int (t + 1), .int r']) :: R0) := fun x r' a1 a2 a3 => h _ _ ⟨x, rfl, a1, a2⟩ ⟨ns, t + 1, r', rfl, by omega, by omega, a3⟩
  have m1 : ∀ x, 0 ≤ x % many ∧ x % many < many := fun x => ⟨Int.emod_nonneg _ (by omega), Int.emod_lt_of_pos _ h1⟩
  have hb' : B + 1 ≤ 1000000000000 := hb
  have u1 : ∀ x : Int, 0 ≤ x % 2147483629 ∧ x % 2147483629 < 2147483629 := fun x => ⟨Int.emod_nonneg _ (by decide), Int.emod_lt_of_pos _ (by decide)⟩
  split
  · exact ⟨h1, .inl ⟨h1, h2⟩, h _ _ ⟨_, rfl, (m1 _).1, (m1 _).2⟩ ⟨ns, t, r / many, rfl, h3, by omega, Int.ediv_nonneg h5 (by omega)⟩⟩
  · refine ⟨by decide, ?_⟩
    by_cases hn : ns = []
    · rw [if_neg (by simpa using hn)]
      subst hn
      refine ⟨mulOk_l (by decide) (by decide), ?_⟩
      rw [if_neg (by simp; omega)]
      have := u1 (7919 * t + 11)
      refine ⟨by decide, mulOk_l (by decide) (by decide), ⟨by decide, by decide, by omega⟩, by decide, .inl ⟨by decide, by decide⟩, mulOk_l (by decide) (by decide), by decide, ?_⟩
      generalize hy : (_ : Int) % 2147483647 = y
      have hy0 : 0 ≤ y ∧ y < 2147483647 := by rw [← hy]; exact ⟨Int.emod_nonneg _ (by decide), Int.emod_lt_of_pos _ (by decide)⟩
      refine ⟨mulOk_l (by omega) (by omega), by decide, .inl ⟨by decide, by decide⟩, h1, ?_⟩
      exact hT _ _ (m1 _).1 (m1 _).2 h5
    · rw [if_pos hn]
      have hl : 0 < ns.length := List.length_pos_iff.mpr hn
      have hlm : (ns.map D.int).length = ns.length := List.length_map ..
      have hk0 : 0 ≤ t % ((ns.map D.int).length : Int) := Int.emod_nonneg _ (by omega)
      have hk1 : t % ((ns.map D.int).length : Int) < ((ns.map D.int).length : Int) := Int.emod_lt_of_pos _ (by omega)
      obtain ⟨c, hc⟩ : ∃ c, ns[(t % ((ns.map D.int).length : Int)).toNat]? = some c := ⟨ns[(t % ((ns.map D.int).length : Int)).toNat]'(by omega), by simp⟩
      refine ⟨by omega, .int c, ?_, ?_⟩
      · have e := atI_lit (xs := ns.map D.int) (k := (t % ((ns.map D.int).length : Int)).toNat) (v := .int c) (by rw [List.getElem?_map, hc]; rfl)
        rwa [show (((t % ((ns.map D.int).length : Int)).toNat : Nat) : Int) = t % ((ns.map D.int).length : Int) by omega] at e
      · simp only [↓x_set02, Int.reduceToNat, ↓gRet, ↓gB2, ↓x_i2, ↓x_addI, ↓x_mulI, ↓x_var0, ↓x_varS, Option.some.injEq, D.bl.injEq, D.int.injEq, D.str.injEq, D.tup.injEq, D.lst.injEq, List.cons.injEq, true_and, decide_eq_true_eq, exists_eq_left']
        have := u1 c
        split
        · refine ⟨⟨by decide, by decide, by decide⟩, ?_⟩
          split
          · rename_i hc1
            exact ⟨.inl ⟨h1, h2⟩, h1, hT _ _ (m1 _).1 (m1 _).2 (Int.ediv_nonneg (by omega) (by omega))⟩
          · refine ⟨by decide, mulOk_l (by decide) (by decide), ⟨by decide, by decide, by omega⟩, by decide, .inl ⟨by decide, by decide⟩, mulOk_l (by decide) (by decide), by decide, ?_⟩
            generalize hy : (_ : Int) % 2147483647 = y
            have hy0 : 0 ≤ y ∧ y < 2147483647 := by rw [← hy]; exact ⟨Int.emod_nonneg _ (by decide), Int.emod_lt_of_pos _ (by decide)⟩
            refine ⟨mulOk_l (by omega) (by omega), by decide, .inl ⟨by decide, by decide⟩, h1, ?_⟩
            exact hT _ _ (m1 _).1 (m1 _).2 h5
        · refine ⟨by decide, mulOk_l (by decide) (by decide), ⟨by decide, by decide, by omega⟩, by decide, .inl ⟨by decide, by decide⟩, mulOk_l (by decide) (by decide), by decide, ?_⟩
          generalize hy : (_ : Int) % 2147483647 = y
          have hy0 : 0 ≤ y ∧ y < 2147483647 := by rw [← hy]; exact ⟨Int.emod_nonneg _ (by decide), Int.emod_lt_of_pos _ (by decide)⟩
          refine ⟨mulOk_l (by omega) (by omega), by decide, .inl ⟨by decide, by decide⟩, h1, ?_⟩
          exact hT _ _ (m1 _).1 (m1 _).2 h5
theorem r__law_of : ∀ ds S q, sp__law_of a ds S q → g__law_of K a { nx := fun _ S' => q .non S', rt := q } (startD N__law_of ds) S := by
  rintro ds S q ⟨d, es, h1, h2, o, R0, B, rfl, rfl, ht, hb, hd, h⟩
  rw [st__law_of]
  simp only [g__law_of, ↓gRet, ↓gCB, ↓gB2, ↓Dl.gCons, ↓Dl.gNil, ↓gIx, ↓gCall, ↓gArgs, ↓x_a1, ↓x_var0, ↓x_varS, gat, pick, true_and, List.length_cons, List.length_nil, List.filterMap_cons, List.filterMap_nil, List.getElem?_cons_zero, List.getElem?_cons_succ]
  rw [x_lenL (hd o)]
  refine Mt.draw_in (by omega) h2 ht hb fun x o' h3 h4 h5 => ?_
  obtain ⟨e, he⟩ : ∃ e, es[x.toNat]? = some e := ⟨es[x.toNat]'(by omega), by simp⟩
  have hat := atI_lit he
  rw [show ((x.toNat : Nat) : Int) = x by omega] at hat
  rw [x_ix (hd o') hat]
  exact h e o' (List.mem_of_getElem? he) h5
def ofL (l : List Nat) : Str := ⟨l.toArray⟩
theorem ofL_len (l : List Nat) : (ofL l).length = l.length := by unfold ofL Str.length; rw [List.size_toArray]
theorem ofL_cps (l : List Nat) : (ofL l).cps.toList = l := by unfold ofL; rw [List.toList_toArray]
theorem str_ext {x y : Str} (h : x.cps.toList = y.cps.toList) : x = y := congrArg Str.mk (Array.toList_inj.mp h)
theorem join_ones (l : List Nat) : Txt.join (Str.ofString "") (l.map fun c => (⟨#[c]⟩ : Str)) = ofL l := by
  have e0 : (Str.ofString "") = Str.empty := by decide +kernel
  show Builtin.Str.glued _ _ = _
  rw [StrLaws.glued_eq_join, e0]
  apply str_ext
  rw [ofL_cps]
  have app : ∀ x y : Str, (x ++ y).cps.toList = x.cps.toList ++ y.cps.toList := fun x y => by
    show (x.cps ++ y.cps).toList = _
    rw [Array.toList_append]
  induction l with
  | nil => rfl
  | cons c l ih =>
    cases l with
    | nil => rfl
    | cons d l =>
      show ((⟨#[c]⟩ : Str) ++ Str.empty ++ Str.join Str.empty (((d :: l).map fun c => (⟨#[c]⟩ : Str)))).cps.toList = _
      rw [app, app, ih]
      rfl
def lets : PySem.Str := Str.ofString "abcdefghijklmnopqrstuvwxyz"
theorem let_at : ∀ k, k < 26 → atI lets.cps.toList ((k : Nat) : Int) = some (97 + k) := by decide +kernel
def oneL (x : Int) : PySem.Str := ⟨#[97 + x.toNat]⟩
theorem x_finG {S0 G : Sto} {ds : List D} {q : D → Sto → Prop} (hS : Sto.under S0.length S0 = true) : fin S0.length q (.loc S0.length) (S0 ++ (some (.lst ds) :: G)) ↔ D.unders S0.length ds = true ∧ q (.lst ds) S0 := by
  unfold fin
  rw [List.take_left]
  simp [hS]
theorem und_strs {n : Nat} : ∀ {xs : List PySem.Str}, D.unders n (xs.map D.str) = true
  | [] => by simp [D.unders]
  | x :: xs => by simp [D.unders, D.under, und_strs (xs := xs)]
theorem under_cons {n : Nat} {o : Option MO} {S : Sto} : Sto.under n (o :: S) = ((match o with | none => true | some x => x.under n) && Sto.under n S) := by
  unfold Sto.under
  rw [List.all_cons]
  all_goals (cases o <;> rfl)
theorem und_int {n : Nat} : ∀ {P : List Int}, D.unders n (P.map D.int) = true
  | [] => rfl
  | p :: P => by
    rw [List.map_cons, D.unders, und_int (P := P)]
    rfl
theorem tape_under {o o' : Option MO} {R0 : Sto} {B : Int} (h : Mt.Tp B o') (hs : Sto.under (R0.length + 1) (o :: R0) = true) : Sto.under (o' :: R0).length (o' :: R0) = true := by
  obtain ⟨ns, t, r, rfl, _⟩ := h
  rw [under_cons, Bool.and_eq_true] at hs
  rw [under_cons, Bool.and_eq_true]
  refine ⟨?_, hs.2⟩
  show D.unders _ [.lst (ns.map D.int), .int t, .int r] = true
  simp [D.unders, D.under, und_int]
theorem nm_of {l : List Nat} (h1 : 1 ≤ l.length) (h2 : l.length ≤ 8) (h3 : ∀ c ∈ l, 97 ≤ c ∧ c ≤ 122) : NmOk (ofL l) := ⟨by rw [ofL_len]; exact h1, by rw [ofL_len]; exact h2, by rw [ofL_cps]; exact h3⟩
/-- names told apart by the sign at one place -/
def NmAt (pn : Nat) (mv : Int) (xs : List Str) : Prop := ∀ (j : Nat) (x : Str), xs[j]? = some x → NmOk x ∧ x.cps.toList[pn]? = some (97 + ((mv + 7 * (j : Nat)) % 26).toNat)
theorem NmAt.nodup {pn : Nat} {mv : Int} {xs : List Str} (h : NmAt pn mv xs) (hl : xs.length ≤ 26) : xs.Nodup := by
  refine List.pairwise_iff_getElem.mpr fun i j hi hj hij e => ?_
  have h1 := (h i xs[i] (List.getElem?_eq_getElem hi)).2
  have h2 := (h j xs[j] (List.getElem?_eq_getElem hj)).2
  rw [e, h2] at h1
  have := Option.some.inj h1
  omega
theorem NmAt.snoc {pn : Nat} {mv : Int} {xs : List Str} {x : Str} (h : NmAt pn mv xs) (hx : NmOk x ∧ x.cps.toList[pn]? = some (97 + ((mv + 7 * (xs.length : Nat)) % 26).toNat)) : NmAt pn mv (xs ++ [x]) := by
  intro j y hy
  by_cases c : j < xs.length
  · rw [List.getElem?_append_left c] at hy; exact h j y hy
  · rw [List.getElem?_append_right (by omega)] at hy
    have : j - xs.length = 0 := by
      have := (List.getElem?_eq_some_iff.mp hy).1
      simp at this; omega
    rw [this] at hy
    cases hy
    rw [show j = xs.length by omega]
    exact hx
theorem rf__law_names : ∀ ds S q, D.unders S.length ds = true → Sto.under S.length S = true → sp__law_names a ds S q → g__law_names K a { nx := fun _ S' => fin S.length q .non S', rt := fin S.length q } (startD N__law_names ds) S := by
  rintro ds S q hu hs ⟨many, h1, h2, o, R0, B, rfl, rfl, ht, hb, hq⟩
  rw [st__law_names]
  simp only [g__law_names, ↓x_lc, ↓x_for, ↓x_rn1, ↓x_rn1I, Int.reducePow, ↓gSeq, ↓gSet, ↓x_par, ↓x_par2, ↓gCB, ↓gB2, ↓gC, ↓Dl.gCons, ↓Dl.gNil, ↓Dl.gLst, ↓gIx, ↓gCall, ↓gArgs, ↓aSub, ↓aMod, ↓x_newF, ↓x_a1, ↓x_var0, ↓x_varS, gat, pick, true_and, List.set_cons_zero, List.set_cons_succ, List.length_cons, List.length_nil, List.filterMap_cons, List.filterMap_nil, List.getElem?_cons_zero, List.getElem?_cons_succ]
  have hs' : 1000 ≤ sizeLine := by decide
  have t15 := Mt.ten15
  refine Mt.draw_in (by decide) (by decide) ht (by omega) fun u o1 hu1 hu2 ht1 => ?_
  simp only [↓x_rn1I, Int.reducePow, ↓x_addI]
  refine ⟨by omega, by omega, ?_⟩
  refine lc_inv (fun i acc S' => ∃ (o' : Option MO) (M : List Int), Mt.Tp (B + 1 + i) o' ∧ S' = o' :: R0 ∧ acc = M.map D.int ∧ M.length = i ∧ ∀ x ∈ M, 0 ≤ x ∧ x < 26) ⟨o1, [], ht1.mono (by omega), rfl, rfl, rfl, fun _ h => (nomatch h)⟩ ?_ ?_
  · rintro i d acc S' hd ⟨o', M, ht', rfl, rfl, hM, hMb⟩
    have hi : i < (1 + u).toNat := by
      have := (List.getElem?_eq_some_iff.mp hd).1
      rwa [x_rngL] at this
    refine ⟨trivial, _, x_bnm, ?_⟩
    simp only [wipeD, ↓gC, ↓Dl.gCons, ↓Dl.gNil, ↓gCall, ↓gArgs, ↓gYes, ↓x_var0, gat, pick, true_and, List.set_cons_zero, List.set_cons_succ, List.length_cons, List.length_nil, List.filterMap_cons, List.filterMap_nil, List.getElem?_cons_zero, List.getElem?_cons_succ, ↓reduceIte]
    refine Mt.draw_in (by decide) (by decide) ht' (by omega) fun x o2 hx0 hx1 ht2 => ?_
    refine ⟨by rw [List.length_map]; omega, o2, M ++ [x], ht2.mono (by omega), rfl, by simp, by simp [hM], fun y hy => ?_⟩
    rcases List.mem_append.mp hy with z | z
    · exact hMb y z
    · rw [List.mem_singleton.mp z]; exact ⟨hx0, hx1⟩
  rintro acc S' ⟨o2, M, ht2, rfl, rfl, hM, hMb⟩
  rw [x_rngL] at hM ht2
  refine ⟨trivial, ?_⟩
  rw [x_newT]
  simp only [↓x_lenL_l]
  refine Mt.draw_in (by rw [List.length_map]; omega) (by rw [List.length_map]; omega) ht2 (by omega) fun place o3 hp0 hp1 ht3 => Mt.draw_in (by decide) (by decide) ht3 (by omega) fun short o4 hs0 hs1 ht4 => ?_
  rw [List.length_map] at hp1
  simp only [List.length_cons]
  refine ⟨by decide, by omega, by omega, ?_⟩
  obtain ⟨pn, rfl⟩ := Int.eq_ofNat_of_zero_le hp0
  obtain ⟨mv, hmv⟩ : ∃ mv, M[pn]? = some mv := ⟨M[pn]'(by omega), List.getElem?_eq_getElem (by omega)⟩
  have hL : (Str.ofString "abcdefghijklmnopqrstuvwxyz") = lets := rfl
  rw [hL]
  refine ⟨fun (i : Nat) ρ S' => ∃ (G : Sto) (xs : List PySem.Str) (y7 y8 y9 y10 : Option D), S' = (o4 :: (R0 ++ [some (MO.lst (xs.map D.str))])) ++ G ∧ xs.length = i ∧ NmAt pn mv xs ∧
    ρ = [some (D.loc 0), some (D.int many), some (D.str lets), some (D.lst (M.map D.int)), some (D.int (pn : Nat)), some (D.int short), some (D.loc (R0.length + 1)), y7, y8, y9, y10], ⟨[], [], _, _, _, _, by simp, rfl, fun j x h => (by simp at h), rfl⟩, ?_, ?_⟩
  · rintro i d ρ S' hd ⟨G, xs, y7, y8, y9, y10, rfl, hx, hxb, rfl⟩
    have hi : i < many.toNat := by
      have := (List.getElem?_eq_some_iff.mp hd).1
      rwa [x_rngL] at this
    rw [x_rng, if_pos hi] at hd
    cases hd
    refine ⟨trivial, _, x_bnm, ?_⟩
    have hget : ((o4 :: (R0 ++ [some (MO.lst (xs.map D.str))])) ++ G)[R0.length + 1]? = some (some (MO.lst (xs.map D.str))) := by simp
    generalize hS0 : (o4 :: (R0 ++ [some (MO.lst (xs.map D.str))])) ++ G = S0 at hget
    simp only [↓x_gset, ↓x_ixL, ↓gSeq, ↓gSet, ↓gCB, ↓gB2, ↓gC, ↓Dl.gCons, ↓Dl.gNil, ↓x_mulI, ↓x_a1, ↓x_var0, ↓x_varS, List.set_cons_zero, List.set_cons_succ]
    refine ⟨_, rfl, ?_⟩
    rw [x_newF]
    refine ⟨.int mv, atI_lit (by rw [List.getElem?_map, hmv]; rfl), ?_⟩
    obtain ⟨v, hv, hv0, hv1⟩ : ∃ v : Int, (mv + 7 * (0 + (i : Int))) % 26 = v ∧ 0 ≤ v ∧ v < 26 := ⟨_, rfl, by omega, by omega⟩
    refine ⟨mulOk_r (by omega) (by omega), ?_⟩
    simp only [hv, ↓x_i2, ↓x_addI]
    refine ⟨by decide, (x_setE (n := pn) (ixN_lit (by rw [List.length_map]; omega))).mpr ?_⟩
    have hset : (M.map D.int).set pn (.int v) = (M.set pn v).map D.int := by rw [List.map_set]
    rw [hset]
    obtain ⟨M2, hM2, hM2l, hM2v, hM2b⟩ : ∃ M2 : List Int, M.set pn v = M2 ∧ M2.length = M.length ∧ M2[pn]? = some v ∧ ∀ x ∈ M2, 0 ≤ x ∧ x < 26 := by
      refine ⟨_, rfl, by rw [List.length_set], by rw [List.getElem?_set_self (by omega)], fun x hx => ?_⟩
      rcases List.mem_or_eq_of_mem_set hx with z | z
      · exact hMb x z
      · rw [z]; exact ⟨hv0, hv1⟩
    rw [hM2]
    simp only [↓x_itE, ↓x_lc, ↓x_it, ↓gSeq, ↓gSet, ↓gDrop, ↓gCB, ↓gB2, ↓gC, ↓Dl.gCons, ↓Dl.gNil, ↓gSl, ↓gPart, ↓gNoP, ↓gMt, ↓x_tyS, ↓x_i2, ↓x_addI, ↓x_mulI, ↓x_a1, ↓x_a2, ↓x_var0, ↓x_varS, Option.some.injEq, D.bl.injEq, D.int.injEq, D.str.injEq, D.tup.injEq, D.lst.injEq, List.cons.injEq, and_true, true_and, List.set_cons_zero, List.set_cons_succ]
    refine lc_on (F := D.int) (fun x : Int => some (D.str (oneL x))) (by simp [seqOf]) (by omega) (fun x hx acc R' hac hR' => ⟨_, x_bnm, ?_⟩) ?_
    · simp only [wipeD, ↓gB2, ↓gYes, ↓x_ixS, ↓x_var0, ↓x_varS, List.set_cons_zero, List.set_cons_succ, ↓reduceIte]
      obtain ⟨b1, b2⟩ := hM2b x hx
      obtain ⟨xn, rfl⟩ := Int.eq_ofNat_of_zero_le b1
      exact ⟨by decide +kernel, _, let_at xn (by omega), hac, hR'⟩
    rw [fm_some, x_newT]
    have hmap : M2.map (fun x => D.str (oneL x)) = (M2.map oneL).map D.str := by rw [List.map_map]; rfl
    rw [hmap]
    have ones : ∀ y ∈ M2.map oneL, y.length = 1 := fun y hy => by
      obtain ⟨x, _, rfl⟩ := List.mem_map.mp hy
      rfl
    have hsum : ((M2.map oneL).map (·.length)).sum ≤ M2.length := by
      have : ∀ l : List PySem.Str, (∀ y ∈ l, y.length = 1) → (l.map (·.length)).sum = l.length := by
        intro l
        induction l with
        | nil => intro _; rfl
        | cons y l ih =>
          intro h
          rw [List.map_cons, List.sum_cons, ih fun z hz => h z (List.mem_cons_of_mem _ hz), h y List.mem_cons_self, List.length_cons]
          omega
      rw [this _ ones, List.length_map]
      exact Nat.le_refl _
    have hjn : Txt.join (Str.ofString "") (M2.map oneL) = ofL (M2.map fun x => 97 + x.toNat) := by
      rw [← join_ones, List.map_map]; rfl
    refine ⟨_, _, _, rfl, rfl, rfl, ?_, ?_⟩
    · have z : (Str.ofString "").length = 0 := by decide +kernel
      rw [z]
      omega
    rw [hjn]
    have hjl : (ofL (M2.map fun x => 97 + x.toNat)).length = M2.length := by rw [ofL_len, List.length_map]
    simp only [↓x_i2, ↓x_lenS, ↓x_max2, ↓x_slS, Option.some.injEq, D.bl.injEq, D.int.injEq, D.str.injEq, D.tup.injEq, D.lst.injEq, List.cons.injEq, true_and, exists_eq_left']
    have hlt : R0.length + 1 < S0.length := (List.getElem?_eq_some_iff.mp hget).1
    have hget2 : (S0 ++ [some (MO.lst (M2.map D.int))])[R0.length + 1]? = some (some (MO.lst (xs.map D.str))) := by rw [List.getElem?_append_left hlt]; exact hget
    rw [hjl]
    obtain ⟨kk, hkk, hk1⟩ : ∃ kk : Nat, max ((pn : Int) + 1) ((M2.length : Int) - short * ((0 + (i : Int)) % 3)) = (kk : Int) ∧ pn + 1 ≤ kk := ⟨(max ((pn : Int) + 1) ((M2.length : Int) - short * ((0 + (i : Int)) % 3))).toNat, by omega, by omega⟩
    rw [hkk]
    have hcut : cutS (ofL (M2.map fun x => 97 + x.toNat)) none (some (kk : Int)) = ofL ((M2.map fun x => 97 + x.toNat).take kk) := str_ext (by rw [cut_to _ kk rfl, ofL_cps, ofL_cps])
    rw [hcut]
    have hnew : NmOk (ofL ((M2.map fun x => 97 + x.toNat).take kk)) ∧ (ofL ((M2.map fun x => 97 + x.toNat).take kk)).cps.toList[pn]? = some (97 + ((mv + 7 * (xs.length : Nat)) % 26).toNat) := by
      refine ⟨nm_of (by rw [List.length_take, List.length_map]; omega) (by rw [List.length_take, List.length_map]; omega) fun c hc => ?_, ?_⟩
      · obtain ⟨x, hx, rfl⟩ := List.mem_map.mp (List.mem_of_mem_take hc)
        have := hM2b x hx
        omega
      · rw [ofL_cps, List.getElem?_take, if_pos (by omega), List.getElem?_map, hM2v, ← hv, hx, Int.zero_add]; rfl
    refine ⟨x_tyO hget2, by omega, by decide, mulOk_r (by omega) (by omega), by omega, (x_app hget2).mpr ⟨by rw [List.length_map]; omega, G ++ [some (MO.lst (M2.map D.int))], xs ++ [ofL ((M2.map fun x => 97 + x.toNat).take kk)], _, _, _, _, ?_, by simp [hx], hxb.snoc hnew, rfl, rfl, rfl, rfl⟩⟩
    rw [← hS0]
    simp
  · rintro ρ S' ⟨G, xs, y7, y8, y9, y10, rfl, hx, hxb, rfl⟩
    refine ⟨trivial, ?_⟩
    rw [x_rngL] at hx
    dsimp only
    simp only [↓gRet, ↓x_var0, ↓x_varS]
    have hs2 : Sto.under (o4 :: R0).length (o4 :: R0) = true := tape_under ht4 (by simpa using hs)
    have e : (o4 :: (R0 ++ [some (MO.lst (xs.map D.str))])) ++ G = (o4 :: R0) ++ (some (MO.lst (xs.map D.str)) :: G) := by simp
    rw [e]
    exact (x_finG (S0 := o4 :: R0) hs2).mpr ⟨und_strs, hq _ o4 ⟨xs, rfl, by omega, hxb.nodup (by omega), fun x hx => by obtain ⟨j, hj⟩ := List.getElem?_of_mem hx; exact (hxb j x hj).1⟩ (ht4.mono (by omega))⟩
end
end Lw
namespace Lw
open PySem L2 Dl
section
variable {P : Program} {w : World} {K : PySem.W.Frag} {mg : Str → Option Value} {base : Heap} {a : Ad}
theorem rd_iff {C : Addr} {ks : List Str} {ds : List D} {f : Str} {d : D} {n : Nat} {S : Sto} {q : D → Sto → Prop} (hS : S[n]? = some (some (.obj C ks ds))) (hf : FldOk K C f) (hg : fget f ks ds = some d) : aFld K f (.loc n) S q ↔ q d S := by
  refine ⟨?_, fun h => ⟨C, ks, ds, d, by simp only [objOf, hS], hf, hg, h⟩⟩
  rintro ⟨C', ks', ds', d', h1, _, h3, h4⟩
  simp only [objOf, hS] at h1
  cases h1
  rw [hg] at h3
  cases h3
  exact h4
theorem nil_iff {n : Nat} {S : Sto} {ds : List D} {neg : Bool} {q : D → Sto → Prop} (h : S[n]? = some (some (.lst ds))) : aNil neg (.loc n) (.lst []) S q ↔ q (.bl (xor neg ds.isEmpty)) S := by
  have e0 : lstOf S (.loc n) = some ds := by simp only [lstOf, h]
  exact ⟨fun ⟨_, e, _, h⟩ => by rw [e0] at e; cases e; exact h, fun h => ⟨ds, e0, rfl, h⟩⟩
theorem map_emp {A B : Type} {f : A → B} {l : List A} : (l.map f).isEmpty = l.isEmpty := by cases l <;> rfl
section
variable {S : Sto} {n j : Nat} {b : Str} {R : List Rw} {q : D → Sto → Prop}
theorem bk_kept (T : Txt K mg a) (h : BkAt a S n j b R) : aFld K (Str.ofString "kept") (.loc n) S q ↔ q (.loc j) S := rd_iff h.1 T.f_Book_kept fg_Book_kept
theorem bk_nil (h : BkAt a S n j b R) {neg : Bool} : aNil neg (.loc j) (.lst []) S q ↔ q (.bl (xor neg R.isEmpty)) S := by rw [nil_iff h.2, map_emp]
theorem bk_seq (h : BkAt a S n j b R) : seqOf S (.loc j) = some (R.map rwD) := by simp only [seqOf, h.2]
theorem bk_obj (h : BkAt a S n j b R) : objOf S (.loc n) = some (a.C_Book, (["bank", "kept"] : List Str), [D.str b, D.loc j]) := by simp only [objOf, h.1]
end
theorem r_Book_init (T : Txt K mg a) : ∀ ds S q, sp_Book_init a ds S q → g_Book_init K a { nx := fun _ S' => q .non S', rt := q } (startD N_Book_init ds) S := by
  rintro ds S q ⟨S0, b, rfl, rfl, h⟩
  rw [st_Book_init]
  simp only [g_Book_init, pk_Book_bank, px_Book_bank, fg_Book_bank, T.f_Book_bank, pk_Book_kept, px_Book_kept, fg_Book_kept, T.f_Book_kept, ↓x_eqSS, ↓x_neSS, ↓gKGet, ↓x_kget, ↓x_ixE, at_last, ↓x_appE, ↓x_tyE, ↓x_itE, ↓x_lenE, ↓x_nePr, ↓x_eqPr, ↓x_neE, ↓x_lenr, ↓x_lenrI, ↓gRev, ↓x_par3, ↓x_par33, ↓x_fld, ↓x_fset, ↓x_mkF, ↓x_mk, ↓x_meth, ↓x_fldO, ↓x_fsetE, ↓x_fldE, ↓x_methO, ↓x_isiCO, ↓x_isiCN, ↓x_isiCT, ↓x_isiCLi, ↓x_isiCS, ↓x_isiCI, ↓x_own, ↓x_eqT2, ↓x_neT2, ↓x_neL4, ↓x_eqLN, ↓x_neNil, ↓x_gset, ↓x_lc, ↓x_for, ↓x_it, ↓x_rn1, ↓x_rn2, ↓x_enu, ↓x_zip, ↓x_itS, ↓x_itL, ↓x_itK, ↓x_itT, ↓x_rn1I, ↓x_rn2I, ↓x_enuL, ↓x_enuK, ↓x_zipL, ↓x_ixS0, ↓x_ixL, ↓x_ixT, ↓x_ixK, x_at0, x_at1, x_at2, x_at3, x_at4, ↓x_set00, ↓x_set01, ↓x_set02, ↓x_aug1, ↓x_aug2, ↓x_aug3, ↓x_aug4, ↓x_aug5, ↓x_aug6, ↓x_aug7, ↓x_aug8, ↓x_aug9, ↓x_aug10, ↓x_aug11, ↓x_aug12, ↓x_aug13, ↓x_aug14, ↓x_aug15, ↓x_aug16, ↓x_aug17, ↓x_aug18, ↓x_aug19, ↓x_aug20, ↓x_aug21, ↓x_aug22, ↓x_aug23, Int.reduceToNat, Int.reducePow, ↓gSeq, ↓gIfS, ↓gSet, ↓gAsg, ↓x_par, ↓x_par2, ↓gRet, ↓gRetN, ↓gNext, ↓gDrop, ↓gBreak, ↓gCont, ↓gDead, ↓gCB, ↓gB2, ↓gU, ↓gC, ↓Dl.gCons, ↓Dl.gNil, ↓Dl.gTup, ↓Dl.gLst, ↓gTest, ↓gOrB, ↓gAndB, ↓gNotB, ↓gAndV, ↓gOrV, ↓gNotV, ↓gIf, ↓gIx, ↓gSl, ↓gPart, ↓gNoP, ↓gMt, ↓gCall, ↓gArgs, ↓gIsN, ↓gNotN, ↓gChain, ↓x_fmtS, ↓x_afS, ↓x_afI, ↓x_js0, ↓x_jsc, ↓gJoined, ↓gYes, ↓x_bnm, ↓x_btp, ↓x_bn, ↓x_bc, ↓x_nnN, ↓x_nnI, ↓x_nnS, ↓x_nnB, ↓x_nnT, ↓x_nnL, ↓x_nnO, ↓x_nnl, ↓x_tyS, ↓x_tyL, ↓x_i2, ↓aSub, ↓aFdiv, ↓aMod, ↓aPow, ↓aShr, ↓aLt, ↓aLe, ↓aGt, ↓aGe, ↓x_addI, ↓x_addS, ↓x_mulI, ↓x_iaddS, ↓x_iaddI, ↓x_neg, ↓x_eqI, ↓x_neI, ↓x_eqS, ↓x_neS, ↓x_eqB, ↓x_neB, ↓x_eqNI, ↓x_neNI, ↓x_lenS, ↓x_lenL_l, ↓x_lenL_k, ↓x_lenL_t, ↓x_str, ↓x_intI, ↓x_intB, ↓x_divmod, ↓x_max2, ↓x_min2, ↓x_ixS, ↓x_slS, ↓x_slT, ↓x_slL_l, ↓x_slL_k, ↓x_inS, ↓x_newT, ↓x_newF, ↓x_si, ↓x_s1, ↓x_s0, ↓x_rpart, ↓x_part, ↓x_a1, ↓x_a2, ↓x_isiStr, ↓x_isiInt, ↓x_isiIntB, ↓x_isiIntS, ↓x_isiBB, ↓x_isiBI, ↓x_isiStrI, ↓x_isiNonI, ↓x_isiNonS, ↓x_isiT, ↓x_isiL, ↓x_var0, ↓x_varS, ↓x_ex, ↓x_aug0, gat, pick, Option.some.injEq, D.bl.injEq, D.int.injEq, D.str.injEq, D.tup.injEq, D.lst.injEq, List.cons.injEq, and_true, true_and, List.set_cons_zero, List.set_cons_succ, List.length_cons, List.length_nil, List.filterMap_cons, List.filterMap_nil, List.getElem?_cons_zero, List.getElem?_cons_succ, Option.bind_some, ↓reduceIte, if_true, if_false, Bool.false_eq_true, Bool.true_eq_false, decide_eq_true_eq, beq_self_eq_true, Bool.not_true, Bool.not_false, Bool.not_eq_true', decide_eq_false_iff_not, exists_eq_left', exists_eq_left, exists_eq, ↓x_dnT, ↓x_dnF, ↓gAsgL, ↓gMMDef, ↓gDSet, ↓gSItems, ↓x_nilL, ↓x_nilE, List.isEmpty_nil, List.isEmpty_cons, Bool.true_xor, Bool.false_xor, ↓gSortSet, ↓gLenFz, ↓gOrT, ↓gAndT, ↓gTryAs, ↓gTryO, ↓gRaise, ↓gCallX, ↓gMethX, ↓gMakeX, ↓gFldX, ↓x_inXs, Bool.false_xor, Bool.true_xor, ↓gOrS, ↓x_fmtRS, ↓x_afRS, ↓x_afRI, ↓x_stO, ↓x_zipS, ↓x_zipE, ↓x_zipSL, ↓x_zipST, ↓x_zipEL, ↓x_augix, ↓x_isB, ↓x_notB, ↓gLR1, ↓gLR2, ↓gDIxT, ↓gDGt1T, ↓gDSetT, ↓gDNewT, ↓gDIx, ↓gDGt1, ↓gDGt2, ↓gDIn, ↓gDSetd, ↓gDPop1, ↓gDPop2, ↓gTIdx, ↓gLKeys, ↓gDisp, ↓gAsgT, ↓gFldAug, ↓gts, ↓gts0, ↓gnm, ↓gfl, ↓gds, ↓x_lenSt, ↓x_enumK, ↓x_enumKL, ↓gSortK, ↓gSortKR, ↓gFrD, ↓gFzD]
  refine ⟨by decide, by decide, ?_⟩
  refine ⟨S0.length, a.C_Book, [Str.ofString "bank"], [D.str b], rfl, by rw [List.append_assoc]; simp [objOf], T.f_Book_kept, by decide, ?_⟩
  simp only [pk_Book_bank, px_Book_bank, fg_Book_bank, T.f_Book_bank, pk_Book_kept, px_Book_kept, fg_Book_kept, T.f_Book_kept, ↓x_eqSS, ↓x_neSS, ↓gKGet, ↓x_kget, ↓x_ixE, at_last, ↓x_appE, ↓x_tyE, ↓x_itE, ↓x_lenE, ↓x_nePr, ↓x_eqPr, ↓x_neE, ↓x_lenr, ↓x_lenrI, ↓gRev, ↓x_par3, ↓x_par33, ↓x_fld, ↓x_fset, ↓x_mkF, ↓x_mk, ↓x_meth, ↓x_fldO, ↓x_fsetE, ↓x_fldE, ↓x_methO, ↓x_isiCO, ↓x_isiCN, ↓x_isiCT, ↓x_isiCLi, ↓x_isiCS, ↓x_isiCI, ↓x_own, ↓x_eqT2, ↓x_neT2, ↓x_neL4, ↓x_eqLN, ↓x_neNil, ↓x_gset, ↓x_lc, ↓x_for, ↓x_it, ↓x_rn1, ↓x_rn2, ↓x_enu, ↓x_zip, ↓x_itS, ↓x_itL, ↓x_itK, ↓x_itT, ↓x_rn1I, ↓x_rn2I, ↓x_enuL, ↓x_enuK, ↓x_zipL, ↓x_ixS0, ↓x_ixL, ↓x_ixT, ↓x_ixK, x_at0, x_at1, x_at2, x_at3, x_at4, ↓x_set00, ↓x_set01, ↓x_set02, ↓x_aug1, ↓x_aug2, ↓x_aug3, ↓x_aug4, ↓x_aug5, ↓x_aug6, ↓x_aug7, ↓x_aug8, ↓x_aug9, ↓x_aug10, ↓x_aug11, ↓x_aug12, ↓x_aug13, ↓x_aug14, ↓x_aug15, ↓x_aug16, ↓x_aug17, ↓x_aug18, ↓x_aug19, ↓x_aug20, ↓x_aug21, ↓x_aug22, ↓x_aug23, Int.reduceToNat, Int.reducePow, ↓gSeq, ↓gIfS, ↓gSet, ↓gAsg, ↓x_par, ↓x_par2, ↓gRet, ↓gRetN, ↓gNext, ↓gDrop, ↓gBreak, ↓gCont, ↓gDead, ↓gCB, ↓gB2, ↓gU, ↓gC, ↓Dl.gCons, ↓Dl.gNil, ↓Dl.gTup, ↓Dl.gLst, ↓gTest, ↓gOrB, ↓gAndB, ↓gNotB, ↓gAndV, ↓gOrV, ↓gNotV, ↓gIf, ↓gIx, ↓gSl, ↓gPart, ↓gNoP, ↓gMt, ↓gCall, ↓gArgs, ↓gIsN, ↓gNotN, ↓gChain, ↓x_fmtS, ↓x_afS, ↓x_afI, ↓x_js0, ↓x_jsc, ↓gJoined, ↓gYes, ↓x_bnm, ↓x_btp, ↓x_bn, ↓x_bc, ↓x_nnN, ↓x_nnI, ↓x_nnS, ↓x_nnB, ↓x_nnT, ↓x_nnL, ↓x_nnO, ↓x_nnl, ↓x_tyS, ↓x_tyL, ↓x_i2, ↓aSub, ↓aFdiv, ↓aMod, ↓aPow, ↓aShr, ↓aLt, ↓aLe, ↓aGt, ↓aGe, ↓x_addI, ↓x_addS, ↓x_mulI, ↓x_iaddS, ↓x_iaddI, ↓x_neg, ↓x_eqI, ↓x_neI, ↓x_eqS, ↓x_neS, ↓x_eqB, ↓x_neB, ↓x_eqNI, ↓x_neNI, ↓x_lenS, ↓x_lenL_l, ↓x_lenL_k, ↓x_lenL_t, ↓x_str, ↓x_intI, ↓x_intB, ↓x_divmod, ↓x_max2, ↓x_min2, ↓x_ixS, ↓x_slS, ↓x_slT, ↓x_slL_l, ↓x_slL_k, ↓x_inS, ↓x_newT, ↓x_newF, ↓x_si, ↓x_s1, ↓x_s0, ↓x_rpart, ↓x_part, ↓x_a1, ↓x_a2, ↓x_isiStr, ↓x_isiInt, ↓x_isiIntB, ↓x_isiIntS, ↓x_isiBB, ↓x_isiBI, ↓x_isiStrI, ↓x_isiNonI, ↓x_isiNonS, ↓x_isiT, ↓x_isiL, ↓x_var0, ↓x_varS, ↓x_ex, ↓x_aug0, gat, pick, Option.some.injEq, D.bl.injEq, D.int.injEq, D.str.injEq, D.tup.injEq, D.lst.injEq, List.cons.injEq, and_true, true_and, List.set_cons_zero, List.set_cons_succ, List.length_cons, List.length_nil, List.filterMap_cons, List.filterMap_nil, List.getElem?_cons_zero, List.getElem?_cons_succ, Option.bind_some, ↓reduceIte, if_true, if_false, Bool.false_eq_true, Bool.true_eq_false, decide_eq_true_eq, beq_self_eq_true, Bool.not_true, Bool.not_false, Bool.not_eq_true', decide_eq_false_iff_not, exists_eq_left', exists_eq_left, exists_eq, ↓x_dnT, ↓x_dnF, ↓gAsgL, ↓gMMDef, ↓gDSet, ↓gSItems, ↓x_nilL, ↓x_nilE, List.isEmpty_nil, List.isEmpty_cons, Bool.true_xor, Bool.false_xor, ↓gSortSet, ↓gLenFz, ↓gOrT, ↓gAndT, ↓gTryAs, ↓gTryO, ↓gRaise, ↓gCallX, ↓gMethX, ↓gMakeX, ↓gFldX, ↓x_inXs, Bool.false_xor, Bool.true_xor, ↓gOrS, ↓x_fmtRS, ↓x_afRS, ↓x_afRI, ↓x_stO, ↓x_zipS, ↓x_zipE, ↓x_zipSL, ↓x_zipST, ↓x_zipEL, ↓x_augix, ↓x_isB, ↓x_notB, ↓gLR1, ↓gLR2, ↓gDIxT, ↓gDGt1T, ↓gDSetT, ↓gDNewT, ↓gDIx, ↓gDGt1, ↓gDGt2, ↓gDIn, ↓gDSetd, ↓gDPop1, ↓gDPop2, ↓gTIdx, ↓gLKeys, ↓gDisp, ↓gAsgT, ↓gFldAug, ↓gts, ↓gts0, ↓gnm, ↓gfl, ↓gds, ↓x_lenSt, ↓x_enumK, ↓x_enumKL, ↓gSortK, ↓gSortKR, ↓gFrD, ↓gFzD]
  have e : (S0 ++ [some (MO.obj a.C_Book [Str.ofString "bank"] [D.str b])] ++ [some (MO.lst [])]).set S0.length (some (MO.obj a.C_Book [Str.ofString "bank", Str.ofString "kept"] [D.str b, D.loc (S0 ++ [some (MO.obj a.C_Book [Str.ofString "bank"] [D.str b])]).length])) = S0 ++ bk2 a S0.length b [] := by
    rw [List.append_assoc, List.set_append_right _ _ (Nat.le_refl _)]
    simp [bk2]
  exact e ▸ h
theorem at_neg1 {R : List Rw} {r : Rw} (h : R.getLast? = some r) : atI (R.map rwD) (-1) = some (rwD r) := by
  rw [at_last, List.getLast?_map, h]
  rfl
theorem r_Book_write (T : Txt K mg a) : ∀ ds S q, sp_Book_write a ds S q → g_Book_write K a { nx := fun _ S' => q .non S', rt := q } (startD N_Book_write ds) S := by
  rintro ds S q ⟨n, j, b, R, m, w, x, rfl, hB, hR, hl, h⟩
  rw [st_Book_write]
  simp only [g_Book_write, ↓bk_kept T hB, ↓bk_nil hB, ↓x_eqSS, ↓x_neSS, ↓gKGet, ↓x_kget, ↓x_ixE, at_last, ↓x_appE, ↓x_tyE, ↓x_itE, ↓x_lenE, ↓x_nePr, ↓x_eqPr, ↓x_neE, ↓x_lenr, ↓x_lenrI, ↓gRev, ↓x_par3, ↓x_par33, ↓x_fld, ↓x_fset, ↓x_mkF, ↓x_mk, ↓x_meth, ↓x_fldO, ↓x_fsetE, ↓x_fldE, ↓x_methO, ↓x_isiCO, ↓x_isiCN, ↓x_isiCT, ↓x_isiCLi, ↓x_isiCS, ↓x_isiCI, ↓x_own, ↓x_eqT2, ↓x_neT2, ↓x_neL4, ↓x_eqLN, ↓x_neNil, ↓x_gset, ↓x_lc, ↓x_for, ↓x_it, ↓x_rn1, ↓x_rn2, ↓x_enu, ↓x_zip, ↓x_itS, ↓x_itL, ↓x_itK, ↓x_itT, ↓x_rn1I, ↓x_rn2I, ↓x_enuL, ↓x_enuK, ↓x_zipL, ↓x_ixS0, ↓x_ixL, ↓x_ixT, ↓x_ixK, x_at0, x_at1, x_at2, x_at3, x_at4, ↓x_set00, ↓x_set01, ↓x_set02, ↓x_aug1, ↓x_aug2, ↓x_aug3, ↓x_aug4, ↓x_aug5, ↓x_aug6, ↓x_aug7, ↓x_aug8, ↓x_aug9, ↓x_aug10, ↓x_aug11, ↓x_aug12, ↓x_aug13, ↓x_aug14, ↓x_aug15, ↓x_aug16, ↓x_aug17, ↓x_aug18, ↓x_aug19, ↓x_aug20, ↓x_aug21, ↓x_aug22, ↓x_aug23, Int.reduceToNat, Int.reducePow, ↓gSeq, ↓gIfS, ↓gSet, ↓gAsg, ↓x_par, ↓x_par2, ↓gRet, ↓gRetN, ↓gNext, ↓gDrop, ↓gBreak, ↓gCont, ↓gDead, ↓gCB, ↓gB2, ↓gU, ↓gC, ↓Dl.gCons, ↓Dl.gNil, ↓Dl.gTup, ↓Dl.gLst, ↓gTest, ↓gOrB, ↓gAndB, ↓gNotB, ↓gAndV, ↓gOrV, ↓gNotV, ↓gIf, ↓gIx, ↓gSl, ↓gPart, ↓gNoP, ↓gMt, ↓gCall, ↓gArgs, ↓gIsN, ↓gNotN, ↓gChain, ↓x_fmtS, ↓x_afS, ↓x_afI, ↓x_js0, ↓x_jsc, ↓gJoined, ↓gYes, ↓x_bnm, ↓x_btp, ↓x_bn, ↓x_bc, ↓x_nnN, ↓x_nnI, ↓x_nnS, ↓x_nnB, ↓x_nnT, ↓x_nnL, ↓x_nnO, ↓x_nnl, ↓x_tyS, ↓x_tyL, ↓x_i2, ↓aSub, ↓aFdiv, ↓aMod, ↓aPow, ↓aShr, ↓aLt, ↓aLe, ↓aGt, ↓aGe, ↓x_addI, ↓x_addS, ↓x_mulI, ↓x_iaddS, ↓x_iaddI, ↓x_neg, ↓x_eqI, ↓x_neI, ↓x_eqS, ↓x_neS, ↓x_eqB, ↓x_neB, ↓x_eqNI, ↓x_neNI, ↓x_lenS, ↓x_lenL_l, ↓x_lenL_k, ↓x_lenL_t, ↓x_str, ↓x_intI, ↓x_intB, ↓x_divmod, ↓x_max2, ↓x_min2, ↓x_ixS, ↓x_slS, ↓x_slT, ↓x_slL_l, ↓x_slL_k, ↓x_inS, ↓x_newT, ↓x_newF, ↓x_si, ↓x_s1, ↓x_s0, ↓x_rpart, ↓x_part, ↓x_a1, ↓x_a2, ↓x_isiStr, ↓x_isiInt, ↓x_isiIntB, ↓x_isiIntS, ↓x_isiBB, ↓x_isiBI, ↓x_isiStrI, ↓x_isiNonI, ↓x_isiNonS, ↓x_isiT, ↓x_isiL, ↓x_var0, ↓x_varS, ↓x_ex, ↓x_aug0, gat, pick, Option.some.injEq, D.bl.injEq, D.int.injEq, D.str.injEq, D.tup.injEq, D.lst.injEq, List.cons.injEq, and_true, true_and, List.set_cons_zero, List.set_cons_succ, List.length_cons, List.length_nil, List.filterMap_cons, List.filterMap_nil, List.getElem?_cons_zero, List.getElem?_cons_succ, Option.bind_some, ↓reduceIte, if_true, if_false, Bool.false_eq_true, Bool.true_eq_false, decide_eq_true_eq, beq_self_eq_true, Bool.not_true, Bool.not_false, Bool.not_eq_true', decide_eq_false_iff_not, exists_eq_left', exists_eq_left, exists_eq, ↓x_dnT, ↓x_dnF, ↓gAsgL, ↓gMMDef, ↓gDSet, ↓gSItems, ↓x_nilL, ↓x_nilE, List.isEmpty_nil, List.isEmpty_cons, Bool.true_xor, Bool.false_xor, ↓gSortSet, ↓gLenFz, ↓gOrT, ↓gAndT, ↓gTryAs, ↓gTryO, ↓gRaise, ↓gCallX, ↓gMethX, ↓gMakeX, ↓gFldX, ↓x_inXs, Bool.false_xor, Bool.true_xor, ↓gOrS, ↓x_fmtRS, ↓x_afRS, ↓x_afRI, ↓x_stO, ↓x_zipS, ↓x_zipE, ↓x_zipSL, ↓x_zipST, ↓x_zipEL, ↓x_augix, ↓x_isB, ↓x_notB, ↓gLR1, ↓gLR2, ↓gDIxT, ↓gDGt1T, ↓gDSetT, ↓gDNewT, ↓gDIx, ↓gDGt1, ↓gDGt2, ↓gDIn, ↓gDSetd, ↓gDPop1, ↓gDPop2, ↓gTIdx, ↓gLKeys, ↓gDisp, ↓gAsgT, ↓gFldAug, ↓gts, ↓gts0, ↓gnm, ↓gfl, ↓gds, ↓x_lenSt, ↓x_enumK, ↓x_enumKL, ↓gSortK, ↓gSortKR, ↓gFrD, ↓gFzD]
  have put : isTy "list" S (D.loc j) = true ∧ 0 + 1 + 1 + 1 ≤ sizeLine ∧ aAppend (D.loc j) [D.tup [D.int ↑m, D.str w, D.str x]] S fun x S1 => q D.non S1 := by
    refine ⟨x_tyO hB.2, by decide, (x_app hB.2).mpr ⟨by rw [List.length_map]; exact Nat.lt_of_le_of_lt hR (by decide), ?_⟩⟩
    have e : R.map rwD ++ [D.tup [D.int ↑m, D.str w, D.str x]] = (R ++ [Rw.mk m w x]).map rwD := by simp
    rw [e]
    exact h
  refine ⟨by decide, ?_⟩
  split
  · rename_i hne
    obtain ⟨r, hr⟩ : ∃ r, R.getLast? = some r := by
      cases R with
      | nil => cases hne
      | cons y l => exact ⟨(y :: l).getLast (by simp), List.getLast?_eq_some_getLast (by simp)⟩
    refine (x_ix (bk_seq hB) (e := rwD r) (at_neg1 hr)).mpr ?_
    simp only [↓x_eqSS, ↓x_neSS, ↓gKGet, ↓x_kget, ↓x_ixE, at_last, ↓x_appE, ↓x_tyE, ↓x_itE, ↓x_lenE, ↓x_nePr, ↓x_eqPr, ↓x_neE, ↓x_lenr, ↓x_lenrI, ↓gRev, ↓x_par3, ↓x_par33, ↓x_fld, ↓x_fset, ↓x_mkF, ↓x_mk, ↓x_meth, ↓x_fldO, ↓x_fsetE, ↓x_fldE, ↓x_methO, ↓x_isiCO, ↓x_isiCN, ↓x_isiCT, ↓x_isiCLi, ↓x_isiCS, ↓x_isiCI, ↓x_own, ↓x_eqT2, ↓x_neT2, ↓x_neL4, ↓x_eqLN, ↓x_neNil, ↓x_gset, ↓x_lc, ↓x_for, ↓x_it, ↓x_rn1, ↓x_rn2, ↓x_enu, ↓x_zip, ↓x_itS, ↓x_itL, ↓x_itK, ↓x_itT, ↓x_rn1I, ↓x_rn2I, ↓x_enuL, ↓x_enuK, ↓x_zipL, ↓x_ixS0, ↓x_ixL, ↓x_ixT, ↓x_ixK, x_at0, x_at1, x_at2, x_at3, x_at4, ↓x_set00, ↓x_set01, ↓x_set02, ↓x_aug1, ↓x_aug2, ↓x_aug3, ↓x_aug4, ↓x_aug5, ↓x_aug6, ↓x_aug7, ↓x_aug8, ↓x_aug9, ↓x_aug10, ↓x_aug11, ↓x_aug12, ↓x_aug13, ↓x_aug14, ↓x_aug15, ↓x_aug16, ↓x_aug17, ↓x_aug18, ↓x_aug19, ↓x_aug20, ↓x_aug21, ↓x_aug22, ↓x_aug23, Int.reduceToNat, Int.reducePow, ↓gSeq, ↓gIfS, ↓gSet, ↓gAsg, ↓x_par, ↓x_par2, ↓gRet, ↓gRetN, ↓gNext, ↓gDrop, ↓gBreak, ↓gCont, ↓gDead, ↓gCB, ↓gB2, ↓gU, ↓gC, ↓Dl.gCons, ↓Dl.gNil, ↓Dl.gTup, ↓Dl.gLst, ↓gTest, ↓gOrB, ↓gAndB, ↓gNotB, ↓gAndV, ↓gOrV, ↓gNotV, ↓gIf, ↓gIx, ↓gSl, ↓gPart, ↓gNoP, ↓gMt, ↓gCall, ↓gArgs, ↓gIsN, ↓gNotN, ↓gChain, ↓x_fmtS, ↓x_afS, ↓x_afI, ↓x_js0, ↓x_jsc, ↓gJoined, ↓gYes, ↓x_bnm, ↓x_btp, ↓x_bn, ↓x_bc, ↓x_nnN, ↓x_nnI, ↓x_nnS, ↓x_nnB, ↓x_nnT, ↓x_nnL, ↓x_nnO, ↓x_nnl, ↓x_tyS, ↓x_tyL, ↓x_i2, ↓aSub, ↓aFdiv, ↓aMod, ↓aPow, ↓aShr, ↓aLt, ↓aLe, ↓aGt, ↓aGe, ↓x_addI, ↓x_addS, ↓x_mulI, ↓x_iaddS, ↓x_iaddI, ↓x_neg, ↓x_eqI, ↓x_neI, ↓x_eqS, ↓x_neS, ↓x_eqB, ↓x_neB, ↓x_eqNI, ↓x_neNI, ↓x_lenS, ↓x_lenL_l, ↓x_lenL_k, ↓x_lenL_t, ↓x_str, ↓x_intI, ↓x_intB, ↓x_divmod, ↓x_max2, ↓x_min2, ↓x_ixS, ↓x_slS, ↓x_slT, ↓x_slL_l, ↓x_slL_k, ↓x_inS, ↓x_newT, ↓x_newF, ↓x_si, ↓x_s1, ↓x_s0, ↓x_rpart, ↓x_part, ↓x_a1, ↓x_a2, ↓x_isiStr, ↓x_isiInt, ↓x_isiIntB, ↓x_isiIntS, ↓x_isiBB, ↓x_isiBI, ↓x_isiStrI, ↓x_isiNonI, ↓x_isiNonS, ↓x_isiT, ↓x_isiL, ↓x_var0, ↓x_varS, ↓x_ex, ↓x_aug0, gat, pick, Option.some.injEq, D.bl.injEq, D.int.injEq, D.str.injEq, D.tup.injEq, D.lst.injEq, List.cons.injEq, and_true, true_and, List.set_cons_zero, List.set_cons_succ, List.length_cons, List.length_nil, List.filterMap_cons, List.filterMap_nil, List.getElem?_cons_zero, List.getElem?_cons_succ, Option.bind_some, ↓reduceIte, if_true, if_false, Bool.false_eq_true, Bool.true_eq_false, decide_eq_true_eq, beq_self_eq_true, Bool.not_true, Bool.not_false, Bool.not_eq_true', decide_eq_false_iff_not, exists_eq_left', exists_eq_left, exists_eq, ↓x_dnT, ↓x_dnF, ↓gAsgL, ↓gMMDef, ↓gDSet, ↓gSItems, ↓x_nilL, ↓x_nilE, List.isEmpty_nil, List.isEmpty_cons, Bool.true_xor, Bool.false_xor, ↓gSortSet, ↓gLenFz, ↓gOrT, ↓gAndT, ↓gTryAs, ↓gTryO, ↓gRaise, ↓gCallX, ↓gMethX, ↓gMakeX, ↓gFldX, ↓x_inXs, Bool.false_xor, Bool.true_xor, ↓gOrS, ↓x_fmtRS, ↓x_afRS, ↓x_afRI, ↓x_stO, ↓x_zipS, ↓x_zipE, ↓x_zipSL, ↓x_zipST, ↓x_zipEL, ↓x_augix, ↓x_isB, ↓x_notB, ↓gLR1, ↓gLR2, ↓gDIxT, ↓gDGt1T, ↓gDSetT, ↓gDNewT, ↓gDIx, ↓gDGt1, ↓gDGt2, ↓gDIn, ↓gDSetd, ↓gDPop1, ↓gDPop2, ↓gTIdx, ↓gLKeys, ↓gDisp, ↓gAsgT, ↓gFldAug, ↓gts, ↓gts0, ↓gnm, ↓gfl, ↓gds, ↓x_lenSt, ↓x_enumK, ↓x_enumKL, ↓gSortK, ↓gSortKR, ↓gFrD, ↓gFzD]
    have := hl r hr
    rw [if_neg (by omega)]
    simp only [↓bk_kept T hB]
    exact put
  · exact put
theorem und_rw {n : Nat} : ∀ {R : List Rw}, D.unders n (R.map rwD) = true
  | [] => rfl
  | r :: R => by
    have ih := und_rw (n := n) (R := R)
    simp [D.unders, D.under, ih]
section
variable {S : Sto} {b : Str} {R : List Rw} {q : D → Sto → Prop}
theorem bv_bank (T : Txt K mg a) : aFld K (Str.ofString "bank") (bkV a b R) S q ↔ q (.str b) S := by rw [x_fldO T.f_Book_bank, fg_Book_bank]; simp
theorem bv_kept (T : Txt K mg a) : aFld K (Str.ofString "kept") (bkV a b R) S q ↔ q (.lst (R.map rwD)) S := by rw [x_fldO T.f_Book_kept, fg_Book_kept]; simp
end
theorem rf_Book_rows (T : Txt K mg a) : ∀ ds S q, D.unders S.length ds = true → Sto.under S.length S = true → sp_Book_rows a ds S q → g_Book_rows K a { nx := fun _ S' => fin S.length q .non S', rt := fin S.length q } (startD N_Book_rows ds) S := by
  rintro ds S q hu hs ⟨b, R, rfl, hR, h⟩
  rw [st_Book_rows]
  simp only [g_Book_rows, ↓bv_kept T, ↓x_eqSS, ↓x_neSS, ↓gKGet, ↓x_kget, ↓x_ixE, at_last, ↓x_appE, ↓x_tyE, ↓x_itE, ↓x_lenE, ↓x_nePr, ↓x_eqPr, ↓x_neE, ↓x_lenr, ↓x_lenrI, ↓gRev, ↓x_par3, ↓x_par33, ↓x_fld, ↓x_fset, ↓x_mkF, ↓x_mk, ↓x_meth, ↓x_fldO, ↓x_fsetE, ↓x_fldE, ↓x_methO, ↓x_isiCO, ↓x_isiCN, ↓x_isiCT, ↓x_isiCLi, ↓x_isiCS, ↓x_isiCI, ↓x_own, ↓x_eqT2, ↓x_neT2, ↓x_neL4, ↓x_eqLN, ↓x_neNil, ↓x_gset, ↓x_lc, ↓x_for, ↓x_it, ↓x_rn1, ↓x_rn2, ↓x_enu, ↓x_zip, ↓x_itS, ↓x_itL, ↓x_itK, ↓x_itT, ↓x_rn1I, ↓x_rn2I, ↓x_enuL, ↓x_enuK, ↓x_zipL, ↓x_ixS0, ↓x_ixL, ↓x_ixT, ↓x_ixK, x_at0, x_at1, x_at2, x_at3, x_at4, ↓x_set00, ↓x_set01, ↓x_set02, ↓x_aug1, ↓x_aug2, ↓x_aug3, ↓x_aug4, ↓x_aug5, ↓x_aug6, ↓x_aug7, ↓x_aug8, ↓x_aug9, ↓x_aug10, ↓x_aug11, ↓x_aug12, ↓x_aug13, ↓x_aug14, ↓x_aug15, ↓x_aug16, ↓x_aug17, ↓x_aug18, ↓x_aug19, ↓x_aug20, ↓x_aug21, ↓x_aug22, ↓x_aug23, Int.reduceToNat, Int.reducePow, ↓gSeq, ↓gIfS, ↓gSet, ↓gAsg, ↓x_par, ↓x_par2, ↓gRet, ↓gRetN, ↓gNext, ↓gDrop, ↓gBreak, ↓gCont, ↓gDead, ↓gCB, ↓gB2, ↓gU, ↓gC, ↓Dl.gCons, ↓Dl.gNil, ↓Dl.gTup, ↓Dl.gLst, ↓gTest, ↓gOrB, ↓gAndB, ↓gNotB, ↓gAndV, ↓gOrV, ↓gNotV, ↓gIf, ↓gIx, ↓gSl, ↓gPart, ↓gNoP, ↓gMt, ↓gCall, ↓gArgs, ↓gIsN, ↓gNotN, ↓gChain, ↓x_fmtS, ↓x_afS, ↓x_afI, ↓x_js0, ↓x_jsc, ↓gJoined, ↓gYes, ↓x_bnm, ↓x_btp, ↓x_bn, ↓x_bc, ↓x_nnN, ↓x_nnI, ↓x_nnS, ↓x_nnB, ↓x_nnT, ↓x_nnL, ↓x_nnO, ↓x_nnl, ↓x_tyS, ↓x_tyL, ↓x_i2, ↓aSub, ↓aFdiv, ↓aMod, ↓aPow, ↓aShr, ↓aLt, ↓aLe, ↓aGt, ↓aGe, ↓x_addI, ↓x_addS, ↓x_mulI, ↓x_iaddS, ↓x_iaddI, ↓x_neg, ↓x_eqI, ↓x_neI, ↓x_eqS, ↓x_neS, ↓x_eqB, ↓x_neB, ↓x_eqNI, ↓x_neNI, ↓x_lenS, ↓x_lenL_l, ↓x_lenL_k, ↓x_lenL_t, ↓x_str, ↓x_intI, ↓x_intB, ↓x_divmod, ↓x_max2, ↓x_min2, ↓x_ixS, ↓x_slS, ↓x_slT, ↓x_slL_l, ↓x_slL_k, ↓x_inS, ↓x_newT, ↓x_newF, ↓x_si, ↓x_s1, ↓x_s0, ↓x_rpart, ↓x_part, ↓x_a1, ↓x_a2, ↓x_isiStr, ↓x_isiInt, ↓x_isiIntB, ↓x_isiIntS, ↓x_isiBB, ↓x_isiBI, ↓x_isiStrI, ↓x_isiNonI, ↓x_isiNonS, ↓x_isiT, ↓x_isiL, ↓x_var0, ↓x_varS, ↓x_ex, ↓x_aug0, gat, pick, Option.some.injEq, D.bl.injEq, D.int.injEq, D.str.injEq, D.tup.injEq, D.lst.injEq, List.cons.injEq, and_true, true_and, List.set_cons_zero, List.set_cons_succ, List.length_cons, List.length_nil, List.filterMap_cons, List.filterMap_nil, List.getElem?_cons_zero, List.getElem?_cons_succ, Option.bind_some, ↓reduceIte, if_true, if_false, Bool.false_eq_true, Bool.true_eq_false, decide_eq_true_eq, beq_self_eq_true, Bool.not_true, Bool.not_false, Bool.not_eq_true', decide_eq_false_iff_not, exists_eq_left', exists_eq_left, exists_eq, ↓x_dnT, ↓x_dnF, ↓gAsgL, ↓gMMDef, ↓gDSet, ↓gSItems, ↓x_nilL, ↓x_nilE, List.isEmpty_nil, List.isEmpty_cons, Bool.true_xor, Bool.false_xor, ↓gSortSet, ↓gLenFz, ↓gOrT, ↓gAndT, ↓gTryAs, ↓gTryO, ↓gRaise, ↓gCallX, ↓gMethX, ↓gMakeX, ↓gFldX, ↓x_inXs, Bool.false_xor, Bool.true_xor, ↓gOrS, ↓x_fmtRS, ↓x_afRS, ↓x_afRI, ↓x_stO, ↓x_zipS, ↓x_zipE, ↓x_zipSL, ↓x_zipST, ↓x_zipEL, ↓x_augix, ↓x_isB, ↓x_notB, ↓gLR1, ↓gLR2, ↓gDIxT, ↓gDGt1T, ↓gDSetT, ↓gDNewT, ↓gDIx, ↓gDGt1, ↓gDGt2, ↓gDIn, ↓gDSetd, ↓gDPop1, ↓gDPop2, ↓gTIdx, ↓gLKeys, ↓gDisp, ↓gAsgT, ↓gFldAug, ↓gts, ↓gts0, ↓gnm, ↓gfl, ↓gds, ↓x_lenSt, ↓x_enumK, ↓x_enumKL, ↓gSortK, ↓gSortKR, ↓gFrD, ↓gFzD]
  refine (x_list rfl).mpr ?_
  first
    | exact x_newF.mpr ((x_finE hs).mpr ⟨und_rw, h⟩)
    | (refine x_newT.mpr ?_; unfold fin; rw [List.take_length]; exact ⟨hs, by simp [D.under, und_rw], h⟩)
theorem x_b3 {ρ : Env_} {i j l : Nat} {x y z : D} : Tgt.bind (.tp [.nm i, .nm j, .nm l]) (.tup [x, y, z]) ρ = some (((ρ.set i (some x)).set j (some y)).set l (some z)) := by simp [Tgt.bind, Tgt.binds]
theorem BkAt.app {S X : Sto} {n j : Nat} {b : Str} {R : List Rw} (h : BkAt a S n j b R) : BkAt a (S ++ X) n j b R := by
  have h1 := (List.getElem?_eq_some_iff.mp h.1).1
  have h2 := (List.getElem?_eq_some_iff.mp h.2).1
  exact ⟨by rw [List.getElem?_append_left h1]; exact h.1, by rw [List.getElem?_append_left h2]; exact h.2⟩
theorem bk2_at {S X : Sto} {n : Nat} {b : Str} {R : List Rw} (e : n = S.length) : BkAt a (S ++ bk2 a n b R ++ X) n (n + 1) b R := by
  subst e
  refine BkAt.app ⟨by simp, ?_⟩
  rw [List.getElem?_append_right (by omega)]
  simp
theorem bk2_set {S X : Sto} {n : Nat} {b : Str} {R R' : List Rw} (e : n = S.length) : (S ++ bk2 a n b R ++ X).set (n + 1) (some (.lst (R'.map rwD))) = S ++ bk2 a n b R' ++ X := by
  subst e
  rw [List.append_assoc, List.set_append_right _ _ (by omega)]
  simp
theorem take_snoc {A : Type} {L : List A} {i : Nat} {x : A} (h : L[i]? = some x) : L.take (i + 1) = L.take i ++ [x] := by rw [List.take_add_one, h]; rfl
theorem x_b2 {ρ : Env_} {i j : Nat} {x y : D} : Tgt.bind (.tp [.nm i, .nm j]) (.tup [x, y]) ρ = some ((ρ.set i (some x)).set j (some y)) := by simp [Tgt.bind, Tgt.binds]
theorem rise_take {R : List Rw} {i : Nat} {r : Rw} (h : Rise R) (hr : R[i]? = some r) : ∀ r' ∈ R.take i, r'.m ≤ r.m := fun r' h' => by
  obtain ⟨k, hk, e⟩ := List.mem_iff_getElem.mp h'
  rw [List.length_take] at hk
  rw [List.getElem_take] at e
  obtain ⟨hi, e2⟩ := List.getElem?_eq_some_iff.mp hr
  have := List.pairwise_iff_getElem.mp h k i (by omega) hi (by omega)
  rwa [e, e2] at this
theorem bk_last {S : Sto} {b : Str} {R : List Rw} {n : Nat} (e : n = S.length) : BkAt a (S ++ bk2 a n b R) n (n + 1) b R := by simpa using bk2_at (a := a) (X := []) (b := b) (R := R) (S := S) e
theorem frz2 {S0 X : Sto} {n : Nat} {b : Str} {R : List Rw} (e : n = S0.length) : frzD [n, n + 1] (.loc n) (S0 ++ bk2 a n b R ++ X) = some (bkV a b R, S0 ++ [none, none] ++ X) := by
  subst e
  have e1 : (S0 ++ bk2 a S0.length b R ++ X)[S0.length]? = some (some (bkO a b (S0.length + 1))) := by simp
  have e2 : (S0 ++ bk2 a S0.length b R ++ X).set S0.length none = S0 ++ [none, some (.lst (R.map rwD))] ++ X := by
    rw [List.append_assoc, List.set_append_right _ _ (Nat.le_refl _)]
    simp
  have e3 : (S0 ++ [none, some (MO.lst (R.map rwD))] ++ X)[S0.length + 1]? = some (some (.lst (R.map rwD))) := by simp
  have e4 : (S0 ++ [none, some (MO.lst (R.map rwD))] ++ X).set (S0.length + 1) none = S0 ++ [none, none] ++ X := by
    rw [List.append_assoc, List.set_append_right _ _ (by omega)]
    simp
  simp [frzD, e1, e2, e3, e4, MO.val, D.sb, D.sbs]
theorem rf__law_book (T : Txt K mg a) : ∀ ds S q, D.unders S.length ds = true → Sto.under S.length S = true → sp__law_book a ds S q → g__law_book K a { nx := fun _ S' => fin S.length q .non S', rt := fin S.length q } (startD N__law_book ds) S := by
  rintro ds S q hu hs ⟨b, R, rfl, hO, h⟩
  rw [st__law_book]
  simp only [g__law_book, ↓x_eqSS, ↓x_neSS, ↓gKGet, ↓x_kget, ↓x_ixE, at_last, ↓x_appE, ↓x_tyE, ↓x_itE, ↓x_lenE, ↓x_nePr, ↓x_eqPr, ↓x_neE, ↓x_lenr, ↓x_lenrI, ↓gRev, ↓x_par3, ↓x_par33, ↓x_fld, ↓x_fset, ↓x_mkF, ↓x_mk, ↓x_meth, ↓x_fldO, ↓x_fsetE, ↓x_fldE, ↓x_methO, ↓x_isiCO, ↓x_isiCN, ↓x_isiCT, ↓x_isiCLi, ↓x_isiCS, ↓x_isiCI, ↓x_own, ↓x_eqT2, ↓x_neT2, ↓x_neL4, ↓x_eqLN, ↓x_neNil, ↓x_gset, ↓x_lc, ↓x_for, ↓x_it, ↓x_rn1, ↓x_rn2, ↓x_enu, ↓x_zip, ↓x_itS, ↓x_itL, ↓x_itK, ↓x_itT, ↓x_rn1I, ↓x_rn2I, ↓x_enuL, ↓x_enuK, ↓x_zipL, ↓x_ixS0, ↓x_ixL, ↓x_ixT, ↓x_ixK, x_at0, x_at1, x_at2, x_at3, x_at4, ↓x_set00, ↓x_set01, ↓x_set02, ↓x_aug1, ↓x_aug2, ↓x_aug3, ↓x_aug4, ↓x_aug5, ↓x_aug6, ↓x_aug7, ↓x_aug8, ↓x_aug9, ↓x_aug10, ↓x_aug11, ↓x_aug12, ↓x_aug13, ↓x_aug14, ↓x_aug15, ↓x_aug16, ↓x_aug17, ↓x_aug18, ↓x_aug19, ↓x_aug20, ↓x_aug21, ↓x_aug22, ↓x_aug23, Int.reduceToNat, Int.reducePow, ↓gSeq, ↓gIfS, ↓gSet, ↓gAsg, ↓x_par, ↓x_par2, ↓gRet, ↓gRetN, ↓gNext, ↓gDrop, ↓gBreak, ↓gCont, ↓gDead, ↓gCB, ↓gB2, ↓gU, ↓gC, ↓Dl.gCons, ↓Dl.gNil, ↓Dl.gTup, ↓Dl.gLst, ↓gTest, ↓gOrB, ↓gAndB, ↓gNotB, ↓gAndV, ↓gOrV, ↓gNotV, ↓gIf, ↓gIx, ↓gSl, ↓gPart, ↓gNoP, ↓gMt, ↓gCall, ↓gArgs, ↓gIsN, ↓gNotN, ↓gChain, ↓x_fmtS, ↓x_afS, ↓x_afI, ↓x_js0, ↓x_jsc, ↓gJoined, ↓gYes, ↓x_bnm, ↓x_btp, ↓x_bn, ↓x_bc, ↓x_nnN, ↓x_nnI, ↓x_nnS, ↓x_nnB, ↓x_nnT, ↓x_nnL, ↓x_nnO, ↓x_nnl, ↓x_tyS, ↓x_tyL, ↓x_i2, ↓aSub, ↓aFdiv, ↓aMod, ↓aPow, ↓aShr, ↓aLt, ↓aLe, ↓aGt, ↓aGe, ↓x_addI, ↓x_addS, ↓x_mulI, ↓x_iaddS, ↓x_iaddI, ↓x_neg, ↓x_eqI, ↓x_neI, ↓x_eqS, ↓x_neS, ↓x_eqB, ↓x_neB, ↓x_eqNI, ↓x_neNI, ↓x_lenS, ↓x_lenL_l, ↓x_lenL_k, ↓x_lenL_t, ↓x_str, ↓x_intI, ↓x_intB, ↓x_divmod, ↓x_max2, ↓x_min2, ↓x_ixS, ↓x_slS, ↓x_slT, ↓x_slL_l, ↓x_slL_k, ↓x_inS, ↓x_newT, ↓x_newF, ↓x_si, ↓x_s1, ↓x_s0, ↓x_rpart, ↓x_part, ↓x_a1, ↓x_a2, ↓x_isiStr, ↓x_isiInt, ↓x_isiIntB, ↓x_isiIntS, ↓x_isiBB, ↓x_isiBI, ↓x_isiStrI, ↓x_isiNonI, ↓x_isiNonS, ↓x_isiT, ↓x_isiL, ↓x_var0, ↓x_varS, ↓x_ex, ↓x_aug0, gat, pick, Option.some.injEq, D.bl.injEq, D.int.injEq, D.str.injEq, D.tup.injEq, D.lst.injEq, List.cons.injEq, and_true, true_and, List.set_cons_zero, List.set_cons_succ, List.length_cons, List.length_nil, List.filterMap_cons, List.filterMap_nil, List.getElem?_cons_zero, List.getElem?_cons_succ, Option.bind_some, ↓reduceIte, if_true, if_false, Bool.false_eq_true, Bool.true_eq_false, decide_eq_true_eq, beq_self_eq_true, Bool.not_true, Bool.not_false, Bool.not_eq_true', decide_eq_false_iff_not, exists_eq_left', exists_eq_left, exists_eq, ↓x_dnT, ↓x_dnF, ↓gAsgL, ↓gMMDef, ↓gDSet, ↓gSItems, ↓x_nilL, ↓x_nilE, List.isEmpty_nil, List.isEmpty_cons, Bool.true_xor, Bool.false_xor, ↓gSortSet, ↓gLenFz, ↓gOrT, ↓gAndT, ↓gTryAs, ↓gTryO, ↓gRaise, ↓gCallX, ↓gMethX, ↓gMakeX, ↓gFldX, ↓x_inXs, Bool.false_xor, Bool.true_xor, ↓gOrS, ↓x_fmtRS, ↓x_afRS, ↓x_afRI, ↓x_stO, ↓x_zipS, ↓x_zipE, ↓x_zipSL, ↓x_zipST, ↓x_zipEL, ↓x_augix, ↓x_isB, ↓x_notB, ↓gLR1, ↓gLR2, ↓gDIxT, ↓gDGt1T, ↓gDSetT, ↓gDNewT, ↓gDIx, ↓gDGt1, ↓gDGt2, ↓gDIn, ↓gDSetd, ↓gDPop1, ↓gDPop2, ↓gTIdx, ↓gLKeys, ↓gDisp, ↓gAsgT, ↓gFldAug, ↓gts, ↓gts0, ↓gnm, ↓gfl, ↓gds, ↓x_lenSt, ↓x_enumK, ↓x_enumKL, ↓gSortK, ↓gSortKR, ↓gFrD, ↓gFzD]
  refine ⟨rfl, rfl, S, b, rfl, rfl, rfl, ?_⟩
  have hr := hO.le
  refine ⟨fun i ρ S' => S' = S ++ bk2 a S.length b (R.take i) ∧ ∃ x3 x4 x5, ρ = [some (.str b), some (.lst (R.map rwD)), some (.loc S.length), x3, x4, x5], ⟨rfl, _, _, _, rfl⟩, ?_, ?_⟩
  · rintro i d ρ S' hd ⟨rfl, x3, x4, x5, rfl⟩
    rw [List.getElem?_map] at hd
    obtain ⟨r, hr, rfl⟩ := Option.map_eq_some_iff.mp hd
    refine ⟨trivial, _, x_b3, ?_⟩
    simp only [↓x_eqSS, ↓x_neSS, ↓gKGet, ↓x_kget, ↓x_ixE, at_last, ↓x_appE, ↓x_tyE, ↓x_itE, ↓x_lenE, ↓x_nePr, ↓x_eqPr, ↓x_neE, ↓x_lenr, ↓x_lenrI, ↓gRev, ↓x_par3, ↓x_par33, ↓x_fld, ↓x_fset, ↓x_mkF, ↓x_mk, ↓x_meth, ↓x_fldO, ↓x_fsetE, ↓x_fldE, ↓x_methO, ↓x_isiCO, ↓x_isiCN, ↓x_isiCT, ↓x_isiCLi, ↓x_isiCS, ↓x_isiCI, ↓x_own, ↓x_eqT2, ↓x_neT2, ↓x_neL4, ↓x_eqLN, ↓x_neNil, ↓x_gset, ↓x_lc, ↓x_for, ↓x_it, ↓x_rn1, ↓x_rn2, ↓x_enu, ↓x_zip, ↓x_itS, ↓x_itL, ↓x_itK, ↓x_itT, ↓x_rn1I, ↓x_rn2I, ↓x_enuL, ↓x_enuK, ↓x_zipL, ↓x_ixS0, ↓x_ixL, ↓x_ixT, ↓x_ixK, x_at0, x_at1, x_at2, x_at3, x_at4, ↓x_set00, ↓x_set01, ↓x_set02, ↓x_aug1, ↓x_aug2, ↓x_aug3, ↓x_aug4, ↓x_aug5, ↓x_aug6, ↓x_aug7, ↓x_aug8, ↓x_aug9, ↓x_aug10, ↓x_aug11, ↓x_aug12, ↓x_aug13, ↓x_aug14, ↓x_aug15, ↓x_aug16, ↓x_aug17, ↓x_aug18, ↓x_aug19, ↓x_aug20, ↓x_aug21, ↓x_aug22, ↓x_aug23, Int.reduceToNat, Int.reducePow, ↓gSeq, ↓gIfS, ↓gSet, ↓gAsg, ↓x_par, ↓x_par2, ↓gRet, ↓gRetN, ↓gNext, ↓gDrop, ↓gBreak, ↓gCont, ↓gDead, ↓gCB, ↓gB2, ↓gU, ↓gC, ↓Dl.gCons, ↓Dl.gNil, ↓Dl.gTup, ↓Dl.gLst, ↓gTest, ↓gOrB, ↓gAndB, ↓gNotB, ↓gAndV, ↓gOrV, ↓gNotV, ↓gIf, ↓gIx, ↓gSl, ↓gPart, ↓gNoP, ↓gMt, ↓gCall, ↓gArgs, ↓gIsN, ↓gNotN, ↓gChain, ↓x_fmtS, ↓x_afS, ↓x_afI, ↓x_js0, ↓x_jsc, ↓gJoined, ↓gYes, ↓x_bnm, ↓x_btp, ↓x_bn, ↓x_bc, ↓x_nnN, ↓x_nnI, ↓x_nnS, ↓x_nnB, ↓x_nnT, ↓x_nnL, ↓x_nnO, ↓x_nnl, ↓x_tyS, ↓x_tyL, ↓x_i2, ↓aSub, ↓aFdiv, ↓aMod, ↓aPow, ↓aShr, ↓aLt, ↓aLe, ↓aGt, ↓aGe, ↓x_addI, ↓x_addS, ↓x_mulI, ↓x_iaddS, ↓x_iaddI, ↓x_neg, ↓x_eqI, ↓x_neI, ↓x_eqS, ↓x_neS, ↓x_eqB, ↓x_neB, ↓x_eqNI, ↓x_neNI, ↓x_lenS, ↓x_lenL_l, ↓x_lenL_k, ↓x_lenL_t, ↓x_str, ↓x_intI, ↓x_intB, ↓x_divmod, ↓x_max2, ↓x_min2, ↓x_ixS, ↓x_slS, ↓x_slT, ↓x_slL_l, ↓x_slL_k, ↓x_inS, ↓x_newT, ↓x_newF, ↓x_si, ↓x_s1, ↓x_s0, ↓x_rpart, ↓x_part, ↓x_a1, ↓x_a2, ↓x_isiStr, ↓x_isiInt, ↓x_isiIntB, ↓x_isiIntS, ↓x_isiBB, ↓x_isiBI, ↓x_isiStrI, ↓x_isiNonI, ↓x_isiNonS, ↓x_isiT, ↓x_isiL, ↓x_var0, ↓x_varS, ↓x_ex, ↓x_aug0, gat, pick, Option.some.injEq, D.bl.injEq, D.int.injEq, D.str.injEq, D.tup.injEq, D.lst.injEq, List.cons.injEq, and_true, true_and, List.set_cons_zero, List.set_cons_succ, List.length_cons, List.length_nil, List.filterMap_cons, List.filterMap_nil, List.getElem?_cons_zero, List.getElem?_cons_succ, Option.bind_some, ↓reduceIte, if_true, if_false, Bool.false_eq_true, Bool.true_eq_false, decide_eq_true_eq, beq_self_eq_true, Bool.not_true, Bool.not_false, Bool.not_eq_true', decide_eq_false_iff_not, exists_eq_left', exists_eq_left, exists_eq, ↓x_dnT, ↓x_dnF, ↓gAsgL, ↓gMMDef, ↓gDSet, ↓gSItems, ↓x_nilL, ↓x_nilE, List.isEmpty_nil, List.isEmpty_cons, Bool.true_xor, Bool.false_xor, ↓gSortSet, ↓gLenFz, ↓gOrT, ↓gAndT, ↓gTryAs, ↓gTryO, ↓gRaise, ↓gCallX, ↓gMethX, ↓gMakeX, ↓gFldX, ↓x_inXs, Bool.false_xor, Bool.true_xor, ↓gOrS, ↓x_fmtRS, ↓x_afRS, ↓x_afRI, ↓x_stO, ↓x_zipS, ↓x_zipE, ↓x_zipSL, ↓x_zipST, ↓x_zipEL, ↓x_augix, ↓x_isB, ↓x_notB, ↓gLR1, ↓gLR2, ↓gDIxT, ↓gDGt1T, ↓gDSetT, ↓gDNewT, ↓gDIx, ↓gDGt1, ↓gDGt2, ↓gDIn, ↓gDSetd, ↓gDPop1, ↓gDPop2, ↓gTIdx, ↓gLKeys, ↓gDisp, ↓gAsgT, ↓gFldAug, ↓gts, ↓gts0, ↓gnm, ↓gfl, ↓gds, ↓x_lenSt, ↓x_enumK, ↓x_enumKL, ↓gSortK, ↓gSortKR, ↓gFrD, ↓gFzD]
    have hB : BkAt a (S ++ bk2 a S.length b (R.take i)) S.length (S.length + 1) b (R.take i) := bk_last rfl
    refine ⟨_, _, bk_obj hB, by decide +kernel, _, _, b, R.take i, r.m, r.w, r.n, rfl, hB, by rw [List.length_take]; omega, fun r' h' => ?_, ?_⟩
    · exact rise_take hO.ri hr r' (List.mem_of_getLast? h')
    · have e := bk2_set (a := a) (X := []) (b := b) (R := R.take i) (R' := R.take i ++ [Rw.mk r.m r.w r.n]) (S := S) rfl
      rw [List.append_nil, List.append_nil] at e
      rw [e, take_snoc hr]
      exact ⟨rfl, _, _, _, rfl, rfl, rfl⟩
  · rintro ρ S' ⟨rfl, x3, x4, x5, rfl⟩
    refine ⟨trivial, ?_⟩
    rw [List.length_map, List.take_length]
    simp only [↓x_eqSS, ↓x_neSS, ↓gKGet, ↓x_kget, ↓x_ixE, at_last, ↓x_appE, ↓x_tyE, ↓x_itE, ↓x_lenE, ↓x_nePr, ↓x_eqPr, ↓x_neE, ↓x_lenr, ↓x_lenrI, ↓gRev, ↓x_par3, ↓x_par33, ↓x_fld, ↓x_fset, ↓x_mkF, ↓x_mk, ↓x_meth, ↓x_fldO, ↓x_fsetE, ↓x_fldE, ↓x_methO, ↓x_isiCO, ↓x_isiCN, ↓x_isiCT, ↓x_isiCLi, ↓x_isiCS, ↓x_isiCI, ↓x_own, ↓x_eqT2, ↓x_neT2, ↓x_neL4, ↓x_eqLN, ↓x_neNil, ↓x_gset, ↓x_lc, ↓x_for, ↓x_it, ↓x_rn1, ↓x_rn2, ↓x_enu, ↓x_zip, ↓x_itS, ↓x_itL, ↓x_itK, ↓x_itT, ↓x_rn1I, ↓x_rn2I, ↓x_enuL, ↓x_enuK, ↓x_zipL, ↓x_ixS0, ↓x_ixL, ↓x_ixT, ↓x_ixK, x_at0, x_at1, x_at2, x_at3, x_at4, ↓x_set00, ↓x_set01, ↓x_set02, ↓x_aug1, ↓x_aug2, ↓x_aug3, ↓x_aug4, ↓x_aug5, ↓x_aug6, ↓x_aug7, ↓x_aug8, ↓x_aug9, ↓x_aug10, ↓x_aug11, ↓x_aug12, ↓x_aug13, ↓x_aug14, ↓x_aug15, ↓x_aug16, ↓x_aug17, ↓x_aug18, ↓x_aug19, ↓x_aug20, ↓x_aug21, ↓x_aug22, ↓x_aug23, Int.reduceToNat, Int.reducePow, ↓gSeq, ↓gIfS, ↓gSet, ↓gAsg, ↓x_par, ↓x_par2, ↓gRet, ↓gRetN, ↓gNext, ↓gDrop, ↓gBreak, ↓gCont, ↓gDead, ↓gCB, ↓gB2, ↓gU, ↓gC, ↓Dl.gCons, ↓Dl.gNil, ↓Dl.gTup, ↓Dl.gLst, ↓gTest, ↓gOrB, ↓gAndB, ↓gNotB, ↓gAndV, ↓gOrV, ↓gNotV, ↓gIf, ↓gIx, ↓gSl, ↓gPart, ↓gNoP, ↓gMt, ↓gCall, ↓gArgs, ↓gIsN, ↓gNotN, ↓gChain, ↓x_fmtS, ↓x_afS, ↓x_afI, ↓x_js0, ↓x_jsc, ↓gJoined, ↓gYes, ↓x_bnm, ↓x_btp, ↓x_bn, ↓x_bc, ↓x_nnN, ↓x_nnI, ↓x_nnS, ↓x_nnB, ↓x_nnT, ↓x_nnL, ↓x_nnO, ↓x_nnl, ↓x_tyS, ↓x_tyL, ↓x_i2, ↓aSub, ↓aFdiv, ↓aMod, ↓aPow, ↓aShr, ↓aLt, ↓aLe, ↓aGt, ↓aGe, ↓x_addI, ↓x_addS, ↓x_mulI, ↓x_iaddS, ↓x_iaddI, ↓x_neg, ↓x_eqI, ↓x_neI, ↓x_eqS, ↓x_neS, ↓x_eqB, ↓x_neB, ↓x_eqNI, ↓x_neNI, ↓x_lenS, ↓x_lenL_l, ↓x_lenL_k, ↓x_lenL_t, ↓x_str, ↓x_intI, ↓x_intB, ↓x_divmod, ↓x_max2, ↓x_min2, ↓x_ixS, ↓x_slS, ↓x_slT, ↓x_slL_l, ↓x_slL_k, ↓x_inS, ↓x_newT, ↓x_newF, ↓x_si, ↓x_s1, ↓x_s0, ↓x_rpart, ↓x_part, ↓x_a1, ↓x_a2, ↓x_isiStr, ↓x_isiInt, ↓x_isiIntB, ↓x_isiIntS, ↓x_isiBB, ↓x_isiBI, ↓x_isiStrI, ↓x_isiNonI, ↓x_isiNonS, ↓x_isiT, ↓x_isiL, ↓x_var0, ↓x_varS, ↓x_ex, ↓x_aug0, gat, pick, Option.some.injEq, D.bl.injEq, D.int.injEq, D.str.injEq, D.tup.injEq, D.lst.injEq, List.cons.injEq, and_true, true_and, List.set_cons_zero, List.set_cons_succ, List.length_cons, List.length_nil, List.filterMap_cons, List.filterMap_nil, List.getElem?_cons_zero, List.getElem?_cons_succ, Option.bind_some, ↓reduceIte, if_true, if_false, Bool.false_eq_true, Bool.true_eq_false, decide_eq_true_eq, beq_self_eq_true, Bool.not_true, Bool.not_false, Bool.not_eq_true', decide_eq_false_iff_not, exists_eq_left', exists_eq_left, exists_eq, ↓x_dnT, ↓x_dnF, ↓gAsgL, ↓gMMDef, ↓gDSet, ↓gSItems, ↓x_nilL, ↓x_nilE, List.isEmpty_nil, List.isEmpty_cons, Bool.true_xor, Bool.false_xor, ↓gSortSet, ↓gLenFz, ↓gOrT, ↓gAndT, ↓gTryAs, ↓gTryO, ↓gRaise, ↓gCallX, ↓gMethX, ↓gMakeX, ↓gFldX, ↓x_inXs, Bool.false_xor, Bool.true_xor, ↓gOrS, ↓x_fmtRS, ↓x_afRS, ↓x_afRI, ↓x_stO, ↓x_zipS, ↓x_zipE, ↓x_zipSL, ↓x_zipST, ↓x_zipEL, ↓x_augix, ↓x_isB, ↓x_notB, ↓gLR1, ↓gLR2, ↓gDIxT, ↓gDGt1T, ↓gDSetT, ↓gDNewT, ↓gDIx, ↓gDGt1, ↓gDGt2, ↓gDIn, ↓gDSetd, ↓gDPop1, ↓gDPop2, ↓gTIdx, ↓gLKeys, ↓gDisp, ↓gAsgT, ↓gFldAug, ↓gts, ↓gts0, ↓gnm, ↓gfl, ↓gds, ↓x_lenSt, ↓x_enumK, ↓x_enumKL, ↓gSortK, ↓gSortKR, ↓gFrD, ↓gFzD]
    have e := frz2 (a := a) (X := []) (b := b) (R := R) (S0 := S) rfl
    rw [List.append_nil, List.append_nil] at e
    refine ⟨_, _, _, e, ?_⟩
    unfold fin
    rw [List.take_left]
    exact ⟨hs, (by simp [D.under, D.unders, und_rw] : D.under S.length (bkV a b R) = true), h⟩
theorem r_other_bank : ∀ ds S q, sp_other_bank a ds S q → g_other_bank K a { nx := fun _ S' => q .non S', rt := q } (startD N_other_bank ds) S := by
  rintro ds S q ⟨b, rfl, hb, h⟩
  rw [st_other_bank]
  simp only [g_other_bank, gTIdx, ↓x_eqSS, ↓x_neSS, ↓gKGet, ↓x_kget, ↓x_ixE, at_last, ↓x_appE, ↓x_tyE, ↓x_itE, ↓x_lenE, ↓x_nePr, ↓x_eqPr, ↓x_neE, ↓x_lenr, ↓x_lenrI, ↓gRev, ↓x_par3, ↓x_par33, ↓x_fld, ↓x_fset, ↓x_mkF, ↓x_mk, ↓x_meth, ↓x_fldO, ↓x_fsetE, ↓x_fldE, ↓x_methO, ↓x_isiCO, ↓x_isiCN, ↓x_isiCT, ↓x_isiCLi, ↓x_isiCS, ↓x_isiCI, ↓x_own, ↓x_eqT2, ↓x_neT2, ↓x_neL4, ↓x_eqLN, ↓x_neNil, ↓x_gset, ↓x_lc, ↓x_for, ↓x_it, ↓x_rn1, ↓x_rn2, ↓x_enu, ↓x_zip, ↓x_itS, ↓x_itL, ↓x_itK, ↓x_itT, ↓x_rn1I, ↓x_rn2I, ↓x_enuL, ↓x_enuK, ↓x_zipL, ↓x_ixS0, ↓x_ixL, ↓x_ixT, ↓x_ixK, x_at0, x_at1, x_at2, x_at3, x_at4, ↓x_set00, ↓x_set01, ↓x_set02, ↓x_aug1, ↓x_aug2, ↓x_aug3, ↓x_aug4, ↓x_aug5, ↓x_aug6, ↓x_aug7, ↓x_aug8, ↓x_aug9, ↓x_aug10, ↓x_aug11, ↓x_aug12, ↓x_aug13, ↓x_aug14, ↓x_aug15, ↓x_aug16, ↓x_aug17, ↓x_aug18, ↓x_aug19, ↓x_aug20, ↓x_aug21, ↓x_aug22, ↓x_aug23, Int.reduceToNat, Int.reducePow, ↓gSeq, ↓gIfS, ↓gSet, ↓gAsg, ↓x_par, ↓x_par2, ↓gRet, ↓gRetN, ↓gNext, ↓gDrop, ↓gBreak, ↓gCont, ↓gDead, ↓gCB, ↓gB2, ↓gU, ↓gC, ↓Dl.gCons, ↓Dl.gNil, ↓Dl.gTup, ↓Dl.gLst, ↓gTest, ↓gOrB, ↓gAndB, ↓gNotB, ↓gAndV, ↓gOrV, ↓gNotV, ↓gIf, ↓gIx, ↓gSl, ↓gPart, ↓gNoP, ↓gMt, ↓gCall, ↓gArgs, ↓gIsN, ↓gNotN, ↓gChain, ↓x_fmtS, ↓x_afS, ↓x_afI, ↓x_js0, ↓x_jsc, ↓gJoined, ↓gYes, ↓x_bnm, ↓x_btp, ↓x_bn, ↓x_bc, ↓x_nnN, ↓x_nnI, ↓x_nnS, ↓x_nnB, ↓x_nnT, ↓x_nnL, ↓x_nnO, ↓x_nnl, ↓x_tyS, ↓x_tyL, ↓x_i2, ↓aSub, ↓aFdiv, ↓aMod, ↓aPow, ↓aShr, ↓aLt, ↓aLe, ↓aGt, ↓aGe, ↓x_addI, ↓x_addS, ↓x_mulI, ↓x_iaddS, ↓x_iaddI, ↓x_neg, ↓x_eqI, ↓x_neI, ↓x_eqS, ↓x_neS, ↓x_eqB, ↓x_neB, ↓x_eqNI, ↓x_neNI, ↓x_lenS, ↓x_lenL_l, ↓x_lenL_k, ↓x_lenL_t, ↓x_str, ↓x_intI, ↓x_intB, ↓x_divmod, ↓x_max2, ↓x_min2, ↓x_ixS, ↓x_slS, ↓x_slT, ↓x_slL_l, ↓x_slL_k, ↓x_inS, ↓x_newT, ↓x_newF, ↓x_si, ↓x_s1, ↓x_s0, ↓x_rpart, ↓x_part, ↓x_a1, ↓x_a2, ↓x_isiStr, ↓x_isiInt, ↓x_isiIntB, ↓x_isiIntS, ↓x_isiBB, ↓x_isiBI, ↓x_isiStrI, ↓x_isiNonI, ↓x_isiNonS, ↓x_isiT, ↓x_isiL, ↓x_var0, ↓x_varS, ↓x_ex, ↓x_aug0, gat, pick, Option.some.injEq, D.bl.injEq, D.int.injEq, D.str.injEq, D.tup.injEq, D.lst.injEq, List.cons.injEq, and_true, true_and, List.set_cons_zero, List.set_cons_succ, List.length_cons, List.length_nil, List.filterMap_cons, List.filterMap_nil, List.getElem?_cons_zero, List.getElem?_cons_succ, Option.bind_some, ↓reduceIte, if_true, if_false, Bool.false_eq_true, Bool.true_eq_false, decide_eq_true_eq, beq_self_eq_true, Bool.not_true, Bool.not_false, Bool.not_eq_true', decide_eq_false_iff_not, exists_eq_left', exists_eq_left, exists_eq, ↓x_dnT, ↓x_dnF, ↓gAsgL, ↓gMMDef, ↓gDSet, ↓gSItems, ↓x_nilL, ↓x_nilE, List.isEmpty_nil, List.isEmpty_cons, Bool.true_xor, Bool.false_xor, ↓gSortSet, ↓gLenFz, ↓gOrT, ↓gAndT, ↓gTryAs, ↓gTryO, ↓gRaise, ↓gCallX, ↓gMethX, ↓gMakeX, ↓gFldX, ↓x_inXs, Bool.false_xor, Bool.true_xor, ↓gOrS, ↓x_fmtRS, ↓x_afRS, ↓x_afRI, ↓x_stO, ↓x_zipS, ↓x_zipE, ↓x_zipSL, ↓x_zipST, ↓x_zipEL, ↓x_augix, ↓x_isB, ↓x_notB, ↓gLR1, ↓gLR2, ↓gDIxT, ↓gDGt1T, ↓gDSetT, ↓gDNewT, ↓gDIx, ↓gDGt1, ↓gDGt2, ↓gDIn, ↓gDSetd, ↓gDPop1, ↓gDPop2, ↓gTIdx, ↓gLKeys, ↓gDisp, ↓gAsgT, ↓gFldAug, ↓gts, ↓gts0, ↓gnm, ↓gfl, ↓gds, ↓x_lenSt, ↓x_enumK, ↓x_enumKL, ↓gSortK, ↓gSortKR, ↓gFrD, ↓gFzD]
  rcases hb with rfl | rfl
  · exact ⟨_, 0, rfl, rfl, fun m hm => absurd hm (Nat.not_lt_zero _), _, rfl, h⟩
  · exact ⟨_, 1, rfl, rfl, fun m hm => by rw [show m = 0 by omega]; decide +kernel, _, rfl, h⟩
end
end Lw
namespace Dl
open PySem L2
section
variable {κ A : Type} [DecidableEq κ]
theorem get_zw {k k' : κ} {y : A} : ∀ {ks : List κ} {ds : List A}, ks.length = ds.length → dgetP k' ks (List.zipWith (fun j d => if j = k then y else d) ks ds) = if k' = k ∧ (ks.any fun j => decide (j = k)) = true then some y else dgetP k' ks ds
  | [], [], _ => by simp [dgetP]
  | j :: ks, d :: ds, h => by
    have ih := get_zw (k := k) (k' := k') (y := y) (ks := ks) (ds := ds) (by simpa using h)
    unfold dgetP at ih ⊢
    rw [List.zipWith_cons_cons, List.zip_cons_cons, List.zip_cons_cons, List.find?_cons, List.find?_cons, List.any_cons]
    by_cases c : j = k'
    · rw [show decide (j = k') = true from decide_eq_true c]
      dsimp only
      by_cases c2 : j = k
      · rw [if_pos c2, if_pos ⟨by rw [← c, c2], by simp [c2]⟩]; rfl
      · rw [if_neg c2, if_neg (fun z => c2 (by rw [c, z.1]))]
    · rw [show decide (j = k') = false from decide_eq_false c]
      dsimp only
      rw [ih]
      by_cases c2 : k' = k
      · have c3 : decide (j = k) = false := decide_eq_false fun z => c (by rw [z, c2])
        rw [c3, Bool.false_or]
      · rw [if_neg (fun z => c2 z.1), if_neg (fun z => c2 z.1)]
theorem get_none {k : κ} : ∀ {ks : List κ} {ds : List A}, (ks.any fun j => decide (j = k)) = false → dgetP k ks ds = none
  | [], _, _ => rfl
  | _ :: _, [], _ => rfl
  | j :: ks, d :: ds, h => by
    rw [List.any_cons, Bool.or_eq_false_iff] at h
    have ih := get_none (ds := ds) h.2
    unfold dgetP at ih ⊢
    rw [List.zip_cons_cons, List.find?_cons, h.1]
    exact ih
theorem get_put {k k' : κ} {y : A} {ks : List κ} {ds : List A} (h : ks.length = ds.length) : dgetP k' (kputP k ks) (dputP k y ks ds) = if k' = k then some y else dgetP k' ks ds := by
  unfold kputP dputP
  by_cases c : (ks.any fun j => decide (j = k)) = true
  · rw [if_pos c, if_pos c, get_zw h]
    by_cases c2 : k' = k
    · rw [if_pos ⟨c2, c⟩, if_pos c2]
    · rw [if_neg (fun z => c2 z.1), if_neg c2]
  · rw [if_neg c, if_neg c]
    unfold dgetP
    rw [List.zip_append h, List.find?_append]
    by_cases c2 : k' = k
    · subst c2
      have := get_none (ds := ds) (Bool.eq_false_iff.mpr c)
      unfold dgetP at this
      rw [Option.map_eq_none_iff] at this
      rw [this, if_pos rfl]
      simp
    · rw [if_neg c2]
      have : decide (k = k') = false := decide_eq_false fun z => c2 z.symm
      rw [show ([k].zip [y]).find? (fun kv => decide (kv.1 = k')) = none by simp [this]]
      simp
theorem kput_len {k : κ} {ks : List κ} : (kputP k ks).length ≤ ks.length + 1 := by
  unfold kputP
  split
  · omega
  · simp
end
theorem dget_put {k k' : Key} {y : D} {ks : List Key} {ds : List D} (h : ks.length = ds.length) : dget k' (kput k ks) (dput k y ks ds) = if k' = k then some y else dget k' ks ds := get_put (κ := Key) h
theorem kput_le {k : Key} {ks : List Key} : (kput k ks).length ≤ ks.length + 1 := kput_len (κ := Key)
end Dl
namespace Lw
open PySem L2 Dl
section
variable {P : Program} {w : World} {K : PySem.W.Frag} {mg : Str → Option Value} {base : Heap} {a : Ad}
theorem cnt_snoc (L : List Nu) (t : Nu) (n : Str) : cnt (L ++ [t]) n = cnt L n + if t.1 = n then 1 else 0 := by
  unfold cnt
  rw [List.filter_append, List.length_append]
  by_cases c : t.1 = n
  · rw [if_pos c, List.filter_cons_of_pos (by simpa using c)]; rfl
  · rw [if_neg c, List.filter_cons_of_neg (by simpa using c)]; rfl
theorem numL_snoc (w : Str) (R : List Rw) (r : Rw) : numL w (R ++ [r]) = nStep w (numL w R) r := by
  unfold numL
  rw [List.foldl_append]
  rfl
def Lows (L : List Nu) : Prop := ∀ t ∈ L, t.2.1 < cnt L t.1
theorem lows_step {w : Str} {L : List Nu} (h : Lows L) (r : Rw) : Lows (nStep w L r) := by
  unfold nStep
  split
  · intro t ht
    rw [cnt_snoc]
    rcases List.mem_append.mp ht with ht | ht
    · have := h t ht
      omega
    · rw [List.mem_singleton.mp ht]
      rw [if_pos rfl]
      exact Nat.lt_succ_self _
  · exact h
theorem lows_fold {w : Str} : ∀ (R : List Rw) {L : List Nu}, Lows L → Lows (R.foldl (nStep w) L)
  | [], _, h => h
  | r :: R, _, h => lows_fold R (lows_step h r)
theorem lows (w : Str) (R : List Rw) : Lows (numL w R) := lows_fold R fun _ z => nomatch z
theorem nKey_inj {n n' : Str} {k k' : Nat} (h : nKey n k = nKey n' k') : n = n' ∧ k = k' := by
  unfold nKey at h
  injection h with h1 h2
  injection h1 with h1
  injection h2 with h2 _
  injection h2 with h2
  exact ⟨h1, by omega⟩
theorem put_newP {κ : Type} [DecidableEq κ] {A : Type} {k : κ} {y : A} {ks : List κ} {ds : List A} (h : k ∉ ks) : kputP k ks = ks ++ [k] ∧ dputP k y ks ds = ds ++ [y] := by
  have : ¬ (ks.any fun j => decide (j = k)) = true := by
    rw [List.any_eq_true]
    rintro ⟨j, hj, e⟩
    exact h (of_decide_eq_true e ▸ hj)
  unfold kputP dputP
  rw [if_neg this, if_neg this]
  exact ⟨rfl, rfl⟩
theorem nMO_put {L : List Nu} (h : Lows L) (n : Str) (m : Nat) : nMO (L ++ [(n, cnt L n, m)]) = .dicT (kputP (nKey n (cnt L n)) (L.map fun t => nKey t.1 t.2.1)) (dputP (nKey n (cnt L n)) (.int (m : Nat)) (L.map fun t => nKey t.1 t.2.1) (L.map fun t => .int (t.2.2 : Nat))) := by
  have hn : nKey n (cnt L n) ∉ L.map fun t => nKey t.1 t.2.1 := fun z => by
    obtain ⟨t, ht, e⟩ := List.mem_map.mp z
    obtain ⟨e1, e2⟩ := nKey_inj e
    have := h t ht
    rw [e1] at this
    omega
  obtain ⟨e1, e2⟩ := put_newP (y := D.int (m : Nat)) (ds := L.map fun t : Nu => D.int (t.2.2 : Nat)) hn
  rw [e1, e2]
  unfold nMO
  rw [List.map_append, List.map_append]
  rfl
/-- the dict that counts -/
structure CtOk (L : List Nu) (ks : List Key) (ds : List D) (i : Nat) : Prop where
  len : ks.length = ds.length
  le : ks.length ≤ 2 * i
  get : ∀ n : Str, dget (.inr n) ks ds = if cnt L n = 0 then none else some (.int (cnt L n : Nat))
theorem wd_ok {x : Str} (h : WdOk x) : PyData.strOk x = true ∧ x.length ≤ 3 := by rcases h with rfl | rfl <;> decide +kernel
theorem ba_ok {x : Str} (h : BaOk x) : PyData.strOk x = true ∧ x.length ≤ 4 := by rcases h with rfl | rfl <;> decide +kernel
theorem len_fold {w : Str} : ∀ (R : List Rw) (L : List Nu), (R.foldl (nStep w) L).length ≤ L.length + R.length
  | [], _ => Nat.le_refl _
  | r :: R, L => by
    have h := len_fold (w := w) R (nStep w L r)
    have h2 : (nStep w L r).length ≤ L.length + 1 := by
      unfold nStep
      split
      · rw [List.length_append]; exact Nat.le_refl _
      · omega
    rw [List.foldl_cons, List.length_cons]
    omega
theorem num_len (w : Str) (R : List Rw) : (numL w R).length ≤ R.length := by
  have := len_fold (w := w) R []
  simpa [numL] using this
section
variable {S : Sto} {x y z : Option MO}
theorem g0 : (S ++ [x, y])[S.length]? = some x := by simp
theorem g1 : (S ++ [x, y])[S.length + 1]? = some y := by simp
theorem s0 : (S ++ [x, y]).set S.length z = S ++ [z, y] := by simp
theorem s1 : (S ++ [x, y]).set (S.length + 1) z = S ++ [x, z] := by simp
end
theorem ct_put {L : List Nu} {ks : List Key} {ds : List D} {i c : Nat} {n : Str} {m : Nat} (hl : ks.length = ds.length) (hle : ks.length ≤ 2 * i + 1) (hg : ∀ n' : Str, n' ≠ n → dget (.inr n') ks ds = if cnt L n' = 0 then none else some (.int (cnt L n' : Nat))) (hc : c = cnt L n) :
    CtOk (L ++ [(n, cnt L n, m)]) (kput (.inr n) ks) (dput (.inr n) (.int ((c : Int) + 1)) ks ds) (i + 1) := by
  refine ⟨put_len hl, Nat.le_trans kput_le (by omega), fun n' => ?_⟩
  rw [dget_put hl, cnt_snoc]
  by_cases e : n' = n
  · subst e
    rw [if_pos rfl, if_pos rfl, if_neg (by omega), hc]
    rfl
  · have e3 : (if n = n' then 1 else 0) = 0 := if_neg fun z => e z.symm
    rw [if_neg (fun z => e (Sum.inr.inj z)), hg n' e, e3, Nat.add_zero]
theorem r_numbered (T : Txt K mg a) : ∀ ds S q, sp_numbered a ds S q → g_numbered K a { nx := fun _ S' => q .non S', rt := q } (startD N_numbered ds) S := by
  rintro ds S q ⟨b, R, w, rfl, hR, hro, hw, h⟩
  rw [st_numbered]
  have hz : 2000 ≤ sizeLine := by decide
  simp only [g_numbered, ↓x_eqSS, ↓x_neSS, ↓gKGet, ↓x_kget, ↓x_ixE, at_last, ↓x_appE, ↓x_tyE, ↓x_itE, ↓x_lenE, ↓x_nePr, ↓x_eqPr, ↓x_neE, ↓x_lenr, ↓x_lenrI, ↓gRev, ↓x_par3, ↓x_par33, ↓x_fld, ↓x_fset, ↓x_mkF, ↓x_mk, ↓x_meth, ↓x_fldO, ↓x_fsetE, ↓x_fldE, ↓x_methO, ↓x_isiCO, ↓x_isiCN, ↓x_isiCT, ↓x_isiCLi, ↓x_isiCS, ↓x_isiCI, ↓x_own, ↓x_eqT2, ↓x_neT2, ↓x_neL4, ↓x_eqLN, ↓x_neNil, ↓x_gset, ↓x_lc, ↓x_for, ↓x_it, ↓x_rn1, ↓x_rn2, ↓x_enu, ↓x_zip, ↓x_itS, ↓x_itL, ↓x_itK, ↓x_itT, ↓x_rn1I, ↓x_rn2I, ↓x_enuL, ↓x_enuK, ↓x_zipL, ↓x_ixS0, ↓x_ixL, ↓x_ixT, ↓x_ixK, x_at0, x_at1, x_at2, x_at3, x_at4, ↓x_set00, ↓x_set01, ↓x_set02, ↓x_aug1, ↓x_aug2, ↓x_aug3, ↓x_aug4, ↓x_aug5, ↓x_aug6, ↓x_aug7, ↓x_aug8, ↓x_aug9, ↓x_aug10, ↓x_aug11, ↓x_aug12, ↓x_aug13, ↓x_aug14, ↓x_aug15, ↓x_aug16, ↓x_aug17, ↓x_aug18, ↓x_aug19, ↓x_aug20, ↓x_aug21, ↓x_aug22, ↓x_aug23, Int.reduceToNat, Int.reducePow, ↓gSeq, ↓gIfS, ↓gSet, ↓gAsg, ↓x_par, ↓x_par2, ↓gRet, ↓gRetN, ↓gNext, ↓gDrop, ↓gBreak, ↓gCont, ↓gDead, ↓gCB, ↓gB2, ↓gU, ↓gC, ↓Dl.gCons, ↓Dl.gNil, ↓Dl.gTup, ↓Dl.gLst, ↓gTest, ↓gOrB, ↓gAndB, ↓gNotB, ↓gAndV, ↓gOrV, ↓gNotV, ↓gIf, ↓gIx, ↓gSl, ↓gPart, ↓gNoP, ↓gMt, ↓gCall, ↓gArgs, ↓gIsN, ↓gNotN, ↓gChain, ↓x_fmtS, ↓x_afS, ↓x_afI, ↓x_js0, ↓x_jsc, ↓gJoined, ↓gYes, ↓x_bnm, ↓x_btp, ↓x_bn, ↓x_bc, ↓x_nnN, ↓x_nnI, ↓x_nnS, ↓x_nnB, ↓x_nnT, ↓x_nnL, ↓x_nnO, ↓x_nnl, ↓x_tyS, ↓x_tyL, ↓x_i2, ↓aSub, ↓aFdiv, ↓aMod, ↓aPow, ↓aShr, ↓aLt, ↓aLe, ↓aGt, ↓aGe, ↓x_addI, ↓x_addS, ↓x_mulI, ↓x_iaddS, ↓x_iaddI, ↓x_neg, ↓x_eqI, ↓x_neI, ↓x_eqS, ↓x_neS, ↓x_eqB, ↓x_neB, ↓x_eqNI, ↓x_neNI, ↓x_lenS, ↓x_lenL_l, ↓x_lenL_k, ↓x_lenL_t, ↓x_str, ↓x_intI, ↓x_intB, ↓x_divmod, ↓x_max2, ↓x_min2, ↓x_ixS, ↓x_slS, ↓x_slT, ↓x_slL_l, ↓x_slL_k, ↓x_inS, ↓x_newT, ↓x_newF, ↓x_si, ↓x_s1, ↓x_s0, ↓x_rpart, ↓x_part, ↓x_a1, ↓x_a2, ↓x_isiStr, ↓x_isiInt, ↓x_isiIntB, ↓x_isiIntS, ↓x_isiBB, ↓x_isiBI, ↓x_isiStrI, ↓x_isiNonI, ↓x_isiNonS, ↓x_isiT, ↓x_isiL, ↓x_var0, ↓x_varS, ↓x_ex, ↓x_aug0, gat, pick, Option.some.injEq, D.bl.injEq, D.int.injEq, D.str.injEq, D.tup.injEq, D.lst.injEq, List.cons.injEq, and_true, true_and, List.set_cons_zero, List.set_cons_succ, List.length_cons, List.length_nil, List.filterMap_cons, List.filterMap_nil, List.getElem?_cons_zero, List.getElem?_cons_succ, Option.bind_some, ↓reduceIte, if_true, if_false, Bool.false_eq_true, Bool.true_eq_false, decide_eq_true_eq, beq_self_eq_true, Bool.not_true, Bool.not_false, Bool.not_eq_true', decide_eq_false_iff_not, exists_eq_left', exists_eq_left, exists_eq, ↓x_dnT, ↓x_dnF, ↓gAsgL, ↓gMMDef, ↓gDSet, ↓gSItems, ↓x_nilL, ↓x_nilE, List.isEmpty_nil, List.isEmpty_cons, Bool.true_xor, Bool.false_xor, ↓gSortSet, ↓gLenFz, ↓gOrT, ↓gAndT, ↓gTryAs, ↓gTryO, ↓gRaise, ↓gCallX, ↓gMethX, ↓gMakeX, ↓gFldX, ↓x_inXs, Bool.false_xor, Bool.true_xor, ↓gOrS, ↓x_fmtRS, ↓x_afRS, ↓x_afRI, ↓x_stO, ↓x_zipS, ↓x_zipE, ↓x_zipSL, ↓x_zipST, ↓x_zipEL, ↓x_augix, ↓x_isB, ↓x_notB, ↓gLR1, ↓gLR2, ↓gDIxT, ↓gDGt1T, ↓gDSetT, ↓gDNewT, ↓gDIx, ↓gDGt1, ↓gDGt2, ↓gDIn, ↓gDSetd, ↓gDPop1, ↓gDPop2, ↓gTIdx, ↓gLKeys, ↓gDisp, ↓gAsgT, ↓gFldAug, ↓gts, ↓gts0, ↓gnm, ↓gfl, ↓gds, ↓x_lenSt, ↓x_enumK, ↓x_enumKL, ↓gSortK, ↓gSortKR, ↓gFrD, ↓gFzD]
  refine (x_methO (by decide +kernel)).mpr ⟨b, R, rfl, by omega, ?_⟩
  simp only [↓x_eqSS, ↓x_neSS, ↓gKGet, ↓x_kget, ↓x_ixE, at_last, ↓x_appE, ↓x_tyE, ↓x_itE, ↓x_lenE, ↓x_nePr, ↓x_eqPr, ↓x_neE, ↓x_lenr, ↓x_lenrI, ↓gRev, ↓x_par3, ↓x_par33, ↓x_fld, ↓x_fset, ↓x_mkF, ↓x_mk, ↓x_meth, ↓x_fldO, ↓x_fsetE, ↓x_fldE, ↓x_methO, ↓x_isiCO, ↓x_isiCN, ↓x_isiCT, ↓x_isiCLi, ↓x_isiCS, ↓x_isiCI, ↓x_own, ↓x_eqT2, ↓x_neT2, ↓x_neL4, ↓x_eqLN, ↓x_neNil, ↓x_gset, ↓x_lc, ↓x_for, ↓x_it, ↓x_rn1, ↓x_rn2, ↓x_enu, ↓x_zip, ↓x_itS, ↓x_itL, ↓x_itK, ↓x_itT, ↓x_rn1I, ↓x_rn2I, ↓x_enuL, ↓x_enuK, ↓x_zipL, ↓x_ixS0, ↓x_ixL, ↓x_ixT, ↓x_ixK, x_at0, x_at1, x_at2, x_at3, x_at4, ↓x_set00, ↓x_set01, ↓x_set02, ↓x_aug1, ↓x_aug2, ↓x_aug3, ↓x_aug4, ↓x_aug5, ↓x_aug6, ↓x_aug7, ↓x_aug8, ↓x_aug9, ↓x_aug10, ↓x_aug11, ↓x_aug12, ↓x_aug13, ↓x_aug14, ↓x_aug15, ↓x_aug16, ↓x_aug17, ↓x_aug18, ↓x_aug19, ↓x_aug20, ↓x_aug21, ↓x_aug22, ↓x_aug23, Int.reduceToNat, Int.reducePow, ↓gSeq, ↓gIfS, ↓gSet, ↓gAsg, ↓x_par, ↓x_par2, ↓gRet, ↓gRetN, ↓gNext, ↓gDrop, ↓gBreak, ↓gCont, ↓gDead, ↓gCB, ↓gB2, ↓gU, ↓gC, ↓Dl.gCons, ↓Dl.gNil, ↓Dl.gTup, ↓Dl.gLst, ↓gTest, ↓gOrB, ↓gAndB, ↓gNotB, ↓gAndV, ↓gOrV, ↓gNotV, ↓gIf, ↓gIx, ↓gSl, ↓gPart, ↓gNoP, ↓gMt, ↓gCall, ↓gArgs, ↓gIsN, ↓gNotN, ↓gChain, ↓x_fmtS, ↓x_afS, ↓x_afI, ↓x_js0, ↓x_jsc, ↓gJoined, ↓gYes, ↓x_bnm, ↓x_btp, ↓x_bn, ↓x_bc, ↓x_nnN, ↓x_nnI, ↓x_nnS, ↓x_nnB, ↓x_nnT, ↓x_nnL, ↓x_nnO, ↓x_nnl, ↓x_tyS, ↓x_tyL, ↓x_i2, ↓aSub, ↓aFdiv, ↓aMod, ↓aPow, ↓aShr, ↓aLt, ↓aLe, ↓aGt, ↓aGe, ↓x_addI, ↓x_addS, ↓x_mulI, ↓x_iaddS, ↓x_iaddI, ↓x_neg, ↓x_eqI, ↓x_neI, ↓x_eqS, ↓x_neS, ↓x_eqB, ↓x_neB, ↓x_eqNI, ↓x_neNI, ↓x_lenS, ↓x_lenL_l, ↓x_lenL_k, ↓x_lenL_t, ↓x_str, ↓x_intI, ↓x_intB, ↓x_divmod, ↓x_max2, ↓x_min2, ↓x_ixS, ↓x_slS, ↓x_slT, ↓x_slL_l, ↓x_slL_k, ↓x_inS, ↓x_newT, ↓x_newF, ↓x_si, ↓x_s1, ↓x_s0, ↓x_rpart, ↓x_part, ↓x_a1, ↓x_a2, ↓x_isiStr, ↓x_isiInt, ↓x_isiIntB, ↓x_isiIntS, ↓x_isiBB, ↓x_isiBI, ↓x_isiStrI, ↓x_isiNonI, ↓x_isiNonS, ↓x_isiT, ↓x_isiL, ↓x_var0, ↓x_varS, ↓x_ex, ↓x_aug0, gat, pick, Option.some.injEq, D.bl.injEq, D.int.injEq, D.str.injEq, D.tup.injEq, D.lst.injEq, List.cons.injEq, and_true, true_and, List.set_cons_zero, List.set_cons_succ, List.length_cons, List.length_nil, List.filterMap_cons, List.filterMap_nil, List.getElem?_cons_zero, List.getElem?_cons_succ, Option.bind_some, ↓reduceIte, if_true, if_false, Bool.false_eq_true, Bool.true_eq_false, decide_eq_true_eq, beq_self_eq_true, Bool.not_true, Bool.not_false, Bool.not_eq_true', decide_eq_false_iff_not, exists_eq_left', exists_eq_left, exists_eq, ↓x_dnT, ↓x_dnF, ↓gAsgL, ↓gMMDef, ↓gDSet, ↓gSItems, ↓x_nilL, ↓x_nilE, List.isEmpty_nil, List.isEmpty_cons, Bool.true_xor, Bool.false_xor, ↓gSortSet, ↓gLenFz, ↓gOrT, ↓gAndT, ↓gTryAs, ↓gTryO, ↓gRaise, ↓gCallX, ↓gMethX, ↓gMakeX, ↓gFldX, ↓x_inXs, Bool.false_xor, Bool.true_xor, ↓gOrS, ↓x_fmtRS, ↓x_afRS, ↓x_afRI, ↓x_stO, ↓x_zipS, ↓x_zipE, ↓x_zipSL, ↓x_zipST, ↓x_zipEL, ↓x_augix, ↓x_isB, ↓x_notB, ↓gLR1, ↓gLR2, ↓gDIxT, ↓gDGt1T, ↓gDSetT, ↓gDNewT, ↓gDIx, ↓gDGt1, ↓gDGt2, ↓gDIn, ↓gDSetd, ↓gDPop1, ↓gDPop2, ↓gTIdx, ↓gLKeys, ↓gDisp, ↓gAsgT, ↓gFldAug, ↓gts, ↓gts0, ↓gnm, ↓gfl, ↓gds, ↓x_lenSt, ↓x_enumK, ↓x_enumKL, ↓gSortK, ↓gSortKR, ↓gFrD, ↓gFzD]
  refine ⟨fun i ρ S' => ∃ ks ds x4 x5 x6 x7, S' = S ++ [some (.dic ks ds), some (nMO (numL w (R.take i)))] ∧ CtOk (numL w (R.take i)) ks ds i ∧ ρ = [some (bkV a b R), some (.str w), some (.loc S.length), some (.loc (S.length + 1)), x4, x5, x6, x7], ?_, ?_, ?_⟩
  · exact ⟨[], [], _, _, _, _, by simp [numL], ⟨rfl, Nat.zero_le _, fun n => rfl⟩, by rw [List.length_append]; rfl⟩
  · rintro i d ρ S' hd ⟨ks, ds, x4, x5, x6, x7, rfl, hc, rfl⟩
    rw [List.getElem?_map] at hd
    obtain ⟨r, hr, rfl⟩ := Option.map_eq_some_iff.mp hd
    have hi := (List.getElem?_eq_some_iff.mp hr).1
    refine ⟨trivial, _, x_b3, ?_⟩
    simp only [↓x_eqSS, ↓x_neSS, ↓gKGet, ↓x_kget, ↓x_ixE, at_last, ↓x_appE, ↓x_tyE, ↓x_itE, ↓x_lenE, ↓x_nePr, ↓x_eqPr, ↓x_neE, ↓x_lenr, ↓x_lenrI, ↓gRev, ↓x_par3, ↓x_par33, ↓x_fld, ↓x_fset, ↓x_mkF, ↓x_mk, ↓x_meth, ↓x_fldO, ↓x_fsetE, ↓x_fldE, ↓x_methO, ↓x_isiCO, ↓x_isiCN, ↓x_isiCT, ↓x_isiCLi, ↓x_isiCS, ↓x_isiCI, ↓x_own, ↓x_eqT2, ↓x_neT2, ↓x_neL4, ↓x_eqLN, ↓x_neNil, ↓x_gset, ↓x_lc, ↓x_for, ↓x_it, ↓x_rn1, ↓x_rn2, ↓x_enu, ↓x_zip, ↓x_itS, ↓x_itL, ↓x_itK, ↓x_itT, ↓x_rn1I, ↓x_rn2I, ↓x_enuL, ↓x_enuK, ↓x_zipL, ↓x_ixS0, ↓x_ixL, ↓x_ixT, ↓x_ixK, x_at0, x_at1, x_at2, x_at3, x_at4, ↓x_set00, ↓x_set01, ↓x_set02, ↓x_aug1, ↓x_aug2, ↓x_aug3, ↓x_aug4, ↓x_aug5, ↓x_aug6, ↓x_aug7, ↓x_aug8, ↓x_aug9, ↓x_aug10, ↓x_aug11, ↓x_aug12, ↓x_aug13, ↓x_aug14, ↓x_aug15, ↓x_aug16, ↓x_aug17, ↓x_aug18, ↓x_aug19, ↓x_aug20, ↓x_aug21, ↓x_aug22, ↓x_aug23, Int.reduceToNat, Int.reducePow, ↓gSeq, ↓gIfS, ↓gSet, ↓gAsg, ↓x_par, ↓x_par2, ↓gRet, ↓gRetN, ↓gNext, ↓gDrop, ↓gBreak, ↓gCont, ↓gDead, ↓gCB, ↓gB2, ↓gU, ↓gC, ↓Dl.gCons, ↓Dl.gNil, ↓Dl.gTup, ↓Dl.gLst, ↓gTest, ↓gOrB, ↓gAndB, ↓gNotB, ↓gAndV, ↓gOrV, ↓gNotV, ↓gIf, ↓gIx, ↓gSl, ↓gPart, ↓gNoP, ↓gMt, ↓gCall, ↓gArgs, ↓gIsN, ↓gNotN, ↓gChain, ↓x_fmtS, ↓x_afS, ↓x_afI, ↓x_js0, ↓x_jsc, ↓gJoined, ↓gYes, ↓x_bnm, ↓x_btp, ↓x_bn, ↓x_bc, ↓x_nnN, ↓x_nnI, ↓x_nnS, ↓x_nnB, ↓x_nnT, ↓x_nnL, ↓x_nnO, ↓x_nnl, ↓x_tyS, ↓x_tyL, ↓x_i2, ↓aSub, ↓aFdiv, ↓aMod, ↓aPow, ↓aShr, ↓aLt, ↓aLe, ↓aGt, ↓aGe, ↓x_addI, ↓x_addS, ↓x_mulI, ↓x_iaddS, ↓x_iaddI, ↓x_neg, ↓x_eqI, ↓x_neI, ↓x_eqS, ↓x_neS, ↓x_eqB, ↓x_neB, ↓x_eqNI, ↓x_neNI, ↓x_lenS, ↓x_lenL_l, ↓x_lenL_k, ↓x_lenL_t, ↓x_str, ↓x_intI, ↓x_intB, ↓x_divmod, ↓x_max2, ↓x_min2, ↓x_ixS, ↓x_slS, ↓x_slT, ↓x_slL_l, ↓x_slL_k, ↓x_inS, ↓x_newT, ↓x_newF, ↓x_si, ↓x_s1, ↓x_s0, ↓x_rpart, ↓x_part, ↓x_a1, ↓x_a2, ↓x_isiStr, ↓x_isiInt, ↓x_isiIntB, ↓x_isiIntS, ↓x_isiBB, ↓x_isiBI, ↓x_isiStrI, ↓x_isiNonI, ↓x_isiNonS, ↓x_isiT, ↓x_isiL, ↓x_var0, ↓x_varS, ↓x_ex, ↓x_aug0, gat, pick, Option.some.injEq, D.bl.injEq, D.int.injEq, D.str.injEq, D.tup.injEq, D.lst.injEq, List.cons.injEq, and_true, true_and, List.set_cons_zero, List.set_cons_succ, List.length_cons, List.length_nil, List.filterMap_cons, List.filterMap_nil, List.getElem?_cons_zero, List.getElem?_cons_succ, Option.bind_some, ↓reduceIte, if_true, if_false, Bool.false_eq_true, Bool.true_eq_false, decide_eq_true_eq, beq_self_eq_true, Bool.not_true, Bool.not_false, Bool.not_eq_true', decide_eq_false_iff_not, exists_eq_left', exists_eq_left, exists_eq, ↓x_dnT, ↓x_dnF, ↓gAsgL, ↓gMMDef, ↓gDSet, ↓gSItems, ↓x_nilL, ↓x_nilE, List.isEmpty_nil, List.isEmpty_cons, Bool.true_xor, Bool.false_xor, ↓gSortSet, ↓gLenFz, ↓gOrT, ↓gAndT, ↓gTryAs, ↓gTryO, ↓gRaise, ↓gCallX, ↓gMethX, ↓gMakeX, ↓gFldX, ↓x_inXs, Bool.false_xor, Bool.true_xor, ↓gOrS, ↓x_fmtRS, ↓x_afRS, ↓x_afRI, ↓x_stO, ↓x_zipS, ↓x_zipE, ↓x_zipSL, ↓x_zipST, ↓x_zipEL, ↓x_augix, ↓x_isB, ↓x_notB, ↓gLR1, ↓gLR2, ↓gDIxT, ↓gDGt1T, ↓gDSetT, ↓gDNewT, ↓gDIx, ↓gDGt1, ↓gDGt2, ↓gDIn, ↓gDSetd, ↓gDPop1, ↓gDPop2, ↓gTIdx, ↓gLKeys, ↓gDisp, ↓gAsgT, ↓gFldAug, ↓gts, ↓gts0, ↓gnm, ↓gfl, ↓gds, ↓x_lenSt, ↓x_enumK, ↓x_enumKL, ↓gSortK, ↓gSortKR, ↓gFrD, ↓gFzD]
    rw [take_snoc hr, numL_snoc]
    have hlow := lows w (R.take i)
    generalize hN : numL w (R.take i) = L at *
    have hLl : L.length ≤ 1000 := by
      have := num_len w (R.take i)
      rw [hN, List.length_take] at this
      omega
    have hrr := hro r (List.mem_of_getElem? hr)
    refine ⟨(wd_ok hrr.2.1).1, (wd_ok hw).1, ?_⟩
    by_cases cw : r.w = w
    rotate_left
    · rw [if_neg cw]
      have e : nStep w L r = L := if_neg cw
      rw [e]
      exact ⟨ks, ds, _, _, _, _, rfl, ⟨hc.len, by have := hc.le; omega, hc.get⟩, rfl, rfl, rfl, rfl⟩
    rw [if_pos cw]
    have e : nStep w L r = L ++ [(r.n, cnt L r.n, r.m)] := if_pos cw
    rw [e]
    have hle := hc.le
    refine ⟨⟨ks, ds, by simp only [dicOf, g0]⟩, S.length, ks, ds, _, rfl, g0, rfl, by omega, fun d hd => ?_, fun hd => ?_⟩
    · rw [hc.get r.n] at hd
      by_cases c0 : cnt L r.n = 0
      · rw [if_pos c0] at hd; cases hd
      rw [if_neg c0] at hd
      cases hd
      refine ⟨by decide, S.length + 1, _, _, _, rfl, g1, rfl, by rw [List.length_map]; omega, ?_⟩
      rw [s1]
      simp only [gDAugK, ↓x_eqSS, ↓x_neSS, ↓gKGet, ↓x_kget, ↓x_ixE, at_last, ↓x_appE, ↓x_tyE, ↓x_itE, ↓x_lenE, ↓x_nePr, ↓x_eqPr, ↓x_neE, ↓x_lenr, ↓x_lenrI, ↓gRev, ↓x_par3, ↓x_par33, ↓x_fld, ↓x_fset, ↓x_mkF, ↓x_mk, ↓x_meth, ↓x_fldO, ↓x_fsetE, ↓x_fldE, ↓x_methO, ↓x_isiCO, ↓x_isiCN, ↓x_isiCT, ↓x_isiCLi, ↓x_isiCS, ↓x_isiCI, ↓x_own, ↓x_eqT2, ↓x_neT2, ↓x_neL4, ↓x_eqLN, ↓x_neNil, ↓x_gset, ↓x_lc, ↓x_for, ↓x_it, ↓x_rn1, ↓x_rn2, ↓x_enu, ↓x_zip, ↓x_itS, ↓x_itL, ↓x_itK, ↓x_itT, ↓x_rn1I, ↓x_rn2I, ↓x_enuL, ↓x_enuK, ↓x_zipL, ↓x_ixS0, ↓x_ixL, ↓x_ixT, ↓x_ixK, x_at0, x_at1, x_at2, x_at3, x_at4, ↓x_set00, ↓x_set01, ↓x_set02, ↓x_aug1, ↓x_aug2, ↓x_aug3, ↓x_aug4, ↓x_aug5, ↓x_aug6, ↓x_aug7, ↓x_aug8, ↓x_aug9, ↓x_aug10, ↓x_aug11, ↓x_aug12, ↓x_aug13, ↓x_aug14, ↓x_aug15, ↓x_aug16, ↓x_aug17, ↓x_aug18, ↓x_aug19, ↓x_aug20, ↓x_aug21, ↓x_aug22, ↓x_aug23, Int.reduceToNat, Int.reducePow, ↓gSeq, ↓gIfS, ↓gSet, ↓gAsg, ↓x_par, ↓x_par2, ↓gRet, ↓gRetN, ↓gNext, ↓gDrop, ↓gBreak, ↓gCont, ↓gDead, ↓gCB, ↓gB2, ↓gU, ↓gC, ↓Dl.gCons, ↓Dl.gNil, ↓Dl.gTup, ↓Dl.gLst, ↓gTest, ↓gOrB, ↓gAndB, ↓gNotB, ↓gAndV, ↓gOrV, ↓gNotV, ↓gIf, ↓gIx, ↓gSl, ↓gPart, ↓gNoP, ↓gMt, ↓gCall, ↓gArgs, ↓gIsN, ↓gNotN, ↓gChain, ↓x_fmtS, ↓x_afS, ↓x_afI, ↓x_js0, ↓x_jsc, ↓gJoined, ↓gYes, ↓x_bnm, ↓x_btp, ↓x_bn, ↓x_bc, ↓x_nnN, ↓x_nnI, ↓x_nnS, ↓x_nnB, ↓x_nnT, ↓x_nnL, ↓x_nnO, ↓x_nnl, ↓x_tyS, ↓x_tyL, ↓x_i2, ↓aSub, ↓aFdiv, ↓aMod, ↓aPow, ↓aShr, ↓aLt, ↓aLe, ↓aGt, ↓aGe, ↓x_addI, ↓x_addS, ↓x_mulI, ↓x_iaddS, ↓x_iaddI, ↓x_neg, ↓x_eqI, ↓x_neI, ↓x_eqS, ↓x_neS, ↓x_eqB, ↓x_neB, ↓x_eqNI, ↓x_neNI, ↓x_lenS, ↓x_lenL_l, ↓x_lenL_k, ↓x_lenL_t, ↓x_str, ↓x_intI, ↓x_intB, ↓x_divmod, ↓x_max2, ↓x_min2, ↓x_ixS, ↓x_slS, ↓x_slT, ↓x_slL_l, ↓x_slL_k, ↓x_inS, ↓x_newT, ↓x_newF, ↓x_si, ↓x_s1, ↓x_s0, ↓x_rpart, ↓x_part, ↓x_a1, ↓x_a2, ↓x_isiStr, ↓x_isiInt, ↓x_isiIntB, ↓x_isiIntS, ↓x_isiBB, ↓x_isiBI, ↓x_isiStrI, ↓x_isiNonI, ↓x_isiNonS, ↓x_isiT, ↓x_isiL, ↓x_var0, ↓x_varS, ↓x_ex, ↓x_aug0, gat, pick, Option.some.injEq, D.bl.injEq, D.int.injEq, D.str.injEq, D.tup.injEq, D.lst.injEq, List.cons.injEq, and_true, true_and, List.set_cons_zero, List.set_cons_succ, List.length_cons, List.length_nil, List.filterMap_cons, List.filterMap_nil, List.getElem?_cons_zero, List.getElem?_cons_succ, Option.bind_some, ↓reduceIte, if_true, if_false, Bool.false_eq_true, Bool.true_eq_false, decide_eq_true_eq, beq_self_eq_true, Bool.not_true, Bool.not_false, Bool.not_eq_true', decide_eq_false_iff_not, exists_eq_left', exists_eq_left, exists_eq, ↓x_dnT, ↓x_dnF, ↓gAsgL, ↓gMMDef, ↓gDSet, ↓gSItems, ↓x_nilL, ↓x_nilE, List.isEmpty_nil, List.isEmpty_cons, Bool.true_xor, Bool.false_xor, ↓gSortSet, ↓gLenFz, ↓gOrT, ↓gAndT, ↓gTryAs, ↓gTryO, ↓gRaise, ↓gCallX, ↓gMethX, ↓gMakeX, ↓gFldX, ↓x_inXs, Bool.false_xor, Bool.true_xor, ↓gOrS, ↓x_fmtRS, ↓x_afRS, ↓x_afRI, ↓x_stO, ↓x_zipS, ↓x_zipE, ↓x_zipSL, ↓x_zipST, ↓x_zipEL, ↓x_augix, ↓x_isB, ↓x_notB, ↓gLR1, ↓gLR2, ↓gDIxT, ↓gDGt1T, ↓gDSetT, ↓gDNewT, ↓gDIx, ↓gDGt1, ↓gDGt2, ↓gDIn, ↓gDSetd, ↓gDPop1, ↓gDPop2, ↓gTIdx, ↓gLKeys, ↓gDisp, ↓gAsgT, ↓gFldAug, ↓gts, ↓gts0, ↓gnm, ↓gfl, ↓gds, ↓x_lenSt, ↓x_enumK, ↓x_enumKL, ↓gSortK, ↓gSortKR, ↓gFrD, ↓gFzD]
      refine ⟨S.length, ks, ds, _, (cnt L r.n : Int), rfl, g0, rfl, by rw [hc.get, if_neg c0], by omega, ?_⟩
      rw [s0]
      refine ⟨_, _, _, _, _, _, ?_, ct_put (i := i) hc.len (by omega) (fun n' _ => hc.get n') rfl, rfl, rfl, rfl, rfl⟩
      rw [nMO_put hlow]
      rfl
    · rw [hc.get r.n] at hd
      by_cases c0 : cnt L r.n = 0
      rotate_left
      · rw [if_neg c0] at hd; cases hd
      have hkl := kput_le (k := .inr r.n) (ks := ks)
      refine ⟨by decide, S.length + 1, _, _, _, rfl, by rw [s0]; exact g1, rfl, by rw [List.length_map]; omega, ?_⟩
      rw [s0, s1]
      simp only [gDAugK, ↓x_eqSS, ↓x_neSS, ↓gKGet, ↓x_kget, ↓x_ixE, at_last, ↓x_appE, ↓x_tyE, ↓x_itE, ↓x_lenE, ↓x_nePr, ↓x_eqPr, ↓x_neE, ↓x_lenr, ↓x_lenrI, ↓gRev, ↓x_par3, ↓x_par33, ↓x_fld, ↓x_fset, ↓x_mkF, ↓x_mk, ↓x_meth, ↓x_fldO, ↓x_fsetE, ↓x_fldE, ↓x_methO, ↓x_isiCO, ↓x_isiCN, ↓x_isiCT, ↓x_isiCLi, ↓x_isiCS, ↓x_isiCI, ↓x_own, ↓x_eqT2, ↓x_neT2, ↓x_neL4, ↓x_eqLN, ↓x_neNil, ↓x_gset, ↓x_lc, ↓x_for, ↓x_it, ↓x_rn1, ↓x_rn2, ↓x_enu, ↓x_zip, ↓x_itS, ↓x_itL, ↓x_itK, ↓x_itT, ↓x_rn1I, ↓x_rn2I, ↓x_enuL, ↓x_enuK, ↓x_zipL, ↓x_ixS0, ↓x_ixL, ↓x_ixT, ↓x_ixK, x_at0, x_at1, x_at2, x_at3, x_at4, ↓x_set00, ↓x_set01, ↓x_set02, ↓x_aug1, ↓x_aug2, ↓x_aug3, ↓x_aug4, ↓x_aug5, ↓x_aug6, ↓x_aug7, ↓x_aug8, ↓x_aug9, ↓x_aug10, ↓x_aug11, ↓x_aug12, ↓x_aug13, ↓x_aug14, ↓x_aug15, ↓x_aug16, ↓x_aug17, ↓x_aug18, ↓x_aug19, ↓x_aug20, ↓x_aug21, ↓x_aug22, ↓x_aug23, Int.reduceToNat, Int.reducePow, ↓gSeq, ↓gIfS, ↓gSet, ↓gAsg, ↓x_par, ↓x_par2, ↓gRet, ↓gRetN, ↓gNext, ↓gDrop, ↓gBreak, ↓gCont, ↓gDead, ↓gCB, ↓gB2, ↓gU, ↓gC, ↓Dl.gCons, ↓Dl.gNil, ↓Dl.gTup, ↓Dl.gLst, ↓gTest, ↓gOrB, ↓gAndB, ↓gNotB, ↓gAndV, ↓gOrV, ↓gNotV, ↓gIf, ↓gIx, ↓gSl, ↓gPart, ↓gNoP, ↓gMt, ↓gCall, ↓gArgs, ↓gIsN, ↓gNotN, ↓gChain, ↓x_fmtS, ↓x_afS, ↓x_afI, ↓x_js0, ↓x_jsc, ↓gJoined, ↓gYes, ↓x_bnm, ↓x_btp, ↓x_bn, ↓x_bc, ↓x_nnN, ↓x_nnI, ↓x_nnS, ↓x_nnB, ↓x_nnT, ↓x_nnL, ↓x_nnO, ↓x_nnl, ↓x_tyS, ↓x_tyL, ↓x_i2, ↓aSub, ↓aFdiv, ↓aMod, ↓aPow, ↓aShr, ↓aLt, ↓aLe, ↓aGt, ↓aGe, ↓x_addI, ↓x_addS, ↓x_mulI, ↓x_iaddS, ↓x_iaddI, ↓x_neg, ↓x_eqI, ↓x_neI, ↓x_eqS, ↓x_neS, ↓x_eqB, ↓x_neB, ↓x_eqNI, ↓x_neNI, ↓x_lenS, ↓x_lenL_l, ↓x_lenL_k, ↓x_lenL_t, ↓x_str, ↓x_intI, ↓x_intB, ↓x_divmod, ↓x_max2, ↓x_min2, ↓x_ixS, ↓x_slS, ↓x_slT, ↓x_slL_l, ↓x_slL_k, ↓x_inS, ↓x_newT, ↓x_newF, ↓x_si, ↓x_s1, ↓x_s0, ↓x_rpart, ↓x_part, ↓x_a1, ↓x_a2, ↓x_isiStr, ↓x_isiInt, ↓x_isiIntB, ↓x_isiIntS, ↓x_isiBB, ↓x_isiBI, ↓x_isiStrI, ↓x_isiNonI, ↓x_isiNonS, ↓x_isiT, ↓x_isiL, ↓x_var0, ↓x_varS, ↓x_ex, ↓x_aug0, gat, pick, Option.some.injEq, D.bl.injEq, D.int.injEq, D.str.injEq, D.tup.injEq, D.lst.injEq, List.cons.injEq, and_true, true_and, List.set_cons_zero, List.set_cons_succ, List.length_cons, List.length_nil, List.filterMap_cons, List.filterMap_nil, List.getElem?_cons_zero, List.getElem?_cons_succ, Option.bind_some, ↓reduceIte, if_true, if_false, Bool.false_eq_true, Bool.true_eq_false, decide_eq_true_eq, beq_self_eq_true, Bool.not_true, Bool.not_false, Bool.not_eq_true', decide_eq_false_iff_not, exists_eq_left', exists_eq_left, exists_eq, ↓x_dnT, ↓x_dnF, ↓gAsgL, ↓gMMDef, ↓gDSet, ↓gSItems, ↓x_nilL, ↓x_nilE, List.isEmpty_nil, List.isEmpty_cons, Bool.true_xor, Bool.false_xor, ↓gSortSet, ↓gLenFz, ↓gOrT, ↓gAndT, ↓gTryAs, ↓gTryO, ↓gRaise, ↓gCallX, ↓gMethX, ↓gMakeX, ↓gFldX, ↓x_inXs, Bool.false_xor, Bool.true_xor, ↓gOrS, ↓x_fmtRS, ↓x_afRS, ↓x_afRI, ↓x_stO, ↓x_zipS, ↓x_zipE, ↓x_zipSL, ↓x_zipST, ↓x_zipEL, ↓x_augix, ↓x_isB, ↓x_notB, ↓gLR1, ↓gLR2, ↓gDIxT, ↓gDGt1T, ↓gDSetT, ↓gDNewT, ↓gDIx, ↓gDGt1, ↓gDGt2, ↓gDIn, ↓gDSetd, ↓gDPop1, ↓gDPop2, ↓gTIdx, ↓gLKeys, ↓gDisp, ↓gAsgT, ↓gFldAug, ↓gts, ↓gts0, ↓gnm, ↓gfl, ↓gds, ↓x_lenSt, ↓x_enumK, ↓x_enumKL, ↓gSortK, ↓gSortKR, ↓gFrD, ↓gFzD]
      refine ⟨S.length, _, _, _, (0 : Int), rfl, g0, rfl, by rw [dget_put hc.len, if_pos rfl], by omega, ?_⟩
      rw [s0]
      have h2 := ct_put (i := i) (c := 0) (n := r.n) (m := r.m) (L := L) (ks := kput (.inr r.n) ks) (ds := dput (.inr r.n) (.int 0) ks ds) (put_len hc.len) (Nat.le_trans kput_le (by omega)) (fun n' e => by
        rw [dget_put hc.len, if_neg (fun z => e (Sum.inr.inj z)), hc.get]) c0.symm
      refine ⟨_, _, _, _, _, _, ?_, h2, rfl, rfl, rfl, rfl⟩
      rw [nMO_put hlow, c0]
      rfl
  · rintro ρ S' ⟨ks, ds, x4, x5, x6, x7, rfl, hc, rfl⟩
    refine ⟨trivial, ?_⟩
    rw [List.length_map, List.take_length]
    simp only [↓x_eqSS, ↓x_neSS, ↓gKGet, ↓x_kget, ↓x_ixE, at_last, ↓x_appE, ↓x_tyE, ↓x_itE, ↓x_lenE, ↓x_nePr, ↓x_eqPr, ↓x_neE, ↓x_lenr, ↓x_lenrI, ↓gRev, ↓x_par3, ↓x_par33, ↓x_fld, ↓x_fset, ↓x_mkF, ↓x_mk, ↓x_meth, ↓x_fldO, ↓x_fsetE, ↓x_fldE, ↓x_methO, ↓x_isiCO, ↓x_isiCN, ↓x_isiCT, ↓x_isiCLi, ↓x_isiCS, ↓x_isiCI, ↓x_own, ↓x_eqT2, ↓x_neT2, ↓x_neL4, ↓x_eqLN, ↓x_neNil, ↓x_gset, ↓x_lc, ↓x_for, ↓x_it, ↓x_rn1, ↓x_rn2, ↓x_enu, ↓x_zip, ↓x_itS, ↓x_itL, ↓x_itK, ↓x_itT, ↓x_rn1I, ↓x_rn2I, ↓x_enuL, ↓x_enuK, ↓x_zipL, ↓x_ixS0, ↓x_ixL, ↓x_ixT, ↓x_ixK, x_at0, x_at1, x_at2, x_at3, x_at4, ↓x_set00, ↓x_set01, ↓x_set02, ↓x_aug1, ↓x_aug2, ↓x_aug3, ↓x_aug4, ↓x_aug5, ↓x_aug6, ↓x_aug7, ↓x_aug8, ↓x_aug9, ↓x_aug10, ↓x_aug11, ↓x_aug12, ↓x_aug13, ↓x_aug14, ↓x_aug15, ↓x_aug16, ↓x_aug17, ↓x_aug18, ↓x_aug19, ↓x_aug20, ↓x_aug21, ↓x_aug22, ↓x_aug23, Int.reduceToNat, Int.reducePow, ↓gSeq, ↓gIfS, ↓gSet, ↓gAsg, ↓x_par, ↓x_par2, ↓gRet, ↓gRetN, ↓gNext, ↓gDrop, ↓gBreak, ↓gCont, ↓gDead, ↓gCB, ↓gB2, ↓gU, ↓gC, ↓Dl.gCons, ↓Dl.gNil, ↓Dl.gTup, ↓Dl.gLst, ↓gTest, ↓gOrB, ↓gAndB, ↓gNotB, ↓gAndV, ↓gOrV, ↓gNotV, ↓gIf, ↓gIx, ↓gSl, ↓gPart, ↓gNoP, ↓gMt, ↓gCall, ↓gArgs, ↓gIsN, ↓gNotN, ↓gChain, ↓x_fmtS, ↓x_afS, ↓x_afI, ↓x_js0, ↓x_jsc, ↓gJoined, ↓gYes, ↓x_bnm, ↓x_btp, ↓x_bn, ↓x_bc, ↓x_nnN, ↓x_nnI, ↓x_nnS, ↓x_nnB, ↓x_nnT, ↓x_nnL, ↓x_nnO, ↓x_nnl, ↓x_tyS, ↓x_tyL, ↓x_i2, ↓aSub, ↓aFdiv, ↓aMod, ↓aPow, ↓aShr, ↓aLt, ↓aLe, ↓aGt, ↓aGe, ↓x_addI, ↓x_addS, ↓x_mulI, ↓x_iaddS, ↓x_iaddI, ↓x_neg, ↓x_eqI, ↓x_neI, ↓x_eqS, ↓x_neS, ↓x_eqB, ↓x_neB, ↓x_eqNI, ↓x_neNI, ↓x_lenS, ↓x_lenL_l, ↓x_lenL_k, ↓x_lenL_t, ↓x_str, ↓x_intI, ↓x_intB, ↓x_divmod, ↓x_max2, ↓x_min2, ↓x_ixS, ↓x_slS, ↓x_slT, ↓x_slL_l, ↓x_slL_k, ↓x_inS, ↓x_newT, ↓x_newF, ↓x_si, ↓x_s1, ↓x_s0, ↓x_rpart, ↓x_part, ↓x_a1, ↓x_a2, ↓x_isiStr, ↓x_isiInt, ↓x_isiIntB, ↓x_isiIntS, ↓x_isiBB, ↓x_isiBI, ↓x_isiStrI, ↓x_isiNonI, ↓x_isiNonS, ↓x_isiT, ↓x_isiL, ↓x_var0, ↓x_varS, ↓x_ex, ↓x_aug0, gat, pick, Option.some.injEq, D.bl.injEq, D.int.injEq, D.str.injEq, D.tup.injEq, D.lst.injEq, List.cons.injEq, and_true, true_and, List.set_cons_zero, List.set_cons_succ, List.length_cons, List.length_nil, List.filterMap_cons, List.filterMap_nil, List.getElem?_cons_zero, List.getElem?_cons_succ, Option.bind_some, ↓reduceIte, if_true, if_false, Bool.false_eq_true, Bool.true_eq_false, decide_eq_true_eq, beq_self_eq_true, Bool.not_true, Bool.not_false, Bool.not_eq_true', decide_eq_false_iff_not, exists_eq_left', exists_eq_left, exists_eq, ↓x_dnT, ↓x_dnF, ↓gAsgL, ↓gMMDef, ↓gDSet, ↓gSItems, ↓x_nilL, ↓x_nilE, List.isEmpty_nil, List.isEmpty_cons, Bool.true_xor, Bool.false_xor, ↓gSortSet, ↓gLenFz, ↓gOrT, ↓gAndT, ↓gTryAs, ↓gTryO, ↓gRaise, ↓gCallX, ↓gMethX, ↓gMakeX, ↓gFldX, ↓x_inXs, Bool.false_xor, Bool.true_xor, ↓gOrS, ↓x_fmtRS, ↓x_afRS, ↓x_afRI, ↓x_stO, ↓x_zipS, ↓x_zipE, ↓x_zipSL, ↓x_zipST, ↓x_zipEL, ↓x_augix, ↓x_isB, ↓x_notB, ↓gLR1, ↓gLR2, ↓gDIxT, ↓gDGt1T, ↓gDSetT, ↓gDNewT, ↓gDIx, ↓gDGt1, ↓gDGt2, ↓gDIn, ↓gDSetd, ↓gDPop1, ↓gDPop2, ↓gTIdx, ↓gLKeys, ↓gDisp, ↓gAsgT, ↓gFldAug, ↓gts, ↓gts0, ↓gnm, ↓gfl, ↓gds, ↓x_lenSt, ↓x_enumK, ↓x_enumKL, ↓gSortK, ↓gSortKR, ↓gFrD, ↓gFzD]
    exact h ks ds
end
end Lw
namespace Lw
open PySem L2 Dl
section
variable {P : Program} {w : World} {K : PySem.W.Frag} {mg : Str → Option Value} {base : Heap} {a : Ad}
theorem pt_get (n : Str) (k : Nat) : ∀ L : List Nu, dgetP (nKey n k) (L.map fun t => nKey t.1 t.2.1) (L.map fun t => D.int (t.2.2 : Nat)) = (pt L n k).map fun m => D.int (m : Nat)
  | [] => rfl
  | t :: L => by
    have ih := pt_get n k L
    unfold dgetP pt at ih ⊢
    rw [List.map_cons, List.map_cons, List.zip_cons_cons, List.find?_cons, List.find?_cons]
    by_cases c : t.1 = n ∧ t.2.1 = k
    · rw [show decide (nKey t.1 t.2.1 = nKey n k) = true from decide_eq_true (by rw [c.1, c.2]), show decide (t.1 = n ∧ t.2.1 = k) = true from decide_eq_true c]
      rfl
    · rw [show decide (nKey t.1 t.2.1 = nKey n k) = false from decide_eq_false (fun z => c (nKey_inj z)), show decide (t.1 = n ∧ t.2.1 = k) = false from decide_eq_false c]
      exact ih
theorem cw_snoc (R : List Rw) (r : Rw) (w n : Str) : cw (R ++ [r]) w n = cw R w n + if r.w = w ∧ r.n = n then 1 else 0 := by
  unfold cw
  rw [List.filter_append, List.length_append]
  by_cases c : r.w = w ∧ r.n = n
  · rw [if_pos c, List.filter_cons_of_pos (by simpa using c)]; rfl
  · rw [if_neg c, List.filter_cons_of_neg (by simpa using c)]; rfl
def wKey (w n : Str) : List Key := [.inr w, .inr n]
theorem wKey_inj {w n w' n' : Str} (h : wKey w n = wKey w' n') : w = w' ∧ n = n' := by
  unfold wKey at h
  injection h with h1 h2
  injection h1 with h1
  injection h2 with h2 _
  injection h2 with h2
  exact ⟨h1, h2⟩
/-- the dict that counts words and names -/
structure WtOk (R : List Rw) (ks : List (List Key)) (ds : List D) (i : Nat) : Prop where
  len : ks.length = ds.length
  le : ks.length ≤ 2 * i
  get : ∀ w n : Str, dgetP (wKey w n) ks ds = if cw R w n = 0 then none else some (.int (cw R w n : Nat))
theorem wt_put {R : List Rw} {r : Rw} {ks : List (List Key)} {ds : List D} {i c : Nat} (hl : ks.length = ds.length) (hle : ks.length ≤ 2 * i + 1) (hg : ∀ w n : Str, ¬ (w = r.w ∧ n = r.n) → dgetP (wKey w n) ks ds = if cw R w n = 0 then none else some (.int (cw R w n : Nat))) (hc : c = cw R r.w r.n) :
    WtOk (R ++ [r]) (kputP (wKey r.w r.n) ks) (dputP (wKey r.w r.n) (.int ((c : Int) + 1)) ks ds) (i + 1) := by
  refine ⟨put_lenP hl, Nat.le_trans kput_len (by omega), fun w n => ?_⟩
  rw [get_put hl, cw_snoc]
  by_cases e : w = r.w ∧ n = r.n
  · obtain ⟨rfl, rfl⟩ := e
    have e3 : (if r.w = r.w ∧ r.n = r.n then 1 else 0) = 1 := if_pos ⟨rfl, rfl⟩
    rw [if_pos rfl, e3, if_neg (by omega), hc]
    rfl
  · have e3 : (if r.w = w ∧ r.n = n then 1 else 0) = 0 := if_neg fun z => e ⟨z.1.symm, z.2.symm⟩
    rw [if_neg (fun z => e (wKey_inj z)), hg w n e, e3, Nat.add_zero]
theorem x_finY {S0 G : Sto} {ds : List D} {q : D → Sto → Prop} (hS : Sto.under S0.length S0 = true) (h : D.unders S0.length ds = true ∧ q (.lst ds) S0) : fin S0.length q (.loc (S0 ++ G).length) (S0 ++ G ++ [some (.lst ds)]) := by
  have e1 : (S0 ++ G ++ [some (MO.lst ds)]).take S0.length = S0 := by rw [List.append_assoc, List.take_left]
  have e2 : (S0 ++ G ++ [some (MO.lst ds)])[(S0 ++ G).length]? = some (some (.lst ds)) := by
    rw [List.getElem?_append_right (Nat.le_refl _), Nat.sub_self]; rfl
  unfold fin
  rw [e1]
  refine ⟨hS, ?_⟩
  dsimp only
  rw [if_neg (by rw [List.length_append]; omega), e2]
  exact h
theorem x_bn {ρ : Env_} {i j k l : Nat} {x y z u : D} : Tgt.bind (.tp [.nm i, .tp [.nm j, .nm k, .nm l]]) (.tup [x, .tup [y, z, u]]) ρ = some ((((ρ.set i (some x)).set j (some y)).set k (some z)).set l (some u)) := by
  simp [Tgt.bind, Tgt.binds]
theorem rf_faults_of (T : Txt K mg a) : ∀ ds S q, D.unders S.length ds = true → Sto.under S.length S = true → sp_faults_of a ds S q → g_faults_of K a { nx := fun _ S' => fin S.length q .non S', rt := fin S.length q } (startD N_faults_of ds) S := by
  rintro ds S q hu hs ⟨b, R, b', R', rfl, hO, hO', hF, h⟩
  rw [st_faults_of]
  have hz : 5000 ≤ sizeLine := by decide
  have hle := hO.le
  have hle' := hO'.le
  simp only [g_faults_of, ↓x_eqSS, ↓x_neSS, ↓gKGet, ↓x_kget, ↓x_ixE, at_last, ↓x_appE, ↓x_tyE, ↓x_itE, ↓x_lenE, ↓x_nePr, ↓x_eqPr, ↓x_neE, ↓x_lenr, ↓x_lenrI, ↓gRev, ↓x_par3, ↓x_par33, ↓x_fld, ↓x_fset, ↓x_mkF, ↓x_mk, ↓x_meth, ↓x_fldO, ↓x_fsetE, ↓x_fldE, ↓x_methO, ↓x_isiCO, ↓x_isiCN, ↓x_isiCT, ↓x_isiCLi, ↓x_isiCS, ↓x_isiCI, ↓x_own, ↓x_eqT2, ↓x_neT2, ↓x_neL4, ↓x_eqLN, ↓x_neNil, ↓x_gset, ↓x_lc, ↓x_for, ↓x_it, ↓x_rn1, ↓x_rn2, ↓x_enu, ↓x_zip, ↓x_itS, ↓x_itL, ↓x_itK, ↓x_itT, ↓x_rn1I, ↓x_rn2I, ↓x_enuL, ↓x_enuK, ↓x_zipL, ↓x_ixS0, ↓x_ixL, ↓x_ixT, ↓x_ixK, x_at0, x_at1, x_at2, x_at3, x_at4, ↓x_set00, ↓x_set01, ↓x_set02, ↓x_aug1, ↓x_aug2, ↓x_aug3, ↓x_aug4, ↓x_aug5, ↓x_aug6, ↓x_aug7, ↓x_aug8, ↓x_aug9, ↓x_aug10, ↓x_aug11, ↓x_aug12, ↓x_aug13, ↓x_aug14, ↓x_aug15, ↓x_aug16, ↓x_aug17, ↓x_aug18, ↓x_aug19, ↓x_aug20, ↓x_aug21, ↓x_aug22, ↓x_aug23, Int.reduceToNat, Int.reducePow, ↓gSeq, ↓gIfS, ↓gSet, ↓gAsg, ↓x_par, ↓x_par2, ↓gRet, ↓gRetN, ↓gNext, ↓gDrop, ↓gBreak, ↓gCont, ↓gDead, ↓gCB, ↓gB2, ↓gU, ↓gC, ↓Dl.gCons, ↓Dl.gNil, ↓Dl.gTup, ↓Dl.gLst, ↓gTest, ↓gOrB, ↓gAndB, ↓gNotB, ↓gAndV, ↓gOrV, ↓gNotV, ↓gIf, ↓gIx, ↓gSl, ↓gPart, ↓gNoP, ↓gMt, ↓gCall, ↓gArgs, ↓gIsN, ↓gNotN, ↓gChain, ↓x_fmtS, ↓x_afS, ↓x_afI, ↓x_js0, ↓x_jsc, ↓gJoined, ↓gYes, ↓x_bnm, ↓x_btp, ↓x_bn, ↓x_bc, ↓x_nnN, ↓x_nnI, ↓x_nnS, ↓x_nnB, ↓x_nnT, ↓x_nnL, ↓x_nnO, ↓x_nnl, ↓x_tyS, ↓x_tyL, ↓x_i2, ↓aSub, ↓aFdiv, ↓aMod, ↓aPow, ↓aShr, ↓aLt, ↓aLe, ↓aGt, ↓aGe, ↓x_addI, ↓x_addS, ↓x_mulI, ↓x_iaddS, ↓x_iaddI, ↓x_neg, ↓x_eqI, ↓x_neI, ↓x_eqS, ↓x_neS, ↓x_eqB, ↓x_neB, ↓x_eqNI, ↓x_neNI, ↓x_lenS, ↓x_lenL_l, ↓x_lenL_k, ↓x_lenL_t, ↓x_str, ↓x_intI, ↓x_intB, ↓x_divmod, ↓x_max2, ↓x_min2, ↓x_ixS, ↓x_slS, ↓x_slT, ↓x_slL_l, ↓x_slL_k, ↓x_inS, ↓x_newT, ↓x_newF, ↓x_si, ↓x_s1, ↓x_s0, ↓x_rpart, ↓x_part, ↓x_a1, ↓x_a2, ↓x_isiStr, ↓x_isiInt, ↓x_isiIntB, ↓x_isiIntS, ↓x_isiBB, ↓x_isiBI, ↓x_isiStrI, ↓x_isiNonI, ↓x_isiNonS, ↓x_isiT, ↓x_isiL, ↓x_var0, ↓x_varS, ↓x_ex, ↓x_aug0, gat, pick, Option.some.injEq, D.bl.injEq, D.int.injEq, D.str.injEq, D.tup.injEq, D.lst.injEq, List.cons.injEq, and_true, true_and, List.set_cons_zero, List.set_cons_succ, List.length_cons, List.length_nil, List.filterMap_cons, List.filterMap_nil, List.getElem?_cons_zero, List.getElem?_cons_succ, Option.bind_some, ↓reduceIte, if_true, if_false, Bool.false_eq_true, Bool.true_eq_false, decide_eq_true_eq, beq_self_eq_true, Bool.not_true, Bool.not_false, Bool.not_eq_true', decide_eq_false_iff_not, exists_eq_left', exists_eq_left, exists_eq, ↓x_dnT, ↓x_dnF, ↓gAsgL, ↓gMMDef, ↓gDSet, ↓gSItems, ↓x_nilL, ↓x_nilE, List.isEmpty_nil, List.isEmpty_cons, Bool.true_xor, Bool.false_xor, ↓gSortSet, ↓gLenFz, ↓gOrT, ↓gAndT, ↓gTryAs, ↓gTryO, ↓gRaise, ↓gCallX, ↓gMethX, ↓gMakeX, ↓gFldX, ↓x_inXs, Bool.false_xor, Bool.true_xor, ↓gOrS, ↓x_fmtRS, ↓x_afRS, ↓x_afRI, ↓x_stO, ↓x_zipS, ↓x_zipE, ↓x_zipSL, ↓x_zipST, ↓x_zipEL, ↓x_augix, ↓x_isB, ↓x_notB, ↓gLR1, ↓gLR2, ↓gDIxT, ↓gDGt1T, ↓gDSetT, ↓gDNewT, ↓gDIx, ↓gDGt1, ↓gDGt2, ↓gDIn, ↓gDSetd, ↓gDPop1, ↓gDPop2, ↓gTIdx, ↓gLKeys, ↓gDisp, ↓gAsgT, ↓gFldAug, ↓gts, ↓gts0, ↓gnm, ↓gfl, ↓gds, ↓x_lenSt, ↓x_enumK, ↓x_enumKL, ↓gSortK, ↓gSortKR, ↓gFrD, ↓gFzD]
  refine ⟨b', R', _, rfl, hle', hO'.ro, .inr rfl, fun k1 d1 => ⟨b', R', _, rfl, hle', hO'.ro, .inl rfl, fun k2 d2 => ⟨by simp, by decide, (x_methO (by decide +kernel)).mpr ⟨b, R, rfl, by omega, ?_⟩⟩⟩⟩
  simp only [↓x_eqSS, ↓x_neSS, ↓gKGet, ↓x_kget, ↓x_ixE, at_last, ↓x_appE, ↓x_tyE, ↓x_itE, ↓x_lenE, ↓x_nePr, ↓x_eqPr, ↓x_neE, ↓x_lenr, ↓x_lenrI, ↓gRev, ↓x_par3, ↓x_par33, ↓x_fld, ↓x_fset, ↓x_mkF, ↓x_mk, ↓x_meth, ↓x_fldO, ↓x_fsetE, ↓x_fldE, ↓x_methO, ↓x_isiCO, ↓x_isiCN, ↓x_isiCT, ↓x_isiCLi, ↓x_isiCS, ↓x_isiCI, ↓x_own, ↓x_eqT2, ↓x_neT2, ↓x_neL4, ↓x_eqLN, ↓x_neNil, ↓x_gset, ↓x_lc, ↓x_for, ↓x_it, ↓x_rn1, ↓x_rn2, ↓x_enu, ↓x_zip, ↓x_itS, ↓x_itL, ↓x_itK, ↓x_itT, ↓x_rn1I, ↓x_rn2I, ↓x_enuL, ↓x_enuK, ↓x_zipL, ↓x_ixS0, ↓x_ixL, ↓x_ixT, ↓x_ixK, x_at0, x_at1, x_at2, x_at3, x_at4, ↓x_set00, ↓x_set01, ↓x_set02, ↓x_aug1, ↓x_aug2, ↓x_aug3, ↓x_aug4, ↓x_aug5, ↓x_aug6, ↓x_aug7, ↓x_aug8, ↓x_aug9, ↓x_aug10, ↓x_aug11, ↓x_aug12, ↓x_aug13, ↓x_aug14, ↓x_aug15, ↓x_aug16, ↓x_aug17, ↓x_aug18, ↓x_aug19, ↓x_aug20, ↓x_aug21, ↓x_aug22, ↓x_aug23, Int.reduceToNat, Int.reducePow, ↓gSeq, ↓gIfS, ↓gSet, ↓gAsg, ↓x_par, ↓x_par2, ↓gRet, ↓gRetN, ↓gNext, ↓gDrop, ↓gBreak, ↓gCont, ↓gDead, ↓gCB, ↓gB2, ↓gU, ↓gC, ↓Dl.gCons, ↓Dl.gNil, ↓Dl.gTup, ↓Dl.gLst, ↓gTest, ↓gOrB, ↓gAndB, ↓gNotB, ↓gAndV, ↓gOrV, ↓gNotV, ↓gIf, ↓gIx, ↓gSl, ↓gPart, ↓gNoP, ↓gMt, ↓gCall, ↓gArgs, ↓gIsN, ↓gNotN, ↓gChain, ↓x_fmtS, ↓x_afS, ↓x_afI, ↓x_js0, ↓x_jsc, ↓gJoined, ↓gYes, ↓x_bnm, ↓x_btp, ↓x_bn, ↓x_bc, ↓x_nnN, ↓x_nnI, ↓x_nnS, ↓x_nnB, ↓x_nnT, ↓x_nnL, ↓x_nnO, ↓x_nnl, ↓x_tyS, ↓x_tyL, ↓x_i2, ↓aSub, ↓aFdiv, ↓aMod, ↓aPow, ↓aShr, ↓aLt, ↓aLe, ↓aGt, ↓aGe, ↓x_addI, ↓x_addS, ↓x_mulI, ↓x_iaddS, ↓x_iaddI, ↓x_neg, ↓x_eqI, ↓x_neI, ↓x_eqS, ↓x_neS, ↓x_eqB, ↓x_neB, ↓x_eqNI, ↓x_neNI, ↓x_lenS, ↓x_lenL_l, ↓x_lenL_k, ↓x_lenL_t, ↓x_str, ↓x_intI, ↓x_intB, ↓x_divmod, ↓x_max2, ↓x_min2, ↓x_ixS, ↓x_slS, ↓x_slT, ↓x_slL_l, ↓x_slL_k, ↓x_inS, ↓x_newT, ↓x_newF, ↓x_si, ↓x_s1, ↓x_s0, ↓x_rpart, ↓x_part, ↓x_a1, ↓x_a2, ↓x_isiStr, ↓x_isiInt, ↓x_isiIntB, ↓x_isiIntS, ↓x_isiBB, ↓x_isiBI, ↓x_isiStrI, ↓x_isiNonI, ↓x_isiNonS, ↓x_isiT, ↓x_isiL, ↓x_var0, ↓x_varS, ↓x_ex, ↓x_aug0, gat, pick, Option.some.injEq, D.bl.injEq, D.int.injEq, D.str.injEq, D.tup.injEq, D.lst.injEq, List.cons.injEq, and_true, true_and, List.set_cons_zero, List.set_cons_succ, List.length_cons, List.length_nil, List.filterMap_cons, List.filterMap_nil, List.getElem?_cons_zero, List.getElem?_cons_succ, Option.bind_some, ↓reduceIte, if_true, if_false, Bool.false_eq_true, Bool.true_eq_false, decide_eq_true_eq, beq_self_eq_true, Bool.not_true, Bool.not_false, Bool.not_eq_true', decide_eq_false_iff_not, exists_eq_left', exists_eq_left, exists_eq, ↓x_dnT, ↓x_dnF, ↓gAsgL, ↓gMMDef, ↓gDSet, ↓gSItems, ↓x_nilL, ↓x_nilE, List.isEmpty_nil, List.isEmpty_cons, Bool.true_xor, Bool.false_xor, ↓gSortSet, ↓gLenFz, ↓gOrT, ↓gAndT, ↓gTryAs, ↓gTryO, ↓gRaise, ↓gCallX, ↓gMethX, ↓gMakeX, ↓gFldX, ↓x_inXs, Bool.false_xor, Bool.true_xor, ↓gOrS, ↓x_fmtRS, ↓x_afRS, ↓x_afRI, ↓x_stO, ↓x_zipS, ↓x_zipE, ↓x_zipSL, ↓x_zipST, ↓x_zipEL, ↓x_augix, ↓x_isB, ↓x_notB, ↓gLR1, ↓gLR2, ↓gDIxT, ↓gDGt1T, ↓gDSetT, ↓gDNewT, ↓gDIx, ↓gDGt1, ↓gDGt2, ↓gDIn, ↓gDSetd, ↓gDPop1, ↓gDPop2, ↓gTIdx, ↓gLKeys, ↓gDisp, ↓gAsgT, ↓gFldAug, ↓gts, ↓gts0, ↓gnm, ↓gfl, ↓gds, ↓x_lenSt, ↓x_enumK, ↓x_enumKL, ↓gSortK, ↓gSortKR, ↓gFrD, ↓gFzD]
  rw [show (S ++ [some (MO.dic [] [])] ++ [some (MO.dic k1 d1), some (nMO (numL "off" R'))] ++ [some (MO.dic k2 d2), some (nMO (numL "on" R'))]).set S.length (some (.dic [.inr "on", .inr "off"] [.loc ((S ++ [some (MO.dic [] [])]).length + 1), .loc ((S ++ [some (MO.dic [] [])] ++ [some (MO.dic k1 d1), some (nMO (numL "off" R'))]).length + 1)])) = S ++ [some (.dic [.inr "on", .inr "off"] [.loc (S.length + 2), .loc (S.length + 4)]), some (MO.dic k1 d1), some (nMO (numL "off" R')), some (MO.dic k2 d2), some (nMO (numL "on" R'))] by simp]
  obtain ⟨U, hU⟩ : ∃ U : Sto, U = S ++ [some (.dic [.inr "on", .inr "off"] [.loc (S.length + 2), .loc (S.length + 4)]), some (MO.dic k1 d1), some (nMO (numL "off" R')), some (MO.dic k2 d2), some (nMO (numL "on" R'))] := ⟨_, rfl⟩
  have u0 : U[S.length]? = some (some (.dic [.inr "on", .inr "off"] [.loc (S.length + 2), .loc (S.length + 4)])) := by rw [hU]; simp
  have u2 : U[S.length + 2]? = some (some (nMO (numL "off" R'))) := by rw [hU]; simp
  have u4 : U[S.length + 4]? = some (some (nMO (numL "on" R'))) := by rw [hU]; simp
  have uT : U.take S.length = S := by rw [hU, List.take_left]
  have uL : U.length = S.length + 5 := by rw [hU, List.length_append]; rfl
  rw [← hU]
  have ap : ∀ (X Y : Option MO), U ++ [X] ++ [Y] = U ++ [X, Y] := fun X Y => by simp
  rw [ap, show (U ++ [some (MO.dicT [] [])]).length = U.length + 1 by rw [List.length_append]; rfl]
  have at0 : ∀ (X Y : Option MO) j o, U[j]? = some o → (U ++ [X, Y])[j]? = some o := fun X Y j o h => by
    rw [List.getElem?_append_left (List.getElem?_eq_some_iff.mp h).1, h]
  refine ⟨fun i ρ S' => ∃ ks ds x5 x6 x7 x8 x9 x10, S' = U ++ [some (.dicT ks ds), some (.lst [])] ∧ WtOk (R.take i) ks ds i ∧ ρ = [some (bkV a b R), some (bkV a b' R'), some (.loc S.length), some (.loc U.length), some (.loc (U.length + 1)), x5, x6, x7, x8, x9, x10], ?_, ?_, ?_⟩
  · exact ⟨[], [], _, _, _, _, _, _, rfl, ⟨rfl, Nat.zero_le _, fun w n => rfl⟩, rfl⟩
  · rintro i d ρ S' hd ⟨ks, ds, x5, x6, x7, x8, x9, x10, rfl, hc, rfl⟩
    obtain ⟨e, he, rfl⟩ := enum_get hd
    rw [List.getElem?_map] at he
    obtain ⟨r, hr, rfl⟩ := Option.map_eq_some_iff.mp he
    have hi := (List.getElem?_eq_some_iff.mp hr).1
    have hrr := hO.ro r (List.mem_of_getElem? hr)
    obtain ⟨m, hm, hmon⟩ := hF i r hr
    refine ⟨trivial, _, x_bn, ?_⟩
    simp only [gDSetdT, gDAugT, gDGt1T, gDIx, ↓x_eqSS, ↓x_neSS, ↓gKGet, ↓x_kget, ↓x_ixE, at_last, ↓x_appE, ↓x_tyE, ↓x_itE, ↓x_lenE, ↓x_nePr, ↓x_eqPr, ↓x_neE, ↓x_lenr, ↓x_lenrI, ↓gRev, ↓x_par3, ↓x_par33, ↓x_fld, ↓x_fset, ↓x_mkF, ↓x_mk, ↓x_meth, ↓x_fldO, ↓x_fsetE, ↓x_fldE, ↓x_methO, ↓x_isiCO, ↓x_isiCN, ↓x_isiCT, ↓x_isiCLi, ↓x_isiCS, ↓x_isiCI, ↓x_own, ↓x_eqT2, ↓x_neT2, ↓x_neL4, ↓x_eqLN, ↓x_neNil, ↓x_gset, ↓x_lc, ↓x_for, ↓x_it, ↓x_rn1, ↓x_rn2, ↓x_enu, ↓x_zip, ↓x_itS, ↓x_itL, ↓x_itK, ↓x_itT, ↓x_rn1I, ↓x_rn2I, ↓x_enuL, ↓x_enuK, ↓x_zipL, ↓x_ixS0, ↓x_ixL, ↓x_ixT, ↓x_ixK, x_at0, x_at1, x_at2, x_at3, x_at4, ↓x_set00, ↓x_set01, ↓x_set02, ↓x_aug1, ↓x_aug2, ↓x_aug3, ↓x_aug4, ↓x_aug5, ↓x_aug6, ↓x_aug7, ↓x_aug8, ↓x_aug9, ↓x_aug10, ↓x_aug11, ↓x_aug12, ↓x_aug13, ↓x_aug14, ↓x_aug15, ↓x_aug16, ↓x_aug17, ↓x_aug18, ↓x_aug19, ↓x_aug20, ↓x_aug21, ↓x_aug22, ↓x_aug23, Int.reduceToNat, Int.reducePow, ↓gSeq, ↓gIfS, ↓gSet, ↓gAsg, ↓x_par, ↓x_par2, ↓gRet, ↓gRetN, ↓gNext, ↓gDrop, ↓gBreak, ↓gCont, ↓gDead, ↓gCB, ↓gB2, ↓gU, ↓gC, ↓Dl.gCons, ↓Dl.gNil, ↓Dl.gTup, ↓Dl.gLst, ↓gTest, ↓gOrB, ↓gAndB, ↓gNotB, ↓gAndV, ↓gOrV, ↓gNotV, ↓gIf, ↓gIx, ↓gSl, ↓gPart, ↓gNoP, ↓gMt, ↓gCall, ↓gArgs, ↓gIsN, ↓gNotN, ↓gChain, ↓x_fmtS, ↓x_afS, ↓x_afI, ↓x_js0, ↓x_jsc, ↓gJoined, ↓gYes, ↓x_bnm, ↓x_btp, ↓x_bn, ↓x_bc, ↓x_nnN, ↓x_nnI, ↓x_nnS, ↓x_nnB, ↓x_nnT, ↓x_nnL, ↓x_nnO, ↓x_nnl, ↓x_tyS, ↓x_tyL, ↓x_i2, ↓aSub, ↓aFdiv, ↓aMod, ↓aPow, ↓aShr, ↓aLt, ↓aLe, ↓aGt, ↓aGe, ↓x_addI, ↓x_addS, ↓x_mulI, ↓x_iaddS, ↓x_iaddI, ↓x_neg, ↓x_eqI, ↓x_neI, ↓x_eqS, ↓x_neS, ↓x_eqB, ↓x_neB, ↓x_eqNI, ↓x_neNI, ↓x_lenS, ↓x_lenL_l, ↓x_lenL_k, ↓x_lenL_t, ↓x_str, ↓x_intI, ↓x_intB, ↓x_divmod, ↓x_max2, ↓x_min2, ↓x_ixS, ↓x_slS, ↓x_slT, ↓x_slL_l, ↓x_slL_k, ↓x_inS, ↓x_newT, ↓x_newF, ↓x_si, ↓x_s1, ↓x_s0, ↓x_rpart, ↓x_part, ↓x_a1, ↓x_a2, ↓x_isiStr, ↓x_isiInt, ↓x_isiIntB, ↓x_isiIntS, ↓x_isiBB, ↓x_isiBI, ↓x_isiStrI, ↓x_isiNonI, ↓x_isiNonS, ↓x_isiT, ↓x_isiL, ↓x_var0, ↓x_varS, ↓x_ex, ↓x_aug0, gat, pick, Option.some.injEq, D.bl.injEq, D.int.injEq, D.str.injEq, D.tup.injEq, D.lst.injEq, List.cons.injEq, and_true, true_and, List.set_cons_zero, List.set_cons_succ, List.length_cons, List.length_nil, List.filterMap_cons, List.filterMap_nil, List.getElem?_cons_zero, List.getElem?_cons_succ, Option.bind_some, ↓reduceIte, if_true, if_false, Bool.false_eq_true, Bool.true_eq_false, decide_eq_true_eq, beq_self_eq_true, Bool.not_true, Bool.not_false, Bool.not_eq_true', decide_eq_false_iff_not, exists_eq_left', exists_eq_left, exists_eq, ↓x_dnT, ↓x_dnF, ↓gAsgL, ↓gMMDef, ↓gDSet, ↓gSItems, ↓x_nilL, ↓x_nilE, List.isEmpty_nil, List.isEmpty_cons, Bool.true_xor, Bool.false_xor, ↓gSortSet, ↓gLenFz, ↓gOrT, ↓gAndT, ↓gTryAs, ↓gTryO, ↓gRaise, ↓gCallX, ↓gMethX, ↓gMakeX, ↓gFldX, ↓x_inXs, Bool.false_xor, Bool.true_xor, ↓gOrS, ↓x_fmtRS, ↓x_afRS, ↓x_afRI, ↓x_stO, ↓x_zipS, ↓x_zipE, ↓x_zipSL, ↓x_zipST, ↓x_zipEL, ↓x_augix, ↓x_isB, ↓x_notB, ↓gLR1, ↓gLR2, ↓gDIxT, ↓gDGt1T, ↓gDSetT, ↓gDNewT, ↓gDIx, ↓gDGt1, ↓gDGt2, ↓gDIn, ↓gDSetd, ↓gDPop1, ↓gDPop2, ↓gTIdx, ↓gLKeys, ↓gDisp, ↓gAsgT, ↓gFldAug, ↓gts, ↓gts0, ↓gnm, ↓gfl, ↓gds, ↓x_lenSt, ↓x_enumK, ↓x_enumKL, ↓gSortK, ↓gSortKR, ↓gFrD, ↓gFzD]
    rw [take_snoc hr]
    have hcl := hc.le
    generalize R.take i = Q at *
    refine ⟨⟨ks, ds, by simp only [dicTOf, g0]⟩, by decide, U.length, ks, ds, wKey r.w r.n, rfl, g0, rfl, by omega, fun d hd => ?_, fun hd => ?_⟩
    · rw [hc.get] at hd
      by_cases c0 : cw Q r.w r.n = 0
      · rw [if_pos c0] at hd; cases hd
      rw [if_neg c0] at hd
      cases hd
      refine ⟨by decide, U.length, ks, ds, wKey r.w r.n, (cw Q r.w r.n : Int), rfl, g0, rfl, by rw [hc.get, if_neg c0], by have := kput_len (k := wKey r.w r.n) (ks := ks); omega, ?_⟩
      rw [s0]
      have h2 := wt_put (R := Q) (r := r) (i := i) hc.len (by omega) (fun w n _ => hc.get w n) rfl
      rcases hrr.2.1 with hw | hw
      · have ho : ow r.w = "off" := by rw [hw]; rfl
        rw [ho] at hm
        have eP : dgetP (nKey r.n (cw Q r.w r.n)) ((numL "off" R').map fun t => nKey t.1 t.2.1) ((numL "off" R').map fun t => D.int (t.2.2 : Nat)) = some (.int m) := by rw [pt_get, hm]; rfl
        refine ⟨[.inr "on", .inr "off"], [.loc (S.length + 2), .loc (S.length + 4)], .inr r.w, .loc (S.length + 2), by simp only [dicOf, at0 _ _ _ _ u0], rfl, by rw [hw]; rfl, ⟨_, _, by simp only [dicTOf, at0 _ _ _ _ u2]; rfl⟩, by decide, (numL "off" R').map (fun t => nKey t.1 t.2.1), (numL "off" R').map (fun t => D.int (t.2.2 : Nat)), nKey r.n (cw Q r.w r.n), by simp only [dicTOf, at0 _ _ _ _ u2], rfl, ?_⟩
        rw [eP, Option.getD_some, if_neg (by simp [D.isNon])]
        refine ⟨(wd_ok hrr.2.1).1, by decide +kernel, ?_⟩
        rw [if_pos hw]
        simp only [↓x_eqSS, ↓x_neSS, ↓gKGet, ↓x_kget, ↓x_ixE, at_last, ↓x_appE, ↓x_tyE, ↓x_itE, ↓x_lenE, ↓x_nePr, ↓x_eqPr, ↓x_neE, ↓x_lenr, ↓x_lenrI, ↓gRev, ↓x_par3, ↓x_par33, ↓x_fld, ↓x_fset, ↓x_mkF, ↓x_mk, ↓x_meth, ↓x_fldO, ↓x_fsetE, ↓x_fldE, ↓x_methO, ↓x_isiCO, ↓x_isiCN, ↓x_isiCT, ↓x_isiCLi, ↓x_isiCS, ↓x_isiCI, ↓x_own, ↓x_eqT2, ↓x_neT2, ↓x_neL4, ↓x_eqLN, ↓x_neNil, ↓x_gset, ↓x_lc, ↓x_for, ↓x_it, ↓x_rn1, ↓x_rn2, ↓x_enu, ↓x_zip, ↓x_itS, ↓x_itL, ↓x_itK, ↓x_itT, ↓x_rn1I, ↓x_rn2I, ↓x_enuL, ↓x_enuK, ↓x_zipL, ↓x_ixS0, ↓x_ixL, ↓x_ixT, ↓x_ixK, x_at0, x_at1, x_at2, x_at3, x_at4, ↓x_set00, ↓x_set01, ↓x_set02, ↓x_aug1, ↓x_aug2, ↓x_aug3, ↓x_aug4, ↓x_aug5, ↓x_aug6, ↓x_aug7, ↓x_aug8, ↓x_aug9, ↓x_aug10, ↓x_aug11, ↓x_aug12, ↓x_aug13, ↓x_aug14, ↓x_aug15, ↓x_aug16, ↓x_aug17, ↓x_aug18, ↓x_aug19, ↓x_aug20, ↓x_aug21, ↓x_aug22, ↓x_aug23, Int.reduceToNat, Int.reducePow, ↓gSeq, ↓gIfS, ↓gSet, ↓gAsg, ↓x_par, ↓x_par2, ↓gRet, ↓gRetN, ↓gNext, ↓gDrop, ↓gBreak, ↓gCont, ↓gDead, ↓gCB, ↓gB2, ↓gU, ↓gC, ↓Dl.gCons, ↓Dl.gNil, ↓Dl.gTup, ↓Dl.gLst, ↓gTest, ↓gOrB, ↓gAndB, ↓gNotB, ↓gAndV, ↓gOrV, ↓gNotV, ↓gIf, ↓gIx, ↓gSl, ↓gPart, ↓gNoP, ↓gMt, ↓gCall, ↓gArgs, ↓gIsN, ↓gNotN, ↓gChain, ↓x_fmtS, ↓x_afS, ↓x_afI, ↓x_js0, ↓x_jsc, ↓gJoined, ↓gYes, ↓x_bnm, ↓x_btp, ↓x_bn, ↓x_bc, ↓x_nnN, ↓x_nnI, ↓x_nnS, ↓x_nnB, ↓x_nnT, ↓x_nnL, ↓x_nnO, ↓x_nnl, ↓x_tyS, ↓x_tyL, ↓x_i2, ↓aSub, ↓aFdiv, ↓aMod, ↓aPow, ↓aShr, ↓aLt, ↓aLe, ↓aGt, ↓aGe, ↓x_addI, ↓x_addS, ↓x_mulI, ↓x_iaddS, ↓x_iaddI, ↓x_neg, ↓x_eqI, ↓x_neI, ↓x_eqS, ↓x_neS, ↓x_eqB, ↓x_neB, ↓x_eqNI, ↓x_neNI, ↓x_lenS, ↓x_lenL_l, ↓x_lenL_k, ↓x_lenL_t, ↓x_str, ↓x_intI, ↓x_intB, ↓x_divmod, ↓x_max2, ↓x_min2, ↓x_ixS, ↓x_slS, ↓x_slT, ↓x_slL_l, ↓x_slL_k, ↓x_inS, ↓x_newT, ↓x_newF, ↓x_si, ↓x_s1, ↓x_s0, ↓x_rpart, ↓x_part, ↓x_a1, ↓x_a2, ↓x_isiStr, ↓x_isiInt, ↓x_isiIntB, ↓x_isiIntS, ↓x_isiBB, ↓x_isiBI, ↓x_isiStrI, ↓x_isiNonI, ↓x_isiNonS, ↓x_isiT, ↓x_isiL, ↓x_var0, ↓x_varS, ↓x_ex, ↓x_aug0, gat, pick, Option.some.injEq, D.bl.injEq, D.int.injEq, D.str.injEq, D.tup.injEq, D.lst.injEq, List.cons.injEq, and_true, true_and, List.set_cons_zero, List.set_cons_succ, List.length_cons, List.length_nil, List.filterMap_cons, List.filterMap_nil, List.getElem?_cons_zero, List.getElem?_cons_succ, Option.bind_some, ↓reduceIte, if_true, if_false, Bool.false_eq_true, Bool.true_eq_false, decide_eq_true_eq, beq_self_eq_true, Bool.not_true, Bool.not_false, Bool.not_eq_true', decide_eq_false_iff_not, exists_eq_left', exists_eq_left, exists_eq, ↓x_dnT, ↓x_dnF, ↓gAsgL, ↓gMMDef, ↓gDSet, ↓gSItems, ↓x_nilL, ↓x_nilE, List.isEmpty_nil, List.isEmpty_cons, Bool.true_xor, Bool.false_xor, ↓gSortSet, ↓gLenFz, ↓gOrT, ↓gAndT, ↓gTryAs, ↓gTryO, ↓gRaise, ↓gCallX, ↓gMethX, ↓gMakeX, ↓gFldX, ↓x_inXs, Bool.false_xor, Bool.true_xor, ↓gOrS, ↓x_fmtRS, ↓x_afRS, ↓x_afRI, ↓x_stO, ↓x_zipS, ↓x_zipE, ↓x_zipSL, ↓x_zipST, ↓x_zipEL, ↓x_augix, ↓x_isB, ↓x_notB, ↓gLR1, ↓gLR2, ↓gDIxT, ↓gDGt1T, ↓gDSetT, ↓gDNewT, ↓gDIx, ↓gDGt1, ↓gDGt2, ↓gDIn, ↓gDSetd, ↓gDPop1, ↓gDPop2, ↓gTIdx, ↓gLKeys, ↓gDisp, ↓gAsgT, ↓gFldAug, ↓gts, ↓gts0, ↓gnm, ↓gfl, ↓gds, ↓x_lenSt, ↓x_enumK, ↓x_enumKL, ↓gSortK, ↓gSortKR, ↓gFrD, ↓gFzD]
        have hmn := hmon hw
        rw [if_neg (by omega)]
        exact ⟨_, _, _, _, _, _, _, _, rfl, h2, rfl, rfl, rfl, rfl, rfl, rfl⟩
      · have ho : ow r.w = "on" := by rw [hw]; rfl
        rw [ho] at hm
        have eP : dgetP (nKey r.n (cw Q r.w r.n)) ((numL "on" R').map fun t => nKey t.1 t.2.1) ((numL "on" R').map fun t => D.int (t.2.2 : Nat)) = some (.int m) := by rw [pt_get, hm]; rfl
        refine ⟨[.inr "on", .inr "off"], [.loc (S.length + 2), .loc (S.length + 4)], .inr r.w, .loc (S.length + 4), by simp only [dicOf, at0 _ _ _ _ u0], rfl, by rw [hw]; rfl, ⟨_, _, by simp only [dicTOf, at0 _ _ _ _ u4]; rfl⟩, by decide, (numL "on" R').map (fun t => nKey t.1 t.2.1), (numL "on" R').map (fun t => D.int (t.2.2 : Nat)), nKey r.n (cw Q r.w r.n), by simp only [dicTOf, at0 _ _ _ _ u4], rfl, ?_⟩
        rw [eP, Option.getD_some, if_neg (by simp [D.isNon])]
        refine ⟨(wd_ok hrr.2.1).1, by decide +kernel, ?_⟩
        rw [if_neg (by rw [hw]; decide +kernel)]
        exact ⟨_, _, _, _, _, _, _, _, rfl, h2, rfl, rfl, rfl, rfl, rfl, rfl⟩
    · rw [hc.get] at hd
      by_cases c0 : cw Q r.w r.n = 0
      rotate_left
      · rw [if_neg c0] at hd; cases hd
      rw [s0]
      refine ⟨by decide, U.length, kputP (wKey r.w r.n) ks, dputP (wKey r.w r.n) (.int 0) ks ds, wKey r.w r.n, (0 : Int), rfl, g0, rfl, by rw [get_put hc.len, if_pos rfl], by have := kput_len (k := wKey r.w r.n) (ks := ks); omega, ?_⟩
      rw [s0]
      have h2 := wt_put (R := Q) (r := r) (i := i) (c := 0) (ks := kputP (wKey r.w r.n) ks) (ds := dputP (wKey r.w r.n) (.int 0) ks ds) (put_lenP hc.len) (Nat.le_trans kput_len (by omega)) (fun w n e => by rw [get_put hc.len, if_neg (fun z => e (wKey_inj z)), hc.get]) c0.symm
      rcases hrr.2.1 with hw | hw
      · have ho : ow r.w = "off" := by rw [hw]; rfl
        rw [ho] at hm
        have eP : dgetP (nKey r.n (cw Q r.w r.n)) ((numL "off" R').map fun t => nKey t.1 t.2.1) ((numL "off" R').map fun t => D.int (t.2.2 : Nat)) = some (.int m) := by rw [pt_get, hm]; rfl
        refine ⟨[.inr "on", .inr "off"], [.loc (S.length + 2), .loc (S.length + 4)], .inr r.w, .loc (S.length + 2), by simp only [dicOf, at0 _ _ _ _ u0], rfl, by rw [hw]; rfl, ⟨_, _, by simp only [dicTOf, at0 _ _ _ _ u2]; rfl⟩, by decide, (numL "off" R').map (fun t => nKey t.1 t.2.1), (numL "off" R').map (fun t => D.int (t.2.2 : Nat)), nKey r.n (cw Q r.w r.n), by simp only [dicTOf, at0 _ _ _ _ u2], by rw [c0]; rfl, ?_⟩
        rw [eP, Option.getD_some, if_neg (by simp [D.isNon])]
        refine ⟨(wd_ok hrr.2.1).1, by decide +kernel, ?_⟩
        rw [if_pos hw]
        simp only [↓x_eqSS, ↓x_neSS, ↓gKGet, ↓x_kget, ↓x_ixE, at_last, ↓x_appE, ↓x_tyE, ↓x_itE, ↓x_lenE, ↓x_nePr, ↓x_eqPr, ↓x_neE, ↓x_lenr, ↓x_lenrI, ↓gRev, ↓x_par3, ↓x_par33, ↓x_fld, ↓x_fset, ↓x_mkF, ↓x_mk, ↓x_meth, ↓x_fldO, ↓x_fsetE, ↓x_fldE, ↓x_methO, ↓x_isiCO, ↓x_isiCN, ↓x_isiCT, ↓x_isiCLi, ↓x_isiCS, ↓x_isiCI, ↓x_own, ↓x_eqT2, ↓x_neT2, ↓x_neL4, ↓x_eqLN, ↓x_neNil, ↓x_gset, ↓x_lc, ↓x_for, ↓x_it, ↓x_rn1, ↓x_rn2, ↓x_enu, ↓x_zip, ↓x_itS, ↓x_itL, ↓x_itK, ↓x_itT, ↓x_rn1I, ↓x_rn2I, ↓x_enuL, ↓x_enuK, ↓x_zipL, ↓x_ixS0, ↓x_ixL, ↓x_ixT, ↓x_ixK, x_at0, x_at1, x_at2, x_at3, x_at4, ↓x_set00, ↓x_set01, ↓x_set02, ↓x_aug1, ↓x_aug2, ↓x_aug3, ↓x_aug4, ↓x_aug5, ↓x_aug6, ↓x_aug7, ↓x_aug8, ↓x_aug9, ↓x_aug10, ↓x_aug11, ↓x_aug12, ↓x_aug13, ↓x_aug14, ↓x_aug15, ↓x_aug16, ↓x_aug17, ↓x_aug18, ↓x_aug19, ↓x_aug20, ↓x_aug21, ↓x_aug22, ↓x_aug23, Int.reduceToNat, Int.reducePow, ↓gSeq, ↓gIfS, ↓gSet, ↓gAsg, ↓x_par, ↓x_par2, ↓gRet, ↓gRetN, ↓gNext, ↓gDrop, ↓gBreak, ↓gCont, ↓gDead, ↓gCB, ↓gB2, ↓gU, ↓gC, ↓Dl.gCons, ↓Dl.gNil, ↓Dl.gTup, ↓Dl.gLst, ↓gTest, ↓gOrB, ↓gAndB, ↓gNotB, ↓gAndV, ↓gOrV, ↓gNotV, ↓gIf, ↓gIx, ↓gSl, ↓gPart, ↓gNoP, ↓gMt, ↓gCall, ↓gArgs, ↓gIsN, ↓gNotN, ↓gChain, ↓x_fmtS, ↓x_afS, ↓x_afI, ↓x_js0, ↓x_jsc, ↓gJoined, ↓gYes, ↓x_bnm, ↓x_btp, ↓x_bn, ↓x_bc, ↓x_nnN, ↓x_nnI, ↓x_nnS, ↓x_nnB, ↓x_nnT, ↓x_nnL, ↓x_nnO, ↓x_nnl, ↓x_tyS, ↓x_tyL, ↓x_i2, ↓aSub, ↓aFdiv, ↓aMod, ↓aPow, ↓aShr, ↓aLt, ↓aLe, ↓aGt, ↓aGe, ↓x_addI, ↓x_addS, ↓x_mulI, ↓x_iaddS, ↓x_iaddI, ↓x_neg, ↓x_eqI, ↓x_neI, ↓x_eqS, ↓x_neS, ↓x_eqB, ↓x_neB, ↓x_eqNI, ↓x_neNI, ↓x_lenS, ↓x_lenL_l, ↓x_lenL_k, ↓x_lenL_t, ↓x_str, ↓x_intI, ↓x_intB, ↓x_divmod, ↓x_max2, ↓x_min2, ↓x_ixS, ↓x_slS, ↓x_slT, ↓x_slL_l, ↓x_slL_k, ↓x_inS, ↓x_newT, ↓x_newF, ↓x_si, ↓x_s1, ↓x_s0, ↓x_rpart, ↓x_part, ↓x_a1, ↓x_a2, ↓x_isiStr, ↓x_isiInt, ↓x_isiIntB, ↓x_isiIntS, ↓x_isiBB, ↓x_isiBI, ↓x_isiStrI, ↓x_isiNonI, ↓x_isiNonS, ↓x_isiT, ↓x_isiL, ↓x_var0, ↓x_varS, ↓x_ex, ↓x_aug0, gat, pick, Option.some.injEq, D.bl.injEq, D.int.injEq, D.str.injEq, D.tup.injEq, D.lst.injEq, List.cons.injEq, and_true, true_and, List.set_cons_zero, List.set_cons_succ, List.length_cons, List.length_nil, List.filterMap_cons, List.filterMap_nil, List.getElem?_cons_zero, List.getElem?_cons_succ, Option.bind_some, ↓reduceIte, if_true, if_false, Bool.false_eq_true, Bool.true_eq_false, decide_eq_true_eq, beq_self_eq_true, Bool.not_true, Bool.not_false, Bool.not_eq_true', decide_eq_false_iff_not, exists_eq_left', exists_eq_left, exists_eq, ↓x_dnT, ↓x_dnF, ↓gAsgL, ↓gMMDef, ↓gDSet, ↓gSItems, ↓x_nilL, ↓x_nilE, List.isEmpty_nil, List.isEmpty_cons, Bool.true_xor, Bool.false_xor, ↓gSortSet, ↓gLenFz, ↓gOrT, ↓gAndT, ↓gTryAs, ↓gTryO, ↓gRaise, ↓gCallX, ↓gMethX, ↓gMakeX, ↓gFldX, ↓x_inXs, Bool.false_xor, Bool.true_xor, ↓gOrS, ↓x_fmtRS, ↓x_afRS, ↓x_afRI, ↓x_stO, ↓x_zipS, ↓x_zipE, ↓x_zipSL, ↓x_zipST, ↓x_zipEL, ↓x_augix, ↓x_isB, ↓x_notB, ↓gLR1, ↓gLR2, ↓gDIxT, ↓gDGt1T, ↓gDSetT, ↓gDNewT, ↓gDIx, ↓gDGt1, ↓gDGt2, ↓gDIn, ↓gDSetd, ↓gDPop1, ↓gDPop2, ↓gTIdx, ↓gLKeys, ↓gDisp, ↓gAsgT, ↓gFldAug, ↓gts, ↓gts0, ↓gnm, ↓gfl, ↓gds, ↓x_lenSt, ↓x_enumK, ↓x_enumKL, ↓gSortK, ↓gSortKR, ↓gFrD, ↓gFzD]
        have hmn := hmon hw
        rw [if_neg (by omega)]
        exact ⟨_, _, _, _, _, _, _, _, rfl, h2, rfl, rfl, rfl, rfl, rfl, rfl⟩
      · have ho : ow r.w = "on" := by rw [hw]; rfl
        rw [ho] at hm
        have eP : dgetP (nKey r.n (cw Q r.w r.n)) ((numL "on" R').map fun t => nKey t.1 t.2.1) ((numL "on" R').map fun t => D.int (t.2.2 : Nat)) = some (.int m) := by rw [pt_get, hm]; rfl
        refine ⟨[.inr "on", .inr "off"], [.loc (S.length + 2), .loc (S.length + 4)], .inr r.w, .loc (S.length + 4), by simp only [dicOf, at0 _ _ _ _ u0], rfl, by rw [hw]; rfl, ⟨_, _, by simp only [dicTOf, at0 _ _ _ _ u4]; rfl⟩, by decide, (numL "on" R').map (fun t => nKey t.1 t.2.1), (numL "on" R').map (fun t => D.int (t.2.2 : Nat)), nKey r.n (cw Q r.w r.n), by simp only [dicTOf, at0 _ _ _ _ u4], by rw [c0]; rfl, ?_⟩
        rw [eP, Option.getD_some, if_neg (by simp [D.isNon])]
        refine ⟨(wd_ok hrr.2.1).1, by decide +kernel, ?_⟩
        rw [if_neg (by rw [hw]; decide +kernel)]
        exact ⟨_, _, _, _, _, _, _, _, rfl, h2, rfl, rfl, rfl, rfl, rfl, rfl⟩
  · rintro ρ S' ⟨ks, ds, x5, x6, x7, x8, x9, x10, rfl, hc, rfl⟩
    refine ⟨trivial, ?_⟩
    simp only [↓x_eqSS, ↓x_neSS, ↓gKGet, ↓x_kget, ↓x_ixE, at_last, ↓x_appE, ↓x_tyE, ↓x_itE, ↓x_lenE, ↓x_nePr, ↓x_eqPr, ↓x_neE, ↓x_lenr, ↓x_lenrI, ↓gRev, ↓x_par3, ↓x_par33, ↓x_fld, ↓x_fset, ↓x_mkF, ↓x_mk, ↓x_meth, ↓x_fldO, ↓x_fsetE, ↓x_fldE, ↓x_methO, ↓x_isiCO, ↓x_isiCN, ↓x_isiCT, ↓x_isiCLi, ↓x_isiCS, ↓x_isiCI, ↓x_own, ↓x_eqT2, ↓x_neT2, ↓x_neL4, ↓x_eqLN, ↓x_neNil, ↓x_gset, ↓x_lc, ↓x_for, ↓x_it, ↓x_rn1, ↓x_rn2, ↓x_enu, ↓x_zip, ↓x_itS, ↓x_itL, ↓x_itK, ↓x_itT, ↓x_rn1I, ↓x_rn2I, ↓x_enuL, ↓x_enuK, ↓x_zipL, ↓x_ixS0, ↓x_ixL, ↓x_ixT, ↓x_ixK, x_at0, x_at1, x_at2, x_at3, x_at4, ↓x_set00, ↓x_set01, ↓x_set02, ↓x_aug1, ↓x_aug2, ↓x_aug3, ↓x_aug4, ↓x_aug5, ↓x_aug6, ↓x_aug7, ↓x_aug8, ↓x_aug9, ↓x_aug10, ↓x_aug11, ↓x_aug12, ↓x_aug13, ↓x_aug14, ↓x_aug15, ↓x_aug16, ↓x_aug17, ↓x_aug18, ↓x_aug19, ↓x_aug20, ↓x_aug21, ↓x_aug22, ↓x_aug23, Int.reduceToNat, Int.reducePow, ↓gSeq, ↓gIfS, ↓gSet, ↓gAsg, ↓x_par, ↓x_par2, ↓gRet, ↓gRetN, ↓gNext, ↓gDrop, ↓gBreak, ↓gCont, ↓gDead, ↓gCB, ↓gB2, ↓gU, ↓gC, ↓Dl.gCons, ↓Dl.gNil, ↓Dl.gTup, ↓Dl.gLst, ↓gTest, ↓gOrB, ↓gAndB, ↓gNotB, ↓gAndV, ↓gOrV, ↓gNotV, ↓gIf, ↓gIx, ↓gSl, ↓gPart, ↓gNoP, ↓gMt, ↓gCall, ↓gArgs, ↓gIsN, ↓gNotN, ↓gChain, ↓x_fmtS, ↓x_afS, ↓x_afI, ↓x_js0, ↓x_jsc, ↓gJoined, ↓gYes, ↓x_bnm, ↓x_btp, ↓x_bn, ↓x_bc, ↓x_nnN, ↓x_nnI, ↓x_nnS, ↓x_nnB, ↓x_nnT, ↓x_nnL, ↓x_nnO, ↓x_nnl, ↓x_tyS, ↓x_tyL, ↓x_i2, ↓aSub, ↓aFdiv, ↓aMod, ↓aPow, ↓aShr, ↓aLt, ↓aLe, ↓aGt, ↓aGe, ↓x_addI, ↓x_addS, ↓x_mulI, ↓x_iaddS, ↓x_iaddI, ↓x_neg, ↓x_eqI, ↓x_neI, ↓x_eqS, ↓x_neS, ↓x_eqB, ↓x_neB, ↓x_eqNI, ↓x_neNI, ↓x_lenS, ↓x_lenL_l, ↓x_lenL_k, ↓x_lenL_t, ↓x_str, ↓x_intI, ↓x_intB, ↓x_divmod, ↓x_max2, ↓x_min2, ↓x_ixS, ↓x_slS, ↓x_slT, ↓x_slL_l, ↓x_slL_k, ↓x_inS, ↓x_newT, ↓x_newF, ↓x_si, ↓x_s1, ↓x_s0, ↓x_rpart, ↓x_part, ↓x_a1, ↓x_a2, ↓x_isiStr, ↓x_isiInt, ↓x_isiIntB, ↓x_isiIntS, ↓x_isiBB, ↓x_isiBI, ↓x_isiStrI, ↓x_isiNonI, ↓x_isiNonS, ↓x_isiT, ↓x_isiL, ↓x_var0, ↓x_varS, ↓x_ex, ↓x_aug0, gat, pick, Option.some.injEq, D.bl.injEq, D.int.injEq, D.str.injEq, D.tup.injEq, D.lst.injEq, List.cons.injEq, and_true, true_and, List.set_cons_zero, List.set_cons_succ, List.length_cons, List.length_nil, List.filterMap_cons, List.filterMap_nil, List.getElem?_cons_zero, List.getElem?_cons_succ, Option.bind_some, ↓reduceIte, if_true, if_false, Bool.false_eq_true, Bool.true_eq_false, decide_eq_true_eq, beq_self_eq_true, Bool.not_true, Bool.not_false, Bool.not_eq_true', decide_eq_false_iff_not, exists_eq_left', exists_eq_left, exists_eq, ↓x_dnT, ↓x_dnF, ↓gAsgL, ↓gMMDef, ↓gDSet, ↓gSItems, ↓x_nilL, ↓x_nilE, List.isEmpty_nil, List.isEmpty_cons, Bool.true_xor, Bool.false_xor, ↓gSortSet, ↓gLenFz, ↓gOrT, ↓gAndT, ↓gTryAs, ↓gTryO, ↓gRaise, ↓gCallX, ↓gMethX, ↓gMakeX, ↓gFldX, ↓x_inXs, Bool.false_xor, Bool.true_xor, ↓gOrS, ↓x_fmtRS, ↓x_afRS, ↓x_afRI, ↓x_stO, ↓x_zipS, ↓x_zipE, ↓x_zipSL, ↓x_zipST, ↓x_zipEL, ↓x_augix, ↓x_isB, ↓x_notB, ↓gLR1, ↓gLR2, ↓gDIxT, ↓gDGt1T, ↓gDSetT, ↓gDNewT, ↓gDIx, ↓gDGt1, ↓gDGt2, ↓gDIn, ↓gDSetd, ↓gDPop1, ↓gDPop2, ↓gTIdx, ↓gLKeys, ↓gDisp, ↓gAsgT, ↓gFldAug, ↓gts, ↓gts0, ↓gnm, ↓gfl, ↓gds, ↓x_lenSt, ↓x_enumK, ↓x_enumKL, ↓gSortK, ↓gSortKR, ↓gFrD, ↓gFzD]
    have := x_finY (S0 := S) (G := [some (.dic [.inr "on", .inr "off"] [.loc (S.length + 2), .loc (S.length + 4)]), some (MO.dic k1 d1), some (nMO (numL "off" R')), some (MO.dic k2 d2), some (nMO (numL "on" R')), some (.dicT ks ds)]) (ds := []) (q := q) hs ⟨rfl, h⟩
    have e1 : U ++ [some (MO.dicT ks ds), some (MO.lst [])] = S ++ [some (.dic [.inr "on", .inr "off"] [.loc (S.length + 2), .loc (S.length + 4)]), some (MO.dic k1 d1), some (nMO (numL "off" R')), some (MO.dic k2 d2), some (nMO (numL "on" R')), some (.dicT ks ds)] ++ [some (.lst [])] := by rw [hU]; simp
    have e2 : U.length + 1 = (S ++ [some (MO.dic [.inr "on", .inr "off"] [.loc (S.length + 2), .loc (S.length + 4)]), some (MO.dic k1 d1), some (nMO (numL "off" R')), some (MO.dic k2 d2), some (nMO (numL "on" R')), some (.dicT ks ds)]).length := by rw [List.length_append]; simp only [List.length_cons, List.length_nil]; omega
    rw [e1, e2]
    exact this
end
end Lw
namespace Lw
open PySem L2 Dl
section
variable {P : Program} {w : World} {K : PySem.W.Frag} {mg : Str → Option Value} {base : Heap} {a : Ad}
theorem take_all {A : Type} {P : List A → Prop} (R : List A) (h0 : P []) (hs : ∀ i r, R[i]? = some r → P (R.take i) → P (R.take i ++ [r])) : P R := by
  have : ∀ i, i ≤ R.length → P (R.take i) := by
    intro i
    induction i with
    | zero => intro _; exact h0
    | succ i ih =>
      intro hi
      have e : R[i]? = some R[i] := List.getElem?_eq_getElem (by omega)
      rw [take_snoc e]
      exact hs i _ e (ih (by omega))
  have h := this R.length (Nat.le_refl _)
  rwa [List.take_length] at h
theorem cnt_cw (w n : Str) (R : List Rw) : cnt (numL w R) n = cw R w n := by
  refine take_all (P := fun R => cnt (numL w R) n = cw R w n) R rfl fun i r _ ih => ?_
  rw [numL_snoc, cw_snoc, ← ih]
  unfold nStep
  by_cases c : r.w = w
  · rw [if_pos c, cnt_snoc]
    by_cases c2 : r.n = n
    · rw [if_pos c2, if_pos ⟨c, c2⟩]
    · rw [if_neg c2, if_neg (fun z => c2 z.2)]
  · rw [if_neg c, if_neg (fun z => c z.1)]
    rfl
/-- each row on has its row off -/
theorem on_pt {X Y : List Rw} (h : NoF X Y) : ∀ t ∈ numL "on" X, ∃ m, pt (numL "off" Y) t.1 t.2.1 = some m ∧ t.2.2 ≤ m := by
  refine take_all (P := fun R => ∀ t ∈ numL "on" R, ∃ m, pt (numL "off" Y) t.1 t.2.1 = some m ∧ t.2.2 ≤ m) X (fun _ z => nomatch z) fun i r hr ih => ?_
  intro t ht
  rw [numL_snoc] at ht
  unfold nStep at ht
  split at ht
  · rename_i c
    rcases List.mem_append.mp ht with ht | ht
    · exact ih t ht
    · rw [List.mem_singleton.mp ht]
      obtain ⟨m, h1, h2⟩ := h i r hr
      refine ⟨m, ?_, h2 c⟩
      rw [show ow r.w = "off" by rw [c]; rfl] at h1
      rw [show cnt (numL "on" (X.take i)) r.n = cw (X.take i) r.w r.n by rw [cnt_cw, c]]
      exact h1
  · exact ih t ht
theorem itm : ∀ L : List Nu, List.zipWith (fun k d => D.tup [.tup (List.map kD k), d]) (L.map fun t => nKey t.1 t.2.1) (L.map fun t => D.int (t.2.2 : Nat)) = L.map fun t => D.tup [.tup [.str t.1, .int (t.2.1 : Nat)], .int (t.2.2 : Nat)]
  | [] => rfl
  | t :: L => by
    rw [List.map_cons, List.map_cons, List.zipWith_cons_cons, itm L]
    rfl
theorem x_nb {ρ : Env_} {i j k : Nat} {x y z : D} : Tgt.bind (.tp [.tp [.nm i, .nm j], .nm k]) (.tup [.tup [x, y], z]) ρ = some (((ρ.set i (some x)).set j (some y)).set k (some z)) := by
  simp [Tgt.bind, Tgt.binds]
theorem crF_len (X Y : List Rw) (i : Nat) : (crF X Y i).length ≤ X.length := by
  unfold crF
  rw [List.length_map]
  exact num_len _ _
theorem toPys_cr : ∀ L : List Cr, toPys (L.map crD5) = some (L.map crP)
  | [] => rfl
  | t :: L => by rw [List.map_cons, List.map_cons, toPys, toPys_cr L]; simp [crP, toPy, toPys]
theorem x_b5 {ρ : Env_} {i j k l o : Nat} {x y z u v : D} : Tgt.bind (.tp [.nm i, .nm j, .nm k, .nm l, .nm o]) (.tup [x, y, z, u, v]) ρ = some (((((ρ.set i (some x)).set j (some y)).set k (some z)).set l (some u)).set o (some v)) := by
  simp [Tgt.bind, Tgt.binds]
theorem core_crossings (T : Txt K mg a) : ∀ ds S q N F, Two a ds N F → CrOk N F → (∀ T, q (.loc (S ++ T).length) (S ++ T ++ [some (.lst ((crs N F).map dyD))])) → g_crossings K a { nx := fun _ S' => q .non S', rt := q } (startD N_crossings ds) S := by
  rintro ds S q N F h2 hc h
  have hz : 5000 ≤ sizeLine := by decide
  have hlN := hc.n.le
  have hlF := hc.f.le
  obtain ⟨b1, R1, b2, R2, rfl, hO1, hO2, f12, f21, hne, ks, ds', rfl, rfl, gN, gF⟩ : ∃ b1 R1 b2 R2, ds = [bkV a b1 R1, bkV a b2 R2] ∧ BkOk b1 R1 ∧ BkOk b2 R2 ∧ NoF R1 R2 ∧ NoF R2 R1 ∧ b1 ≠ b2 ∧ ∃ (ks : List Key) (ds' : List D), ks = [.inr b1, .inr b2] ∧ ds' = [bkV a b1 R1, bkV a b2 R2] ∧ dget (.inr "near") ks ds' = some (bkV a "near" N) ∧ dget (.inr "far") ks ds' = some (bkV a "far" F) := by
    rcases h2 with rfl | rfl
    · exact ⟨_, _, _, _, rfl, hc.n, hc.f, hc.nf, hc.fn, by decide +kernel, _, _, rfl, rfl, rfl, rfl⟩
    · exact ⟨_, _, _, _, rfl, hc.f, hc.n, hc.fn, hc.nf, by decide +kernel, _, _, rfl, rfl, rfl, rfl⟩
  rw [st_crossings]
  simp only [g_crossings, gDisp2, ↓bv_bank T, ↓x_enumT, ↓x_enumTL, ↓x_eqSS, ↓x_neSS, ↓gKGet, ↓x_kget, ↓x_ixE, at_last, ↓x_appE, ↓x_tyE, ↓x_itE, ↓x_lenE, ↓x_nePr, ↓x_eqPr, ↓x_neE, ↓x_lenr, ↓x_lenrI, ↓gRev, ↓x_par3, ↓x_par33, ↓x_fld, ↓x_fset, ↓x_mkF, ↓x_mk, ↓x_meth, ↓x_fldO, ↓x_fsetE, ↓x_fldE, ↓x_methO, ↓x_isiCO, ↓x_isiCN, ↓x_isiCT, ↓x_isiCLi, ↓x_isiCS, ↓x_isiCI, ↓x_own, ↓x_eqT2, ↓x_neT2, ↓x_neL4, ↓x_eqLN, ↓x_neNil, ↓x_gset, ↓x_lc, ↓x_for, ↓x_it, ↓x_rn1, ↓x_rn2, ↓x_enu, ↓x_zip, ↓x_itS, ↓x_itL, ↓x_itK, ↓x_itT, ↓x_rn1I, ↓x_rn2I, ↓x_enuL, ↓x_enuK, ↓x_zipL, ↓x_ixS0, ↓x_ixL, ↓x_ixT, ↓x_ixK, x_at0, x_at1, x_at2, x_at3, x_at4, ↓x_set00, ↓x_set01, ↓x_set02, ↓x_aug1, ↓x_aug2, ↓x_aug3, ↓x_aug4, ↓x_aug5, ↓x_aug6, ↓x_aug7, ↓x_aug8, ↓x_aug9, ↓x_aug10, ↓x_aug11, ↓x_aug12, ↓x_aug13, ↓x_aug14, ↓x_aug15, ↓x_aug16, ↓x_aug17, ↓x_aug18, ↓x_aug19, ↓x_aug20, ↓x_aug21, ↓x_aug22, ↓x_aug23, Int.reduceToNat, Int.reducePow, ↓gSeq, ↓gIfS, ↓gSet, ↓gAsg, ↓x_par, ↓x_par2, ↓gRet, ↓gRetN, ↓gNext, ↓gDrop, ↓gBreak, ↓gCont, ↓gDead, ↓gCB, ↓gB2, ↓gU, ↓gC, ↓Dl.gCons, ↓Dl.gNil, ↓Dl.gTup, ↓Dl.gLst, ↓gTest, ↓gOrB, ↓gAndB, ↓gNotB, ↓gAndV, ↓gOrV, ↓gNotV, ↓gIf, ↓gIx, ↓gSl, ↓gPart, ↓gNoP, ↓gMt, ↓gCall, ↓gArgs, ↓gIsN, ↓gNotN, ↓gChain, ↓x_fmtS, ↓x_afS, ↓x_afI, ↓x_js0, ↓x_jsc, ↓gJoined, ↓gYes, ↓x_bnm, ↓x_btp, ↓x_bn, ↓x_bc, ↓x_nnN, ↓x_nnI, ↓x_nnS, ↓x_nnB, ↓x_nnT, ↓x_nnL, ↓x_nnO, ↓x_nnl, ↓x_tyS, ↓x_tyL, ↓x_i2, ↓aSub, ↓aFdiv, ↓aMod, ↓aPow, ↓aShr, ↓aLt, ↓aLe, ↓aGt, ↓aGe, ↓x_addI, ↓x_addS, ↓x_mulI, ↓x_iaddS, ↓x_iaddI, ↓x_neg, ↓x_eqI, ↓x_neI, ↓x_eqS, ↓x_neS, ↓x_eqB, ↓x_neB, ↓x_eqNI, ↓x_neNI, ↓x_lenS, ↓x_lenL_l, ↓x_lenL_k, ↓x_lenL_t, ↓x_str, ↓x_intI, ↓x_intB, ↓x_divmod, ↓x_max2, ↓x_min2, ↓x_ixS, ↓x_slS, ↓x_slT, ↓x_slL_l, ↓x_slL_k, ↓x_inS, ↓x_newT, ↓x_newF, ↓x_si, ↓x_s1, ↓x_s0, ↓x_rpart, ↓x_part, ↓x_a1, ↓x_a2, ↓x_isiStr, ↓x_isiInt, ↓x_isiIntB, ↓x_isiIntS, ↓x_isiBB, ↓x_isiBI, ↓x_isiStrI, ↓x_isiNonI, ↓x_isiNonS, ↓x_isiT, ↓x_isiL, ↓x_var0, ↓x_varS, ↓x_ex, ↓x_aug0, gat, pick, Option.some.injEq, D.bl.injEq, D.int.injEq, D.str.injEq, D.tup.injEq, D.lst.injEq, List.cons.injEq, and_true, true_and, List.set_cons_zero, List.set_cons_succ, List.length_cons, List.length_nil, List.filterMap_cons, List.filterMap_nil, List.getElem?_cons_zero, List.getElem?_cons_succ, Option.bind_some, ↓reduceIte, if_true, if_false, Bool.false_eq_true, Bool.true_eq_false, decide_eq_true_eq, beq_self_eq_true, Bool.not_true, Bool.not_false, Bool.not_eq_true', decide_eq_false_iff_not, exists_eq_left', exists_eq_left, exists_eq, ↓x_dnT, ↓x_dnF, ↓gAsgL, ↓gMMDef, ↓gDSet, ↓gSItems, ↓x_nilL, ↓x_nilE, List.isEmpty_nil, List.isEmpty_cons, Bool.true_xor, Bool.false_xor, ↓gSortSet, ↓gLenFz, ↓gOrT, ↓gAndT, ↓gTryAs, ↓gTryO, ↓gRaise, ↓gCallX, ↓gMethX, ↓gMakeX, ↓gFldX, ↓x_inXs, Bool.false_xor, Bool.true_xor, ↓gOrS, ↓x_fmtRS, ↓x_afRS, ↓x_afRI, ↓x_stO, ↓x_zipS, ↓x_zipE, ↓x_zipSL, ↓x_zipST, ↓x_zipEL, ↓x_augix, ↓x_isB, ↓x_notB, ↓gLR1, ↓gLR2, ↓gDIxT, ↓gDGt1T, ↓gDSetT, ↓gDNewT, ↓gDIx, ↓gDGt1, ↓gDGt2, ↓gDIn, ↓gDSetd, ↓gDPop1, ↓gDPop2, ↓gTIdx, ↓gLKeys, ↓gDisp, ↓gAsgT, ↓gFldAug, ↓gts, ↓gts0, ↓gnm, ↓gfl, ↓gds, ↓x_lenSt, ↓x_enumK, ↓x_enumKL, ↓gSortK, ↓gSortKR, ↓gFrD, ↓gFzD]
  refine ⟨.inr b1, .inr b2, rfl, rfl, fun z => hne (Sum.inr.inj z), by simp, ?_⟩
  refine ⟨_, _, _, _, rfl, hO1, hO2, f12, _, _, _, _, rfl, hO2, hO1, f21, ?_⟩
  rw [show (S ++ [some (MO.dic [] [])]).set S.length (some (.dic [.inr b1, .inr b2] [bkV a b1 R1, bkV a b2 R2])) = S ++ [some (.dic [.inr b1, .inr b2] [bkV a b1 R1, bkV a b2 R2])] by simp]
  refine x_addLL.mpr ⟨by decide, ?_⟩
  rw [x_newT]
  refine ⟨by decide, x_nilL.mpr ⟨false, rfl, ?_⟩⟩
  rw [if_neg (by decide)]
  refine ⟨by decide, ?_⟩
  generalize hC : S ++ [some (MO.dic [Sum.inr b1, Sum.inr b2] [bkV a b1 R1, bkV a b2 R2])] = C
  have cL : C.length = S.length + 1 := by rw [← hC, List.length_append]; rfl
  have c0 : C[S.length]? = some (some (.dic [.inr b1, .inr b2] [bkV a b1 R1, bkV a b2 R2])) := by rw [← hC]; simp
  refine ⟨fun i ρ S' => ∃ (G : Sto) (x4 x5 x6 x7 x8 x10 x11 x12 : Option D), S' = C ++ [some (.lst ((([crF N F 0, crF F N 1].take i).flatten).map crD5))] ++ G ∧ ρ = [some (bkV a b1 R1), some (bkV a b2 R2), some (.loc S.length), some (.lst []), x4, x5, x6, x7, x8, some (.loc C.length), x10, x11, x12], ?_, ?_, ?_⟩
  · exact ⟨[], _, _, _, _, _, _, _, _, by simp, rfl⟩
  · rintro i d ρ S' hd ⟨G, x4, x5, x6, x7, x8, x10, x11, x12, rfl, rfl⟩
    obtain ⟨e, he, rfl⟩ := enum_get hd
    refine ⟨trivial, _, x_b2, ?_⟩
    obtain ⟨b, X, Y, rfl, hb, hX, hY, hXY, gX, gY, hcr, hAl⟩ : ∃ b X Y, e = .str b ∧ BaOk b ∧ BkOk b X ∧ BkOk (oth b) Y ∧ NoF X Y ∧ dget (.inr b) [.inr b1, .inr b2] [bkV a b1 R1, bkV a b2 R2] = some (bkV a b X) ∧ dget (.inr (oth b)) [.inr b1, .inr b2] [bkV a b1 R1, bkV a b2 R2] = some (bkV a (oth b) Y) ∧ [crF N F 0, crF F N 1][i]? = some (crF X Y i) ∧ (([crF N F 0, crF F N 1].take i).flatten).length ≤ 1000 := by
      match i, he with
      | 0, he => cases he; exact ⟨_, N, F, rfl, .inl rfl, hc.n, hc.f, hc.nf, gN, gF, rfl, Nat.zero_le _⟩
      | 1, he => cases he; exact ⟨_, F, N, rfl, .inr rfl, hc.f, hc.n, hc.fn, gF, gN, rfl, by simpa using Nat.le_trans (crF_len N F 0) hlN⟩
      | i + 2, he => cases he
    simp only [gDIx, ↓x_eqSS, ↓x_neSS, ↓gKGet, ↓x_kget, ↓x_ixE, at_last, ↓x_appE, ↓x_tyE, ↓x_itE, ↓x_lenE, ↓x_nePr, ↓x_eqPr, ↓x_neE, ↓x_lenr, ↓x_lenrI, ↓gRev, ↓x_par3, ↓x_par33, ↓x_fld, ↓x_fset, ↓x_mkF, ↓x_mk, ↓x_meth, ↓x_fldO, ↓x_fsetE, ↓x_fldE, ↓x_methO, ↓x_isiCO, ↓x_isiCN, ↓x_isiCT, ↓x_isiCLi, ↓x_isiCS, ↓x_isiCI, ↓x_own, ↓x_eqT2, ↓x_neT2, ↓x_neL4, ↓x_eqLN, ↓x_neNil, ↓x_gset, ↓x_lc, ↓x_for, ↓x_it, ↓x_rn1, ↓x_rn2, ↓x_enu, ↓x_zip, ↓x_itS, ↓x_itL, ↓x_itK, ↓x_itT, ↓x_rn1I, ↓x_rn2I, ↓x_enuL, ↓x_enuK, ↓x_zipL, ↓x_ixS0, ↓x_ixL, ↓x_ixT, ↓x_ixK, x_at0, x_at1, x_at2, x_at3, x_at4, ↓x_set00, ↓x_set01, ↓x_set02, ↓x_aug1, ↓x_aug2, ↓x_aug3, ↓x_aug4, ↓x_aug5, ↓x_aug6, ↓x_aug7, ↓x_aug8, ↓x_aug9, ↓x_aug10, ↓x_aug11, ↓x_aug12, ↓x_aug13, ↓x_aug14, ↓x_aug15, ↓x_aug16, ↓x_aug17, ↓x_aug18, ↓x_aug19, ↓x_aug20, ↓x_aug21, ↓x_aug22, ↓x_aug23, Int.reduceToNat, Int.reducePow, ↓gSeq, ↓gIfS, ↓gSet, ↓gAsg, ↓x_par, ↓x_par2, ↓gRet, ↓gRetN, ↓gNext, ↓gDrop, ↓gBreak, ↓gCont, ↓gDead, ↓gCB, ↓gB2, ↓gU, ↓gC, ↓Dl.gCons, ↓Dl.gNil, ↓Dl.gTup, ↓Dl.gLst, ↓gTest, ↓gOrB, ↓gAndB, ↓gNotB, ↓gAndV, ↓gOrV, ↓gNotV, ↓gIf, ↓gIx, ↓gSl, ↓gPart, ↓gNoP, ↓gMt, ↓gCall, ↓gArgs, ↓gIsN, ↓gNotN, ↓gChain, ↓x_fmtS, ↓x_afS, ↓x_afI, ↓x_js0, ↓x_jsc, ↓gJoined, ↓gYes, ↓x_bnm, ↓x_btp, ↓x_bn, ↓x_bc, ↓x_nnN, ↓x_nnI, ↓x_nnS, ↓x_nnB, ↓x_nnT, ↓x_nnL, ↓x_nnO, ↓x_nnl, ↓x_tyS, ↓x_tyL, ↓x_i2, ↓aSub, ↓aFdiv, ↓aMod, ↓aPow, ↓aShr, ↓aLt, ↓aLe, ↓aGt, ↓aGe, ↓x_addI, ↓x_addS, ↓x_mulI, ↓x_iaddS, ↓x_iaddI, ↓x_neg, ↓x_eqI, ↓x_neI, ↓x_eqS, ↓x_neS, ↓x_eqB, ↓x_neB, ↓x_eqNI, ↓x_neNI, ↓x_lenS, ↓x_lenL_l, ↓x_lenL_k, ↓x_lenL_t, ↓x_str, ↓x_intI, ↓x_intB, ↓x_divmod, ↓x_max2, ↓x_min2, ↓x_ixS, ↓x_slS, ↓x_slT, ↓x_slL_l, ↓x_slL_k, ↓x_inS, ↓x_newT, ↓x_newF, ↓x_si, ↓x_s1, ↓x_s0, ↓x_rpart, ↓x_part, ↓x_a1, ↓x_a2, ↓x_isiStr, ↓x_isiInt, ↓x_isiIntB, ↓x_isiIntS, ↓x_isiBB, ↓x_isiBI, ↓x_isiStrI, ↓x_isiNonI, ↓x_isiNonS, ↓x_isiT, ↓x_isiL, ↓x_var0, ↓x_varS, ↓x_ex, ↓x_aug0, gat, pick, Option.some.injEq, D.bl.injEq, D.int.injEq, D.str.injEq, D.tup.injEq, D.lst.injEq, List.cons.injEq, and_true, true_and, List.set_cons_zero, List.set_cons_succ, List.length_cons, List.length_nil, List.filterMap_cons, List.filterMap_nil, List.getElem?_cons_zero, List.getElem?_cons_succ, Option.bind_some, ↓reduceIte, if_true, if_false, Bool.false_eq_true, Bool.true_eq_false, decide_eq_true_eq, beq_self_eq_true, Bool.not_true, Bool.not_false, Bool.not_eq_true', decide_eq_false_iff_not, exists_eq_left', exists_eq_left, exists_eq, ↓x_dnT, ↓x_dnF, ↓gAsgL, ↓gMMDef, ↓gDSet, ↓gSItems, ↓x_nilL, ↓x_nilE, List.isEmpty_nil, List.isEmpty_cons, Bool.true_xor, Bool.false_xor, ↓gSortSet, ↓gLenFz, ↓gOrT, ↓gAndT, ↓gTryAs, ↓gTryO, ↓gRaise, ↓gCallX, ↓gMethX, ↓gMakeX, ↓gFldX, ↓x_inXs, Bool.false_xor, Bool.true_xor, ↓gOrS, ↓x_fmtRS, ↓x_afRS, ↓x_afRI, ↓x_stO, ↓x_zipS, ↓x_zipE, ↓x_zipSL, ↓x_zipST, ↓x_zipEL, ↓x_augix, ↓x_isB, ↓x_notB, ↓gLR1, ↓gLR2, ↓gDIxT, ↓gDGt1T, ↓gDSetT, ↓gDNewT, ↓gDIx, ↓gDGt1, ↓gDGt2, ↓gDIn, ↓gDSetd, ↓gDPop1, ↓gDPop2, ↓gTIdx, ↓gLKeys, ↓gDisp, ↓gAsgT, ↓gFldAug, ↓gts, ↓gts0, ↓gnm, ↓gfl, ↓gds, ↓x_lenSt, ↓x_enumK, ↓x_enumKL, ↓gSortK, ↓gSortKR, ↓gFrD, ↓gFzD]
    rw [take_snoc hcr, List.flatten_append, List.flatten_cons, List.flatten_nil, List.append_nil]
    generalize ([crF N F 0, crF F N 1].take i).flatten = A at *
    have c1 : ∀ (f : Option MO) (H : Sto), dicOf (C ++ [f] ++ H) (.loc S.length) = some ([.inr b1, .inr b2], [bkV a b1 R1, bkV a b2 R2]) := fun f H => by
      have : (C ++ [f] ++ H)[S.length]? = some (some (.dic [.inr b1, .inr b2] [bkV a b1 R1, bkV a b2 R2])) := by
        rw [List.append_assoc, List.getElem?_append_left (by omega), c0]
      simp only [dicOf, this]
    refine ⟨b, rfl, hb, _, _, .inr (oth b), bkV a (oth b) Y, c1 _ _, rfl, gY, ?_⟩
    refine ⟨oth b, Y, _, rfl, hY.le, hY.ro, .inr rfl, fun k1 d1 => ?_⟩
    simp only [gItemsT, gLckV, gDIx, ↓x_eqSS, ↓x_neSS, ↓gKGet, ↓x_kget, ↓x_ixE, at_last, ↓x_appE, ↓x_tyE, ↓x_itE, ↓x_lenE, ↓x_nePr, ↓x_eqPr, ↓x_neE, ↓x_lenr, ↓x_lenrI, ↓gRev, ↓x_par3, ↓x_par33, ↓x_fld, ↓x_fset, ↓x_mkF, ↓x_mk, ↓x_meth, ↓x_fldO, ↓x_fsetE, ↓x_fldE, ↓x_methO, ↓x_isiCO, ↓x_isiCN, ↓x_isiCT, ↓x_isiCLi, ↓x_isiCS, ↓x_isiCI, ↓x_own, ↓x_eqT2, ↓x_neT2, ↓x_neL4, ↓x_eqLN, ↓x_neNil, ↓x_gset, ↓x_lc, ↓x_for, ↓x_it, ↓x_rn1, ↓x_rn2, ↓x_enu, ↓x_zip, ↓x_itS, ↓x_itL, ↓x_itK, ↓x_itT, ↓x_rn1I, ↓x_rn2I, ↓x_enuL, ↓x_enuK, ↓x_zipL, ↓x_ixS0, ↓x_ixL, ↓x_ixT, ↓x_ixK, x_at0, x_at1, x_at2, x_at3, x_at4, ↓x_set00, ↓x_set01, ↓x_set02, ↓x_aug1, ↓x_aug2, ↓x_aug3, ↓x_aug4, ↓x_aug5, ↓x_aug6, ↓x_aug7, ↓x_aug8, ↓x_aug9, ↓x_aug10, ↓x_aug11, ↓x_aug12, ↓x_aug13, ↓x_aug14, ↓x_aug15, ↓x_aug16, ↓x_aug17, ↓x_aug18, ↓x_aug19, ↓x_aug20, ↓x_aug21, ↓x_aug22, ↓x_aug23, Int.reduceToNat, Int.reducePow, ↓gSeq, ↓gIfS, ↓gSet, ↓gAsg, ↓x_par, ↓x_par2, ↓gRet, ↓gRetN, ↓gNext, ↓gDrop, ↓gBreak, ↓gCont, ↓gDead, ↓gCB, ↓gB2, ↓gU, ↓gC, ↓Dl.gCons, ↓Dl.gNil, ↓Dl.gTup, ↓Dl.gLst, ↓gTest, ↓gOrB, ↓gAndB, ↓gNotB, ↓gAndV, ↓gOrV, ↓gNotV, ↓gIf, ↓gIx, ↓gSl, ↓gPart, ↓gNoP, ↓gMt, ↓gCall, ↓gArgs, ↓gIsN, ↓gNotN, ↓gChain, ↓x_fmtS, ↓x_afS, ↓x_afI, ↓x_js0, ↓x_jsc, ↓gJoined, ↓gYes, ↓x_bnm, ↓x_btp, ↓x_bn, ↓x_bc, ↓x_nnN, ↓x_nnI, ↓x_nnS, ↓x_nnB, ↓x_nnT, ↓x_nnL, ↓x_nnO, ↓x_nnl, ↓x_tyS, ↓x_tyL, ↓x_i2, ↓aSub, ↓aFdiv, ↓aMod, ↓aPow, ↓aShr, ↓aLt, ↓aLe, ↓aGt, ↓aGe, ↓x_addI, ↓x_addS, ↓x_mulI, ↓x_iaddS, ↓x_iaddI, ↓x_neg, ↓x_eqI, ↓x_neI, ↓x_eqS, ↓x_neS, ↓x_eqB, ↓x_neB, ↓x_eqNI, ↓x_neNI, ↓x_lenS, ↓x_lenL_l, ↓x_lenL_k, ↓x_lenL_t, ↓x_str, ↓x_intI, ↓x_intB, ↓x_divmod, ↓x_max2, ↓x_min2, ↓x_ixS, ↓x_slS, ↓x_slT, ↓x_slL_l, ↓x_slL_k, ↓x_inS, ↓x_newT, ↓x_newF, ↓x_si, ↓x_s1, ↓x_s0, ↓x_rpart, ↓x_part, ↓x_a1, ↓x_a2, ↓x_isiStr, ↓x_isiInt, ↓x_isiIntB, ↓x_isiIntS, ↓x_isiBB, ↓x_isiBI, ↓x_isiStrI, ↓x_isiNonI, ↓x_isiNonS, ↓x_isiT, ↓x_isiL, ↓x_var0, ↓x_varS, ↓x_ex, ↓x_aug0, gat, pick, Option.some.injEq, D.bl.injEq, D.int.injEq, D.str.injEq, D.tup.injEq, D.lst.injEq, List.cons.injEq, and_true, true_and, List.set_cons_zero, List.set_cons_succ, List.length_cons, List.length_nil, List.filterMap_cons, List.filterMap_nil, List.getElem?_cons_zero, List.getElem?_cons_succ, Option.bind_some, ↓reduceIte, if_true, if_false, Bool.false_eq_true, Bool.true_eq_false, decide_eq_true_eq, beq_self_eq_true, Bool.not_true, Bool.not_false, Bool.not_eq_true', decide_eq_false_iff_not, exists_eq_left', exists_eq_left, exists_eq, ↓x_dnT, ↓x_dnF, ↓gAsgL, ↓gMMDef, ↓gDSet, ↓gSItems, ↓x_nilL, ↓x_nilE, List.isEmpty_nil, List.isEmpty_cons, Bool.true_xor, Bool.false_xor, ↓gSortSet, ↓gLenFz, ↓gOrT, ↓gAndT, ↓gTryAs, ↓gTryO, ↓gRaise, ↓gCallX, ↓gMethX, ↓gMakeX, ↓gFldX, ↓x_inXs, Bool.false_xor, Bool.true_xor, ↓gOrS, ↓x_fmtRS, ↓x_afRS, ↓x_afRI, ↓x_stO, ↓x_zipS, ↓x_zipE, ↓x_zipSL, ↓x_zipST, ↓x_zipEL, ↓x_augix, ↓x_isB, ↓x_notB, ↓gLR1, ↓gLR2, ↓gDIxT, ↓gDGt1T, ↓gDSetT, ↓gDNewT, ↓gDIx, ↓gDGt1, ↓gDGt2, ↓gDIn, ↓gDSetd, ↓gDPop1, ↓gDPop2, ↓gTIdx, ↓gLKeys, ↓gDisp, ↓gAsgT, ↓gFldAug, ↓gts, ↓gts0, ↓gnm, ↓gfl, ↓gds, ↓x_lenSt, ↓x_enumK, ↓x_enumKL, ↓gSortK, ↓gSortKR, ↓gFrD, ↓gFzD]
    refine ⟨_, _, .inr b, bkV a b X, by rw [List.append_assoc]; exact c1 _ _, rfl, gX, b, X, _, rfl, hX.le, hX.ro, .inl rfl, fun k2 d2 => ⟨_, _, _, rfl, g1, fun ob u => ⟨_, ob, u, _, _, rfl, by rw [s1]; exact g1, ?_⟩⟩⟩
    rw [s1, itm]
    generalize hLK : MO.lckT ob u ((numL "on" X).map fun t => nKey t.1 t.2.1) ((numL "on" X).map fun t => D.int (t.2.2 : Nat)) = LK
    have hck : ∀ f : Option MO, (C ++ [f] ++ (G ++ [some (MO.dic k1 d1), some (nMO (numL "off" Y))] ++ [some (MO.dic k2 d2), some LK]))[(C ++ [some (MO.lst (List.map crD5 A))] ++ G ++ [some (MO.dic k1 d1), some (nMO (numL "off" Y))]).length + 1]? = some (some LK) := fun f => by
      have e : C ++ [f] ++ (G ++ [some (MO.dic k1 d1), some (nMO (numL "off" Y))] ++ [some (MO.dic k2 d2), some LK]) = (C ++ [f] ++ G ++ [some (MO.dic k1 d1), some (nMO (numL "off" Y))]) ++ [some (MO.dic k2 d2), some LK] := by simp only [List.append_assoc]
      rw [e, show (C ++ [some (MO.lst (List.map crD5 A))] ++ G ++ [some (MO.dic k1 d1), some (nMO (numL "off" Y))]).length = (C ++ [f] ++ G ++ [some (MO.dic k1 d1), some (nMO (numL "off" Y))]).length by simp only [List.length_append, List.length_cons, List.length_nil]]
      exact g1
    have hof : ∀ f : Option MO, dicTOf (C ++ [f] ++ (G ++ [some (MO.dic k1 d1), some (nMO (numL "off" Y))] ++ [some (MO.dic k2 d2), some LK])) (.loc ((C ++ [some (MO.lst (List.map crD5 A))] ++ G).length + 1)) = some ((numL "off" Y).map (fun t => nKey t.1 t.2.1), (numL "off" Y).map (fun t => D.int (t.2.2 : Nat))) := fun f => by
      have e : C ++ [f] ++ (G ++ [some (MO.dic k1 d1), some (nMO (numL "off" Y))] ++ [some (MO.dic k2 d2), some LK]) = (C ++ [f] ++ G ++ [some (MO.dic k1 d1), some (nMO (numL "off" Y))]) ++ [some (MO.dic k2 d2), some LK] := by simp only [List.append_assoc]
      have e2 : (C ++ [f] ++ (G ++ [some (MO.dic k1 d1), some (nMO (numL "off" Y))] ++ [some (MO.dic k2 d2), some LK]))[(C ++ [some (MO.lst (List.map crD5 A))] ++ G).length + 1]? = some (some (nMO (numL "off" Y))) := by
        rw [e, show (C ++ [some (MO.lst (List.map crD5 A))] ++ G).length = (C ++ [f] ++ G).length by simp only [List.length_append, List.length_cons, List.length_nil]]
        rw [List.getElem?_append_left (by rw [List.length_append (bs := [_, _])]; simp only [List.length_cons, List.length_nil]; omega)]
        exact g1
      simp only [dicTOf, e2]
    have hfo : ∀ (f : Option MO) (H : Sto), (C ++ [f] ++ H)[C.length]? = some f := fun f H => by
      rw [List.append_assoc, List.getElem?_append_right (Nat.le_refl _), Nat.sub_self]; rfl
    have hse : ∀ (f z : Option MO) (H : Sto), (C ++ [f] ++ H).set C.length z = C ++ [z] ++ H := fun f z H => by
      rw [List.append_assoc, List.set_append_right _ _ (Nat.le_refl _), Nat.sub_self, List.append_assoc]; rfl
    refine ⟨fun j ρ S' => ∃ x4 x6 x7, S' = C ++ [some (.lst ((A ++ (crF X Y i).take j).map crD5))] ++ (G ++ [some (MO.dic k1 d1), some (nMO (numL "off" Y))] ++ [some (MO.dic k2 d2), some LK]) ∧ ρ = [some (bkV a b1 R1), some (bkV a b2 R2), some (.loc S.length), some (.lst []), x4, some (.int (i : Nat)), x6, x7, x8, some (.loc C.length), some (.str b), some (.loc ((C ++ [some (MO.lst (List.map crD5 A))] ++ G).length + 1)), x12], ?_, ?_, ?_⟩
    · exact ⟨_, _, _, by rw [List.take_zero, List.append_nil]; simp only [List.append_assoc], rfl⟩
    · rintro j d ρ S' hd ⟨x4, x6, x7, rfl, rfl⟩
      rw [List.getElem?_map] at hd
      obtain ⟨t, ht, rfl⟩ := Option.map_eq_some_iff.mp hd
      obtain ⟨m, hm, _⟩ := on_pt hXY t (List.mem_of_getElem? ht)
      have hj : (crF X Y i)[j]? = some (t.2.2, t.1, i, t.2.1, m) := by
        unfold crF
        rw [List.getElem?_map, ht, Option.map_some, hm]
        rfl
      have eP : dgetP (nKey t.1 t.2.1) ((numL "off" Y).map fun t => nKey t.1 t.2.1) ((numL "off" Y).map fun t => D.int (t.2.2 : Nat)) = some (.int m) := by rw [pt_get, hm]; rfl
      refine ⟨hck _, _, x_nb, ?_⟩
      simp only [gDIxT, ↓x_eqSS, ↓x_neSS, ↓gKGet, ↓x_kget, ↓x_ixE, at_last, ↓x_appE, ↓x_tyE, ↓x_itE, ↓x_lenE, ↓x_nePr, ↓x_eqPr, ↓x_neE, ↓x_lenr, ↓x_lenrI, ↓gRev, ↓x_par3, ↓x_par33, ↓x_fld, ↓x_fset, ↓x_mkF, ↓x_mk, ↓x_meth, ↓x_fldO, ↓x_fsetE, ↓x_fldE, ↓x_methO, ↓x_isiCO, ↓x_isiCN, ↓x_isiCT, ↓x_isiCLi, ↓x_isiCS, ↓x_isiCI, ↓x_own, ↓x_eqT2, ↓x_neT2, ↓x_neL4, ↓x_eqLN, ↓x_neNil, ↓x_gset, ↓x_lc, ↓x_for, ↓x_it, ↓x_rn1, ↓x_rn2, ↓x_enu, ↓x_zip, ↓x_itS, ↓x_itL, ↓x_itK, ↓x_itT, ↓x_rn1I, ↓x_rn2I, ↓x_enuL, ↓x_enuK, ↓x_zipL, ↓x_ixS0, ↓x_ixL, ↓x_ixT, ↓x_ixK, x_at0, x_at1, x_at2, x_at3, x_at4, ↓x_set00, ↓x_set01, ↓x_set02, ↓x_aug1, ↓x_aug2, ↓x_aug3, ↓x_aug4, ↓x_aug5, ↓x_aug6, ↓x_aug7, ↓x_aug8, ↓x_aug9, ↓x_aug10, ↓x_aug11, ↓x_aug12, ↓x_aug13, ↓x_aug14, ↓x_aug15, ↓x_aug16, ↓x_aug17, ↓x_aug18, ↓x_aug19, ↓x_aug20, ↓x_aug21, ↓x_aug22, ↓x_aug23, Int.reduceToNat, Int.reducePow, ↓gSeq, ↓gIfS, ↓gSet, ↓gAsg, ↓x_par, ↓x_par2, ↓gRet, ↓gRetN, ↓gNext, ↓gDrop, ↓gBreak, ↓gCont, ↓gDead, ↓gCB, ↓gB2, ↓gU, ↓gC, ↓Dl.gCons, ↓Dl.gNil, ↓Dl.gTup, ↓Dl.gLst, ↓gTest, ↓gOrB, ↓gAndB, ↓gNotB, ↓gAndV, ↓gOrV, ↓gNotV, ↓gIf, ↓gIx, ↓gSl, ↓gPart, ↓gNoP, ↓gMt, ↓gCall, ↓gArgs, ↓gIsN, ↓gNotN, ↓gChain, ↓x_fmtS, ↓x_afS, ↓x_afI, ↓x_js0, ↓x_jsc, ↓gJoined, ↓gYes, ↓x_bnm, ↓x_btp, ↓x_bn, ↓x_bc, ↓x_nnN, ↓x_nnI, ↓x_nnS, ↓x_nnB, ↓x_nnT, ↓x_nnL, ↓x_nnO, ↓x_nnl, ↓x_tyS, ↓x_tyL, ↓x_i2, ↓aSub, ↓aFdiv, ↓aMod, ↓aPow, ↓aShr, ↓aLt, ↓aLe, ↓aGt, ↓aGe, ↓x_addI, ↓x_addS, ↓x_mulI, ↓x_iaddS, ↓x_iaddI, ↓x_neg, ↓x_eqI, ↓x_neI, ↓x_eqS, ↓x_neS, ↓x_eqB, ↓x_neB, ↓x_eqNI, ↓x_neNI, ↓x_lenS, ↓x_lenL_l, ↓x_lenL_k, ↓x_lenL_t, ↓x_str, ↓x_intI, ↓x_intB, ↓x_divmod, ↓x_max2, ↓x_min2, ↓x_ixS, ↓x_slS, ↓x_slT, ↓x_slL_l, ↓x_slL_k, ↓x_inS, ↓x_newT, ↓x_newF, ↓x_si, ↓x_s1, ↓x_s0, ↓x_rpart, ↓x_part, ↓x_a1, ↓x_a2, ↓x_isiStr, ↓x_isiInt, ↓x_isiIntB, ↓x_isiIntS, ↓x_isiBB, ↓x_isiBI, ↓x_isiStrI, ↓x_isiNonI, ↓x_isiNonS, ↓x_isiT, ↓x_isiL, ↓x_var0, ↓x_varS, ↓x_ex, ↓x_aug0, gat, pick, Option.some.injEq, D.bl.injEq, D.int.injEq, D.str.injEq, D.tup.injEq, D.lst.injEq, List.cons.injEq, and_true, true_and, List.set_cons_zero, List.set_cons_succ, List.length_cons, List.length_nil, List.filterMap_cons, List.filterMap_nil, List.getElem?_cons_zero, List.getElem?_cons_succ, Option.bind_some, ↓reduceIte, if_true, if_false, Bool.false_eq_true, Bool.true_eq_false, decide_eq_true_eq, beq_self_eq_true, Bool.not_true, Bool.not_false, Bool.not_eq_true', decide_eq_false_iff_not, exists_eq_left', exists_eq_left, exists_eq, ↓x_dnT, ↓x_dnF, ↓gAsgL, ↓gMMDef, ↓gDSet, ↓gSItems, ↓x_nilL, ↓x_nilE, List.isEmpty_nil, List.isEmpty_cons, Bool.true_xor, Bool.false_xor, ↓gSortSet, ↓gLenFz, ↓gOrT, ↓gAndT, ↓gTryAs, ↓gTryO, ↓gRaise, ↓gCallX, ↓gMethX, ↓gMakeX, ↓gFldX, ↓x_inXs, Bool.false_xor, Bool.true_xor, ↓gOrS, ↓x_fmtRS, ↓x_afRS, ↓x_afRI, ↓x_stO, ↓x_zipS, ↓x_zipE, ↓x_zipSL, ↓x_zipST, ↓x_zipEL, ↓x_augix, ↓x_isB, ↓x_notB, ↓gLR1, ↓gLR2, ↓gDIxT, ↓gDGt1T, ↓gDSetT, ↓gDNewT, ↓gDIx, ↓gDGt1, ↓gDGt2, ↓gDIn, ↓gDSetd, ↓gDPop1, ↓gDPop2, ↓gTIdx, ↓gLKeys, ↓gDisp, ↓gAsgT, ↓gFldAug, ↓gts, ↓gts0, ↓gnm, ↓gfl, ↓gds, ↓x_lenSt, ↓x_enumK, ↓x_enumKL, ↓gSortK, ↓gSortKR, ↓gFrD, ↓gFzD]
      have hcl := crF_len X Y i
      have hXl := hX.le
      have hlt : ((A ++ (crF X Y i).take j).map crD5).length < sizeLine := by
        rw [List.length_map, List.length_append, List.length_take]
        omega
      refine ⟨x_tyO (hfo _ _), by decide, _, _, nKey t.1 t.2.1, .int (m : Nat), hof _, rfl, eP, by decide, (x_app (hfo _ _)).mpr ⟨hlt, ?_⟩⟩
      rw [hse]
      refine ⟨_, _, _, ?_, rfl, rfl, rfl⟩
      have e9 : (A ++ ((crF X Y i).take j ++ [(t.2.2, t.1, i, t.2.1, m)])).map crD5 = (A ++ (crF X Y i).take j).map crD5 ++ [crD5 (t.2.2, t.1, i, t.2.1, m)] := by rw [← List.append_assoc, List.map_append]; rfl
      rw [take_snoc hj, e9]
    · rintro ρ S' ⟨x4, x6, x7, rfl, rfl⟩
      refine ⟨hck _, ?_⟩
      rw [List.length_map, show (crF X Y i).take (numL "on" X).length = crF X Y i from List.take_of_length_le (by unfold crF; rw [List.length_map]; exact Nat.le_refl _)]
      exact ⟨_, _, _, _, _, _, _, _, _, rfl, rfl⟩
  · rintro ρ S' ⟨G, x4, x5, x6, x7, x8, x10, x11, x12, rfl, rfl⟩
    refine ⟨trivial, ?_⟩
    simp only [↓x_eqSS, ↓x_neSS, ↓gKGet, ↓x_kget, ↓x_ixE, at_last, ↓x_appE, ↓x_tyE, ↓x_itE, ↓x_lenE, ↓x_nePr, ↓x_eqPr, ↓x_neE, ↓x_lenr, ↓x_lenrI, ↓gRev, ↓x_par3, ↓x_par33, ↓x_fld, ↓x_fset, ↓x_mkF, ↓x_mk, ↓x_meth, ↓x_fldO, ↓x_fsetE, ↓x_fldE, ↓x_methO, ↓x_isiCO, ↓x_isiCN, ↓x_isiCT, ↓x_isiCLi, ↓x_isiCS, ↓x_isiCI, ↓x_own, ↓x_eqT2, ↓x_neT2, ↓x_neL4, ↓x_eqLN, ↓x_neNil, ↓x_gset, ↓x_lc, ↓x_for, ↓x_it, ↓x_rn1, ↓x_rn2, ↓x_enu, ↓x_zip, ↓x_itS, ↓x_itL, ↓x_itK, ↓x_itT, ↓x_rn1I, ↓x_rn2I, ↓x_enuL, ↓x_enuK, ↓x_zipL, ↓x_ixS0, ↓x_ixL, ↓x_ixT, ↓x_ixK, x_at0, x_at1, x_at2, x_at3, x_at4, ↓x_set00, ↓x_set01, ↓x_set02, ↓x_aug1, ↓x_aug2, ↓x_aug3, ↓x_aug4, ↓x_aug5, ↓x_aug6, ↓x_aug7, ↓x_aug8, ↓x_aug9, ↓x_aug10, ↓x_aug11, ↓x_aug12, ↓x_aug13, ↓x_aug14, ↓x_aug15, ↓x_aug16, ↓x_aug17, ↓x_aug18, ↓x_aug19, ↓x_aug20, ↓x_aug21, ↓x_aug22, ↓x_aug23, Int.reduceToNat, Int.reducePow, ↓gSeq, ↓gIfS, ↓gSet, ↓gAsg, ↓x_par, ↓x_par2, ↓gRet, ↓gRetN, ↓gNext, ↓gDrop, ↓gBreak, ↓gCont, ↓gDead, ↓gCB, ↓gB2, ↓gU, ↓gC, ↓Dl.gCons, ↓Dl.gNil, ↓Dl.gTup, ↓Dl.gLst, ↓gTest, ↓gOrB, ↓gAndB, ↓gNotB, ↓gAndV, ↓gOrV, ↓gNotV, ↓gIf, ↓gIx, ↓gSl, ↓gPart, ↓gNoP, ↓gMt, ↓gCall, ↓gArgs, ↓gIsN, ↓gNotN, ↓gChain, ↓x_fmtS, ↓x_afS, ↓x_afI, ↓x_js0, ↓x_jsc, ↓gJoined, ↓gYes, ↓x_bnm, ↓x_btp, ↓x_bn, ↓x_bc, ↓x_nnN, ↓x_nnI, ↓x_nnS, ↓x_nnB, ↓x_nnT, ↓x_nnL, ↓x_nnO, ↓x_nnl, ↓x_tyS, ↓x_tyL, ↓x_i2, ↓aSub, ↓aFdiv, ↓aMod, ↓aPow, ↓aShr, ↓aLt, ↓aLe, ↓aGt, ↓aGe, ↓x_addI, ↓x_addS, ↓x_mulI, ↓x_iaddS, ↓x_iaddI, ↓x_neg, ↓x_eqI, ↓x_neI, ↓x_eqS, ↓x_neS, ↓x_eqB, ↓x_neB, ↓x_eqNI, ↓x_neNI, ↓x_lenS, ↓x_lenL_l, ↓x_lenL_k, ↓x_lenL_t, ↓x_str, ↓x_intI, ↓x_intB, ↓x_divmod, ↓x_max2, ↓x_min2, ↓x_ixS, ↓x_slS, ↓x_slT, ↓x_slL_l, ↓x_slL_k, ↓x_inS, ↓x_newT, ↓x_newF, ↓x_si, ↓x_s1, ↓x_s0, ↓x_rpart, ↓x_part, ↓x_a1, ↓x_a2, ↓x_isiStr, ↓x_isiInt, ↓x_isiIntB, ↓x_isiIntS, ↓x_isiBB, ↓x_isiBI, ↓x_isiStrI, ↓x_isiNonI, ↓x_isiNonS, ↓x_isiT, ↓x_isiL, ↓x_var0, ↓x_varS, ↓x_ex, ↓x_aug0, gat, pick, Option.some.injEq, D.bl.injEq, D.int.injEq, D.str.injEq, D.tup.injEq, D.lst.injEq, List.cons.injEq, and_true, true_and, List.set_cons_zero, List.set_cons_succ, List.length_cons, List.length_nil, List.filterMap_cons, List.filterMap_nil, List.getElem?_cons_zero, List.getElem?_cons_succ, Option.bind_some, ↓reduceIte, if_true, if_false, Bool.false_eq_true, Bool.true_eq_false, decide_eq_true_eq, beq_self_eq_true, Bool.not_true, Bool.not_false, Bool.not_eq_true', decide_eq_false_iff_not, exists_eq_left', exists_eq_left, exists_eq, ↓x_dnT, ↓x_dnF, ↓gAsgL, ↓gMMDef, ↓gDSet, ↓gSItems, ↓x_nilL, ↓x_nilE, List.isEmpty_nil, List.isEmpty_cons, Bool.true_xor, Bool.false_xor, ↓gSortSet, ↓gLenFz, ↓gOrT, ↓gAndT, ↓gTryAs, ↓gTryO, ↓gRaise, ↓gCallX, ↓gMethX, ↓gMakeX, ↓gFldX, ↓x_inXs, Bool.false_xor, Bool.true_xor, ↓gOrS, ↓x_fmtRS, ↓x_afRS, ↓x_afRI, ↓x_stO, ↓x_zipS, ↓x_zipE, ↓x_zipSL, ↓x_zipST, ↓x_zipEL, ↓x_augix, ↓x_isB, ↓x_notB, ↓gLR1, ↓gLR2, ↓gDIxT, ↓gDGt1T, ↓gDSetT, ↓gDNewT, ↓gDIx, ↓gDGt1, ↓gDGt2, ↓gDIn, ↓gDSetd, ↓gDPop1, ↓gDPop2, ↓gTIdx, ↓gLKeys, ↓gDisp, ↓gAsgT, ↓gFldAug, ↓gts, ↓gts0, ↓gnm, ↓gfl, ↓gds, ↓x_lenSt, ↓x_enumK, ↓x_enumKL, ↓gSortK, ↓gSortKR, ↓gFrD, ↓gFzD]
    have hfo : (C ++ [some (MO.lst ((crAll N F).map crD5))] ++ G)[C.length]? = some (some (.lst ((crAll N F).map crD5))) := by
      rw [List.append_assoc, List.getElem?_append_right (Nat.le_refl _), Nat.sub_self]; rfl
    have e7 : ([crF N F 0, crF F N 1].take (enumD [D.str (Str.ofString "near"), D.str (Str.ofString "far")]).length).flatten = crAll N F := by
      rw [enum_len]
      show (crF N F 0 ++ (crF F N 1 ++ [])) = _
      rw [List.append_nil]; rfl
    rw [e7]
    refine ⟨(crAll N F).map crD5, (crAll N F).map crP, by simp only [seqOf, hfo], rfl, toPys_cr _, PySem.W.AllAlike.of fun b b' => rfl, .inl fun d hd => ?_, fun p hp => ?_, ?_⟩
    · obtain ⟨p, _, rfl⟩ := List.mem_map.mp hd
      exact ⟨_, _, rfl⟩
    · obtain ⟨p, _, rfl⟩ := List.mem_map.mp hp
      exact (by decide : (1 : Nat) ≤ 60)
    · have e1 : ((crAll N F).map crD5).zip ((crAll N F).map crP) = (crAll N F).map fun t => (crD5 t, crP t) := by rw [List.zip_map']
      have e2 : ((crAll N F).mergeSort le5).map (fun t => (crD5 t, crP t)) = ((crAll N F).map fun t => (crD5 t, crP t)).mergeSort (PySem.W.dataLe false Prod.snd) := ms_map (f := fun t : Cr => (crD5 t, crP t)) (r := le5) (s := PySem.W.dataLe false Prod.snd) (fun a b => rfl) _
      rw [e1, ← e2, List.map_map, x_newT, show (Prod.fst ∘ fun t : Cr => (crD5 t, crP t)) = crD5 from rfl]
      (try simp only [↓x_eqSS, ↓x_neSS, ↓gKGet, ↓x_kget, ↓x_ixE, at_last, ↓x_appE, ↓x_tyE, ↓x_itE, ↓x_lenE, ↓x_nePr, ↓x_eqPr, ↓x_neE, ↓x_lenr, ↓x_lenrI, ↓gRev, ↓x_par3, ↓x_par33, ↓x_fld, ↓x_fset, ↓x_mkF, ↓x_mk, ↓x_meth, ↓x_fldO, ↓x_fsetE, ↓x_fldE, ↓x_methO, ↓x_isiCO, ↓x_isiCN, ↓x_isiCT, ↓x_isiCLi, ↓x_isiCS, ↓x_isiCI, ↓x_own, ↓x_eqT2, ↓x_neT2, ↓x_neL4, ↓x_eqLN, ↓x_neNil, ↓x_gset, ↓x_lc, ↓x_for, ↓x_it, ↓x_rn1, ↓x_rn2, ↓x_enu, ↓x_zip, ↓x_itS, ↓x_itL, ↓x_itK, ↓x_itT, ↓x_rn1I, ↓x_rn2I, ↓x_enuL, ↓x_enuK, ↓x_zipL, ↓x_ixS0, ↓x_ixL, ↓x_ixT, ↓x_ixK, x_at0, x_at1, x_at2, x_at3, x_at4, ↓x_set00, ↓x_set01, ↓x_set02, ↓x_aug1, ↓x_aug2, ↓x_aug3, ↓x_aug4, ↓x_aug5, ↓x_aug6, ↓x_aug7, ↓x_aug8, ↓x_aug9, ↓x_aug10, ↓x_aug11, ↓x_aug12, ↓x_aug13, ↓x_aug14, ↓x_aug15, ↓x_aug16, ↓x_aug17, ↓x_aug18, ↓x_aug19, ↓x_aug20, ↓x_aug21, ↓x_aug22, ↓x_aug23, Int.reduceToNat, Int.reducePow, ↓gSeq, ↓gIfS, ↓gSet, ↓gAsg, ↓x_par, ↓x_par2, ↓gRet, ↓gRetN, ↓gNext, ↓gDrop, ↓gBreak, ↓gCont, ↓gDead, ↓gCB, ↓gB2, ↓gU, ↓gC, ↓Dl.gCons, ↓Dl.gNil, ↓Dl.gTup, ↓Dl.gLst, ↓gTest, ↓gOrB, ↓gAndB, ↓gNotB, ↓gAndV, ↓gOrV, ↓gNotV, ↓gIf, ↓gIx, ↓gSl, ↓gPart, ↓gNoP, ↓gMt, ↓gCall, ↓gArgs, ↓gIsN, ↓gNotN, ↓gChain, ↓x_fmtS, ↓x_afS, ↓x_afI, ↓x_js0, ↓x_jsc, ↓gJoined, ↓gYes, ↓x_bnm, ↓x_btp, ↓x_bn, ↓x_bc, ↓x_nnN, ↓x_nnI, ↓x_nnS, ↓x_nnB, ↓x_nnT, ↓x_nnL, ↓x_nnO, ↓x_nnl, ↓x_tyS, ↓x_tyL, ↓x_i2, ↓aSub, ↓aFdiv, ↓aMod, ↓aPow, ↓aShr, ↓aLt, ↓aLe, ↓aGt, ↓aGe, ↓x_addI, ↓x_addS, ↓x_mulI, ↓x_iaddS, ↓x_iaddI, ↓x_neg, ↓x_eqI, ↓x_neI, ↓x_eqS, ↓x_neS, ↓x_eqB, ↓x_neB, ↓x_eqNI, ↓x_neNI, ↓x_lenS, ↓x_lenL_l, ↓x_lenL_k, ↓x_lenL_t, ↓x_str, ↓x_intI, ↓x_intB, ↓x_divmod, ↓x_max2, ↓x_min2, ↓x_ixS, ↓x_slS, ↓x_slT, ↓x_slL_l, ↓x_slL_k, ↓x_inS, ↓x_newT, ↓x_newF, ↓x_si, ↓x_s1, ↓x_s0, ↓x_rpart, ↓x_part, ↓x_a1, ↓x_a2, ↓x_isiStr, ↓x_isiInt, ↓x_isiIntB, ↓x_isiIntS, ↓x_isiBB, ↓x_isiBI, ↓x_isiStrI, ↓x_isiNonI, ↓x_isiNonS, ↓x_isiT, ↓x_isiL, ↓x_var0, ↓x_varS, ↓x_ex, ↓x_aug0, gat, pick, Option.some.injEq, D.bl.injEq, D.int.injEq, D.str.injEq, D.tup.injEq, D.lst.injEq, List.cons.injEq, and_true, true_and, List.set_cons_zero, List.set_cons_succ, List.length_cons, List.length_nil, List.filterMap_cons, List.filterMap_nil, List.getElem?_cons_zero, List.getElem?_cons_succ, Option.bind_some, ↓reduceIte, if_true, if_false, Bool.false_eq_true, Bool.true_eq_false, decide_eq_true_eq, beq_self_eq_true, Bool.not_true, Bool.not_false, Bool.not_eq_true', decide_eq_false_iff_not, exists_eq_left', exists_eq_left, exists_eq, ↓x_dnT, ↓x_dnF, ↓gAsgL, ↓gMMDef, ↓gDSet, ↓gSItems, ↓x_nilL, ↓x_nilE, List.isEmpty_nil, List.isEmpty_cons, Bool.true_xor, Bool.false_xor, ↓gSortSet, ↓gLenFz, ↓gOrT, ↓gAndT, ↓gTryAs, ↓gTryO, ↓gRaise, ↓gCallX, ↓gMethX, ↓gMakeX, ↓gFldX, ↓x_inXs, Bool.false_xor, Bool.true_xor, ↓gOrS, ↓x_fmtRS, ↓x_afRS, ↓x_afRI, ↓x_stO, ↓x_zipS, ↓x_zipE, ↓x_zipSL, ↓x_zipST, ↓x_zipEL, ↓x_augix, ↓x_isB, ↓x_notB, ↓gLR1, ↓gLR2, ↓gDIxT, ↓gDGt1T, ↓gDSetT, ↓gDNewT, ↓gDIx, ↓gDGt1, ↓gDGt2, ↓gDIn, ↓gDSetd, ↓gDPop1, ↓gDPop2, ↓gTIdx, ↓gLKeys, ↓gDisp, ↓gAsgT, ↓gFldAug, ↓gts, ↓gts0, ↓gnm, ↓gfl, ↓gds, ↓x_lenSt, ↓x_enumK, ↓x_enumKL, ↓gSortK, ↓gSortKR, ↓gFrD, ↓gFzD])
      have hal : (crAll N F).length ≤ 2000 := by
        have h1 := crF_len N F 0
        have h2 := crF_len F N 1
        unfold crAll
        rw [List.length_append]
        omega
      have hno : ∀ t ∈ (crAll N F).mergeSort le5, t.2.2.1 = 0 ∨ t.2.2.1 = 1 := fun t ht => by
        have ht := (List.mergeSort_perm (crAll N F) le5).mem_iff.mp ht
        rcases List.mem_append.mp ht with ht | ht
        · obtain ⟨u, _, rfl⟩ := List.mem_map.mp ht; exact .inl rfl
        · obtain ⟨u, _, rfl⟩ := List.mem_map.mp ht; exact .inr rfl
      refine lc_on (F := crD5) (fun t : Cr => some (dyD (t.2.1, bankN t.2.2.1, t.1, t.2.2.2.2))) trivial (by rw [List.length_mergeSort]; omega) (fun t ht acc R hac hR => ⟨_, x_b5, ?_⟩) ?_
      · simp only [wipeD, ↓x_eqSS, ↓x_neSS, ↓gKGet, ↓x_kget, ↓x_ixE, at_last, ↓x_appE, ↓x_tyE, ↓x_itE, ↓x_lenE, ↓x_nePr, ↓x_eqPr, ↓x_neE, ↓x_lenr, ↓x_lenrI, ↓gRev, ↓x_par3, ↓x_par33, ↓x_fld, ↓x_fset, ↓x_mkF, ↓x_mk, ↓x_meth, ↓x_fldO, ↓x_fsetE, ↓x_fldE, ↓x_methO, ↓x_isiCO, ↓x_isiCN, ↓x_isiCT, ↓x_isiCLi, ↓x_isiCS, ↓x_isiCI, ↓x_own, ↓x_eqT2, ↓x_neT2, ↓x_neL4, ↓x_eqLN, ↓x_neNil, ↓x_gset, ↓x_lc, ↓x_for, ↓x_it, ↓x_rn1, ↓x_rn2, ↓x_enu, ↓x_zip, ↓x_itS, ↓x_itL, ↓x_itK, ↓x_itT, ↓x_rn1I, ↓x_rn2I, ↓x_enuL, ↓x_enuK, ↓x_zipL, ↓x_ixS0, ↓x_ixL, ↓x_ixT, ↓x_ixK, x_at0, x_at1, x_at2, x_at3, x_at4, ↓x_set00, ↓x_set01, ↓x_set02, ↓x_aug1, ↓x_aug2, ↓x_aug3, ↓x_aug4, ↓x_aug5, ↓x_aug6, ↓x_aug7, ↓x_aug8, ↓x_aug9, ↓x_aug10, ↓x_aug11, ↓x_aug12, ↓x_aug13, ↓x_aug14, ↓x_aug15, ↓x_aug16, ↓x_aug17, ↓x_aug18, ↓x_aug19, ↓x_aug20, ↓x_aug21, ↓x_aug22, ↓x_aug23, Int.reduceToNat, Int.reducePow, ↓gSeq, ↓gIfS, ↓gSet, ↓gAsg, ↓x_par, ↓x_par2, ↓gRet, ↓gRetN, ↓gNext, ↓gDrop, ↓gBreak, ↓gCont, ↓gDead, ↓gCB, ↓gB2, ↓gU, ↓gC, ↓Dl.gCons, ↓Dl.gNil, ↓Dl.gTup, ↓Dl.gLst, ↓gTest, ↓gOrB, ↓gAndB, ↓gNotB, ↓gAndV, ↓gOrV, ↓gNotV, ↓gIf, ↓gIx, ↓gSl, ↓gPart, ↓gNoP, ↓gMt, ↓gCall, ↓gArgs, ↓gIsN, ↓gNotN, ↓gChain, ↓x_fmtS, ↓x_afS, ↓x_afI, ↓x_js0, ↓x_jsc, ↓gJoined, ↓gYes, ↓x_bnm, ↓x_btp, ↓x_bn, ↓x_bc, ↓x_nnN, ↓x_nnI, ↓x_nnS, ↓x_nnB, ↓x_nnT, ↓x_nnL, ↓x_nnO, ↓x_nnl, ↓x_tyS, ↓x_tyL, ↓x_i2, ↓aSub, ↓aFdiv, ↓aMod, ↓aPow, ↓aShr, ↓aLt, ↓aLe, ↓aGt, ↓aGe, ↓x_addI, ↓x_addS, ↓x_mulI, ↓x_iaddS, ↓x_iaddI, ↓x_neg, ↓x_eqI, ↓x_neI, ↓x_eqS, ↓x_neS, ↓x_eqB, ↓x_neB, ↓x_eqNI, ↓x_neNI, ↓x_lenS, ↓x_lenL_l, ↓x_lenL_k, ↓x_lenL_t, ↓x_str, ↓x_intI, ↓x_intB, ↓x_divmod, ↓x_max2, ↓x_min2, ↓x_ixS, ↓x_slS, ↓x_slT, ↓x_slL_l, ↓x_slL_k, ↓x_inS, ↓x_newT, ↓x_newF, ↓x_si, ↓x_s1, ↓x_s0, ↓x_rpart, ↓x_part, ↓x_a1, ↓x_a2, ↓x_isiStr, ↓x_isiInt, ↓x_isiIntB, ↓x_isiIntS, ↓x_isiBB, ↓x_isiBI, ↓x_isiStrI, ↓x_isiNonI, ↓x_isiNonS, ↓x_isiT, ↓x_isiL, ↓x_var0, ↓x_varS, ↓x_ex, ↓x_aug0, gat, pick, Option.some.injEq, D.bl.injEq, D.int.injEq, D.str.injEq, D.tup.injEq, D.lst.injEq, List.cons.injEq, and_true, true_and, List.set_cons_zero, List.set_cons_succ, List.length_cons, List.length_nil, List.filterMap_cons, List.filterMap_nil, List.getElem?_cons_zero, List.getElem?_cons_succ, Option.bind_some, ↓reduceIte, if_true, if_false, Bool.false_eq_true, Bool.true_eq_false, decide_eq_true_eq, beq_self_eq_true, Bool.not_true, Bool.not_false, Bool.not_eq_true', decide_eq_false_iff_not, exists_eq_left', exists_eq_left, exists_eq, ↓x_dnT, ↓x_dnF, ↓gAsgL, ↓gMMDef, ↓gDSet, ↓gSItems, ↓x_nilL, ↓x_nilE, List.isEmpty_nil, List.isEmpty_cons, Bool.true_xor, Bool.false_xor, ↓gSortSet, ↓gLenFz, ↓gOrT, ↓gAndT, ↓gTryAs, ↓gTryO, ↓gRaise, ↓gCallX, ↓gMethX, ↓gMakeX, ↓gFldX, ↓x_inXs, Bool.false_xor, Bool.true_xor, ↓gOrS, ↓x_fmtRS, ↓x_afRS, ↓x_afRI, ↓x_stO, ↓x_zipS, ↓x_zipE, ↓x_zipSL, ↓x_zipST, ↓x_zipEL, ↓x_augix, ↓x_isB, ↓x_notB, ↓gLR1, ↓gLR2, ↓gDIxT, ↓gDGt1T, ↓gDSetT, ↓gDNewT, ↓gDIx, ↓gDGt1, ↓gDGt2, ↓gDIn, ↓gDSetd, ↓gDPop1, ↓gDPop2, ↓gTIdx, ↓gLKeys, ↓gDisp, ↓gAsgT, ↓gFldAug, ↓gts, ↓gts0, ↓gnm, ↓gfl, ↓gds, ↓x_lenSt, ↓x_enumK, ↓x_enumKL, ↓gSortK, ↓gSortKR, ↓gFrD, ↓gFzD]
        obtain ⟨m, n, no, pl, off⟩ := t
        rcases hno _ ht with hh | hh
        · have hh : no = 0 := hh
          subst hh
          refine ⟨_, rfl, by decide, hac, hR⟩
        · have hh : no = 1 := hh
          subst hh
          refine ⟨_, rfl, by decide, hac, hR⟩
      · rw [fm_some, x_newF]
        have e3 : C ++ [some (MO.lst ((crAll N F).map crD5))] ++ G = S ++ ([some (MO.dic [Sum.inr b1, Sum.inr b2] [bkV a b1 R1, bkV a b2 R2]), some (MO.lst ((crAll N F).map crD5))] ++ G) := by rw [← hC]; simp
        rw [e3]
        have := h ([some (MO.dic [Sum.inr b1, Sum.inr b2] [bkV a b1 R1, bkV a b2 R2]), some (MO.lst ((crAll N F).map crD5))] ++ G)
        unfold crs at this
        rw [List.map_map] at this
        exact this
theorem und_dy {n : Nat} : ∀ {L : List Dy}, D.unders n (L.map dyD) = true
  | [] => rfl
  | d :: L => by
    have ih := und_dy (n := n) (L := L)
    simp [D.unders, D.under, ih]
theorem r_crossings_live (T : Txt K mg a) : ∀ ds S q, sp_crossings_live a ds S q → g_crossings K a { nx := fun _ S' => q .non S', rt := q } (startD N_crossings ds) S := by
  rintro ds S q ⟨_, _, _, N, F, h2, hc, h⟩
  exact core_crossings T ds S q N F h2 hc h
theorem rf_crossings (T : Txt K mg a) : ∀ ds S q, D.unders S.length ds = true → Sto.under S.length S = true → sp_crossings a ds S q → g_crossings K a { nx := fun _ S' => fin S.length q .non S', rt := fin S.length q } (startD N_crossings ds) S := by
  rintro ds S q hu hs ⟨_, _, _, N, F, h2, hc, h⟩
  exact core_crossings T ds S (fin S.length q) N F h2 hc fun _ => x_finY hs ⟨und_dy, h⟩
end
end Lw
namespace Lw
open PySem L2 Dl
section
variable {P : Program} {w : World} {K : PySem.W.Frag} {mg : Str → Option Value} {base : Heap} {a : Ad}
theorem x_b4 {ρ : Env_} {i j k l : Nat} {x y z u : D} : Tgt.bind (.tp [.nm i, .nm j, .nm k, .nm l]) (.tup [x, y, z, u]) ρ = some ((((ρ.set i (some x)).set j (some y)).set k (some z)).set l (some u)) := by
  simp [Tgt.bind, Tgt.binds]
theorem x_byM {L : List Rw} {fz : Bool} {S : Sto} {q : D → Sto → Prop} (h : newL fz ((L.mergeSort leM).map rwD) S q) : byKeys (L.map rwD) (L.map fun r => D.int (r.m : Nat)) fz S q := by
  have ep : ∀ L : List Rw, toPys (L.map fun r => D.int (r.m : Nat)) = some (L.map fun r => PyData.int (r.m : Nat)) := fun L => by
    induction L with
    | nil => rfl
    | cons x L ih => rw [List.map_cons, List.map_cons, toPys, ih]; rfl
  refine ⟨L.map fun r => PyData.int (r.m : Nat), ep L, PySem.W.AllAlike.of fun b b' => rfl, .inr fun d hd => ?_, fun p hp => ?_, ?_⟩
  · obtain ⟨p, _, rfl⟩ := List.mem_map.mp hd
    exact ⟨fun z => (nomatch z), fun xs z => (nomatch z)⟩
  · obtain ⟨p, _, rfl⟩ := List.mem_map.mp hp
    exact (by decide : (0 : Nat) ≤ 60)
  · have e1 : (L.map rwD).zip (L.map fun r => PyData.int (r.m : Nat)) = L.map fun r => (rwD r, PyData.int (r.m : Nat)) := by rw [List.zip_map']
    have e2 : (L.mergeSort leM).map (fun r => (rwD r, PyData.int (r.m : Nat))) = (L.map fun r => (rwD r, PyData.int (r.m : Nat))).mergeSort (PySem.W.dataLe false Prod.snd) := by
      refine ms_map (f := fun r : Rw => (rwD r, PyData.int (r.m : Nat))) (r := leM) (s := PySem.W.dataLe false Prod.snd) (fun a b => ?_) L
      have := congrFun (congrFun (PySem.W.dataLe_int (β := Rw) fun r => ((r.m : Nat) : Int)) a) b
      have e3 : PySem.W.dataLe false Prod.snd (rwD a, PyData.int ((a.m : Nat) : Int)) (rwD b, PyData.int ((b.m : Nat) : Int)) = PySem.W.dataLe false (fun r : Rw => PyData.int ((r.m : Nat) : Int)) a b := rfl
      rw [e3, this]
      unfold leM
      exact decide_eq_decide.mpr (by omega)
    rw [e1, ← e2, List.map_map]
    exact h
theorem keys_m {gb : G D} {ws : Env_} {S : Sto} {f : Rw → D} : ∀ (L : List Rw) {k : List D → Sto → Prop}, (∀ r ∈ L, ∀ (q : D → Sto → Prop), q (f r) S → gb (some (rwD r) :: ws) S q) → k (L.map f) S → Dl.gKeys gb ws (L.map rwD) S k
  | [], _, _, h => h
  | r :: L, _, hg, h => hg r List.mem_cons_self _ (keys_m L (fun x hx => hg x (List.mem_cons_of_mem _ hx)) h)
theorem rf__law_rows_of : ∀ ds S q, D.unders S.length ds = true → Sto.under S.length S = true → sp__law_rows_of a ds S q → g__law_rows_of K a { nx := fun _ S' => fin S.length q .non S', rt := fin S.length q } (startD N__law_rows_of ds) S := by
  rintro ds S q hu hs ⟨L, s, rfl, hL, hb, hb2, h⟩
  rw [st__law_rows_of]
  have hz : 5000 ≤ sizeLine := by decide
  simp only [g__law_rows_of, ↓x_eqSS, ↓x_neSS, ↓gKGet, ↓x_kget, ↓x_ixE, at_last, ↓x_appE, ↓x_tyE, ↓x_itE, ↓x_lenE, ↓x_nePr, ↓x_eqPr, ↓x_neE, ↓x_lenr, ↓x_lenrI, ↓gRev, ↓x_par3, ↓x_par33, ↓x_fld, ↓x_fset, ↓x_mkF, ↓x_mk, ↓x_meth, ↓x_fldO, ↓x_fsetE, ↓x_fldE, ↓x_methO, ↓x_isiCO, ↓x_isiCN, ↓x_isiCT, ↓x_isiCLi, ↓x_isiCS, ↓x_isiCI, ↓x_own, ↓x_eqT2, ↓x_neT2, ↓x_neL4, ↓x_eqLN, ↓x_neNil, ↓x_gset, ↓x_lc, ↓x_for, ↓x_it, ↓x_rn1, ↓x_rn2, ↓x_enu, ↓x_zip, ↓x_itS, ↓x_itL, ↓x_itK, ↓x_itT, ↓x_rn1I, ↓x_rn2I, ↓x_enuL, ↓x_enuK, ↓x_zipL, ↓x_ixS0, ↓x_ixL, ↓x_ixT, ↓x_ixK, x_at0, x_at1, x_at2, x_at3, x_at4, ↓x_set00, ↓x_set01, ↓x_set02, ↓x_aug1, ↓x_aug2, ↓x_aug3, ↓x_aug4, ↓x_aug5, ↓x_aug6, ↓x_aug7, ↓x_aug8, ↓x_aug9, ↓x_aug10, ↓x_aug11, ↓x_aug12, ↓x_aug13, ↓x_aug14, ↓x_aug15, ↓x_aug16, ↓x_aug17, ↓x_aug18, ↓x_aug19, ↓x_aug20, ↓x_aug21, ↓x_aug22, ↓x_aug23, Int.reduceToNat, Int.reducePow, ↓gSeq, ↓gIfS, ↓gSet, ↓gAsg, ↓x_par, ↓x_par2, ↓gRet, ↓gRetN, ↓gNext, ↓gDrop, ↓gBreak, ↓gCont, ↓gDead, ↓gCB, ↓gB2, ↓gU, ↓gC, ↓Dl.gCons, ↓Dl.gNil, ↓Dl.gTup, ↓Dl.gLst, ↓gTest, ↓gOrB, ↓gAndB, ↓gNotB, ↓gAndV, ↓gOrV, ↓gNotV, ↓gIf, ↓gIx, ↓gSl, ↓gPart, ↓gNoP, ↓gMt, ↓gCall, ↓gArgs, ↓gIsN, ↓gNotN, ↓gChain, ↓x_fmtS, ↓x_afS, ↓x_afI, ↓x_js0, ↓x_jsc, ↓gJoined, ↓gYes, ↓x_bnm, ↓x_btp, ↓x_bn, ↓x_bc, ↓x_nnN, ↓x_nnI, ↓x_nnS, ↓x_nnB, ↓x_nnT, ↓x_nnL, ↓x_nnO, ↓x_nnl, ↓x_tyS, ↓x_tyL, ↓x_i2, ↓aSub, ↓aFdiv, ↓aMod, ↓aPow, ↓aShr, ↓aLt, ↓aLe, ↓aGt, ↓aGe, ↓x_addI, ↓x_addS, ↓x_mulI, ↓x_iaddS, ↓x_iaddI, ↓x_neg, ↓x_eqI, ↓x_neI, ↓x_eqS, ↓x_neS, ↓x_eqB, ↓x_neB, ↓x_eqNI, ↓x_neNI, ↓x_lenS, ↓x_lenL_l, ↓x_lenL_k, ↓x_lenL_t, ↓x_str, ↓x_intI, ↓x_intB, ↓x_divmod, ↓x_max2, ↓x_min2, ↓x_ixS, ↓x_slS, ↓x_slT, ↓x_slL_l, ↓x_slL_k, ↓x_inS, ↓x_newT, ↓x_newF, ↓x_si, ↓x_s1, ↓x_s0, ↓x_rpart, ↓x_part, ↓x_a1, ↓x_a2, ↓x_isiStr, ↓x_isiInt, ↓x_isiIntB, ↓x_isiIntS, ↓x_isiBB, ↓x_isiBI, ↓x_isiStrI, ↓x_isiNonI, ↓x_isiNonS, ↓x_isiT, ↓x_isiL, ↓x_var0, ↓x_varS, ↓x_ex, ↓x_aug0, gat, pick, Option.some.injEq, D.bl.injEq, D.int.injEq, D.str.injEq, D.tup.injEq, D.lst.injEq, List.cons.injEq, and_true, true_and, List.set_cons_zero, List.set_cons_succ, List.length_cons, List.length_nil, List.filterMap_cons, List.filterMap_nil, List.getElem?_cons_zero, List.getElem?_cons_succ, Option.bind_some, ↓reduceIte, if_true, if_false, Bool.false_eq_true, Bool.true_eq_false, decide_eq_true_eq, beq_self_eq_true, Bool.not_true, Bool.not_false, Bool.not_eq_true', decide_eq_false_iff_not, exists_eq_left', exists_eq_left, exists_eq, ↓x_dnT, ↓x_dnF, ↓gAsgL, ↓gMMDef, ↓gDSet, ↓gSItems, ↓x_nilL, ↓x_nilE, List.isEmpty_nil, List.isEmpty_cons, Bool.true_xor, Bool.false_xor, ↓gSortSet, ↓gLenFz, ↓gOrT, ↓gAndT, ↓gTryAs, ↓gTryO, ↓gRaise, ↓gCallX, ↓gMethX, ↓gMakeX, ↓gFldX, ↓x_inXs, Bool.false_xor, Bool.true_xor, ↓gOrS, ↓x_fmtRS, ↓x_afRS, ↓x_afRI, ↓x_stO, ↓x_zipS, ↓x_zipE, ↓x_zipSL, ↓x_zipST, ↓x_zipEL, ↓x_augix, ↓x_isB, ↓x_notB, ↓gLR1, ↓gLR2, ↓gDIxT, ↓gDGt1T, ↓gDSetT, ↓gDNewT, ↓gDIx, ↓gDGt1, ↓gDGt2, ↓gDIn, ↓gDSetd, ↓gDPop1, ↓gDPop2, ↓gTIdx, ↓gLKeys, ↓gDisp, ↓gAsgT, ↓gFldAug, ↓gts, ↓gts0, ↓gnm, ↓gfl, ↓gds, ↓x_lenSt, ↓x_enumK, ↓x_enumKL, ↓gSortK, ↓gSortKR, ↓gFrD, ↓gFzD]
  refine ⟨by decide, ?_⟩
  refine ⟨fun i ρ S' => S' = S ++ [some (.lst (((L.take i).map (rowOf s)).map rwD))] ∧ ∃ x3 x4 x5 x6, ρ = [some (.lst (L.map dyD)), some (.str s), some (.loc S.length), x3, x4, x5, x6], ⟨rfl, _, _, _, _, rfl⟩, ?_, ?_⟩
  · rintro i d ρ S' hd ⟨rfl, x3, x4, x5, x6, rfl⟩
    rw [List.getElem?_map] at hd
    obtain ⟨y, hy, rfl⟩ := Option.map_eq_some_iff.mp hd
    refine ⟨trivial, _, x_b4, ?_⟩
    simp only [↓x_eqSS, ↓x_neSS, ↓gKGet, ↓x_kget, ↓x_ixE, at_last, ↓x_appE, ↓x_tyE, ↓x_itE, ↓x_lenE, ↓x_nePr, ↓x_eqPr, ↓x_neE, ↓x_lenr, ↓x_lenrI, ↓gRev, ↓x_par3, ↓x_par33, ↓x_fld, ↓x_fset, ↓x_mkF, ↓x_mk, ↓x_meth, ↓x_fldO, ↓x_fsetE, ↓x_fldE, ↓x_methO, ↓x_isiCO, ↓x_isiCN, ↓x_isiCT, ↓x_isiCLi, ↓x_isiCS, ↓x_isiCI, ↓x_own, ↓x_eqT2, ↓x_neT2, ↓x_neL4, ↓x_eqLN, ↓x_neNil, ↓x_gset, ↓x_lc, ↓x_for, ↓x_it, ↓x_rn1, ↓x_rn2, ↓x_enu, ↓x_zip, ↓x_itS, ↓x_itL, ↓x_itK, ↓x_itT, ↓x_rn1I, ↓x_rn2I, ↓x_enuL, ↓x_enuK, ↓x_zipL, ↓x_ixS0, ↓x_ixL, ↓x_ixT, ↓x_ixK, x_at0, x_at1, x_at2, x_at3, x_at4, ↓x_set00, ↓x_set01, ↓x_set02, ↓x_aug1, ↓x_aug2, ↓x_aug3, ↓x_aug4, ↓x_aug5, ↓x_aug6, ↓x_aug7, ↓x_aug8, ↓x_aug9, ↓x_aug10, ↓x_aug11, ↓x_aug12, ↓x_aug13, ↓x_aug14, ↓x_aug15, ↓x_aug16, ↓x_aug17, ↓x_aug18, ↓x_aug19, ↓x_aug20, ↓x_aug21, ↓x_aug22, ↓x_aug23, Int.reduceToNat, Int.reducePow, ↓gSeq, ↓gIfS, ↓gSet, ↓gAsg, ↓x_par, ↓x_par2, ↓gRet, ↓gRetN, ↓gNext, ↓gDrop, ↓gBreak, ↓gCont, ↓gDead, ↓gCB, ↓gB2, ↓gU, ↓gC, ↓Dl.gCons, ↓Dl.gNil, ↓Dl.gTup, ↓Dl.gLst, ↓gTest, ↓gOrB, ↓gAndB, ↓gNotB, ↓gAndV, ↓gOrV, ↓gNotV, ↓gIf, ↓gIx, ↓gSl, ↓gPart, ↓gNoP, ↓gMt, ↓gCall, ↓gArgs, ↓gIsN, ↓gNotN, ↓gChain, ↓x_fmtS, ↓x_afS, ↓x_afI, ↓x_js0, ↓x_jsc, ↓gJoined, ↓gYes, ↓x_bnm, ↓x_btp, ↓x_bn, ↓x_bc, ↓x_nnN, ↓x_nnI, ↓x_nnS, ↓x_nnB, ↓x_nnT, ↓x_nnL, ↓x_nnO, ↓x_nnl, ↓x_tyS, ↓x_tyL, ↓x_i2, ↓aSub, ↓aFdiv, ↓aMod, ↓aPow, ↓aShr, ↓aLt, ↓aLe, ↓aGt, ↓aGe, ↓x_addI, ↓x_addS, ↓x_mulI, ↓x_iaddS, ↓x_iaddI, ↓x_neg, ↓x_eqI, ↓x_neI, ↓x_eqS, ↓x_neS, ↓x_eqB, ↓x_neB, ↓x_eqNI, ↓x_neNI, ↓x_lenS, ↓x_lenL_l, ↓x_lenL_k, ↓x_lenL_t, ↓x_str, ↓x_intI, ↓x_intB, ↓x_divmod, ↓x_max2, ↓x_min2, ↓x_ixS, ↓x_slS, ↓x_slT, ↓x_slL_l, ↓x_slL_k, ↓x_inS, ↓x_newT, ↓x_newF, ↓x_si, ↓x_s1, ↓x_s0, ↓x_rpart, ↓x_part, ↓x_a1, ↓x_a2, ↓x_isiStr, ↓x_isiInt, ↓x_isiIntB, ↓x_isiIntS, ↓x_isiBB, ↓x_isiBI, ↓x_isiStrI, ↓x_isiNonI, ↓x_isiNonS, ↓x_isiT, ↓x_isiL, ↓x_var0, ↓x_varS, ↓x_ex, ↓x_aug0, gat, pick, Option.some.injEq, D.bl.injEq, D.int.injEq, D.str.injEq, D.tup.injEq, D.lst.injEq, List.cons.injEq, and_true, true_and, List.set_cons_zero, List.set_cons_succ, List.length_cons, List.length_nil, List.filterMap_cons, List.filterMap_nil, List.getElem?_cons_zero, List.getElem?_cons_succ, Option.bind_some, ↓reduceIte, if_true, if_false, Bool.false_eq_true, Bool.true_eq_false, decide_eq_true_eq, beq_self_eq_true, Bool.not_true, Bool.not_false, Bool.not_eq_true', decide_eq_false_iff_not, exists_eq_left', exists_eq_left, exists_eq, ↓x_dnT, ↓x_dnF, ↓gAsgL, ↓gMMDef, ↓gDSet, ↓gSItems, ↓x_nilL, ↓x_nilE, List.isEmpty_nil, List.isEmpty_cons, Bool.true_xor, Bool.false_xor, ↓gSortSet, ↓gLenFz, ↓gOrT, ↓gAndT, ↓gTryAs, ↓gTryO, ↓gRaise, ↓gCallX, ↓gMethX, ↓gMakeX, ↓gFldX, ↓x_inXs, Bool.false_xor, Bool.true_xor, ↓gOrS, ↓x_fmtRS, ↓x_afRS, ↓x_afRI, ↓x_stO, ↓x_zipS, ↓x_zipE, ↓x_zipSL, ↓x_zipST, ↓x_zipEL, ↓x_augix, ↓x_isB, ↓x_notB, ↓gLR1, ↓gLR2, ↓gDIxT, ↓gDGt1T, ↓gDSetT, ↓gDNewT, ↓gDIx, ↓gDGt1, ↓gDGt2, ↓gDIn, ↓gDSetd, ↓gDPop1, ↓gDPop2, ↓gTIdx, ↓gLKeys, ↓gDisp, ↓gAsgT, ↓gFldAug, ↓gts, ↓gts0, ↓gnm, ↓gfl, ↓gds, ↓x_lenSt, ↓x_enumK, ↓x_enumKL, ↓gSortK, ↓gSortKR, ↓gFrD, ↓gFzD]
    have hlt : (((L.take i).map (rowOf s)).map rwD).length < sizeLine := by
      rw [List.length_map, List.length_map, List.length_take]
      omega
    refine ⟨(ba_ok (hb y (List.mem_of_getElem? hy))).1, (ba_ok hb2).1, ?_⟩
    rw [take_snoc hy, List.map_append, List.map_append]
    by_cases c : y.2.1 = s
    · rw [if_pos c]
      have e : rowOf s y = ⟨y.2.2.1, "on", y.1⟩ := if_pos c
      exact ⟨by decide, hlt, by rw [List.map_cons, List.map_cons, List.map_nil, e]; rfl, _, _, _, _, rfl, rfl, rfl, rfl⟩
    · rw [if_neg c]
      have e : rowOf s y = ⟨y.2.2.2, "off", y.1⟩ := if_neg c
      exact ⟨by decide, hlt, by rw [List.map_cons, List.map_cons, List.map_nil, e]; rfl, _, _, _, _, rfl, rfl, rfl, rfl⟩
  · rintro ρ S' ⟨rfl, x3, x4, x5, x6, rfl⟩
    refine ⟨trivial, ?_⟩
    rw [List.length_map, List.take_length]
    simp only [↓x_eqSS, ↓x_neSS, ↓gKGet, ↓x_kget, ↓x_ixE, at_last, ↓x_appE, ↓x_tyE, ↓x_itE, ↓x_lenE, ↓x_nePr, ↓x_eqPr, ↓x_neE, ↓x_lenr, ↓x_lenrI, ↓gRev, ↓x_par3, ↓x_par33, ↓x_fld, ↓x_fset, ↓x_mkF, ↓x_mk, ↓x_meth, ↓x_fldO, ↓x_fsetE, ↓x_fldE, ↓x_methO, ↓x_isiCO, ↓x_isiCN, ↓x_isiCT, ↓x_isiCLi, ↓x_isiCS, ↓x_isiCI, ↓x_own, ↓x_eqT2, ↓x_neT2, ↓x_neL4, ↓x_eqLN, ↓x_neNil, ↓x_gset, ↓x_lc, ↓x_for, ↓x_it, ↓x_rn1, ↓x_rn2, ↓x_enu, ↓x_zip, ↓x_itS, ↓x_itL, ↓x_itK, ↓x_itT, ↓x_rn1I, ↓x_rn2I, ↓x_enuL, ↓x_enuK, ↓x_zipL, ↓x_ixS0, ↓x_ixL, ↓x_ixT, ↓x_ixK, x_at0, x_at1, x_at2, x_at3, x_at4, ↓x_set00, ↓x_set01, ↓x_set02, ↓x_aug1, ↓x_aug2, ↓x_aug3, ↓x_aug4, ↓x_aug5, ↓x_aug6, ↓x_aug7, ↓x_aug8, ↓x_aug9, ↓x_aug10, ↓x_aug11, ↓x_aug12, ↓x_aug13, ↓x_aug14, ↓x_aug15, ↓x_aug16, ↓x_aug17, ↓x_aug18, ↓x_aug19, ↓x_aug20, ↓x_aug21, ↓x_aug22, ↓x_aug23, Int.reduceToNat, Int.reducePow, ↓gSeq, ↓gIfS, ↓gSet, ↓gAsg, ↓x_par, ↓x_par2, ↓gRet, ↓gRetN, ↓gNext, ↓gDrop, ↓gBreak, ↓gCont, ↓gDead, ↓gCB, ↓gB2, ↓gU, ↓gC, ↓Dl.gCons, ↓Dl.gNil, ↓Dl.gTup, ↓Dl.gLst, ↓gTest, ↓gOrB, ↓gAndB, ↓gNotB, ↓gAndV, ↓gOrV, ↓gNotV, ↓gIf, ↓gIx, ↓gSl, ↓gPart, ↓gNoP, ↓gMt, ↓gCall, ↓gArgs, ↓gIsN, ↓gNotN, ↓gChain, ↓x_fmtS, ↓x_afS, ↓x_afI, ↓x_js0, ↓x_jsc, ↓gJoined, ↓gYes, ↓x_bnm, ↓x_btp, ↓x_bn, ↓x_bc, ↓x_nnN, ↓x_nnI, ↓x_nnS, ↓x_nnB, ↓x_nnT, ↓x_nnL, ↓x_nnO, ↓x_nnl, ↓x_tyS, ↓x_tyL, ↓x_i2, ↓aSub, ↓aFdiv, ↓aMod, ↓aPow, ↓aShr, ↓aLt, ↓aLe, ↓aGt, ↓aGe, ↓x_addI, ↓x_addS, ↓x_mulI, ↓x_iaddS, ↓x_iaddI, ↓x_neg, ↓x_eqI, ↓x_neI, ↓x_eqS, ↓x_neS, ↓x_eqB, ↓x_neB, ↓x_eqNI, ↓x_neNI, ↓x_lenS, ↓x_lenL_l, ↓x_lenL_k, ↓x_lenL_t, ↓x_str, ↓x_intI, ↓x_intB, ↓x_divmod, ↓x_max2, ↓x_min2, ↓x_ixS, ↓x_slS, ↓x_slT, ↓x_slL_l, ↓x_slL_k, ↓x_inS, ↓x_newT, ↓x_newF, ↓x_si, ↓x_s1, ↓x_s0, ↓x_rpart, ↓x_part, ↓x_a1, ↓x_a2, ↓x_isiStr, ↓x_isiInt, ↓x_isiIntB, ↓x_isiIntS, ↓x_isiBB, ↓x_isiBI, ↓x_isiStrI, ↓x_isiNonI, ↓x_isiNonS, ↓x_isiT, ↓x_isiL, ↓x_var0, ↓x_varS, ↓x_ex, ↓x_aug0, gat, pick, Option.some.injEq, D.bl.injEq, D.int.injEq, D.str.injEq, D.tup.injEq, D.lst.injEq, List.cons.injEq, and_true, true_and, List.set_cons_zero, List.set_cons_succ, List.length_cons, List.length_nil, List.filterMap_cons, List.filterMap_nil, List.getElem?_cons_zero, List.getElem?_cons_succ, Option.bind_some, ↓reduceIte, if_true, if_false, Bool.false_eq_true, Bool.true_eq_false, decide_eq_true_eq, beq_self_eq_true, Bool.not_true, Bool.not_false, Bool.not_eq_true', decide_eq_false_iff_not, exists_eq_left', exists_eq_left, exists_eq, ↓x_dnT, ↓x_dnF, ↓gAsgL, ↓gMMDef, ↓gDSet, ↓gSItems, ↓x_nilL, ↓x_nilE, List.isEmpty_nil, List.isEmpty_cons, Bool.true_xor, Bool.false_xor, ↓gSortSet, ↓gLenFz, ↓gOrT, ↓gAndT, ↓gTryAs, ↓gTryO, ↓gRaise, ↓gCallX, ↓gMethX, ↓gMakeX, ↓gFldX, ↓x_inXs, Bool.false_xor, Bool.true_xor, ↓gOrS, ↓x_fmtRS, ↓x_afRS, ↓x_afRI, ↓x_stO, ↓x_zipS, ↓x_zipE, ↓x_zipSL, ↓x_zipST, ↓x_zipEL, ↓x_augix, ↓x_isB, ↓x_notB, ↓gLR1, ↓gLR2, ↓gDIxT, ↓gDGt1T, ↓gDSetT, ↓gDNewT, ↓gDIx, ↓gDGt1, ↓gDGt2, ↓gDIn, ↓gDSetd, ↓gDPop1, ↓gDPop2, ↓gTIdx, ↓gLKeys, ↓gDisp, ↓gAsgT, ↓gFldAug, ↓gts, ↓gts0, ↓gnm, ↓gfl, ↓gds, ↓x_lenSt, ↓x_enumK, ↓x_enumKL, ↓gSortK, ↓gSortKR, ↓gFrD, ↓gFzD]
    refine ⟨_, by simp only [seqOf, List.getElem?_append_right (Nat.le_refl S.length), Nat.sub_self]; rfl, rfl, ?_⟩
    refine keys_m (f := fun r : Rw => D.int (r.m : Nat)) _ (fun r _ q' hq => ?_) ?_
    · simp only [↓x_eqSS, ↓x_neSS, ↓gKGet, ↓x_kget, ↓x_ixE, at_last, ↓x_appE, ↓x_tyE, ↓x_itE, ↓x_lenE, ↓x_nePr, ↓x_eqPr, ↓x_neE, ↓x_lenr, ↓x_lenrI, ↓gRev, ↓x_par3, ↓x_par33, ↓x_fld, ↓x_fset, ↓x_mkF, ↓x_mk, ↓x_meth, ↓x_fldO, ↓x_fsetE, ↓x_fldE, ↓x_methO, ↓x_isiCO, ↓x_isiCN, ↓x_isiCT, ↓x_isiCLi, ↓x_isiCS, ↓x_isiCI, ↓x_own, ↓x_eqT2, ↓x_neT2, ↓x_neL4, ↓x_eqLN, ↓x_neNil, ↓x_gset, ↓x_lc, ↓x_for, ↓x_it, ↓x_rn1, ↓x_rn2, ↓x_enu, ↓x_zip, ↓x_itS, ↓x_itL, ↓x_itK, ↓x_itT, ↓x_rn1I, ↓x_rn2I, ↓x_enuL, ↓x_enuK, ↓x_zipL, ↓x_ixS0, ↓x_ixL, ↓x_ixT, ↓x_ixK, x_at0, x_at1, x_at2, x_at3, x_at4, ↓x_set00, ↓x_set01, ↓x_set02, ↓x_aug1, ↓x_aug2, ↓x_aug3, ↓x_aug4, ↓x_aug5, ↓x_aug6, ↓x_aug7, ↓x_aug8, ↓x_aug9, ↓x_aug10, ↓x_aug11, ↓x_aug12, ↓x_aug13, ↓x_aug14, ↓x_aug15, ↓x_aug16, ↓x_aug17, ↓x_aug18, ↓x_aug19, ↓x_aug20, ↓x_aug21, ↓x_aug22, ↓x_aug23, Int.reduceToNat, Int.reducePow, ↓gSeq, ↓gIfS, ↓gSet, ↓gAsg, ↓x_par, ↓x_par2, ↓gRet, ↓gRetN, ↓gNext, ↓gDrop, ↓gBreak, ↓gCont, ↓gDead, ↓gCB, ↓gB2, ↓gU, ↓gC, ↓Dl.gCons, ↓Dl.gNil, ↓Dl.gTup, ↓Dl.gLst, ↓gTest, ↓gOrB, ↓gAndB, ↓gNotB, ↓gAndV, ↓gOrV, ↓gNotV, ↓gIf, ↓gIx, ↓gSl, ↓gPart, ↓gNoP, ↓gMt, ↓gCall, ↓gArgs, ↓gIsN, ↓gNotN, ↓gChain, ↓x_fmtS, ↓x_afS, ↓x_afI, ↓x_js0, ↓x_jsc, ↓gJoined, ↓gYes, ↓x_bnm, ↓x_btp, ↓x_bn, ↓x_bc, ↓x_nnN, ↓x_nnI, ↓x_nnS, ↓x_nnB, ↓x_nnT, ↓x_nnL, ↓x_nnO, ↓x_nnl, ↓x_tyS, ↓x_tyL, ↓x_i2, ↓aSub, ↓aFdiv, ↓aMod, ↓aPow, ↓aShr, ↓aLt, ↓aLe, ↓aGt, ↓aGe, ↓x_addI, ↓x_addS, ↓x_mulI, ↓x_iaddS, ↓x_iaddI, ↓x_neg, ↓x_eqI, ↓x_neI, ↓x_eqS, ↓x_neS, ↓x_eqB, ↓x_neB, ↓x_eqNI, ↓x_neNI, ↓x_lenS, ↓x_lenL_l, ↓x_lenL_k, ↓x_lenL_t, ↓x_str, ↓x_intI, ↓x_intB, ↓x_divmod, ↓x_max2, ↓x_min2, ↓x_ixS, ↓x_slS, ↓x_slT, ↓x_slL_l, ↓x_slL_k, ↓x_inS, ↓x_newT, ↓x_newF, ↓x_si, ↓x_s1, ↓x_s0, ↓x_rpart, ↓x_part, ↓x_a1, ↓x_a2, ↓x_isiStr, ↓x_isiInt, ↓x_isiIntB, ↓x_isiIntS, ↓x_isiBB, ↓x_isiBI, ↓x_isiStrI, ↓x_isiNonI, ↓x_isiNonS, ↓x_isiT, ↓x_isiL, ↓x_var0, ↓x_varS, ↓x_ex, ↓x_aug0, gat, pick, Option.some.injEq, D.bl.injEq, D.int.injEq, D.str.injEq, D.tup.injEq, D.lst.injEq, List.cons.injEq, and_true, true_and, List.set_cons_zero, List.set_cons_succ, List.length_cons, List.length_nil, List.filterMap_cons, List.filterMap_nil, List.getElem?_cons_zero, List.getElem?_cons_succ, Option.bind_some, ↓reduceIte, if_true, if_false, Bool.false_eq_true, Bool.true_eq_false, decide_eq_true_eq, beq_self_eq_true, Bool.not_true, Bool.not_false, Bool.not_eq_true', decide_eq_false_iff_not, exists_eq_left', exists_eq_left, exists_eq, ↓x_dnT, ↓x_dnF, ↓gAsgL, ↓gMMDef, ↓gDSet, ↓gSItems, ↓x_nilL, ↓x_nilE, List.isEmpty_nil, List.isEmpty_cons, Bool.true_xor, Bool.false_xor, ↓gSortSet, ↓gLenFz, ↓gOrT, ↓gAndT, ↓gTryAs, ↓gTryO, ↓gRaise, ↓gCallX, ↓gMethX, ↓gMakeX, ↓gFldX, ↓x_inXs, Bool.false_xor, Bool.true_xor, ↓gOrS, ↓x_fmtRS, ↓x_afRS, ↓x_afRI, ↓x_stO, ↓x_zipS, ↓x_zipE, ↓x_zipSL, ↓x_zipST, ↓x_zipEL, ↓x_augix, ↓x_isB, ↓x_notB, ↓gLR1, ↓gLR2, ↓gDIxT, ↓gDGt1T, ↓gDSetT, ↓gDNewT, ↓gDIx, ↓gDGt1, ↓gDGt2, ↓gDIn, ↓gDSetd, ↓gDPop1, ↓gDPop2, ↓gTIdx, ↓gLKeys, ↓gDisp, ↓gAsgT, ↓gFldAug, ↓gts, ↓gts0, ↓gnm, ↓gfl, ↓gds, ↓x_lenSt, ↓x_enumK, ↓x_enumKL, ↓gSortK, ↓gSortKR, ↓gFrD, ↓gFzD]
      first | exact hq | exact ⟨_, x_at0, hq⟩
    refine x_byM ?_
    rw [x_newT]
    exact (x_finL hs).mpr ⟨und_rw, h⟩
end
end Lw
namespace Lw
open PySem L2 Dl
theorem eq_sorted {A : Type} {le : A → A → Bool} (anti : ∀ a b, le a b = true → le b a = true → a = b) : ∀ {l m : List A}, l.Perm m → l.Pairwise (fun a b => le a b = true) → m.Pairwise (fun a b => le a b = true) → l = m
  | [], m, h, _, _ => (List.Perm.nil_eq h)
  | a :: l, m, h, h1, h2 => by
    cases m with
    | nil => exact absurd h.length_eq (by simp)
    | cons b m =>
      have h1' := List.pairwise_cons.mp h1
      have h2' := List.pairwise_cons.mp h2
      have e : a = b := by
        have ha : a ∈ b :: m := h.mem_iff.mp List.mem_cons_self
        have hb : b ∈ a :: l := h.mem_iff.mpr List.mem_cons_self
        rcases List.mem_cons.mp ha with ha | ha
        · exact ha
        · rcases List.mem_cons.mp hb with hb | hb
          · exact hb.symm
          · exact anti a b (h1'.1 b hb) (h2'.1 a ha)
      subst e
      rw [eq_sorted anti (List.Perm.cons_inv h) h1'.2 h2'.2]
theorem sort_perm {A : Type} {le : A → A → Bool} (tr : ∀ a b c, le a b = true → le b c = true → le a c = true) (tot : ∀ a b, (le a b || le b a) = true) (anti : ∀ a b, le a b = true → le b a = true → a = b) {l m : List A} (h : l.Perm m) : l.mergeSort le = m.mergeSort le :=
  eq_sorted anti ((List.mergeSort_perm l le).trans (h.trans (List.mergeSort_perm m le).symm)) (List.pairwise_mergeSort tr tot l) (List.pairwise_mergeSort tr tot m)
theorem two_in {A : Type} {a b : A} : ∀ {l : List A}, a ∈ l → b ∈ l → a ≠ b → [a, b].Sublist l ∨ [b, a].Sublist l
  | [], h, _, _ => nomatch h
  | x :: l, ha, hb, hne => by
    rcases List.mem_cons.mp ha with rfl | ha'
    · rcases List.mem_cons.mp hb with rfl | hb'
      · exact absurd rfl hne
      · exact .inl ((List.singleton_sublist.mpr hb').cons_cons _)
    · rcases List.mem_cons.mp hb with rfl | hb'
      · exact .inr ((List.singleton_sublist.mpr ha').cons_cons _)
      · rcases two_in ha' hb' hne with h | h
        · exact .inl (h.cons _)
        · exact .inr (h.cons _)
theorem not_both {A : Type} {a b : A} : ∀ {l : List A}, l.Nodup → [a, b].Sublist l → [b, a].Sublist l → False
  | [], _, h, _ => nomatch h
  | x :: l, nd, h1, h2 => by
    have n := List.nodup_cons.mp nd
    cases h1 with
    | cons _ h1 =>
      cases h2 with
      | cons _ h2 => exact not_both n.2 h1 h2
      | cons_cons _ h2 => exact n.1 (h1.subset (by simp))
    | cons_cons _ h1 =>
      cases h2 with
      | cons _ h2 => exact n.1 (h2.subset (by simp))
      | cons_cons _ h2 => exact n.1 (List.singleton_sublist.mp h1)
theorem stable_sorted {A : Type} {le : A → A → Bool} (tr : ∀ a b c, le a b = true → le b c = true → le a c = true) (tot : ∀ a b, (le a b || le b a) = true) {full : A → A → Prop} {l : List A} (nd : l.Nodup) (h1 : ∀ a b, [a, b].Sublist l → le a b = true → full a b) (h2 : ∀ a b, le a b = true → le b a = false → full a b) :
    (l.mergeSort le).Pairwise full := by
  have hp := List.mergeSort_perm l le
  have nd2 : (l.mergeSort le).Nodup := hp.nodup_iff.mpr nd
  rw [List.pairwise_iff_forall_sublist]
  intro a b hab
  have hle := (List.pairwise_iff_forall_sublist.mp (List.pairwise_mergeSort tr tot l)) hab
  have ha : a ∈ l := hp.mem_iff.mp (hab.subset (by simp))
  have hb : b ∈ l := hp.mem_iff.mp (hab.subset (by simp))
  cases c : le b a with
  | false => exact h2 a b hle c
  | true =>
    have hne : a ≠ b := fun z => by
      subst z
      have := hab.nodup nd2
      simp at this
    rcases two_in ha hb hne with h | h
    · exact h1 a b h hle
    · exact (not_both nd2 hab (List.pair_sublist_mergeSort tr tot c h)).elim
end Lw
namespace Lw
open PySem L2 Dl PySem.W
def sq (w n : Str) (R : List Rw) : List Nat := (R.filter fun r => decide (r.w = w ∧ r.n = n)).map (·.m)
theorem sq_app (w n : Str) (R R' : List Rw) : sq w n (R ++ R') = sq w n R ++ sq w n R' := by
  unfold sq
  rw [List.filter_append, List.map_append]
theorem sq_one (w n : Str) (r : Rw) (R : List Rw) : sq w n (r :: R) = (if r.w = w ∧ r.n = n then [r.m] else []) ++ sq w n R := by
  unfold sq
  by_cases c : r.w = w ∧ r.n = n
  · rw [if_pos c, List.filter_cons_of_pos (by simpa using c)]; rfl
  · rw [if_neg c, List.filter_cons_of_neg (by simpa using c)]; rfl
theorem sq_snoc (w n : Str) (R : List Rw) (r : Rw) : sq w n (R ++ [r]) = sq w n R ++ (if r.w = w ∧ r.n = n then [r.m] else []) := by
  rw [sq_app, sq_one, show sq w n [] = [] from rfl, List.append_nil]
theorem sq_len (w n : Str) (R : List Rw) : (sq w n R).length = cw R w n := by
  unfold sq cw
  rw [List.length_map]
theorem pt_snoc (L : List Nu) (t : Nu) (n : Str) (k : Nat) : pt (L ++ [t]) n k = (pt L n k).or (if t.1 = n ∧ t.2.1 = k then some t.2.2 else none) := by
  unfold pt
  rw [List.find?_append]
  cases List.find? (fun t => decide (t.1 = n ∧ t.2.1 = k)) L with
  | some x => rfl
  | none =>
    rw [List.find?_cons]
    by_cases c : t.1 = n ∧ t.2.1 = k
    · rw [if_pos c, show decide (t.1 = n ∧ t.2.1 = k) = true from decide_eq_true c]; rfl
    · rw [if_neg c, show decide (t.1 = n ∧ t.2.1 = k) = false from decide_eq_false c]; rfl
theorem snoc_get {A : Type} (l : List A) (x : A) (k : Nat) : (l ++ [x])[k]? = (l[k]?).or (if l.length = k then some x else none) := by
  by_cases h : k < l.length
  · rw [List.getElem?_append_left h, List.getElem?_eq_getElem h]; rfl
  · rw [List.getElem?_append_right (by omega), List.getElem?_eq_none (l := l) (by omega), Option.none_or]
    by_cases e : l.length = k
    · rw [if_pos e, e, Nat.sub_self]; rfl
    · rw [if_neg e, List.getElem?_eq_none (by simp only [List.length_cons, List.length_nil]; omega)]
theorem on_off : ¬ (("on" : String) : Str) = (("off" : String) : Str) := by decide +kernel
theorem off_on : ¬ (("off" : String) : Str) = (("on" : String) : Str) := by decide +kernel
theorem pt_sq (w n : Str) (k : Nat) (R : List Rw) : pt (numL w R) n k = (sq w n R)[k]? := by
  refine take_all (P := fun R => pt (numL w R) n k = (sq w n R)[k]?) R rfl fun i r _ ih => ?_
  rw [numL_snoc, sq_snoc]
  unfold nStep
  by_cases c : r.w = w
  · rw [if_pos c, pt_snoc, ih, cnt_cw, ← sq_len]
    by_cases c2 : r.n = n
    · rw [show (if r.w = w ∧ r.n = n then [r.m] else []) = [r.m] from if_pos ⟨c, c2⟩, snoc_get]
      dsimp only
      rw [c2]
      by_cases e : (sq w n (R.take i)).length = k
      · rw [if_pos ⟨rfl, e⟩, if_pos e]
      · rw [if_neg (fun z => e z.2), if_neg e]
    · rw [if_neg (fun z => c2 z.1), if_neg (fun z => c2 z.2), List.append_nil, Option.or_none]
  · rw [if_neg c, ih, if_neg (fun z => c z.1), List.append_nil]
theorem num_mem (w n : Str) (k m : Nat) (R : List Rw) : (n, k, m) ∈ numL w R ↔ (sq w n R)[k]? = some m := by
  refine take_all (P := fun R => (n, k, m) ∈ numL w R ↔ (sq w n R)[k]? = some m) R ⟨(fun z => nomatch z), (fun z => nomatch z)⟩ fun i r _ ih => ?_
  rw [numL_snoc, sq_snoc]
  unfold nStep
  by_cases c : r.w = w
  · rw [if_pos c, List.mem_append, List.mem_singleton, ih, cnt_cw, ← sq_len]
    by_cases c2 : r.n = n
    · rw [if_pos ⟨c, c2⟩, snoc_get, c2]
      by_cases h : k < (sq w n (R.take i)).length
      · rw [List.getElem?_eq_getElem h, Option.some_or]
        constructor
        · rintro (z | z)
          · exact z
          · have := congrArg (fun t : Nu => t.2.1) z
            dsimp only at this
            omega
        · exact .inl
      · rw [List.getElem?_eq_none (by omega), Option.none_or]
        constructor
        · rintro (z | z)
          · cases z
          · have e1 := congrArg (fun t : Nu => t.2.1) z
            have e2 := congrArg (fun t : Nu => t.2.2) z
            dsimp only at e1 e2
            rw [if_pos e1.symm, e2]
        · intro z
          by_cases e : (sq w n (R.take i)).length = k
          · rw [if_pos e] at z
            rw [← e, Option.some.inj z]
            exact .inr rfl
          · rw [if_neg e] at z; cases z
    · rw [if_neg (fun z => c2 z.2), List.append_nil]
      constructor
      · rintro (z | z)
        · exact z
        · exact absurd (congrArg (fun t : Nu => t.1) z).symm c2
      · exact .inl
  · rw [if_neg c, ih, if_neg (fun z => c z.1), List.append_nil]
theorem num_nodup (w : Str) (R : List Rw) : (numL w R).Nodup := by
  refine take_all (P := fun R => (numL w R).Nodup) R List.nodup_nil fun i r _ ih => ?_
  rw [numL_snoc]
  unfold nStep
  split
  · refine List.nodup_append.mpr ⟨ih, by simp, fun x hx y hy => ?_⟩
    rw [List.mem_singleton.mp hy]
    rintro rfl
    have h := (num_mem w _ _ _ _).mp hx
    rw [cnt_cw, ← sq_len, List.getElem?_eq_none (Nat.le_refl _)] at h
    cases h
  · exact ih
theorem at_sq {R : List Rw} {i : Nat} {r : Rw} (h : R[i]? = some r) : (sq r.w r.n R)[cw (R.take i) r.w r.n]? = some r.m := by
  obtain ⟨hi, e⟩ := List.getElem?_eq_some_iff.mp h
  have e2 : R = R.take i ++ (r :: R.drop (i + 1)) := by rw [← e, List.getElem_cons_drop, List.take_append_drop]
  have e3 : sq r.w r.n R = sq r.w r.n (R.take i) ++ ([r.m] ++ sq r.w r.n (R.drop (i + 1))) := by
    rw [e2, sq_app, sq_one, if_pos ⟨rfl, rfl⟩, ← e2]
  rw [e3, ← sq_len, List.getElem?_append_right (Nat.le_refl _), Nat.sub_self]
  rfl
theorem sq_rise {w n : Str} {R : List Rw} (h : Rise R) : (sq w n R).Pairwise (fun x y => decide (x ≤ y) = true) := List.pairwise_map.mpr ((h.filter _).imp fun z => decide_eq_true z)
theorem sq_perm {w n : Str} {R R' : List Rw} (h : R.Perm R') : (sq w n R).Perm (sq w n R') := (h.filter _).map _
theorem rows_rise (D : List Dy) (s : Str) : Rise (rowsOf D s) := by
  refine (List.pairwise_mergeSort (le := leM) (fun a b c h1 h2 => ?_) (fun a b => ?_) (D.map (rowOf s))).imp fun z => of_decide_eq_true z
  · have h1 := of_decide_eq_true h1
    have h2 := of_decide_eq_true h2
    exact decide_eq_true (Nat.le_trans h1 h2)
  · unfold leM
    rw [Bool.or_eq_true, decide_eq_true_eq, decide_eq_true_eq]
    omega
theorem rows_perm (D : List Dy) (s : Str) : (rowsOf D s).Perm (D.map (rowOf s)) := List.mergeSort_perm _ _
theorem of_perm {D L : List Dy} (h : D.Perm L) (n b : Str) : (ofNB D n b).Perm (ofNB L n b) := h.filter _
theorem of_mem {L : List Dy} {n b : Str} {d : Dy} : d ∈ ofNB L n b ↔ d ∈ L ∧ d.1 = n ∧ d.2.1 = b := by
  unfold ofNB
  rw [List.mem_filter, decide_eq_true_eq]
theorem of_on (D : List Dy) (n s : Str) : sq "on" n (D.map (rowOf s)) = (ofNB D n s).map (·.2.2.1) := by
  unfold sq ofNB
  rw [List.filter_map, List.map_map]
  have e : D.filter ((fun r : Rw => decide (r.w = "on" ∧ r.n = n)) ∘ rowOf s) = D.filter fun d => decide (d.1 = n ∧ d.2.1 = s) := List.filter_congr fun d _ => by
    show decide ((rowOf s d).w = "on" ∧ (rowOf s d).n = n) = _
    unfold rowOf
    by_cases c : d.2.1 = s
    · rw [if_pos c]
      refine decide_eq_decide.mpr ⟨fun z => ⟨z.2, c⟩, fun z => ⟨rfl, z.1⟩⟩
    · rw [if_neg c]
      refine decide_eq_decide.mpr ⟨fun z => absurd z.1 off_on, fun z => absurd z.2 c⟩
  rw [e]
  refine List.map_congr_left fun d hd => ?_
  have := (List.mem_filter.mp hd).2
  show (rowOf s d).m = _
  unfold rowOf
  rw [if_pos (of_decide_eq_true this).2]
theorem oth_ne {s b : Str} (hs : BaOk s) (hb : BaOk b) : b ≠ s ↔ b = oth s := by
  rcases hs with rfl | rfl <;> rcases hb with rfl | rfl <;> decide +kernel
theorem oth_oth {s : Str} (hs : BaOk s) : oth (oth s) = s := by rcases hs with rfl | rfl <;> decide +kernel
theorem oth_ba {s : Str} (hs : BaOk s) : BaOk (oth s) := by
  rcases hs with rfl | rfl
  · exact .inr (by decide +kernel)
  · exact .inl (by decide +kernel)
theorem of_off {D : List Dy} (hb : ∀ d ∈ D, BaOk d.2.1) (n : Str) {s : Str} (hs : BaOk s) : sq "off" n (D.map (rowOf s)) = (ofNB D n (oth s)).map (·.2.2.2) := by
  unfold sq ofNB
  rw [List.filter_map, List.map_map]
  have e : D.filter ((fun r : Rw => decide (r.w = "off" ∧ r.n = n)) ∘ rowOf s) = D.filter fun d => decide (d.1 = n ∧ d.2.1 = oth s) := List.filter_congr fun d hd => by
    show decide ((rowOf s d).w = "off" ∧ (rowOf s d).n = n) = _
    have hne := oth_ne hs (hb d hd)
    unfold rowOf
    by_cases c : d.2.1 = s
    · rw [if_pos c]
      refine decide_eq_decide.mpr ⟨fun z => absurd z.1 on_off, fun z => absurd c (hne.mpr z.2)⟩
    · rw [if_neg c]
      refine decide_eq_decide.mpr ⟨fun z => ⟨z.2, hne.mp c⟩, fun z => ⟨rfl, z.1⟩⟩
  rw [e]
  refine List.map_congr_left fun d hd => ?_
  obtain ⟨h1, h2⟩ := List.mem_filter.mp hd
  show (rowOf s d).m = _
  unfold rowOf
  rw [if_neg ((oth_ne hs (hb d h1)).mpr (of_decide_eq_true h2).2)]
theorem nat_sorted {l m : List Nat} (h : l.Perm m) (h1 : l.Pairwise (fun x y => decide (x ≤ y) = true)) (h2 : m.Pairwise (fun x y => decide (x ≤ y) = true)) : l = m :=
  eq_sorted (le := fun x y => decide (x ≤ y)) (fun a b z1 z2 => Nat.le_antisymm (of_decide_eq_true z1) (of_decide_eq_true z2)) h h1 h2
theorem of_rise {L : List Dy} (h : Grow L) (n b : Str) : (ofNB L n b).Pairwise fun d e => d.2.2.1 ≤ e.2.2.1 ∧ d.2.2.2 ≤ e.2.2.2 := by
  have h1 : (ofNB L n b).Pairwise fun d e => d.1 = e.1 → d.2.1 = e.2.1 → d.2.2.1 ≤ e.2.2.1 ∧ d.2.2.2 ≤ e.2.2.2 := h.filter _
  refine List.Pairwise.imp_of_mem (fun {d e} hd he z => ?_) h1
  have hd := (of_mem.mp hd).2
  have he := (of_mem.mp he).2
  exact z (by rw [hd.1, he.1]) (by rw [hd.2, he.2])
section
variable {L D : List Dy} (hL : DyOk L) (hp : D.Perm L)
include hL hp
theorem sq_on (n s : Str) : sq "on" n (rowsOf D s) = (ofNB L n s).map (·.2.2.1) := by
  refine nat_sorted ?_ (sq_rise (rows_rise D s)) (List.pairwise_map.mpr ((of_rise hL.gr n s).imp fun z => decide_eq_true z.1))
  refine (sq_perm (rows_perm D s)).trans ?_
  rw [of_on]
  exact (of_perm hp n s).map _
theorem sq_off (n : Str) {s : Str} (hs : BaOk s) : sq "off" n (rowsOf D s) = (ofNB L n (oth s)).map (·.2.2.2) := by
  refine nat_sorted ?_ (sq_rise (rows_rise D s)) (List.pairwise_map.mpr ((of_rise hL.gr n (oth s)).imp fun z => decide_eq_true z.2))
  refine (sq_perm (rows_perm D s)).trans ?_
  rw [of_off (fun d hd => hL.ba d (hp.mem_iff.mp hd)) n hs]
  exact (of_perm hp n (oth s)).map _
theorem rows_bk {s : Str} (hs : BaOk s) : BkOk s (rowsOf D s) := by
  refine ⟨hs, fun r hr => ?_, rows_rise D s, ?_⟩
  · obtain ⟨d, hd, rfl⟩ := List.mem_map.mp ((rows_perm D s).mem_iff.mp hr)
    have hd := hp.mem_iff.mp hd
    have hn := hL.nm d hd
    have hl := hL.le d hd
    unfold rowOf
    split
    · exact ⟨by show d.2.2.1 ≤ _; omega, .inl rfl, hn⟩
    · exact ⟨by show d.2.2.2 ≤ _; omega, .inr rfl, hn⟩
  · rw [(rows_perm D s).length_eq, List.length_map, hp.length_eq]
    exact Nat.le_trans hL.len (by decide)
theorem rows_nof {s : Str} (hs : BaOk s) : NoF (rowsOf D s) (rowsOf D (oth s)) := by
  intro i r hr
  have h1 := at_sq hr
  obtain ⟨d, hd, e⟩ := List.mem_map.mp ((rows_perm D s).mem_iff.mp (List.mem_of_getElem? hr))
  rw [pt_sq]
  generalize cw ((rowsOf D s).take i) r.w r.n = k at *
  by_cases c : r.w = "on"
  · rw [c] at h1 ⊢
    rw [sq_on hL hp, List.getElem?_map] at h1
    obtain ⟨d, hd, e⟩ := Option.map_eq_some_iff.mp h1
    refine ⟨d.2.2.2, ?_, fun _ => ?_⟩
    · rw [show ow "on" = "off" from rfl, sq_off hL hp r.n (oth_ba hs), oth_oth hs, List.getElem?_map, hd]; rfl
    · rw [← e]; exact (hL.le d (of_mem.mp (List.mem_of_getElem? hd)).1).1
  · have c2 : r.w = "off" := by
      rw [← e] at c ⊢
      unfold rowOf at c ⊢
      split at c
      · exact absurd rfl c
      · rename_i h; rw [if_neg h]
    rw [c2] at h1 ⊢
    rw [sq_off hL hp r.n hs, List.getElem?_map] at h1
    obtain ⟨d, hd, e⟩ := Option.map_eq_some_iff.mp h1
    refine ⟨d.2.2.1, ?_, fun z => absurd z (by decide +kernel)⟩
    rw [show ow "off" = "on" by decide +kernel, sq_on hL hp r.n (oth s), List.getElem?_map, hd]; rfl
theorem rows_cr : CrOk (rowsOf D "near") (rowsOf D "far") :=
  ⟨rows_bk hL hp (.inl rfl), rows_bk hL hp (.inr rfl), rows_nof hL hp (s := "near") (.inl rfl), rows_nof hL hp (s := "far") (.inr rfl)⟩
end
def tg (n : Str) (no : Nat) (l : List Dy) : List Cr := l.zipIdx.map fun x => (x.1.2.2.1, n, no, x.2, x.1.2.2.2)
def tgs (L : List Dy) (ns : List Str) : List Cr := ns.flatMap fun n => tg n 0 (ofNB L n "near") ++ tg n 1 (ofNB L n "far")
def outC (t : Cr) : Dy := (t.2.1, bankN t.2.2.1, t.1, t.2.2.2.2)
theorem tg_mem {n : Str} {no : Nat} {l : List Dy} {t : Cr} : t ∈ tg n no l ↔ t.2.1 = n ∧ t.2.2.1 = no ∧ ∃ d, l[t.2.2.2.1]? = some d ∧ t.1 = d.2.2.1 ∧ t.2.2.2.2 = d.2.2.2 := by
  unfold tg
  rw [List.mem_map]
  constructor
  · rintro ⟨x, hx, rfl⟩
    exact ⟨rfl, rfl, x.1, List.mem_zipIdx_iff_getElem?.mp hx, rfl, rfl⟩
  · rintro ⟨h1, h2, d, hd, h3, h4⟩
    refine ⟨(d, t.2.2.2.1), List.mem_zipIdx_iff_getElem?.mpr hd, ?_⟩
    rw [← h1, ← h2, ← h3, ← h4]
theorem tg_out {n b : Str} {no : Nat} (hb : bankN no = b) {l : List Dy} (h : ∀ d ∈ l, d.1 = n ∧ d.2.1 = b) : (tg n no l).map outC = l := by
  unfold tg
  rw [List.map_map]
  refine List.ext_getElem? fun i => ?_
  rw [List.getElem?_map, List.getElem?_zipIdx]
  cases hi : l[i]? with
  | none => rfl
  | some d =>
    have := h d (List.mem_of_getElem? hi)
    rw [Option.map_some, Option.map_some]
    show some (n, bankN no, d.2.2.1, d.2.2.2) = some d
    rw [hb, ← this.1, ← this.2]
theorem tgs_out (L : List Dy) (ns : List Str) : (tgs L ns).map outC = dueB L ns := by
  unfold tgs dueB
  rw [List.map_flatMap]
  congr 1
  funext n
  rw [List.map_append, tg_out (b := "near") (by decide +kernel) (fun d hd => (of_mem.mp hd).2), tg_out (b := "far") (by decide +kernel) (fun d hd => (of_mem.mp hd).2)]
def LtP (a b : Cr) : Prop := a.2.1 = b.2.1 → a.2.2.1 = b.2.2.1 → a.2.2.2.1 < b.2.2.2.1
theorem tg_pw (n : Str) (no : Nat) (l : List Dy) : (tg n no l).Pairwise LtP := by
  unfold tg
  rw [List.pairwise_map, List.pairwise_iff_getElem]
  intro i j hi hj hij _ _
  rw [List.getElem_zipIdx, List.getElem_zipIdx]
  show 0 + i < 0 + j
  omega
theorem tgs_pw (L : List Dy) {ns : List Str} (h : ns.Nodup) : (tgs L ns).Pairwise LtP := by
  unfold tgs
  rw [List.pairwise_flatMap]
  refine ⟨fun n _ => List.pairwise_append.mpr ⟨tg_pw _ _ _, tg_pw _ _ _, fun x hx y hy _ z => ?_⟩, h.imp fun {n n'} hne x hx y hy z _ => ?_⟩
  · rw [(tg_mem.mp hx).2.1, (tg_mem.mp hy).2.1] at z
    omega
  · have e1 : x.2.1 = n := by
      rcases List.mem_append.mp hx with hx | hx
      · exact (tg_mem.mp hx).1
      · exact (tg_mem.mp hx).1
    have e2 : y.2.1 = n' := by
      rcases List.mem_append.mp hy with hy | hy
      · exact (tg_mem.mp hy).1
      · exact (tg_mem.mp hy).1
    exact absurd (by rw [← e1, ← e2, z]) hne
theorem pw_nodup {T : List Cr} (h : T.Pairwise LtP) : T.Nodup := h.imp fun {a b} z e => by
  subst e
  exact Nat.lt_irrefl _ (z rfl rfl)
theorem tgs_mem {L : List Dy} {ns : List Str} (hn : ∀ n, n ∈ ns ↔ n ∈ L.map (·.1)) {t : Cr} : t ∈ tgs L ns ↔ (t.2.2.1 = 0 ∧ ∃ d, (ofNB L t.2.1 "near")[t.2.2.2.1]? = some d ∧ t.1 = d.2.2.1 ∧ t.2.2.2.2 = d.2.2.2) ∨ (t.2.2.1 = 1 ∧ ∃ d, (ofNB L t.2.1 "far")[t.2.2.2.1]? = some d ∧ t.1 = d.2.2.1 ∧ t.2.2.2.2 = d.2.2.2) := by
  unfold tgs
  rw [List.mem_flatMap]
  constructor
  · rintro ⟨n, _, h⟩
    rcases List.mem_append.mp h with h | h
    · obtain ⟨rfl, h1, h2⟩ := tg_mem.mp h
      exact .inl ⟨h1, h2⟩
    · obtain ⟨rfl, h1, h2⟩ := tg_mem.mp h
      exact .inr ⟨h1, h2⟩
  · rintro (⟨h1, h2⟩ | ⟨h1, h2⟩)
    · obtain ⟨d, hd, _⟩ := id h2
      have := of_mem.mp (List.mem_of_getElem? hd)
      exact ⟨t.2.1, (hn _).mpr (List.mem_map.mpr ⟨d, this.1, this.2.1⟩), List.mem_append_left _ (tg_mem.mpr ⟨rfl, h1, h2⟩)⟩
    · obtain ⟨d, hd, _⟩ := id h2
      have := of_mem.mp (List.mem_of_getElem? hd)
      exact ⟨t.2.1, (hn _).mpr (List.mem_map.mpr ⟨d, this.1, this.2.1⟩), List.mem_append_right _ (tg_mem.mpr ⟨rfl, h1, h2⟩)⟩
theorem crF_nodup (N F : List Rw) (no : Nat) : (crF N F no).Nodup := by
  unfold crF
  refine List.pairwise_map.mpr ((num_nodup "on" N).imp fun {a b} hne e => hne ?_)
  have e1 := congrArg (fun t : Cr => t.1) e
  have e2 := congrArg (fun t : Cr => t.2.1) e
  have e3 := congrArg (fun t : Cr => t.2.2.2.1) e
  dsimp only at e1 e2 e3
  obtain ⟨x, y, z⟩ := a
  obtain ⟨x', y', z'⟩ := b
  dsimp only at e1 e2 e3
  rw [e1, e2, e3]
theorem crF_mem {N F : List Rw} {no : Nat} {t : Cr} : t ∈ crF N F no ↔ t.2.2.1 = no ∧ (sq "on" t.2.1 N)[t.2.2.2.1]? = some t.1 ∧ t.2.2.2.2 = ((sq "off" t.2.1 F)[t.2.2.2.1]?).getD 0 := by
  unfold crF
  rw [List.mem_map]
  constructor
  · rintro ⟨x, hx, rfl⟩
    obtain ⟨n, k, m⟩ := x
    exact ⟨rfl, (num_mem _ _ _ _ _).mp hx, by rw [pt_sq]⟩
  · rintro ⟨h1, h2, h3⟩
    refine ⟨(t.2.1, t.2.2.2.1, t.1), (num_mem _ _ _ _ _).mpr h2, ?_⟩
    rw [pt_sq, ← h3, ← h1]
theorem cr_perm {L D : List Dy} (hL : DyOk L) (hp : D.Perm L) {ns : List Str} (hn : NsOf L ns) : (crAll (rowsOf D "near") (rowsOf D "far")).Perm (tgs L ns) := by
  refine (List.perm_ext_iff_of_nodup ?_ (pw_nodup (tgs_pw L hn.1))).mpr fun t => ?_
  · unfold crAll
    refine List.nodup_append.mpr ⟨crF_nodup _ _ _, crF_nodup _ _ _, fun x hx y hy e => ?_⟩
    have h1 := (crF_mem.mp hx).1
    have h2 := (crF_mem.mp hy).1
    rw [e] at h1
    omega
  · rw [tgs_mem hn.2.2]
    unfold crAll
    rw [List.mem_append, crF_mem, crF_mem, sq_on hL hp, sq_on hL hp, sq_off hL hp _ (.inl rfl), sq_off hL hp _ (.inr rfl), show oth "near" = "far" by decide +kernel, show oth "far" = "near" by decide +kernel]
    simp only [List.getElem?_map]
    refine or_congr (and_congr_right fun _ => ?_) (and_congr_right fun _ => ?_)
    all_goals
      constructor
      · rintro ⟨h1, h2⟩
        obtain ⟨d, hd, e⟩ := Option.map_eq_some_iff.mp h1
        rw [hd] at h2
        exact ⟨d, hd, e.symm, h2⟩
      · rintro ⟨d, hd, h1, h2⟩
        rw [hd]
        exact ⟨by rw [h1]; rfl, h2⟩
def lt5 (x y : Cr) : Prop := x.1 < y.1 ∨ (x.1 = y.1 ∧ (x.2.1.cps.toList < y.2.1.cps.toList ∨ (x.2.1 = y.2.1 ∧ (x.2.2.1 < y.2.2.1 ∨ (x.2.2.1 = y.2.2.1 ∧ (x.2.2.2.1 < y.2.2.2.1 ∨ (x.2.2.2.1 = y.2.2.2.1 ∧ x.2.2.2.2 < y.2.2.2.2)))))))
instance (x y : Cr) : Decidable (lt5 x y) := by unfold lt5; infer_instance
theorem cr_lt (x y : Cr) : dataLt (crP x) (crP y) = decide (lt5 x y) := by
  obtain ⟨m, n, o, p, f⟩ := x
  obtain ⟨m', n', o', p', f'⟩ := y
  unfold crP lt5
  dsimp only
  rw [dataLt_tuple, dataLt_cons rfl, dataLt_cons rfl, dataLt_cons rfl, dataLt_cons rfl, dataLt_cons rfl]
  simp only [PyData.eqv, beq_iff_eq, dataLt_int, dataLt_str, Int.natCast_inj, Int.ofNat_lt]
  by_cases h1 : m = m'
  rotate_left
  · simp [h1]
  by_cases h2 : n = n'
  rotate_left
  · simp [h1, h2]
  subst h1 h2
  have := List.lt_irrefl n.cps.toList
  by_cases h3 : o = o'
  rotate_left
  · simp [h3, this]
  by_cases h4 : p = p'
  rotate_left
  · simp [h3, h4, this]
  by_cases h5 : f = f'
  rotate_left
  · simp [h3, h4, h5, this]
  subst h3 h4 h5
  simp [this]
  rfl
theorem le5_iff (x y : Cr) : le5 x y = true ↔ ¬ lt5 y x := by
  unfold le5
  rw [dataLe_eq]
  show (!dataLt (crP y) (crP x)) = true ↔ _
  rw [cr_lt]
  simp
theorem lt5_irr (x : Cr) : ¬ lt5 x x := fun h => by
  have := List.lt_irrefl x.2.1.cps.toList
  unfold lt5 at h
  simp [this] at h
theorem lt5_tr {x y z : Cr} (h1 : lt5 x y) (h2 : lt5 y z) : lt5 x z := by
  unfold lt5 at *
  rcases h1 with h1 | ⟨e1, h1⟩
  · rcases h2 with h2 | ⟨e2, h2⟩
    · exact .inl (by omega)
    · exact .inl (by omega)
  rcases h2 with h2 | ⟨e2, h2⟩
  · exact .inl (by omega)
  refine .inr ⟨by omega, ?_⟩
  rcases h1 with h1 | ⟨f1, h1⟩
  · rcases h2 with h2 | ⟨f2, h2⟩
    · exact .inl (List.lt_trans h1 h2)
    · rw [← f2]; exact .inl h1
  rcases h2 with h2 | ⟨f2, h2⟩
  · rw [f1]; exact .inl h2
  exact .inr ⟨f1.trans f2, by omega⟩
theorem lt5_tri {x y : Cr} (h1 : ¬ lt5 x y) (h2 : ¬ lt5 y x) : x = y := by
  obtain ⟨m, n, o, p, f⟩ := x
  obtain ⟨m', n', o', p', f'⟩ := y
  unfold lt5 at *
  dsimp only at *
  have e : m = m' := by omega
  subst e
  have e2 : n = n' := str_of_cps (List.le_antisymm (fun z => h2 (.inr ⟨rfl, .inl z⟩)) (fun z => h1 (.inr ⟨rfl, .inl z⟩)))
  subst e2
  have g1 : ¬ (o < o' ∨ (o = o' ∧ (p < p' ∨ (p = p' ∧ f < f')))) := fun z => h1 (.inr ⟨rfl, .inr ⟨rfl, z⟩⟩)
  have g2 : ¬ (o' < o ∨ (o' = o ∧ (p' < p ∨ (p' = p ∧ f' < f)))) := fun z => h2 (.inr ⟨rfl, .inr ⟨rfl, z⟩⟩)
  have e3 : o = o' := by omega
  have e4 : p = p' := by omega
  have e5 : f = f' := by omega
  rw [e3, e4, e5]
theorem le5_tr (a b c : Cr) (h1 : le5 a b = true) (h2 : le5 b c = true) : le5 a c = true := by
  rw [le5_iff] at *
  intro h
  by_cases z : lt5 a b
  · exact h2 (lt5_tr h z)
  · have e := lt5_tri z h1
    subst e
    exact h2 h
theorem le5_tot (a b : Cr) : (le5 a b || le5 b a) = true := by
  rw [Bool.or_eq_true, le5_iff, le5_iff]
  by_cases z : lt5 b a
  · exact .inr fun z2 => lt5_irr _ (lt5_tr z z2)
  · exact .inl z
theorem le5_anti (a b : Cr) (h1 : le5 a b = true) (h2 : le5 b a = true) : a = b := lt5_tri ((le5_iff _ _).mp h2) ((le5_iff _ _).mp h1)
theorem leK_tr (a b c : Dy) (h1 : leK a b = true) (h2 : leK b c = true) : leK a c = true := by
  have h1 := of_decide_eq_true h1
  have h2 := of_decide_eq_true h2
  refine decide_eq_true ?_
  rcases h1 with h1 | ⟨e1, h1⟩
  · exact .inl (by rcases h2 with h2 | ⟨e2, _⟩ <;> omega)
  rcases h2 with h2 | ⟨e2, h2⟩
  · exact .inl (by omega)
  refine .inr ⟨e1.trans e2, ?_⟩
  rcases h1 with h1 | ⟨f1, h1⟩
  · rcases h2 with h2 | ⟨f2, h2⟩
    · exact .inl (List.lt_trans h1 h2)
    · rw [← f2]; exact .inl h1
  rcases h2 with h2 | ⟨f2, h2⟩
  · rw [f1]; exact .inl h2
  exact .inr ⟨f1.trans f2, fun z => h2 (h1 z)⟩
theorem str_tri (x y : Str) : x.cps.toList < y.cps.toList ∨ x = y ∨ y.cps.toList < x.cps.toList := by
  by_cases h1 : x.cps.toList < y.cps.toList
  · exact .inl h1
  by_cases h2 : y.cps.toList < x.cps.toList
  · exact .inr (.inr h2)
  exact .inr (.inl (str_of_cps (List.le_antisymm h2 h1)))
theorem leK_tot (a b : Dy) : (leK a b || leK b a) = true := by
  rw [Bool.or_eq_true]
  unfold leK
  rw [decide_eq_true_eq, decide_eq_true_eq]
  rcases Nat.lt_trichotomy a.2.2.1 b.2.2.1 with h | h | h
  · exact .inl (.inl h)
  rotate_left
  · exact .inr (.inl h)
  rcases str_tri a.1 b.1 with h2 | h2 | h2
  · exact .inl (.inr ⟨h, .inl h2⟩)
  rotate_left
  · exact .inr (.inr ⟨h.symm, .inl h2⟩)
  by_cases c : b.2.1 = (("far" : String) : Str)
  · exact .inl (.inr ⟨h, .inr ⟨h2, fun _ => c⟩⟩)
  · exact .inr (.inr ⟨h.symm, .inr ⟨h2.symm, fun z => absurd z c⟩⟩)
theorem bank_far {k : Nat} : bankN k = (("far" : String) : Str) ↔ k ≠ 0 := by
  unfold bankN
  by_cases c : k = 0
  · rw [if_pos c]
    exact ⟨fun z => absurd z (by decide +kernel), fun z => absurd c z⟩
  · rw [if_neg c]
    exact ⟨fun _ => c, fun _ => rfl⟩
def leC (x y : Cr) : Bool := leK (outC x) (outC y)
theorem leC_of {a b : Cr} (h : lt5 b a) : leC b a = true := by
  refine decide_eq_true ?_
  rcases h with h | ⟨e, h⟩
  · exact .inl h
  refine .inr ⟨e, ?_⟩
  rcases h with h | ⟨e2, h⟩
  · exact .inl h
  refine .inr ⟨e2, fun z => ?_⟩
  have z := bank_far.mp z
  exact bank_far.mpr (by omega)
theorem leC_far {a b : Cr} (h : leC a b = true) (hl : lt5 b a) : a.2.1 = b.2.1 ∧ (b.2.2.1 < a.2.2.1 ∨ (b.2.2.1 = a.2.2.1 ∧ b.2.2.2.1 ≤ a.2.2.2.1)) ∧ (a.2.2.1 ≠ 0 → b.2.2.1 ≠ 0) := by
  have h := of_decide_eq_true h
  unfold lt5 at hl
  have h : a.1 < b.1 ∨ (a.1 = b.1 ∧ (a.2.1.cps.toList < b.2.1.cps.toList ∨ (a.2.1 = b.2.1 ∧ (bankN a.2.2.1 = (("far" : String) : Str) → bankN b.2.2.1 = (("far" : String) : Str))))) := h
  rw [bank_far, bank_far] at h
  rcases h with h | ⟨e, h⟩
  · exfalso; omega
  rcases hl with hl | ⟨_, hl⟩
  · exfalso; omega
  rcases h with h | ⟨e2, h⟩
  · rcases hl with hl | ⟨e3, _⟩
    · exact absurd (List.lt_trans h hl) (List.lt_irrefl _)
    · rw [e3] at h; exact absurd h (List.lt_irrefl _)
  rcases hl with hl | ⟨_, hl⟩
  · rw [e2] at hl; exact absurd hl (List.lt_irrefl _)
  exact ⟨e2, by omega, h⟩
theorem tgs_no {L : List Dy} {ns : List Str} (hn : ∀ n, n ∈ ns ↔ n ∈ L.map (·.1)) {t : Cr} (h : t ∈ tgs L ns) : t.2.2.1 ≤ 1 := by
  rcases (tgs_mem hn).mp h with h | h <;> omega
/-- what crossings tells of the rows is what the law tells -/
theorem crs_due {L D : List Dy} (hL : DyOk L) (hp : D.Perm L) {ns : List Str} (hn : NsOf L ns) : crs (rowsOf D "near") (rowsOf D "far") = dueL L ns := by
  have hpw := tgs_pw L hn.1
  have h1 : (crAll (rowsOf D "near") (rowsOf D "far")).mergeSort le5 = (tgs L ns).mergeSort leC := by
    rw [sort_perm le5_tr le5_tot le5_anti (cr_perm hL hp hn)]
    refine eq_sorted le5_anti ((List.mergeSort_perm _ _).trans (List.mergeSort_perm _ _).symm) (List.pairwise_mergeSort le5_tr le5_tot _) ?_
    refine stable_sorted (le := leC) (full := fun a b => le5 a b = true) (fun a b c => leK_tr (outC a) (outC b) (outC c)) (fun a b => leK_tot (outC a) (outC b)) (pw_nodup hpw) (fun a b hab hle => ?_) (fun a b _ hle => ?_)
    · rw [le5_iff]
      intro hl
      obtain ⟨e, h, hf⟩ := leC_far hle hl
      have ha := tgs_no hn.2.2 (hab.subset (List.mem_cons_self (a := a) (l := [b])))
      have hb := tgs_no hn.2.2 (hab.subset (List.mem_cons_of_mem a (List.mem_cons_self (a := b) (l := []))))
      have hlt := (List.pairwise_iff_forall_sublist.mp hpw) hab e
      rcases h with h | h
      · omega
      · have := hlt h.1.symm
        omega
    · rw [le5_iff]
      intro hl
      rw [leC_of hl] at hle
      cases hle
  unfold crs dueL
  rw [h1, show (fun t : Cr => (t.2.1, bankN t.2.2.1, t.1, t.2.2.2.2)) = outC from rfl, List.map_mergeSort (r := leC) (f := outC) (s := leK) (fun a _ b _ => rfl), tgs_out]
end Lw
namespace Lw
open PySem L2 Dl
section
variable {P : Program} {w : World} {K : PySem.W.Frag} {mg : Str → Option Value} {base : Heap} {a : Ad}
/-- what the dict of the last ones tells -/
structure LaOk (L : List Dy) (ks : List (List Key)) (ds : List D) (i : Nat) : Prop where
  len : ks.length = ds.length
  le : ks.length ≤ i
  get : ∀ n b : Str, dgetP (wKey n b) ks ds = ((ofNB L n b).getLast?).map fun d => D.tup [.int (d.2.2.1 : Nat), .int (d.2.2.2 : Nat)]
structure DyI (L : List Dy) (i : Nat) : Prop where
  nm : ∀ d ∈ L, NmOk d.1
  ba : ∀ d ∈ L, BaOk d.2.1
  le : ∀ d ∈ L, d.2.2.1 ≤ d.2.2.2 ∧ d.2.2.2 ≤ 1000 * i
  gr : Grow L
  len : L.length = i
theorem st1 {o x y : Option MO} {R0 : Sto} : (o :: (R0 ++ [x, y]))[R0.length + 1]? = some x := by simp
theorem st2 {o x y : Option MO} {R0 : Sto} : (o :: (R0 ++ [x, y]))[R0.length + 2]? = some y := by
  show (R0 ++ [x, y])[R0.length + 1]? = _
  simp
theorem se1 {o x y z : Option MO} {R0 : Sto} : (o :: (R0 ++ [x, y])).set (R0.length + 1) z = o :: (R0 ++ [z, y]) := by simp
theorem se2 {o x y z : Option MO} {R0 : Sto} : (o :: (R0 ++ [x, y])).set (R0.length + 2) z = o :: (R0 ++ [x, z]) := by
  show o :: (R0 ++ [x, y]).set (R0.length + 1) z = _
  simp
theorem la_get {L : List Dy} {ks : List (List Key)} {ds : List D} {i : Nat} (h : LaOk L ks ds i) (n b : Str) : (dgetP (wKey n b) ks ds).getD (D.tup [.int 0, .int 0]) = D.tup [.int ((lastOf L n b).1 : Nat), .int ((lastOf L n b).2 : Nat)] := by
  rw [h.get]
  unfold lastOf
  rw [show (L.filter fun d => decide (d.1 = n ∧ d.2.1 = b)) = ofNB L n b from rfl]
  cases (ofNB L n b).getLast? with
  | none => rfl
  | some d => rfl
theorem ofNB_snoc (L : List Dy) (d : Dy) (n b : Str) : ofNB (L ++ [d]) n b = if d.1 = n ∧ d.2.1 = b then ofNB L n b ++ [d] else ofNB L n b := by
  unfold ofNB
  rw [List.filter_append]
  by_cases c : d.1 = n ∧ d.2.1 = b
  · rw [if_pos c, List.filter_cons_of_pos (by simpa using c)]; rfl
  · rw [if_neg c, List.filter_cons_of_neg (by simpa using c)]; exact List.append_nil _
theorem la_put {L : List Dy} {ks : List (List Key)} {ds : List D} {i s f : Nat} {n b : Str} (h : LaOk L ks ds i) : LaOk (L ++ [(n, b, s, f)]) (kputP (wKey n b) ks) (dputP (wKey n b) (D.tup [.int (s : Nat), .int (f : Nat)]) ks ds) (i + 1) := by
  refine ⟨put_lenP h.len, Nat.le_trans kput_len (by have := h.le; omega), fun n' b' => ?_⟩
  rw [get_put h.len, ofNB_snoc]
  by_cases e : n = n' ∧ b = b'
  · obtain ⟨rfl, rfl⟩ := e
    rw [if_pos rfl, if_pos ⟨rfl, rfl⟩, List.getLast?_concat]
    rfl
  · rw [if_neg (fun z => e ⟨(wKey_inj z).1.symm, (wKey_inj z).2.symm⟩), if_neg e, h.get]
theorem last_le {L : List Dy} {i : Nat} (h : DyI L i) (n b : Str) : (∀ d ∈ ofNB L n b, d.2.2.1 ≤ (lastOf L n b).1 ∧ d.2.2.2 ≤ (lastOf L n b).2) ∧ (lastOf L n b).1 ≤ 1000 * i ∧ (lastOf L n b).2 ≤ 1000 * i := by
  have hp := of_rise h.gr n b
  unfold lastOf
  rw [show (L.filter fun d => decide (d.1 = n ∧ d.2.1 = b)) = ofNB L n b from rfl]
  cases e : (ofNB L n b).getLast? with
  | none =>
    rw [List.getLast?_eq_none_iff] at e
    rw [e]
    exact ⟨(fun d z => nomatch z), Nat.zero_le _, Nat.zero_le _⟩
  | some t =>
    obtain ⟨l, hl⟩ := List.getLast?_eq_some_iff.mp e
    have ht := h.le t (of_mem.mp (List.mem_of_getLast? e)).1
    refine ⟨fun d hd => ?_, by show t.2.2.1 ≤ _; omega, ht.2⟩
    rw [hl] at hp hd
    rcases List.mem_append.mp hd with hd | hd
    · exact (List.pairwise_append.mp hp).2.2 d hd t (by simp)
    · rw [List.mem_singleton.mp hd]
      exact ⟨Nat.le_refl _, Nat.le_refl _⟩
theorem dy_put {L : List Dy} {i s f s0 f0 : Nat} {n b : Str} (h : DyI L i) (hn : NmOk n) (hb : BaOk b) (hs : (∀ d ∈ ofNB L n b, d.2.2.1 ≤ s0 ∧ d.2.2.2 ≤ f0)) (h1 : s0 ≤ s) (h2 : f0 ≤ f) (h3 : s ≤ f) (h4 : f ≤ 1000 * (i + 1)) : DyI (L ++ [(n, b, s, f)]) (i + 1) := by
  refine ⟨fun d hd => ?_, fun d hd => ?_, fun d hd => ?_, ?_, by rw [List.length_append, h.len]; rfl⟩
  · rcases List.mem_append.mp hd with hd | hd
    · exact h.nm d hd
    · rw [List.mem_singleton.mp hd]; exact hn
  · rcases List.mem_append.mp hd with hd | hd
    · exact h.ba d hd
    · rw [List.mem_singleton.mp hd]; exact hb
  · rcases List.mem_append.mp hd with hd | hd
    · have := h.le d hd
      exact ⟨this.1, by omega⟩
    · rw [List.mem_singleton.mp hd]; exact ⟨h3, h4⟩
  · refine List.pairwise_append.mpr ⟨h.gr, List.pairwise_singleton .., fun d hd e he e1 e2 => ?_⟩
    rw [List.mem_singleton.mp he] at e1 e2 ⊢
    have := hs d (of_mem.mpr ⟨hd, e1, e2⟩)
    exact ⟨Nat.le_trans this.1 h1, Nat.le_trans this.2 h2⟩
theorem rf__law_days : ∀ ds S q, D.unders S.length ds = true → Sto.under S.length S = true → sp__law_days a ds S q → g__law_days K a { nx := fun _ S' => fin S.length q .non S', rt := fin S.length q } (startD N__law_days ds) S := by
  rintro ds S q hu hs ⟨xs, ⟨hx0, hx1, hxn⟩, o, R0, B, rfl, rfl, ht, hb, h⟩
  rw [st__law_days]
  have hz : 5000 ≤ sizeLine := by decide
  simp only [g__law_days, ↓x_eqSS, ↓x_neSS, ↓gKGet, ↓x_kget, ↓x_ixE, at_last, ↓x_appE, ↓x_tyE, ↓x_itE, ↓x_lenE, ↓x_nePr, ↓x_eqPr, ↓x_neE, ↓x_lenr, ↓x_lenrI, ↓gRev, ↓x_par3, ↓x_par33, ↓x_fld, ↓x_fset, ↓x_mkF, ↓x_mk, ↓x_meth, ↓x_fldO, ↓x_fsetE, ↓x_fldE, ↓x_methO, ↓x_isiCO, ↓x_isiCN, ↓x_isiCT, ↓x_isiCLi, ↓x_isiCS, ↓x_isiCI, ↓x_own, ↓x_eqT2, ↓x_neT2, ↓x_neL4, ↓x_eqLN, ↓x_neNil, ↓x_gset, ↓x_lc, ↓x_for, ↓x_it, ↓x_rn1, ↓x_rn2, ↓x_enu, ↓x_zip, ↓x_itS, ↓x_itL, ↓x_itK, ↓x_itT, ↓x_rn1I, ↓x_rn2I, ↓x_enuL, ↓x_enuK, ↓x_zipL, ↓x_ixS0, ↓x_ixL, ↓x_ixT, ↓x_ixK, x_at0, x_at1, x_at2, x_at3, x_at4, ↓x_set00, ↓x_set01, ↓x_set02, ↓x_aug1, ↓x_aug2, ↓x_aug3, ↓x_aug4, ↓x_aug5, ↓x_aug6, ↓x_aug7, ↓x_aug8, ↓x_aug9, ↓x_aug10, ↓x_aug11, ↓x_aug12, ↓x_aug13, ↓x_aug14, ↓x_aug15, ↓x_aug16, ↓x_aug17, ↓x_aug18, ↓x_aug19, ↓x_aug20, ↓x_aug21, ↓x_aug22, ↓x_aug23, Int.reduceToNat, Int.reducePow, ↓gSeq, ↓gIfS, ↓gSet, ↓gAsg, ↓x_par, ↓x_par2, ↓gRet, ↓gRetN, ↓gNext, ↓gDrop, ↓gBreak, ↓gCont, ↓gDead, ↓gCB, ↓gB2, ↓gU, ↓gC, ↓Dl.gCons, ↓Dl.gNil, ↓Dl.gTup, ↓Dl.gLst, ↓gTest, ↓gOrB, ↓gAndB, ↓gNotB, ↓gAndV, ↓gOrV, ↓gNotV, ↓gIf, ↓gIx, ↓gSl, ↓gPart, ↓gNoP, ↓gMt, ↓gCall, ↓gArgs, ↓gIsN, ↓gNotN, ↓gChain, ↓x_fmtS, ↓x_afS, ↓x_afI, ↓x_js0, ↓x_jsc, ↓gJoined, ↓gYes, ↓x_bnm, ↓x_btp, ↓x_bn, ↓x_bc, ↓x_nnN, ↓x_nnI, ↓x_nnS, ↓x_nnB, ↓x_nnT, ↓x_nnL, ↓x_nnO, ↓x_nnl, ↓x_tyS, ↓x_tyL, ↓x_i2, ↓aSub, ↓aFdiv, ↓aMod, ↓aPow, ↓aShr, ↓aLt, ↓aLe, ↓aGt, ↓aGe, ↓x_addI, ↓x_addS, ↓x_mulI, ↓x_iaddS, ↓x_iaddI, ↓x_neg, ↓x_eqI, ↓x_neI, ↓x_eqS, ↓x_neS, ↓x_eqB, ↓x_neB, ↓x_eqNI, ↓x_neNI, ↓x_lenS, ↓x_lenL_l, ↓x_lenL_k, ↓x_lenL_t, ↓x_str, ↓x_intI, ↓x_intB, ↓x_divmod, ↓x_max2, ↓x_min2, ↓x_ixS, ↓x_slS, ↓x_slT, ↓x_slL_l, ↓x_slL_k, ↓x_inS, ↓x_newT, ↓x_newF, ↓x_si, ↓x_s1, ↓x_s0, ↓x_rpart, ↓x_part, ↓x_a1, ↓x_a2, ↓x_isiStr, ↓x_isiInt, ↓x_isiIntB, ↓x_isiIntS, ↓x_isiBB, ↓x_isiBI, ↓x_isiStrI, ↓x_isiNonI, ↓x_isiNonS, ↓x_isiT, ↓x_isiL, ↓x_var0, ↓x_varS, ↓x_ex, ↓x_aug0, gat, pick, Option.some.injEq, D.bl.injEq, D.int.injEq, D.str.injEq, D.tup.injEq, D.lst.injEq, List.cons.injEq, and_true, true_and, List.set_cons_zero, List.set_cons_succ, List.length_cons, List.length_nil, List.filterMap_cons, List.filterMap_nil, List.getElem?_cons_zero, List.getElem?_cons_succ, Option.bind_some, ↓reduceIte, if_true, if_false, Bool.false_eq_true, Bool.true_eq_false, decide_eq_true_eq, beq_self_eq_true, Bool.not_true, Bool.not_false, Bool.not_eq_true', decide_eq_false_iff_not, exists_eq_left', exists_eq_left, exists_eq, ↓x_dnT, ↓x_dnF, ↓gAsgL, ↓gMMDef, ↓gDSet, ↓gSItems, ↓x_nilL, ↓x_nilE, List.isEmpty_nil, List.isEmpty_cons, Bool.true_xor, Bool.false_xor, ↓gSortSet, ↓gLenFz, ↓gOrT, ↓gAndT, ↓gTryAs, ↓gTryO, ↓gRaise, ↓gCallX, ↓gMethX, ↓gMakeX, ↓gFldX, ↓x_inXs, Bool.false_xor, Bool.true_xor, ↓gOrS, ↓x_fmtRS, ↓x_afRS, ↓x_afRI, ↓x_stO, ↓x_zipS, ↓x_zipE, ↓x_zipSL, ↓x_zipST, ↓x_zipEL, ↓x_augix, ↓x_isB, ↓x_notB, ↓gLR1, ↓gLR2, ↓gDIxT, ↓gDGt1T, ↓gDSetT, ↓gDNewT, ↓gDIx, ↓gDGt1, ↓gDGt2, ↓gDIn, ↓gDSetd, ↓gDPop1, ↓gDPop2, ↓gTIdx, ↓gLKeys, ↓gDisp, ↓gAsgT, ↓gFldAug, ↓gts, ↓gts0, ↓gnm, ↓gfl, ↓gds, ↓x_lenSt, ↓x_enumK, ↓x_enumKL, ↓gSortK, ↓gSortKR, ↓gFrD, ↓gFzD]
  refine ⟨by decide, by decide, Mt.pickL_in (R0 := R0 ++ [some (.lst [])] ++ [some (.dicT [] [])]) (by decide) (by decide) ht (by omega) fun e o1 he h1 => ?_⟩
  obtain ⟨u, rfl, hu0, hu1⟩ : ∃ u : Int, e = .int u ∧ 0 < u ∧ u ≤ 61 := by
    simp only [List.mem_cons, List.not_mem_nil, or_false] at he
    rcases he with rfl | rfl | rfl
    · exact ⟨12, rfl, by decide, by decide⟩
    · exact ⟨12, rfl, by decide, by decide⟩
    · exact ⟨61, rfl, by decide, by decide⟩
  refine Mt.draw_in (R0 := R0 ++ [some (.lst [])] ++ [some (.dicT [] [])]) (by omega) (by omega) h1 (by omega) fun x o2 hx0 hx1 h2 => ?_
  simp only [↓x_eqSS, ↓x_neSS, ↓gKGet, ↓x_kget, ↓x_ixE, at_last, ↓x_appE, ↓x_tyE, ↓x_itE, ↓x_lenE, ↓x_nePr, ↓x_eqPr, ↓x_neE, ↓x_lenr, ↓x_lenrI, ↓gRev, ↓x_par3, ↓x_par33, ↓x_fld, ↓x_fset, ↓x_mkF, ↓x_mk, ↓x_meth, ↓x_fldO, ↓x_fsetE, ↓x_fldE, ↓x_methO, ↓x_isiCO, ↓x_isiCN, ↓x_isiCT, ↓x_isiCLi, ↓x_isiCS, ↓x_isiCI, ↓x_own, ↓x_eqT2, ↓x_neT2, ↓x_neL4, ↓x_eqLN, ↓x_neNil, ↓x_gset, ↓x_lc, ↓x_for, ↓x_it, ↓x_rn1, ↓x_rn2, ↓x_enu, ↓x_zip, ↓x_itS, ↓x_itL, ↓x_itK, ↓x_itT, ↓x_rn1I, ↓x_rn2I, ↓x_enuL, ↓x_enuK, ↓x_zipL, ↓x_ixS0, ↓x_ixL, ↓x_ixT, ↓x_ixK, x_at0, x_at1, x_at2, x_at3, x_at4, ↓x_set00, ↓x_set01, ↓x_set02, ↓x_aug1, ↓x_aug2, ↓x_aug3, ↓x_aug4, ↓x_aug5, ↓x_aug6, ↓x_aug7, ↓x_aug8, ↓x_aug9, ↓x_aug10, ↓x_aug11, ↓x_aug12, ↓x_aug13, ↓x_aug14, ↓x_aug15, ↓x_aug16, ↓x_aug17, ↓x_aug18, ↓x_aug19, ↓x_aug20, ↓x_aug21, ↓x_aug22, ↓x_aug23, Int.reduceToNat, Int.reducePow, ↓gSeq, ↓gIfS, ↓gSet, ↓gAsg, ↓x_par, ↓x_par2, ↓gRet, ↓gRetN, ↓gNext, ↓gDrop, ↓gBreak, ↓gCont, ↓gDead, ↓gCB, ↓gB2, ↓gU, ↓gC, ↓Dl.gCons, ↓Dl.gNil, ↓Dl.gTup, ↓Dl.gLst, ↓gTest, ↓gOrB, ↓gAndB, ↓gNotB, ↓gAndV, ↓gOrV, ↓gNotV, ↓gIf, ↓gIx, ↓gSl, ↓gPart, ↓gNoP, ↓gMt, ↓gCall, ↓gArgs, ↓gIsN, ↓gNotN, ↓gChain, ↓x_fmtS, ↓x_afS, ↓x_afI, ↓x_js0, ↓x_jsc, ↓gJoined, ↓gYes, ↓x_bnm, ↓x_btp, ↓x_bn, ↓x_bc, ↓x_nnN, ↓x_nnI, ↓x_nnS, ↓x_nnB, ↓x_nnT, ↓x_nnL, ↓x_nnO, ↓x_nnl, ↓x_tyS, ↓x_tyL, ↓x_i2, ↓aSub, ↓aFdiv, ↓aMod, ↓aPow, ↓aShr, ↓aLt, ↓aLe, ↓aGt, ↓aGe, ↓x_addI, ↓x_addS, ↓x_mulI, ↓x_iaddS, ↓x_iaddI, ↓x_neg, ↓x_eqI, ↓x_neI, ↓x_eqS, ↓x_neS, ↓x_eqB, ↓x_neB, ↓x_eqNI, ↓x_neNI, ↓x_lenS, ↓x_lenL_l, ↓x_lenL_k, ↓x_lenL_t, ↓x_str, ↓x_intI, ↓x_intB, ↓x_divmod, ↓x_max2, ↓x_min2, ↓x_ixS, ↓x_slS, ↓x_slT, ↓x_slL_l, ↓x_slL_k, ↓x_inS, ↓x_newT, ↓x_newF, ↓x_si, ↓x_s1, ↓x_s0, ↓x_rpart, ↓x_part, ↓x_a1, ↓x_a2, ↓x_isiStr, ↓x_isiInt, ↓x_isiIntB, ↓x_isiIntS, ↓x_isiBB, ↓x_isiBI, ↓x_isiStrI, ↓x_isiNonI, ↓x_isiNonS, ↓x_isiT, ↓x_isiL, ↓x_var0, ↓x_varS, ↓x_ex, ↓x_aug0, gat, pick, Option.some.injEq, D.bl.injEq, D.int.injEq, D.str.injEq, D.tup.injEq, D.lst.injEq, List.cons.injEq, and_true, true_and, List.set_cons_zero, List.set_cons_succ, List.length_cons, List.length_nil, List.filterMap_cons, List.filterMap_nil, List.getElem?_cons_zero, List.getElem?_cons_succ, Option.bind_some, ↓reduceIte, if_true, if_false, Bool.false_eq_true, Bool.true_eq_false, decide_eq_true_eq, beq_self_eq_true, Bool.not_true, Bool.not_false, Bool.not_eq_true', decide_eq_false_iff_not, exists_eq_left', exists_eq_left, exists_eq, ↓x_dnT, ↓x_dnF, ↓gAsgL, ↓gMMDef, ↓gDSet, ↓gSItems, ↓x_nilL, ↓x_nilE, List.isEmpty_nil, List.isEmpty_cons, Bool.true_xor, Bool.false_xor, ↓gSortSet, ↓gLenFz, ↓gOrT, ↓gAndT, ↓gTryAs, ↓gTryO, ↓gRaise, ↓gCallX, ↓gMethX, ↓gMakeX, ↓gFldX, ↓x_inXs, Bool.false_xor, Bool.true_xor, ↓gOrS, ↓x_fmtRS, ↓x_afRS, ↓x_afRI, ↓x_stO, ↓x_zipS, ↓x_zipE, ↓x_zipSL, ↓x_zipST, ↓x_zipEL, ↓x_augix, ↓x_isB, ↓x_notB, ↓gLR1, ↓gLR2, ↓gDIxT, ↓gDGt1T, ↓gDSetT, ↓gDNewT, ↓gDIx, ↓gDGt1, ↓gDGt2, ↓gDIn, ↓gDSetd, ↓gDPop1, ↓gDPop2, ↓gTIdx, ↓gLKeys, ↓gDisp, ↓gAsgT, ↓gFldAug, ↓gts, ↓gts0, ↓gnm, ↓gfl, ↓gds, ↓x_lenSt, ↓x_enumK, ↓x_enumKL, ↓gSortK, ↓gSortKR, ↓gFrD, ↓gFzD]
  refine ⟨by omega, by omega, ?_⟩
  refine ⟨fun i ρ S' => ∃ o' L ks ds' x4 x5 x6 x7 x8, S' = o' :: (R0 ++ [some (.lst (L.map dyD)), some (.dicT ks ds')]) ∧ Mt.Tp (B + 2 + 7 * (i : Nat)) o' ∧ LaOk L ks ds' i ∧ DyI L i ∧ ρ = [some (.loc 0), some (.lst (xs.map .str)), some (.loc (R0.length + 1)), some (.loc (R0.length + 2)), x4, x5, x6, x7, x8], ?_, ?_, ?_⟩
  · refine ⟨o2, [], [], [], _, _, _, _, _, by simp, by have := h2; exact this.mono (by omega), ⟨rfl, Nat.zero_le _, fun n b => rfl⟩, ⟨(fun _ z => nomatch z), (fun _ z => nomatch z), (fun _ z => nomatch z), List.Pairwise.nil, rfl⟩, by simp; exact ⟨rfl, rfl, rfl, rfl, rfl⟩⟩
  · rintro i d ρ S' hd ⟨o', L, ks, ds', x4, x5, x6, x7, x8, rfl, ht', hla, hdy, rfl⟩
    have hi : i < 61 := by
      have := (List.getElem?_eq_some_iff.mp hd).1
      rw [x_rngL] at this
      omega
    refine ⟨trivial, _, x_bnm, ?_⟩
    simp only [↓x_eqSS, ↓x_neSS, ↓gKGet, ↓x_kget, ↓x_ixE, at_last, ↓x_appE, ↓x_tyE, ↓x_itE, ↓x_lenE, ↓x_nePr, ↓x_eqPr, ↓x_neE, ↓x_lenr, ↓x_lenrI, ↓gRev, ↓x_par3, ↓x_par33, ↓x_fld, ↓x_fset, ↓x_mkF, ↓x_mk, ↓x_meth, ↓x_fldO, ↓x_fsetE, ↓x_fldE, ↓x_methO, ↓x_isiCO, ↓x_isiCN, ↓x_isiCT, ↓x_isiCLi, ↓x_isiCS, ↓x_isiCI, ↓x_own, ↓x_eqT2, ↓x_neT2, ↓x_neL4, ↓x_eqLN, ↓x_neNil, ↓x_gset, ↓x_lc, ↓x_for, ↓x_it, ↓x_rn1, ↓x_rn2, ↓x_enu, ↓x_zip, ↓x_itS, ↓x_itL, ↓x_itK, ↓x_itT, ↓x_rn1I, ↓x_rn2I, ↓x_enuL, ↓x_enuK, ↓x_zipL, ↓x_ixS0, ↓x_ixL, ↓x_ixT, ↓x_ixK, x_at0, x_at1, x_at2, x_at3, x_at4, ↓x_set00, ↓x_set01, ↓x_set02, ↓x_aug1, ↓x_aug2, ↓x_aug3, ↓x_aug4, ↓x_aug5, ↓x_aug6, ↓x_aug7, ↓x_aug8, ↓x_aug9, ↓x_aug10, ↓x_aug11, ↓x_aug12, ↓x_aug13, ↓x_aug14, ↓x_aug15, ↓x_aug16, ↓x_aug17, ↓x_aug18, ↓x_aug19, ↓x_aug20, ↓x_aug21, ↓x_aug22, ↓x_aug23, Int.reduceToNat, Int.reducePow, ↓gSeq, ↓gIfS, ↓gSet, ↓gAsg, ↓x_par, ↓x_par2, ↓gRet, ↓gRetN, ↓gNext, ↓gDrop, ↓gBreak, ↓gCont, ↓gDead, ↓gCB, ↓gB2, ↓gU, ↓gC, ↓Dl.gCons, ↓Dl.gNil, ↓Dl.gTup, ↓Dl.gLst, ↓gTest, ↓gOrB, ↓gAndB, ↓gNotB, ↓gAndV, ↓gOrV, ↓gNotV, ↓gIf, ↓gIx, ↓gSl, ↓gPart, ↓gNoP, ↓gMt, ↓gCall, ↓gArgs, ↓gIsN, ↓gNotN, ↓gChain, ↓x_fmtS, ↓x_afS, ↓x_afI, ↓x_js0, ↓x_jsc, ↓gJoined, ↓gYes, ↓x_bnm, ↓x_btp, ↓x_bn, ↓x_bc, ↓x_nnN, ↓x_nnI, ↓x_nnS, ↓x_nnB, ↓x_nnT, ↓x_nnL, ↓x_nnO, ↓x_nnl, ↓x_tyS, ↓x_tyL, ↓x_i2, ↓aSub, ↓aFdiv, ↓aMod, ↓aPow, ↓aShr, ↓aLt, ↓aLe, ↓aGt, ↓aGe, ↓x_addI, ↓x_addS, ↓x_mulI, ↓x_iaddS, ↓x_iaddI, ↓x_neg, ↓x_eqI, ↓x_neI, ↓x_eqS, ↓x_neS, ↓x_eqB, ↓x_neB, ↓x_eqNI, ↓x_neNI, ↓x_lenS, ↓x_lenL_l, ↓x_lenL_k, ↓x_lenL_t, ↓x_str, ↓x_intI, ↓x_intB, ↓x_divmod, ↓x_max2, ↓x_min2, ↓x_ixS, ↓x_slS, ↓x_slT, ↓x_slL_l, ↓x_slL_k, ↓x_inS, ↓x_newT, ↓x_newF, ↓x_si, ↓x_s1, ↓x_s0, ↓x_rpart, ↓x_part, ↓x_a1, ↓x_a2, ↓x_isiStr, ↓x_isiInt, ↓x_isiIntB, ↓x_isiIntS, ↓x_isiBB, ↓x_isiBI, ↓x_isiStrI, ↓x_isiNonI, ↓x_isiNonS, ↓x_isiT, ↓x_isiL, ↓x_var0, ↓x_varS, ↓x_ex, ↓x_aug0, gat, pick, Option.some.injEq, D.bl.injEq, D.int.injEq, D.str.injEq, D.tup.injEq, D.lst.injEq, List.cons.injEq, and_true, true_and, List.set_cons_zero, List.set_cons_succ, List.length_cons, List.length_nil, List.filterMap_cons, List.filterMap_nil, List.getElem?_cons_zero, List.getElem?_cons_succ, Option.bind_some, ↓reduceIte, if_true, if_false, Bool.false_eq_true, Bool.true_eq_false, decide_eq_true_eq, beq_self_eq_true, Bool.not_true, Bool.not_false, Bool.not_eq_true', decide_eq_false_iff_not, exists_eq_left', exists_eq_left, exists_eq, ↓x_dnT, ↓x_dnF, ↓gAsgL, ↓gMMDef, ↓gDSet, ↓gSItems, ↓x_nilL, ↓x_nilE, List.isEmpty_nil, List.isEmpty_cons, Bool.true_xor, Bool.false_xor, ↓gSortSet, ↓gLenFz, ↓gOrT, ↓gAndT, ↓gTryAs, ↓gTryO, ↓gRaise, ↓gCallX, ↓gMethX, ↓gMakeX, ↓gFldX, ↓x_inXs, Bool.false_xor, Bool.true_xor, ↓gOrS, ↓x_fmtRS, ↓x_afRS, ↓x_afRI, ↓x_stO, ↓x_zipS, ↓x_zipE, ↓x_zipSL, ↓x_zipST, ↓x_zipEL, ↓x_augix, ↓x_isB, ↓x_notB, ↓gLR1, ↓gLR2, ↓gDIxT, ↓gDGt1T, ↓gDSetT, ↓gDNewT, ↓gDIx, ↓gDGt1, ↓gDGt2, ↓gDIn, ↓gDSetd, ↓gDPop1, ↓gDPop2, ↓gTIdx, ↓gLKeys, ↓gDisp, ↓gAsgT, ↓gFldAug, ↓gts, ↓gts0, ↓gnm, ↓gfl, ↓gds, ↓x_lenSt, ↓x_enumK, ↓x_enumKL, ↓gSortK, ↓gSortKR, ↓gFrD, ↓gFzD]
    refine Mt.pickL_in (by simp; omega) (by simp; omega) ht' (by omega) fun e o3 he3 t3 => ⟨by decide, Mt.draw_in (by decide) (by decide) t3 (by omega) fun y o4 hy0 hy1 t4 => ?_⟩
    obtain ⟨n, hn, rfl⟩ := List.mem_map.mp he3
    obtain ⟨b, hbo, hbx⟩ : ∃ b : Str, BaOk b ∧ atI [D.str "near", D.str "far"] y = some (.str b) := by
      have : y = 0 ∨ y = 1 := by omega
      rcases this with rfl | rfl
      · exact ⟨"near", .inl rfl, rfl⟩
      · exact ⟨"far", .inr rfl, rfl⟩
    refine (x_ix rfl hbx).mpr ?_
    simp only [gDGt2T, ↓x_eqSS, ↓x_neSS, ↓gKGet, ↓x_kget, ↓x_ixE, at_last, ↓x_appE, ↓x_tyE, ↓x_itE, ↓x_lenE, ↓x_nePr, ↓x_eqPr, ↓x_neE, ↓x_lenr, ↓x_lenrI, ↓gRev, ↓x_par3, ↓x_par33, ↓x_fld, ↓x_fset, ↓x_mkF, ↓x_mk, ↓x_meth, ↓x_fldO, ↓x_fsetE, ↓x_fldE, ↓x_methO, ↓x_isiCO, ↓x_isiCN, ↓x_isiCT, ↓x_isiCLi, ↓x_isiCS, ↓x_isiCI, ↓x_own, ↓x_eqT2, ↓x_neT2, ↓x_neL4, ↓x_eqLN, ↓x_neNil, ↓x_gset, ↓x_lc, ↓x_for, ↓x_it, ↓x_rn1, ↓x_rn2, ↓x_enu, ↓x_zip, ↓x_itS, ↓x_itL, ↓x_itK, ↓x_itT, ↓x_rn1I, ↓x_rn2I, ↓x_enuL, ↓x_enuK, ↓x_zipL, ↓x_ixS0, ↓x_ixL, ↓x_ixT, ↓x_ixK, x_at0, x_at1, x_at2, x_at3, x_at4, ↓x_set00, ↓x_set01, ↓x_set02, ↓x_aug1, ↓x_aug2, ↓x_aug3, ↓x_aug4, ↓x_aug5, ↓x_aug6, ↓x_aug7, ↓x_aug8, ↓x_aug9, ↓x_aug10, ↓x_aug11, ↓x_aug12, ↓x_aug13, ↓x_aug14, ↓x_aug15, ↓x_aug16, ↓x_aug17, ↓x_aug18, ↓x_aug19, ↓x_aug20, ↓x_aug21, ↓x_aug22, ↓x_aug23, Int.reduceToNat, Int.reducePow, ↓gSeq, ↓gIfS, ↓gSet, ↓gAsg, ↓x_par, ↓x_par2, ↓gRet, ↓gRetN, ↓gNext, ↓gDrop, ↓gBreak, ↓gCont, ↓gDead, ↓gCB, ↓gB2, ↓gU, ↓gC, ↓Dl.gCons, ↓Dl.gNil, ↓Dl.gTup, ↓Dl.gLst, ↓gTest, ↓gOrB, ↓gAndB, ↓gNotB, ↓gAndV, ↓gOrV, ↓gNotV, ↓gIf, ↓gIx, ↓gSl, ↓gPart, ↓gNoP, ↓gMt, ↓gCall, ↓gArgs, ↓gIsN, ↓gNotN, ↓gChain, ↓x_fmtS, ↓x_afS, ↓x_afI, ↓x_js0, ↓x_jsc, ↓gJoined, ↓gYes, ↓x_bnm, ↓x_btp, ↓x_bn, ↓x_bc, ↓x_nnN, ↓x_nnI, ↓x_nnS, ↓x_nnB, ↓x_nnT, ↓x_nnL, ↓x_nnO, ↓x_nnl, ↓x_tyS, ↓x_tyL, ↓x_i2, ↓aSub, ↓aFdiv, ↓aMod, ↓aPow, ↓aShr, ↓aLt, ↓aLe, ↓aGt, ↓aGe, ↓x_addI, ↓x_addS, ↓x_mulI, ↓x_iaddS, ↓x_iaddI, ↓x_neg, ↓x_eqI, ↓x_neI, ↓x_eqS, ↓x_neS, ↓x_eqB, ↓x_neB, ↓x_eqNI, ↓x_neNI, ↓x_lenS, ↓x_lenL_l, ↓x_lenL_k, ↓x_lenL_t, ↓x_str, ↓x_intI, ↓x_intB, ↓x_divmod, ↓x_max2, ↓x_min2, ↓x_ixS, ↓x_slS, ↓x_slT, ↓x_slL_l, ↓x_slL_k, ↓x_inS, ↓x_newT, ↓x_newF, ↓x_si, ↓x_s1, ↓x_s0, ↓x_rpart, ↓x_part, ↓x_a1, ↓x_a2, ↓x_isiStr, ↓x_isiInt, ↓x_isiIntB, ↓x_isiIntS, ↓x_isiBB, ↓x_isiBI, ↓x_isiStrI, ↓x_isiNonI, ↓x_isiNonS, ↓x_isiT, ↓x_isiL, ↓x_var0, ↓x_varS, ↓x_ex, ↓x_aug0, gat, pick, Option.some.injEq, D.bl.injEq, D.int.injEq, D.str.injEq, D.tup.injEq, D.lst.injEq, List.cons.injEq, and_true, true_and, List.set_cons_zero, List.set_cons_succ, List.length_cons, List.length_nil, List.filterMap_cons, List.filterMap_nil, List.getElem?_cons_zero, List.getElem?_cons_succ, Option.bind_some, ↓reduceIte, if_true, if_false, Bool.false_eq_true, Bool.true_eq_false, decide_eq_true_eq, beq_self_eq_true, Bool.not_true, Bool.not_false, Bool.not_eq_true', decide_eq_false_iff_not, exists_eq_left', exists_eq_left, exists_eq, ↓x_dnT, ↓x_dnF, ↓gAsgL, ↓gMMDef, ↓gDSet, ↓gSItems, ↓x_nilL, ↓x_nilE, List.isEmpty_nil, List.isEmpty_cons, Bool.true_xor, Bool.false_xor, ↓gSortSet, ↓gLenFz, ↓gOrT, ↓gAndT, ↓gTryAs, ↓gTryO, ↓gRaise, ↓gCallX, ↓gMethX, ↓gMakeX, ↓gFldX, ↓x_inXs, Bool.false_xor, Bool.true_xor, ↓gOrS, ↓x_fmtRS, ↓x_afRS, ↓x_afRI, ↓x_stO, ↓x_zipS, ↓x_zipE, ↓x_zipSL, ↓x_zipST, ↓x_zipEL, ↓x_augix, ↓x_isB, ↓x_notB, ↓gLR1, ↓gLR2, ↓gDIxT, ↓gDGt1T, ↓gDSetT, ↓gDNewT, ↓gDIx, ↓gDGt1, ↓gDGt2, ↓gDIn, ↓gDSetd, ↓gDPop1, ↓gDPop2, ↓gTIdx, ↓gLKeys, ↓gDisp, ↓gAsgT, ↓gFldAug, ↓gts, ↓gts0, ↓gnm, ↓gfl, ↓gds, ↓x_lenSt, ↓x_enumK, ↓x_enumKL, ↓gSortK, ↓gSortKR, ↓gFrD, ↓gFzD]
    refine ⟨⟨ks, ds', by simp only [dicTOf, st2]⟩, by decide, by decide, ks, ds', wKey n b, by simp only [dicTOf, st2], rfl, ?_⟩
    rw [la_get hla n b]
    refine ⟨_, x_b2, ?_⟩
    simp only [↓x_eqSS, ↓x_neSS, ↓gKGet, ↓x_kget, ↓x_ixE, at_last, ↓x_appE, ↓x_tyE, ↓x_itE, ↓x_lenE, ↓x_nePr, ↓x_eqPr, ↓x_neE, ↓x_lenr, ↓x_lenrI, ↓gRev, ↓x_par3, ↓x_par33, ↓x_fld, ↓x_fset, ↓x_mkF, ↓x_mk, ↓x_meth, ↓x_fldO, ↓x_fsetE, ↓x_fldE, ↓x_methO, ↓x_isiCO, ↓x_isiCN, ↓x_isiCT, ↓x_isiCLi, ↓x_isiCS, ↓x_isiCI, ↓x_own, ↓x_eqT2, ↓x_neT2, ↓x_neL4, ↓x_eqLN, ↓x_neNil, ↓x_gset, ↓x_lc, ↓x_for, ↓x_it, ↓x_rn1, ↓x_rn2, ↓x_enu, ↓x_zip, ↓x_itS, ↓x_itL, ↓x_itK, ↓x_itT, ↓x_rn1I, ↓x_rn2I, ↓x_enuL, ↓x_enuK, ↓x_zipL, ↓x_ixS0, ↓x_ixL, ↓x_ixT, ↓x_ixK, x_at0, x_at1, x_at2, x_at3, x_at4, ↓x_set00, ↓x_set01, ↓x_set02, ↓x_aug1, ↓x_aug2, ↓x_aug3, ↓x_aug4, ↓x_aug5, ↓x_aug6, ↓x_aug7, ↓x_aug8, ↓x_aug9, ↓x_aug10, ↓x_aug11, ↓x_aug12, ↓x_aug13, ↓x_aug14, ↓x_aug15, ↓x_aug16, ↓x_aug17, ↓x_aug18, ↓x_aug19, ↓x_aug20, ↓x_aug21, ↓x_aug22, ↓x_aug23, Int.reduceToNat, Int.reducePow, ↓gSeq, ↓gIfS, ↓gSet, ↓gAsg, ↓x_par, ↓x_par2, ↓gRet, ↓gRetN, ↓gNext, ↓gDrop, ↓gBreak, ↓gCont, ↓gDead, ↓gCB, ↓gB2, ↓gU, ↓gC, ↓Dl.gCons, ↓Dl.gNil, ↓Dl.gTup, ↓Dl.gLst, ↓gTest, ↓gOrB, ↓gAndB, ↓gNotB, ↓gAndV, ↓gOrV, ↓gNotV, ↓gIf, ↓gIx, ↓gSl, ↓gPart, ↓gNoP, ↓gMt, ↓gCall, ↓gArgs, ↓gIsN, ↓gNotN, ↓gChain, ↓x_fmtS, ↓x_afS, ↓x_afI, ↓x_js0, ↓x_jsc, ↓gJoined, ↓gYes, ↓x_bnm, ↓x_btp, ↓x_bn, ↓x_bc, ↓x_nnN, ↓x_nnI, ↓x_nnS, ↓x_nnB, ↓x_nnT, ↓x_nnL, ↓x_nnO, ↓x_nnl, ↓x_tyS, ↓x_tyL, ↓x_i2, ↓aSub, ↓aFdiv, ↓aMod, ↓aPow, ↓aShr, ↓aLt, ↓aLe, ↓aGt, ↓aGe, ↓x_addI, ↓x_addS, ↓x_mulI, ↓x_iaddS, ↓x_iaddI, ↓x_neg, ↓x_eqI, ↓x_neI, ↓x_eqS, ↓x_neS, ↓x_eqB, ↓x_neB, ↓x_eqNI, ↓x_neNI, ↓x_lenS, ↓x_lenL_l, ↓x_lenL_k, ↓x_lenL_t, ↓x_str, ↓x_intI, ↓x_intB, ↓x_divmod, ↓x_max2, ↓x_min2, ↓x_ixS, ↓x_slS, ↓x_slT, ↓x_slL_l, ↓x_slL_k, ↓x_inS, ↓x_newT, ↓x_newF, ↓x_si, ↓x_s1, ↓x_s0, ↓x_rpart, ↓x_part, ↓x_a1, ↓x_a2, ↓x_isiStr, ↓x_isiInt, ↓x_isiIntB, ↓x_isiIntS, ↓x_isiBB, ↓x_isiBI, ↓x_isiStrI, ↓x_isiNonI, ↓x_isiNonS, ↓x_isiT, ↓x_isiL, ↓x_var0, ↓x_varS, ↓x_ex, ↓x_aug0, gat, pick, Option.some.injEq, D.bl.injEq, D.int.injEq, D.str.injEq, D.tup.injEq, D.lst.injEq, List.cons.injEq, and_true, true_and, List.set_cons_zero, List.set_cons_succ, List.length_cons, List.length_nil, List.filterMap_cons, List.filterMap_nil, List.getElem?_cons_zero, List.getElem?_cons_succ, Option.bind_some, ↓reduceIte, if_true, if_false, Bool.false_eq_true, Bool.true_eq_false, decide_eq_true_eq, beq_self_eq_true, Bool.not_true, Bool.not_false, Bool.not_eq_true', decide_eq_false_iff_not, exists_eq_left', exists_eq_left, exists_eq, ↓x_dnT, ↓x_dnF, ↓gAsgL, ↓gMMDef, ↓gDSet, ↓gSItems, ↓x_nilL, ↓x_nilE, List.isEmpty_nil, List.isEmpty_cons, Bool.true_xor, Bool.false_xor, ↓gSortSet, ↓gLenFz, ↓gOrT, ↓gAndT, ↓gTryAs, ↓gTryO, ↓gRaise, ↓gCallX, ↓gMethX, ↓gMakeX, ↓gFldX, ↓x_inXs, Bool.false_xor, Bool.true_xor, ↓gOrS, ↓x_fmtRS, ↓x_afRS, ↓x_afRI, ↓x_stO, ↓x_zipS, ↓x_zipE, ↓x_zipSL, ↓x_zipST, ↓x_zipEL, ↓x_augix, ↓x_isB, ↓x_notB, ↓gLR1, ↓gLR2, ↓gDIxT, ↓gDGt1T, ↓gDSetT, ↓gDNewT, ↓gDIx, ↓gDGt1, ↓gDGt2, ↓gDIn, ↓gDSetd, ↓gDPop1, ↓gDPop2, ↓gTIdx, ↓gLKeys, ↓gDisp, ↓gAsgT, ↓gFldAug, ↓gts, ↓gts0, ↓gnm, ↓gfl, ↓gds, ↓x_lenSt, ↓x_enumK, ↓x_enumKL, ↓gSortK, ↓gSortKR, ↓gFrD, ↓gFzD]
    have hls := last_le hdy n b
    obtain ⟨s, hs1⟩ : ∃ s, s = (lastOf L n b).1 := ⟨_, rfl⟩
    obtain ⟨f, hf1⟩ : ∃ f, f = (lastOf L n b).2 := ⟨_, rfl⟩
    rw [← hs1, ← hf1] at hls ⊢
    refine Mt.draw_in (by decide) (by decide) t4 (by omega) fun c1 o5 g1 g2 t5 => Mt.draw_in (by decide) (by decide) t5 (by omega) fun c2 o6 g3 g4 t6 => ⟨by decide, Mt.pickL_in (by simp) (by simp) t6 (by omega) fun e o7 he7 t7 => ?_⟩
    obtain ⟨v, rfl, hv⟩ : ∃ v : Nat, e = .int (v : Nat) ∧ v < 900 := by
      simp only [List.mem_cons, List.not_mem_nil, or_false] at he7
      rcases he7 with rfl | rfl | rfl | rfl
      · exact ⟨0, rfl, by decide⟩
      · exact ⟨1, rfl, by decide⟩
      · exact ⟨c1.toNat, by rw [Int.toNat_of_nonneg g1], by omega⟩
      · exact ⟨c2.toNat, by rw [Int.toNat_of_nonneg g3], by omega⟩
    simp only [↓x_eqSS, ↓x_neSS, ↓gKGet, ↓x_kget, ↓x_ixE, at_last, ↓x_appE, ↓x_tyE, ↓x_itE, ↓x_lenE, ↓x_nePr, ↓x_eqPr, ↓x_neE, ↓x_lenr, ↓x_lenrI, ↓gRev, ↓x_par3, ↓x_par33, ↓x_fld, ↓x_fset, ↓x_mkF, ↓x_mk, ↓x_meth, ↓x_fldO, ↓x_fsetE, ↓x_fldE, ↓x_methO, ↓x_isiCO, ↓x_isiCN, ↓x_isiCT, ↓x_isiCLi, ↓x_isiCS, ↓x_isiCI, ↓x_own, ↓x_eqT2, ↓x_neT2, ↓x_neL4, ↓x_eqLN, ↓x_neNil, ↓x_gset, ↓x_lc, ↓x_for, ↓x_it, ↓x_rn1, ↓x_rn2, ↓x_enu, ↓x_zip, ↓x_itS, ↓x_itL, ↓x_itK, ↓x_itT, ↓x_rn1I, ↓x_rn2I, ↓x_enuL, ↓x_enuK, ↓x_zipL, ↓x_ixS0, ↓x_ixL, ↓x_ixT, ↓x_ixK, x_at0, x_at1, x_at2, x_at3, x_at4, ↓x_set00, ↓x_set01, ↓x_set02, ↓x_aug1, ↓x_aug2, ↓x_aug3, ↓x_aug4, ↓x_aug5, ↓x_aug6, ↓x_aug7, ↓x_aug8, ↓x_aug9, ↓x_aug10, ↓x_aug11, ↓x_aug12, ↓x_aug13, ↓x_aug14, ↓x_aug15, ↓x_aug16, ↓x_aug17, ↓x_aug18, ↓x_aug19, ↓x_aug20, ↓x_aug21, ↓x_aug22, ↓x_aug23, Int.reduceToNat, Int.reducePow, ↓gSeq, ↓gIfS, ↓gSet, ↓gAsg, ↓x_par, ↓x_par2, ↓gRet, ↓gRetN, ↓gNext, ↓gDrop, ↓gBreak, ↓gCont, ↓gDead, ↓gCB, ↓gB2, ↓gU, ↓gC, ↓Dl.gCons, ↓Dl.gNil, ↓Dl.gTup, ↓Dl.gLst, ↓gTest, ↓gOrB, ↓gAndB, ↓gNotB, ↓gAndV, ↓gOrV, ↓gNotV, ↓gIf, ↓gIx, ↓gSl, ↓gPart, ↓gNoP, ↓gMt, ↓gCall, ↓gArgs, ↓gIsN, ↓gNotN, ↓gChain, ↓x_fmtS, ↓x_afS, ↓x_afI, ↓x_js0, ↓x_jsc, ↓gJoined, ↓gYes, ↓x_bnm, ↓x_btp, ↓x_bn, ↓x_bc, ↓x_nnN, ↓x_nnI, ↓x_nnS, ↓x_nnB, ↓x_nnT, ↓x_nnL, ↓x_nnO, ↓x_nnl, ↓x_tyS, ↓x_tyL, ↓x_i2, ↓aSub, ↓aFdiv, ↓aMod, ↓aPow, ↓aShr, ↓aLt, ↓aLe, ↓aGt, ↓aGe, ↓x_addI, ↓x_addS, ↓x_mulI, ↓x_iaddS, ↓x_iaddI, ↓x_neg, ↓x_eqI, ↓x_neI, ↓x_eqS, ↓x_neS, ↓x_eqB, ↓x_neB, ↓x_eqNI, ↓x_neNI, ↓x_lenS, ↓x_lenL_l, ↓x_lenL_k, ↓x_lenL_t, ↓x_str, ↓x_intI, ↓x_intB, ↓x_divmod, ↓x_max2, ↓x_min2, ↓x_ixS, ↓x_slS, ↓x_slT, ↓x_slL_l, ↓x_slL_k, ↓x_inS, ↓x_newT, ↓x_newF, ↓x_si, ↓x_s1, ↓x_s0, ↓x_rpart, ↓x_part, ↓x_a1, ↓x_a2, ↓x_isiStr, ↓x_isiInt, ↓x_isiIntB, ↓x_isiIntS, ↓x_isiBB, ↓x_isiBI, ↓x_isiStrI, ↓x_isiNonI, ↓x_isiNonS, ↓x_isiT, ↓x_isiL, ↓x_var0, ↓x_varS, ↓x_ex, ↓x_aug0, gat, pick, Option.some.injEq, D.bl.injEq, D.int.injEq, D.str.injEq, D.tup.injEq, D.lst.injEq, List.cons.injEq, and_true, true_and, List.set_cons_zero, List.set_cons_succ, List.length_cons, List.length_nil, List.filterMap_cons, List.filterMap_nil, List.getElem?_cons_zero, List.getElem?_cons_succ, Option.bind_some, ↓reduceIte, if_true, if_false, Bool.false_eq_true, Bool.true_eq_false, decide_eq_true_eq, beq_self_eq_true, Bool.not_true, Bool.not_false, Bool.not_eq_true', decide_eq_false_iff_not, exists_eq_left', exists_eq_left, exists_eq, ↓x_dnT, ↓x_dnF, ↓gAsgL, ↓gMMDef, ↓gDSet, ↓gSItems, ↓x_nilL, ↓x_nilE, List.isEmpty_nil, List.isEmpty_cons, Bool.true_xor, Bool.false_xor, ↓gSortSet, ↓gLenFz, ↓gOrT, ↓gAndT, ↓gTryAs, ↓gTryO, ↓gRaise, ↓gCallX, ↓gMethX, ↓gMakeX, ↓gFldX, ↓x_inXs, Bool.false_xor, Bool.true_xor, ↓gOrS, ↓x_fmtRS, ↓x_afRS, ↓x_afRI, ↓x_stO, ↓x_zipS, ↓x_zipE, ↓x_zipSL, ↓x_zipST, ↓x_zipEL, ↓x_augix, ↓x_isB, ↓x_notB, ↓gLR1, ↓gLR2, ↓gDIxT, ↓gDGt1T, ↓gDSetT, ↓gDNewT, ↓gDIx, ↓gDGt1, ↓gDGt2, ↓gDIn, ↓gDSetd, ↓gDPop1, ↓gDPop2, ↓gTIdx, ↓gLKeys, ↓gDisp, ↓gAsgT, ↓gFldAug, ↓gts, ↓gts0, ↓gnm, ↓gfl, ↓gds, ↓x_lenSt, ↓x_enumK, ↓x_enumKL, ↓gSortK, ↓gSortKR, ↓gFrD, ↓gFzD]
    refine Mt.draw_in (by decide) (by decide) t7 (by omega) fun c3 o8 g5 g6 t8 => ⟨by decide, Mt.pickL_in (by simp) (by simp) t8 (by omega) fun e o9 he9 t9 => ?_⟩
    obtain ⟨v2, rfl, hv2⟩ : ∃ v : Nat, e = .int (v : Nat) ∧ v < 40 := by
      simp only [List.mem_cons, List.not_mem_nil, or_false] at he9
      rcases he9 with rfl | rfl | rfl | rfl
      · exact ⟨0, rfl, by decide⟩
      · exact ⟨1, rfl, by decide⟩
      · exact ⟨3, rfl, by decide⟩
      · exact ⟨c3.toNat, by rw [Int.toNat_of_nonneg g5], by omega⟩
    simp only [↓x_eqSS, ↓x_neSS, ↓gKGet, ↓x_kget, ↓x_ixE, at_last, ↓x_appE, ↓x_tyE, ↓x_itE, ↓x_lenE, ↓x_nePr, ↓x_eqPr, ↓x_neE, ↓x_lenr, ↓x_lenrI, ↓gRev, ↓x_par3, ↓x_par33, ↓x_fld, ↓x_fset, ↓x_mkF, ↓x_mk, ↓x_meth, ↓x_fldO, ↓x_fsetE, ↓x_fldE, ↓x_methO, ↓x_isiCO, ↓x_isiCN, ↓x_isiCT, ↓x_isiCLi, ↓x_isiCS, ↓x_isiCI, ↓x_own, ↓x_eqT2, ↓x_neT2, ↓x_neL4, ↓x_eqLN, ↓x_neNil, ↓x_gset, ↓x_lc, ↓x_for, ↓x_it, ↓x_rn1, ↓x_rn2, ↓x_enu, ↓x_zip, ↓x_itS, ↓x_itL, ↓x_itK, ↓x_itT, ↓x_rn1I, ↓x_rn2I, ↓x_enuL, ↓x_enuK, ↓x_zipL, ↓x_ixS0, ↓x_ixL, ↓x_ixT, ↓x_ixK, x_at0, x_at1, x_at2, x_at3, x_at4, ↓x_set00, ↓x_set01, ↓x_set02, ↓x_aug1, ↓x_aug2, ↓x_aug3, ↓x_aug4, ↓x_aug5, ↓x_aug6, ↓x_aug7, ↓x_aug8, ↓x_aug9, ↓x_aug10, ↓x_aug11, ↓x_aug12, ↓x_aug13, ↓x_aug14, ↓x_aug15, ↓x_aug16, ↓x_aug17, ↓x_aug18, ↓x_aug19, ↓x_aug20, ↓x_aug21, ↓x_aug22, ↓x_aug23, Int.reduceToNat, Int.reducePow, ↓gSeq, ↓gIfS, ↓gSet, ↓gAsg, ↓x_par, ↓x_par2, ↓gRet, ↓gRetN, ↓gNext, ↓gDrop, ↓gBreak, ↓gCont, ↓gDead, ↓gCB, ↓gB2, ↓gU, ↓gC, ↓Dl.gCons, ↓Dl.gNil, ↓Dl.gTup, ↓Dl.gLst, ↓gTest, ↓gOrB, ↓gAndB, ↓gNotB, ↓gAndV, ↓gOrV, ↓gNotV, ↓gIf, ↓gIx, ↓gSl, ↓gPart, ↓gNoP, ↓gMt, ↓gCall, ↓gArgs, ↓gIsN, ↓gNotN, ↓gChain, ↓x_fmtS, ↓x_afS, ↓x_afI, ↓x_js0, ↓x_jsc, ↓gJoined, ↓gYes, ↓x_bnm, ↓x_btp, ↓x_bn, ↓x_bc, ↓x_nnN, ↓x_nnI, ↓x_nnS, ↓x_nnB, ↓x_nnT, ↓x_nnL, ↓x_nnO, ↓x_nnl, ↓x_tyS, ↓x_tyL, ↓x_i2, ↓aSub, ↓aFdiv, ↓aMod, ↓aPow, ↓aShr, ↓aLt, ↓aLe, ↓aGt, ↓aGe, ↓x_addI, ↓x_addS, ↓x_mulI, ↓x_iaddS, ↓x_iaddI, ↓x_neg, ↓x_eqI, ↓x_neI, ↓x_eqS, ↓x_neS, ↓x_eqB, ↓x_neB, ↓x_eqNI, ↓x_neNI, ↓x_lenS, ↓x_lenL_l, ↓x_lenL_k, ↓x_lenL_t, ↓x_str, ↓x_intI, ↓x_intB, ↓x_divmod, ↓x_max2, ↓x_min2, ↓x_ixS, ↓x_slS, ↓x_slT, ↓x_slL_l, ↓x_slL_k, ↓x_inS, ↓x_newT, ↓x_newF, ↓x_si, ↓x_s1, ↓x_s0, ↓x_rpart, ↓x_part, ↓x_a1, ↓x_a2, ↓x_isiStr, ↓x_isiInt, ↓x_isiIntB, ↓x_isiIntS, ↓x_isiBB, ↓x_isiBI, ↓x_isiStrI, ↓x_isiNonI, ↓x_isiNonS, ↓x_isiT, ↓x_isiL, ↓x_var0, ↓x_varS, ↓x_ex, ↓x_aug0, gat, pick, Option.some.injEq, D.bl.injEq, D.int.injEq, D.str.injEq, D.tup.injEq, D.lst.injEq, List.cons.injEq, and_true, true_and, List.set_cons_zero, List.set_cons_succ, List.length_cons, List.length_nil, List.filterMap_cons, List.filterMap_nil, List.getElem?_cons_zero, List.getElem?_cons_succ, Option.bind_some, ↓reduceIte, if_true, if_false, Bool.false_eq_true, Bool.true_eq_false, decide_eq_true_eq, beq_self_eq_true, Bool.not_true, Bool.not_false, Bool.not_eq_true', decide_eq_false_iff_not, exists_eq_left', exists_eq_left, exists_eq, ↓x_dnT, ↓x_dnF, ↓gAsgL, ↓gMMDef, ↓gDSet, ↓gSItems, ↓x_nilL, ↓x_nilE, List.isEmpty_nil, List.isEmpty_cons, Bool.true_xor, Bool.false_xor, ↓gSortSet, ↓gLenFz, ↓gOrT, ↓gAndT, ↓gTryAs, ↓gTryO, ↓gRaise, ↓gCallX, ↓gMethX, ↓gMakeX, ↓gFldX, ↓x_inXs, Bool.false_xor, Bool.true_xor, ↓gOrS, ↓x_fmtRS, ↓x_afRS, ↓x_afRI, ↓x_stO, ↓x_zipS, ↓x_zipE, ↓x_zipSL, ↓x_zipST, ↓x_zipEL, ↓x_augix, ↓x_isB, ↓x_notB, ↓gLR1, ↓gLR2, ↓gDIxT, ↓gDGt1T, ↓gDSetT, ↓gDNewT, ↓gDIx, ↓gDGt1, ↓gDGt2, ↓gDIn, ↓gDSetd, ↓gDPop1, ↓gDPop2, ↓gTIdx, ↓gLKeys, ↓gDisp, ↓gAsgT, ↓gFldAug, ↓gts, ↓gts0, ↓gnm, ↓gfl, ↓gds, ↓x_lenSt, ↓x_enumK, ↓x_enumKL, ↓gSortK, ↓gSortKR, ↓gFrD, ↓gFzD]
    have e1 : ((s : Int) + (v : Int)) = ((s + v : Nat) : Int) := rfl
    have e2 : (max (f : Int) ((s + v : Nat) : Int) + (v2 : Int)) = ((max f (s + v) + v2 : Nat) : Int) := by omega
    rw [e1, e2]
    have hkl := hla.le
    refine ⟨by decide, by decide, _, ks, ds', wKey n b, rfl, st2, rfl, by omega, ?_⟩
    rw [se2]
    refine ⟨x_tyO st1, by decide, (x_app st1).mpr ⟨by rw [List.length_map, hdy.len]; omega, ?_⟩⟩
    rw [se1]
    refine ⟨o9, L ++ [(n, b, s + v, max f (s + v) + v2)], _, _, _, _, _, _, _, by rw [List.map_append]; rfl, t9.mono (by omega), la_put hla, ?_, rfl, rfl, rfl, rfl, rfl⟩
    exact dy_put hdy (hxn n hn) hbo hls.1 (by omega) (by omega) (by omega) (by omega)
  · rintro ρ S' ⟨o', L, ks, ds', x4, x5, x6, x7, x8, rfl, ht', hla, hdy, rfl⟩
    refine ⟨trivial, ?_⟩
    simp only [↓x_eqSS, ↓x_neSS, ↓gKGet, ↓x_kget, ↓x_ixE, at_last, ↓x_appE, ↓x_tyE, ↓x_itE, ↓x_lenE, ↓x_nePr, ↓x_eqPr, ↓x_neE, ↓x_lenr, ↓x_lenrI, ↓gRev, ↓x_par3, ↓x_par33, ↓x_fld, ↓x_fset, ↓x_mkF, ↓x_mk, ↓x_meth, ↓x_fldO, ↓x_fsetE, ↓x_fldE, ↓x_methO, ↓x_isiCO, ↓x_isiCN, ↓x_isiCT, ↓x_isiCLi, ↓x_isiCS, ↓x_isiCI, ↓x_own, ↓x_eqT2, ↓x_neT2, ↓x_neL4, ↓x_eqLN, ↓x_neNil, ↓x_gset, ↓x_lc, ↓x_for, ↓x_it, ↓x_rn1, ↓x_rn2, ↓x_enu, ↓x_zip, ↓x_itS, ↓x_itL, ↓x_itK, ↓x_itT, ↓x_rn1I, ↓x_rn2I, ↓x_enuL, ↓x_enuK, ↓x_zipL, ↓x_ixS0, ↓x_ixL, ↓x_ixT, ↓x_ixK, x_at0, x_at1, x_at2, x_at3, x_at4, ↓x_set00, ↓x_set01, ↓x_set02, ↓x_aug1, ↓x_aug2, ↓x_aug3, ↓x_aug4, ↓x_aug5, ↓x_aug6, ↓x_aug7, ↓x_aug8, ↓x_aug9, ↓x_aug10, ↓x_aug11, ↓x_aug12, ↓x_aug13, ↓x_aug14, ↓x_aug15, ↓x_aug16, ↓x_aug17, ↓x_aug18, ↓x_aug19, ↓x_aug20, ↓x_aug21, ↓x_aug22, ↓x_aug23, Int.reduceToNat, Int.reducePow, ↓gSeq, ↓gIfS, ↓gSet, ↓gAsg, ↓x_par, ↓x_par2, ↓gRet, ↓gRetN, ↓gNext, ↓gDrop, ↓gBreak, ↓gCont, ↓gDead, ↓gCB, ↓gB2, ↓gU, ↓gC, ↓Dl.gCons, ↓Dl.gNil, ↓Dl.gTup, ↓Dl.gLst, ↓gTest, ↓gOrB, ↓gAndB, ↓gNotB, ↓gAndV, ↓gOrV, ↓gNotV, ↓gIf, ↓gIx, ↓gSl, ↓gPart, ↓gNoP, ↓gMt, ↓gCall, ↓gArgs, ↓gIsN, ↓gNotN, ↓gChain, ↓x_fmtS, ↓x_afS, ↓x_afI, ↓x_js0, ↓x_jsc, ↓gJoined, ↓gYes, ↓x_bnm, ↓x_btp, ↓x_bn, ↓x_bc, ↓x_nnN, ↓x_nnI, ↓x_nnS, ↓x_nnB, ↓x_nnT, ↓x_nnL, ↓x_nnO, ↓x_nnl, ↓x_tyS, ↓x_tyL, ↓x_i2, ↓aSub, ↓aFdiv, ↓aMod, ↓aPow, ↓aShr, ↓aLt, ↓aLe, ↓aGt, ↓aGe, ↓x_addI, ↓x_addS, ↓x_mulI, ↓x_iaddS, ↓x_iaddI, ↓x_neg, ↓x_eqI, ↓x_neI, ↓x_eqS, ↓x_neS, ↓x_eqB, ↓x_neB, ↓x_eqNI, ↓x_neNI, ↓x_lenS, ↓x_lenL_l, ↓x_lenL_k, ↓x_lenL_t, ↓x_str, ↓x_intI, ↓x_intB, ↓x_divmod, ↓x_max2, ↓x_min2, ↓x_ixS, ↓x_slS, ↓x_slT, ↓x_slL_l, ↓x_slL_k, ↓x_inS, ↓x_newT, ↓x_newF, ↓x_si, ↓x_s1, ↓x_s0, ↓x_rpart, ↓x_part, ↓x_a1, ↓x_a2, ↓x_isiStr, ↓x_isiInt, ↓x_isiIntB, ↓x_isiIntS, ↓x_isiBB, ↓x_isiBI, ↓x_isiStrI, ↓x_isiNonI, ↓x_isiNonS, ↓x_isiT, ↓x_isiL, ↓x_var0, ↓x_varS, ↓x_ex, ↓x_aug0, gat, pick, Option.some.injEq, D.bl.injEq, D.int.injEq, D.str.injEq, D.tup.injEq, D.lst.injEq, List.cons.injEq, and_true, true_and, List.set_cons_zero, List.set_cons_succ, List.length_cons, List.length_nil, List.filterMap_cons, List.filterMap_nil, List.getElem?_cons_zero, List.getElem?_cons_succ, Option.bind_some, ↓reduceIte, if_true, if_false, Bool.false_eq_true, Bool.true_eq_false, decide_eq_true_eq, beq_self_eq_true, Bool.not_true, Bool.not_false, Bool.not_eq_true', decide_eq_false_iff_not, exists_eq_left', exists_eq_left, exists_eq, ↓x_dnT, ↓x_dnF, ↓gAsgL, ↓gMMDef, ↓gDSet, ↓gSItems, ↓x_nilL, ↓x_nilE, List.isEmpty_nil, List.isEmpty_cons, Bool.true_xor, Bool.false_xor, ↓gSortSet, ↓gLenFz, ↓gOrT, ↓gAndT, ↓gTryAs, ↓gTryO, ↓gRaise, ↓gCallX, ↓gMethX, ↓gMakeX, ↓gFldX, ↓x_inXs, Bool.false_xor, Bool.true_xor, ↓gOrS, ↓x_fmtRS, ↓x_afRS, ↓x_afRI, ↓x_stO, ↓x_zipS, ↓x_zipE, ↓x_zipSL, ↓x_zipST, ↓x_zipEL, ↓x_augix, ↓x_isB, ↓x_notB, ↓gLR1, ↓gLR2, ↓gDIxT, ↓gDGt1T, ↓gDSetT, ↓gDNewT, ↓gDIx, ↓gDGt1, ↓gDGt2, ↓gDIn, ↓gDSetd, ↓gDPop1, ↓gDPop2, ↓gTIdx, ↓gLKeys, ↓gDisp, ↓gAsgT, ↓gFldAug, ↓gts, ↓gts0, ↓gnm, ↓gfl, ↓gds, ↓x_lenSt, ↓x_enumK, ↓x_enumKL, ↓gSortK, ↓gSortKR, ↓gFrD, ↓gFzD]
    rw [x_rngL] at hdy ht'
    have hs2 : Sto.under (o' :: R0).length (o' :: R0) = true := tape_under ht' (by simpa using hs)
    have hle := hdy.le
    exact (x_finG (S0 := o' :: R0) hs2).mpr ⟨und_dy, h _ o' ⟨L, rfl, hdy.nm, hdy.ba, fun d hd => ⟨(hdy.le d hd).1, by have := (hdy.le d hd).2; omega⟩, hdy.gr, by rw [hdy.len]; omega⟩ (ht'.mono (by omega))⟩
end
end Lw
namespace Lw
open PySem L2 Dl
section
variable {P : Program} {w : World} {K : PySem.W.Frag} {mg : Str → Option Value} {base : Heap} {a : Ad}
theorem keys_g {A : Type} {gb : G D} {ws : Env_} {S : Sto} {F f : A → D} : ∀ (L : List A) {k : List D → Sto → Prop}, (∀ r ∈ L, ∀ (q : D → Sto → Prop), q (f r) S → gb (some (F r) :: ws) S q) → k (L.map f) S → Dl.gKeys gb ws (L.map F) S k
  | [], _, _, h => h
  | r :: L, _, hg, h => hg r List.mem_cons_self _ (keys_g L (fun x hx => hg x (List.mem_cons_of_mem _ hx)) h)
abbrev kyD (d : Dy) : D := .tup [.int (d.2.2.1 : Nat), .str d.1, .bl (decide (d.2.1 = (("far" : String) : Str)))]
abbrev kyP (d : Dy) : PyData := .tuple [.int (d.2.2.1 : Nat), .str d.1, .bool (decide (d.2.1 = (("far" : String) : Str)))]
theorem ky_lt (x y : Dy) : PySem.W.dataLt (kyP x) (kyP y) = !leK y x := by
  obtain ⟨n, b, s, f⟩ := x
  obtain ⟨n', b', s', f'⟩ := y
  rw [PySem.W.dataLt_tuple, PySem.W.dataLt_cons rfl, PySem.W.dataLt_cons rfl, PySem.W.dataLt_cons rfl]
  unfold leK
  simp only [PyData.eqv, beq_iff_eq, PySem.W.dataLt_int, PySem.W.dataLt_str, PySem.W.dataLt_bool, Int.natCast_inj, Int.ofNat_lt]
  by_cases h1 : s = s'
  rotate_left
  · rw [if_neg h1, Bool.eq_iff_iff]
    simp only [decide_eq_true_eq, Bool.not_eq_true', decide_eq_false_iff_not]
    omega
  subst h1
  rw [if_pos rfl]
  by_cases h2 : n = n'
  rotate_left
  · rw [if_neg h2, Bool.eq_iff_iff]
    simp only [decide_eq_true_eq, Bool.not_eq_true', decide_eq_false_iff_not, Nat.lt_irrefl, false_or, true_and]
    rcases str_tri n n' with z | z | z
    · refine ⟨fun _ h => ?_, fun _ => z⟩
      rcases h with h | h
      · exact absurd (List.lt_trans z h) (List.lt_irrefl _)
      · exact h2 h.1.symm
    · exact absurd z h2
    · exact ⟨fun h => absurd (List.lt_trans z h) (List.lt_irrefl _), fun h => absurd (.inl z) h⟩
  subst h2
  have hi := List.lt_irrefl n.cps.toList
  by_cases c1 : b = (("far" : String) : Str) <;> by_cases c2 : b' = (("far" : String) : Str)
  all_goals (simp [c1, c2, hi, PyProof.Rows.b2i]; try rfl)
theorem x_byD {L : List Dy} {fz : Bool} {S : Sto} {q : D → Sto → Prop} (h : newL fz ((L.mergeSort leK).map dyD) S q) : byKeys (L.map dyD) (L.map kyD) fz S q := by
  have ep : ∀ L : List Dy, toPys (L.map kyD) = some (L.map kyP) := fun L => by
    induction L with
    | nil => rfl
    | cons x L ih => rw [List.map_cons, List.map_cons, toPys, ih]; simp [toPy, toPys]
  refine ⟨L.map kyP, ep L, PySem.W.AllAlike.of fun b b' => rfl, .inl fun d hd => ?_, fun p hp => ?_, ?_⟩
  · obtain ⟨p, _, rfl⟩ := List.mem_map.mp hd
    exact ⟨_, _, rfl⟩
  · obtain ⟨p, _, rfl⟩ := List.mem_map.mp hp
    exact (by decide : (1 : Nat) ≤ 60)
  · have e1 : (L.map dyD).zip (L.map kyP) = L.map fun r => (dyD r, kyP r) := by rw [List.zip_map']
    have e2 : (L.mergeSort leK).map (fun r => (dyD r, kyP r)) = (L.map fun r => (dyD r, kyP r)).mergeSort (PySem.W.dataLe false Prod.snd) := by
      refine ms_map (f := fun r : Dy => (dyD r, kyP r)) (r := leK) (s := PySem.W.dataLe false Prod.snd) (fun a b => ?_) L
      rw [PySem.W.dataLe_eq]
      show leK a b = !PySem.W.dataLt (kyP b) (kyP a)
      rw [ky_lt, Bool.not_not]
    rw [e1, ← e2, List.map_map]
    exact h
theorem sortI_id {L : List Int} (h : L.Pairwise (· ≤ ·)) : sortI L = L := by
  unfold sortI
  refine List.mergeSort_of_pairwise (h.imp fun z => ?_)
  exact decide_eq_true z
theorem du_snoc (L : List Dy) (ns : List Str) (n : Str) : dueB L (ns ++ [n]) = dueB L ns ++ (ofNB L n "near" ++ ofNB L n "far") := by
  unfold dueB
  rw [List.flatMap_append, List.flatMap_cons, List.flatMap_nil, List.append_nil]
theorem du_mem {L : List Dy} {ns : List Str} {d : Dy} (h : d ∈ dueB L ns) : d ∈ L := by
  unfold dueB at h
  obtain ⟨n, _, h⟩ := List.mem_flatMap.mp h
  rcases List.mem_append.mp h with h | h
  · exact (of_mem.mp h).1
  · exact (of_mem.mp h).1
theorem nd_len {A : Type} [DecidableEq A] : ∀ {p L : List A}, p.Nodup → (∀ k ∈ p, k ∈ L) → p.length ≤ L.length
  | [], _, _, _ => Nat.zero_le _
  | k :: p, L, nd, h => by
    obtain ⟨n1, n2⟩ := List.nodup_cons.mp nd
    have hk := h k (List.mem_cons_self ..)
    have hl : 0 < L.length := List.length_pos_of_mem hk
    have h2 := nd_len (L := L.erase k) n2 (fun i hi => (List.mem_erase_of_ne (fun (e : i = k) => n1 (by rw [← e]; exact hi))).mpr (h i (List.mem_cons_of_mem _ hi)))
    rw [List.length_erase_of_mem hk] at h2
    rw [List.length_cons]
    omega
theorem du_len (L : List Dy) : ∀ ns : List Str, (dueB L ns).length ≤ ns.length * (2 * L.length)
  | [] => Nat.zero_le _
  | n :: ns => by
    have ih := du_len L ns
    have h1 : (ofNB L n "near").length ≤ L.length := List.length_filter_le _ _
    have h2 : (ofNB L n "far").length ≤ L.length := List.length_filter_le _ _
    unfold dueB at ih ⊢
    rw [List.flatMap_cons, List.length_append, List.length_append, List.length_cons, Nat.succ_mul]
    omega
theorem rf__law_due : ∀ ds S q, D.unders S.length ds = true → Sto.under S.length S = true → sp__law_due a ds S q → g__law_due K a { nx := fun _ S' => fin S.length q .non S', rt := fin S.length q } (startD N__law_due ds) S := by
  rintro ds S q hu hs ⟨L, rfl, hL, h⟩
  rw [st__law_due]
  have hz : 8000 ≤ sizeLine := by decide
  have hl := hL.len
  simp only [g__law_due, gSortSetX, ↓x_eqSS, ↓x_neSS, ↓gKGet, ↓x_kget, ↓x_ixE, at_last, ↓x_appE, ↓x_tyE, ↓x_itE, ↓x_lenE, ↓x_nePr, ↓x_eqPr, ↓x_neE, ↓x_lenr, ↓x_lenrI, ↓gRev, ↓x_par3, ↓x_par33, ↓x_fld, ↓x_fset, ↓x_mkF, ↓x_mk, ↓x_meth, ↓x_fldO, ↓x_fsetE, ↓x_fldE, ↓x_methO, ↓x_isiCO, ↓x_isiCN, ↓x_isiCT, ↓x_isiCLi, ↓x_isiCS, ↓x_isiCI, ↓x_own, ↓x_eqT2, ↓x_neT2, ↓x_neL4, ↓x_eqLN, ↓x_neNil, ↓x_gset, ↓x_lc, ↓x_for, ↓x_it, ↓x_rn1, ↓x_rn2, ↓x_enu, ↓x_zip, ↓x_itS, ↓x_itL, ↓x_itK, ↓x_itT, ↓x_rn1I, ↓x_rn2I, ↓x_enuL, ↓x_enuK, ↓x_zipL, ↓x_ixS0, ↓x_ixL, ↓x_ixT, ↓x_ixK, x_at0, x_at1, x_at2, x_at3, x_at4, ↓x_set00, ↓x_set01, ↓x_set02, ↓x_aug1, ↓x_aug2, ↓x_aug3, ↓x_aug4, ↓x_aug5, ↓x_aug6, ↓x_aug7, ↓x_aug8, ↓x_aug9, ↓x_aug10, ↓x_aug11, ↓x_aug12, ↓x_aug13, ↓x_aug14, ↓x_aug15, ↓x_aug16, ↓x_aug17, ↓x_aug18, ↓x_aug19, ↓x_aug20, ↓x_aug21, ↓x_aug22, ↓x_aug23, Int.reduceToNat, Int.reducePow, ↓gSeq, ↓gIfS, ↓gSet, ↓gAsg, ↓x_par, ↓x_par2, ↓gRet, ↓gRetN, ↓gNext, ↓gDrop, ↓gBreak, ↓gCont, ↓gDead, ↓gCB, ↓gB2, ↓gU, ↓gC, ↓Dl.gCons, ↓Dl.gNil, ↓Dl.gTup, ↓Dl.gLst, ↓gTest, ↓gOrB, ↓gAndB, ↓gNotB, ↓gAndV, ↓gOrV, ↓gNotV, ↓gIf, ↓gIx, ↓gSl, ↓gPart, ↓gNoP, ↓gMt, ↓gCall, ↓gArgs, ↓gIsN, ↓gNotN, ↓gChain, ↓x_fmtS, ↓x_afS, ↓x_afI, ↓x_js0, ↓x_jsc, ↓gJoined, ↓gYes, ↓x_bnm, ↓x_btp, ↓x_bn, ↓x_bc, ↓x_nnN, ↓x_nnI, ↓x_nnS, ↓x_nnB, ↓x_nnT, ↓x_nnL, ↓x_nnO, ↓x_nnl, ↓x_tyS, ↓x_tyL, ↓x_i2, ↓aSub, ↓aFdiv, ↓aMod, ↓aPow, ↓aShr, ↓aLt, ↓aLe, ↓aGt, ↓aGe, ↓x_addI, ↓x_addS, ↓x_mulI, ↓x_iaddS, ↓x_iaddI, ↓x_neg, ↓x_eqI, ↓x_neI, ↓x_eqS, ↓x_neS, ↓x_eqB, ↓x_neB, ↓x_eqNI, ↓x_neNI, ↓x_lenS, ↓x_lenL_l, ↓x_lenL_k, ↓x_lenL_t, ↓x_str, ↓x_intI, ↓x_intB, ↓x_divmod, ↓x_max2, ↓x_min2, ↓x_ixS, ↓x_slS, ↓x_slT, ↓x_slL_l, ↓x_slL_k, ↓x_inS, ↓x_newT, ↓x_newF, ↓x_si, ↓x_s1, ↓x_s0, ↓x_rpart, ↓x_part, ↓x_a1, ↓x_a2, ↓x_isiStr, ↓x_isiInt, ↓x_isiIntB, ↓x_isiIntS, ↓x_isiBB, ↓x_isiBI, ↓x_isiStrI, ↓x_isiNonI, ↓x_isiNonS, ↓x_isiT, ↓x_isiL, ↓x_var0, ↓x_varS, ↓x_ex, ↓x_aug0, gat, pick, Option.some.injEq, D.bl.injEq, D.int.injEq, D.str.injEq, D.tup.injEq, D.lst.injEq, List.cons.injEq, and_true, true_and, List.set_cons_zero, List.set_cons_succ, List.length_cons, List.length_nil, List.filterMap_cons, List.filterMap_nil, List.getElem?_cons_zero, List.getElem?_cons_succ, Option.bind_some, ↓reduceIte, if_true, if_false, Bool.false_eq_true, Bool.true_eq_false, decide_eq_true_eq, beq_self_eq_true, Bool.not_true, Bool.not_false, Bool.not_eq_true', decide_eq_false_iff_not, exists_eq_left', exists_eq_left, exists_eq, ↓x_dnT, ↓x_dnF, ↓gAsgL, ↓gMMDef, ↓gDSet, ↓gSItems, ↓x_nilL, ↓x_nilE, List.isEmpty_nil, List.isEmpty_cons, Bool.true_xor, Bool.false_xor, ↓gSortSet, ↓gLenFz, ↓gOrT, ↓gAndT, ↓gTryAs, ↓gTryO, ↓gRaise, ↓gCallX, ↓gMethX, ↓gMakeX, ↓gFldX, ↓x_inXs, Bool.false_xor, Bool.true_xor, ↓gOrS, ↓x_fmtRS, ↓x_afRS, ↓x_afRI, ↓x_stO, ↓x_zipS, ↓x_zipE, ↓x_zipSL, ↓x_zipST, ↓x_zipEL, ↓x_augix, ↓x_isB, ↓x_notB, ↓gLR1, ↓gLR2, ↓gDIxT, ↓gDGt1T, ↓gDSetT, ↓gDNewT, ↓gDIx, ↓gDGt1, ↓gDGt2, ↓gDIn, ↓gDSetd, ↓gDPop1, ↓gDPop2, ↓gTIdx, ↓gLKeys, ↓gDisp, ↓gAsgT, ↓gFldAug, ↓gts, ↓gts0, ↓gnm, ↓gfl, ↓gds, ↓x_lenSt, ↓x_enumK, ↓x_enumKL, ↓gSortK, ↓gSortKR, ↓gFrD, ↓gFzD]
  refine ⟨by decide, ?_⟩
  refine lc_on (F := dyD) (fun d : Dy => some (D.str d.1)) trivial (by omega) (fun d hd acc R hac hR => ⟨_, x_bnm, ?_⟩) ?_
  · simp only [wipeD, ↓x_eqSS, ↓x_neSS, ↓gKGet, ↓x_kget, ↓x_ixE, at_last, ↓x_appE, ↓x_tyE, ↓x_itE, ↓x_lenE, ↓x_nePr, ↓x_eqPr, ↓x_neE, ↓x_lenr, ↓x_lenrI, ↓gRev, ↓x_par3, ↓x_par33, ↓x_fld, ↓x_fset, ↓x_mkF, ↓x_mk, ↓x_meth, ↓x_fldO, ↓x_fsetE, ↓x_fldE, ↓x_methO, ↓x_isiCO, ↓x_isiCN, ↓x_isiCT, ↓x_isiCLi, ↓x_isiCS, ↓x_isiCI, ↓x_own, ↓x_eqT2, ↓x_neT2, ↓x_neL4, ↓x_eqLN, ↓x_neNil, ↓x_gset, ↓x_lc, ↓x_for, ↓x_it, ↓x_rn1, ↓x_rn2, ↓x_enu, ↓x_zip, ↓x_itS, ↓x_itL, ↓x_itK, ↓x_itT, ↓x_rn1I, ↓x_rn2I, ↓x_enuL, ↓x_enuK, ↓x_zipL, ↓x_ixS0, ↓x_ixL, ↓x_ixT, ↓x_ixK, x_at0, x_at1, x_at2, x_at3, x_at4, ↓x_set00, ↓x_set01, ↓x_set02, ↓x_aug1, ↓x_aug2, ↓x_aug3, ↓x_aug4, ↓x_aug5, ↓x_aug6, ↓x_aug7, ↓x_aug8, ↓x_aug9, ↓x_aug10, ↓x_aug11, ↓x_aug12, ↓x_aug13, ↓x_aug14, ↓x_aug15, ↓x_aug16, ↓x_aug17, ↓x_aug18, ↓x_aug19, ↓x_aug20, ↓x_aug21, ↓x_aug22, ↓x_aug23, Int.reduceToNat, Int.reducePow, ↓gSeq, ↓gIfS, ↓gSet, ↓gAsg, ↓x_par, ↓x_par2, ↓gRet, ↓gRetN, ↓gNext, ↓gDrop, ↓gBreak, ↓gCont, ↓gDead, ↓gCB, ↓gB2, ↓gU, ↓gC, ↓Dl.gCons, ↓Dl.gNil, ↓Dl.gTup, ↓Dl.gLst, ↓gTest, ↓gOrB, ↓gAndB, ↓gNotB, ↓gAndV, ↓gOrV, ↓gNotV, ↓gIf, ↓gIx, ↓gSl, ↓gPart, ↓gNoP, ↓gMt, ↓gCall, ↓gArgs, ↓gIsN, ↓gNotN, ↓gChain, ↓x_fmtS, ↓x_afS, ↓x_afI, ↓x_js0, ↓x_jsc, ↓gJoined, ↓gYes, ↓x_bnm, ↓x_btp, ↓x_bn, ↓x_bc, ↓x_nnN, ↓x_nnI, ↓x_nnS, ↓x_nnB, ↓x_nnT, ↓x_nnL, ↓x_nnO, ↓x_nnl, ↓x_tyS, ↓x_tyL, ↓x_i2, ↓aSub, ↓aFdiv, ↓aMod, ↓aPow, ↓aShr, ↓aLt, ↓aLe, ↓aGt, ↓aGe, ↓x_addI, ↓x_addS, ↓x_mulI, ↓x_iaddS, ↓x_iaddI, ↓x_neg, ↓x_eqI, ↓x_neI, ↓x_eqS, ↓x_neS, ↓x_eqB, ↓x_neB, ↓x_eqNI, ↓x_neNI, ↓x_lenS, ↓x_lenL_l, ↓x_lenL_k, ↓x_lenL_t, ↓x_str, ↓x_intI, ↓x_intB, ↓x_divmod, ↓x_max2, ↓x_min2, ↓x_ixS, ↓x_slS, ↓x_slT, ↓x_slL_l, ↓x_slL_k, ↓x_inS, ↓x_newT, ↓x_newF, ↓x_si, ↓x_s1, ↓x_s0, ↓x_rpart, ↓x_part, ↓x_a1, ↓x_a2, ↓x_isiStr, ↓x_isiInt, ↓x_isiIntB, ↓x_isiIntS, ↓x_isiBB, ↓x_isiBI, ↓x_isiStrI, ↓x_isiNonI, ↓x_isiNonS, ↓x_isiT, ↓x_isiL, ↓x_var0, ↓x_varS, ↓x_ex, ↓x_aug0, gat, pick, Option.some.injEq, D.bl.injEq, D.int.injEq, D.str.injEq, D.tup.injEq, D.lst.injEq, List.cons.injEq, and_true, true_and, List.set_cons_zero, List.set_cons_succ, List.length_cons, List.length_nil, List.filterMap_cons, List.filterMap_nil, List.getElem?_cons_zero, List.getElem?_cons_succ, Option.bind_some, ↓reduceIte, if_true, if_false, Bool.false_eq_true, Bool.true_eq_false, decide_eq_true_eq, beq_self_eq_true, Bool.not_true, Bool.not_false, Bool.not_eq_true', decide_eq_false_iff_not, exists_eq_left', exists_eq_left, exists_eq, ↓x_dnT, ↓x_dnF, ↓gAsgL, ↓gMMDef, ↓gDSet, ↓gSItems, ↓x_nilL, ↓x_nilE, List.isEmpty_nil, List.isEmpty_cons, Bool.true_xor, Bool.false_xor, ↓gSortSet, ↓gLenFz, ↓gOrT, ↓gAndT, ↓gTryAs, ↓gTryO, ↓gRaise, ↓gCallX, ↓gMethX, ↓gMakeX, ↓gFldX, ↓x_inXs, Bool.false_xor, Bool.true_xor, ↓gOrS, ↓x_fmtRS, ↓x_afRS, ↓x_afRI, ↓x_stO, ↓x_zipS, ↓x_zipE, ↓x_zipSL, ↓x_zipST, ↓x_zipEL, ↓x_augix, ↓x_isB, ↓x_notB, ↓gLR1, ↓gLR2, ↓gDIxT, ↓gDGt1T, ↓gDSetT, ↓gDNewT, ↓gDIx, ↓gDGt1, ↓gDGt2, ↓gDIn, ↓gDSetd, ↓gDPop1, ↓gDPop2, ↓gTIdx, ↓gLKeys, ↓gDisp, ↓gAsgT, ↓gFldAug, ↓gts, ↓gts0, ↓gnm, ↓gfl, ↓gds, ↓x_lenSt, ↓x_enumK, ↓x_enumKL, ↓gSortK, ↓gSortKR, ↓gFrD, ↓gFzD]
    exact ⟨hac, hR⟩
  rw [fm_some, x_newT]
  refine ⟨L.map (·.1), by rw [List.map_map]; rfl, rfl, by rw [List.length_map]; omega, fun ns hn1 hn2 hn3 => ?_⟩
  rw [x_newT]
  simp only [↓x_eqSS, ↓x_neSS, ↓gKGet, ↓x_kget, ↓x_ixE, at_last, ↓x_appE, ↓x_tyE, ↓x_itE, ↓x_lenE, ↓x_nePr, ↓x_eqPr, ↓x_neE, ↓x_lenr, ↓x_lenrI, ↓gRev, ↓x_par3, ↓x_par33, ↓x_fld, ↓x_fset, ↓x_mkF, ↓x_mk, ↓x_meth, ↓x_fldO, ↓x_fsetE, ↓x_fldE, ↓x_methO, ↓x_isiCO, ↓x_isiCN, ↓x_isiCT, ↓x_isiCLi, ↓x_isiCS, ↓x_isiCI, ↓x_own, ↓x_eqT2, ↓x_neT2, ↓x_neL4, ↓x_eqLN, ↓x_neNil, ↓x_gset, ↓x_lc, ↓x_for, ↓x_it, ↓x_rn1, ↓x_rn2, ↓x_enu, ↓x_zip, ↓x_itS, ↓x_itL, ↓x_itK, ↓x_itT, ↓x_rn1I, ↓x_rn2I, ↓x_enuL, ↓x_enuK, ↓x_zipL, ↓x_ixS0, ↓x_ixL, ↓x_ixT, ↓x_ixK, x_at0, x_at1, x_at2, x_at3, x_at4, ↓x_set00, ↓x_set01, ↓x_set02, ↓x_aug1, ↓x_aug2, ↓x_aug3, ↓x_aug4, ↓x_aug5, ↓x_aug6, ↓x_aug7, ↓x_aug8, ↓x_aug9, ↓x_aug10, ↓x_aug11, ↓x_aug12, ↓x_aug13, ↓x_aug14, ↓x_aug15, ↓x_aug16, ↓x_aug17, ↓x_aug18, ↓x_aug19, ↓x_aug20, ↓x_aug21, ↓x_aug22, ↓x_aug23, Int.reduceToNat, Int.reducePow, ↓gSeq, ↓gIfS, ↓gSet, ↓gAsg, ↓x_par, ↓x_par2, ↓gRet, ↓gRetN, ↓gNext, ↓gDrop, ↓gBreak, ↓gCont, ↓gDead, ↓gCB, ↓gB2, ↓gU, ↓gC, ↓Dl.gCons, ↓Dl.gNil, ↓Dl.gTup, ↓Dl.gLst, ↓gTest, ↓gOrB, ↓gAndB, ↓gNotB, ↓gAndV, ↓gOrV, ↓gNotV, ↓gIf, ↓gIx, ↓gSl, ↓gPart, ↓gNoP, ↓gMt, ↓gCall, ↓gArgs, ↓gIsN, ↓gNotN, ↓gChain, ↓x_fmtS, ↓x_afS, ↓x_afI, ↓x_js0, ↓x_jsc, ↓gJoined, ↓gYes, ↓x_bnm, ↓x_btp, ↓x_bn, ↓x_bc, ↓x_nnN, ↓x_nnI, ↓x_nnS, ↓x_nnB, ↓x_nnT, ↓x_nnL, ↓x_nnO, ↓x_nnl, ↓x_tyS, ↓x_tyL, ↓x_i2, ↓aSub, ↓aFdiv, ↓aMod, ↓aPow, ↓aShr, ↓aLt, ↓aLe, ↓aGt, ↓aGe, ↓x_addI, ↓x_addS, ↓x_mulI, ↓x_iaddS, ↓x_iaddI, ↓x_neg, ↓x_eqI, ↓x_neI, ↓x_eqS, ↓x_neS, ↓x_eqB, ↓x_neB, ↓x_eqNI, ↓x_neNI, ↓x_lenS, ↓x_lenL_l, ↓x_lenL_k, ↓x_lenL_t, ↓x_str, ↓x_intI, ↓x_intB, ↓x_divmod, ↓x_max2, ↓x_min2, ↓x_ixS, ↓x_slS, ↓x_slT, ↓x_slL_l, ↓x_slL_k, ↓x_inS, ↓x_newT, ↓x_newF, ↓x_si, ↓x_s1, ↓x_s0, ↓x_rpart, ↓x_part, ↓x_a1, ↓x_a2, ↓x_isiStr, ↓x_isiInt, ↓x_isiIntB, ↓x_isiIntS, ↓x_isiBB, ↓x_isiBI, ↓x_isiStrI, ↓x_isiNonI, ↓x_isiNonS, ↓x_isiT, ↓x_isiL, ↓x_var0, ↓x_varS, ↓x_ex, ↓x_aug0, gat, pick, Option.some.injEq, D.bl.injEq, D.int.injEq, D.str.injEq, D.tup.injEq, D.lst.injEq, List.cons.injEq, and_true, true_and, List.set_cons_zero, List.set_cons_succ, List.length_cons, List.length_nil, List.filterMap_cons, List.filterMap_nil, List.getElem?_cons_zero, List.getElem?_cons_succ, Option.bind_some, ↓reduceIte, if_true, if_false, Bool.false_eq_true, Bool.true_eq_false, decide_eq_true_eq, beq_self_eq_true, Bool.not_true, Bool.not_false, Bool.not_eq_true', decide_eq_false_iff_not, exists_eq_left', exists_eq_left, exists_eq, ↓x_dnT, ↓x_dnF, ↓gAsgL, ↓gMMDef, ↓gDSet, ↓gSItems, ↓x_nilL, ↓x_nilE, List.isEmpty_nil, List.isEmpty_cons, Bool.true_xor, Bool.false_xor, ↓gSortSet, ↓gLenFz, ↓gOrT, ↓gAndT, ↓gTryAs, ↓gTryO, ↓gRaise, ↓gCallX, ↓gMethX, ↓gMakeX, ↓gFldX, ↓x_inXs, Bool.false_xor, Bool.true_xor, ↓gOrS, ↓x_fmtRS, ↓x_afRS, ↓x_afRI, ↓x_stO, ↓x_zipS, ↓x_zipE, ↓x_zipSL, ↓x_zipST, ↓x_zipEL, ↓x_augix, ↓x_isB, ↓x_notB, ↓gLR1, ↓gLR2, ↓gDIxT, ↓gDGt1T, ↓gDSetT, ↓gDNewT, ↓gDIx, ↓gDGt1, ↓gDGt2, ↓gDIn, ↓gDSetd, ↓gDPop1, ↓gDPop2, ↓gTIdx, ↓gLKeys, ↓gDisp, ↓gAsgT, ↓gFldAug, ↓gts, ↓gts0, ↓gnm, ↓gfl, ↓gds, ↓x_lenSt, ↓x_enumK, ↓x_enumKL, ↓gSortK, ↓gSortKR, ↓gFrD, ↓gFzD]
  have hN : NsOf L ns := ⟨hn2, hn1, hn3⟩
  refine ⟨fun i ρ S' => S' = S ++ [some (.lst ((dueB L (ns.take i)).map dyD))] ∧ ∃ x2 x3 x4 x5 x6 x7 x8, ρ = [some (.lst (L.map dyD)), some (.loc S.length), x2, x3, x4, x5, x6, x7, x8], ⟨rfl, _, _, _, _, _, _, _, rfl⟩, ?_, ?_⟩
  · rintro i d ρ S' hd ⟨rfl, x2, x3, x4, x5, x6, x7, x8, rfl⟩
    rw [List.getElem?_map] at hd
    obtain ⟨n, hn, rfl⟩ := Option.map_eq_some_iff.mp hd
    refine ⟨trivial, _, x_bnm, ?_⟩
    simp only [↓x_eqSS, ↓x_neSS, ↓gKGet, ↓x_kget, ↓x_ixE, at_last, ↓x_appE, ↓x_tyE, ↓x_itE, ↓x_lenE, ↓x_nePr, ↓x_eqPr, ↓x_neE, ↓x_lenr, ↓x_lenrI, ↓gRev, ↓x_par3, ↓x_par33, ↓x_fld, ↓x_fset, ↓x_mkF, ↓x_mk, ↓x_meth, ↓x_fldO, ↓x_fsetE, ↓x_fldE, ↓x_methO, ↓x_isiCO, ↓x_isiCN, ↓x_isiCT, ↓x_isiCLi, ↓x_isiCS, ↓x_isiCI, ↓x_own, ↓x_eqT2, ↓x_neT2, ↓x_neL4, ↓x_eqLN, ↓x_neNil, ↓x_gset, ↓x_lc, ↓x_for, ↓x_it, ↓x_rn1, ↓x_rn2, ↓x_enu, ↓x_zip, ↓x_itS, ↓x_itL, ↓x_itK, ↓x_itT, ↓x_rn1I, ↓x_rn2I, ↓x_enuL, ↓x_enuK, ↓x_zipL, ↓x_ixS0, ↓x_ixL, ↓x_ixT, ↓x_ixK, x_at0, x_at1, x_at2, x_at3, x_at4, ↓x_set00, ↓x_set01, ↓x_set02, ↓x_aug1, ↓x_aug2, ↓x_aug3, ↓x_aug4, ↓x_aug5, ↓x_aug6, ↓x_aug7, ↓x_aug8, ↓x_aug9, ↓x_aug10, ↓x_aug11, ↓x_aug12, ↓x_aug13, ↓x_aug14, ↓x_aug15, ↓x_aug16, ↓x_aug17, ↓x_aug18, ↓x_aug19, ↓x_aug20, ↓x_aug21, ↓x_aug22, ↓x_aug23, Int.reduceToNat, Int.reducePow, ↓gSeq, ↓gIfS, ↓gSet, ↓gAsg, ↓x_par, ↓x_par2, ↓gRet, ↓gRetN, ↓gNext, ↓gDrop, ↓gBreak, ↓gCont, ↓gDead, ↓gCB, ↓gB2, ↓gU, ↓gC, ↓Dl.gCons, ↓Dl.gNil, ↓Dl.gTup, ↓Dl.gLst, ↓gTest, ↓gOrB, ↓gAndB, ↓gNotB, ↓gAndV, ↓gOrV, ↓gNotV, ↓gIf, ↓gIx, ↓gSl, ↓gPart, ↓gNoP, ↓gMt, ↓gCall, ↓gArgs, ↓gIsN, ↓gNotN, ↓gChain, ↓x_fmtS, ↓x_afS, ↓x_afI, ↓x_js0, ↓x_jsc, ↓gJoined, ↓gYes, ↓x_bnm, ↓x_btp, ↓x_bn, ↓x_bc, ↓x_nnN, ↓x_nnI, ↓x_nnS, ↓x_nnB, ↓x_nnT, ↓x_nnL, ↓x_nnO, ↓x_nnl, ↓x_tyS, ↓x_tyL, ↓x_i2, ↓aSub, ↓aFdiv, ↓aMod, ↓aPow, ↓aShr, ↓aLt, ↓aLe, ↓aGt, ↓aGe, ↓x_addI, ↓x_addS, ↓x_mulI, ↓x_iaddS, ↓x_iaddI, ↓x_neg, ↓x_eqI, ↓x_neI, ↓x_eqS, ↓x_neS, ↓x_eqB, ↓x_neB, ↓x_eqNI, ↓x_neNI, ↓x_lenS, ↓x_lenL_l, ↓x_lenL_k, ↓x_lenL_t, ↓x_str, ↓x_intI, ↓x_intB, ↓x_divmod, ↓x_max2, ↓x_min2, ↓x_ixS, ↓x_slS, ↓x_slT, ↓x_slL_l, ↓x_slL_k, ↓x_inS, ↓x_newT, ↓x_newF, ↓x_si, ↓x_s1, ↓x_s0, ↓x_rpart, ↓x_part, ↓x_a1, ↓x_a2, ↓x_isiStr, ↓x_isiInt, ↓x_isiIntB, ↓x_isiIntS, ↓x_isiBB, ↓x_isiBI, ↓x_isiStrI, ↓x_isiNonI, ↓x_isiNonS, ↓x_isiT, ↓x_isiL, ↓x_var0, ↓x_varS, ↓x_ex, ↓x_aug0, gat, pick, Option.some.injEq, D.bl.injEq, D.int.injEq, D.str.injEq, D.tup.injEq, D.lst.injEq, List.cons.injEq, and_true, true_and, List.set_cons_zero, List.set_cons_succ, List.length_cons, List.length_nil, List.filterMap_cons, List.filterMap_nil, List.getElem?_cons_zero, List.getElem?_cons_succ, Option.bind_some, ↓reduceIte, if_true, if_false, Bool.false_eq_true, Bool.true_eq_false, decide_eq_true_eq, beq_self_eq_true, Bool.not_true, Bool.not_false, Bool.not_eq_true', decide_eq_false_iff_not, exists_eq_left', exists_eq_left, exists_eq, ↓x_dnT, ↓x_dnF, ↓gAsgL, ↓gMMDef, ↓gDSet, ↓gSItems, ↓x_nilL, ↓x_nilE, List.isEmpty_nil, List.isEmpty_cons, Bool.true_xor, Bool.false_xor, ↓gSortSet, ↓gLenFz, ↓gOrT, ↓gAndT, ↓gTryAs, ↓gTryO, ↓gRaise, ↓gCallX, ↓gMethX, ↓gMakeX, ↓gFldX, ↓x_inXs, Bool.false_xor, Bool.true_xor, ↓gOrS, ↓x_fmtRS, ↓x_afRS, ↓x_afRI, ↓x_stO, ↓x_zipS, ↓x_zipE, ↓x_zipSL, ↓x_zipST, ↓x_zipEL, ↓x_augix, ↓x_isB, ↓x_notB, ↓gLR1, ↓gLR2, ↓gDIxT, ↓gDGt1T, ↓gDSetT, ↓gDNewT, ↓gDIx, ↓gDGt1, ↓gDGt2, ↓gDIn, ↓gDSetd, ↓gDPop1, ↓gDPop2, ↓gTIdx, ↓gLKeys, ↓gDisp, ↓gAsgT, ↓gFldAug, ↓gts, ↓gts0, ↓gnm, ↓gfl, ↓gds, ↓x_lenSt, ↓x_enumK, ↓x_enumKL, ↓gSortK, ↓gSortKR, ↓gFrD, ↓gFzD]
    rw [take_snoc hn, du_snoc]
    have hA : (dueB L (ns.take i)).length ≤ 7442 := by
      have h1 := du_len L (ns.take i)
      have h2 : ns.length ≤ (L.map (·.1)).length := nd_len hn2 fun k hk => (hn3 k).mp hk
      rw [List.length_map] at h2
      rw [List.length_take] at h1
      have h3 : min i ns.length * (2 * L.length) ≤ 61 * 122 := Nat.mul_le_mul (by omega) (by omega)
      omega
    generalize dueB L (ns.take i) = A at *
    refine ⟨by decide, ?_⟩
    refine ⟨fun j ρ S' => S' = S ++ [some (.lst ((A ++ ([ofNB L n "near", ofNB L n "far"].take j).flatten).map dyD))] ∧ ∃ x3 x4 x5 x6 x7 x8, ρ = [some (.lst (L.map dyD)), some (.loc S.length), some (.str n), x3, x4, x5, x6, x7, x8], ?_, ?_, ?_⟩
    · exact ⟨by simp, _, _, _, _, _, _, rfl⟩
    · rintro j d ρ S' hd ⟨rfl, x3, x4, x5, x6, x7, x8, rfl⟩
      obtain ⟨b, rfl, hb, hj⟩ : ∃ b, d = .str b ∧ BaOk b ∧ [ofNB L n "near", ofNB L n "far"][j]? = some (ofNB L n b) := by
        match j, hd with
        | 0, hd => cases hd; exact ⟨_, rfl, .inl rfl, rfl⟩
        | 1, hd => cases hd; exact ⟨_, rfl, .inr rfl, rfl⟩
        | j + 2, hd => cases hd
      refine ⟨trivial, _, x_bnm, ?_⟩
      simp only [↓x_eqSS, ↓x_neSS, ↓gKGet, ↓x_kget, ↓x_ixE, at_last, ↓x_appE, ↓x_tyE, ↓x_itE, ↓x_lenE, ↓x_nePr, ↓x_eqPr, ↓x_neE, ↓x_lenr, ↓x_lenrI, ↓gRev, ↓x_par3, ↓x_par33, ↓x_fld, ↓x_fset, ↓x_mkF, ↓x_mk, ↓x_meth, ↓x_fldO, ↓x_fsetE, ↓x_fldE, ↓x_methO, ↓x_isiCO, ↓x_isiCN, ↓x_isiCT, ↓x_isiCLi, ↓x_isiCS, ↓x_isiCI, ↓x_own, ↓x_eqT2, ↓x_neT2, ↓x_neL4, ↓x_eqLN, ↓x_neNil, ↓x_gset, ↓x_lc, ↓x_for, ↓x_it, ↓x_rn1, ↓x_rn2, ↓x_enu, ↓x_zip, ↓x_itS, ↓x_itL, ↓x_itK, ↓x_itT, ↓x_rn1I, ↓x_rn2I, ↓x_enuL, ↓x_enuK, ↓x_zipL, ↓x_ixS0, ↓x_ixL, ↓x_ixT, ↓x_ixK, x_at0, x_at1, x_at2, x_at3, x_at4, ↓x_set00, ↓x_set01, ↓x_set02, ↓x_aug1, ↓x_aug2, ↓x_aug3, ↓x_aug4, ↓x_aug5, ↓x_aug6, ↓x_aug7, ↓x_aug8, ↓x_aug9, ↓x_aug10, ↓x_aug11, ↓x_aug12, ↓x_aug13, ↓x_aug14, ↓x_aug15, ↓x_aug16, ↓x_aug17, ↓x_aug18, ↓x_aug19, ↓x_aug20, ↓x_aug21, ↓x_aug22, ↓x_aug23, Int.reduceToNat, Int.reducePow, ↓gSeq, ↓gIfS, ↓gSet, ↓gAsg, ↓x_par, ↓x_par2, ↓gRet, ↓gRetN, ↓gNext, ↓gDrop, ↓gBreak, ↓gCont, ↓gDead, ↓gCB, ↓gB2, ↓gU, ↓gC, ↓Dl.gCons, ↓Dl.gNil, ↓Dl.gTup, ↓Dl.gLst, ↓gTest, ↓gOrB, ↓gAndB, ↓gNotB, ↓gAndV, ↓gOrV, ↓gNotV, ↓gIf, ↓gIx, ↓gSl, ↓gPart, ↓gNoP, ↓gMt, ↓gCall, ↓gArgs, ↓gIsN, ↓gNotN, ↓gChain, ↓x_fmtS, ↓x_afS, ↓x_afI, ↓x_js0, ↓x_jsc, ↓gJoined, ↓gYes, ↓x_bnm, ↓x_btp, ↓x_bn, ↓x_bc, ↓x_nnN, ↓x_nnI, ↓x_nnS, ↓x_nnB, ↓x_nnT, ↓x_nnL, ↓x_nnO, ↓x_nnl, ↓x_tyS, ↓x_tyL, ↓x_i2, ↓aSub, ↓aFdiv, ↓aMod, ↓aPow, ↓aShr, ↓aLt, ↓aLe, ↓aGt, ↓aGe, ↓x_addI, ↓x_addS, ↓x_mulI, ↓x_iaddS, ↓x_iaddI, ↓x_neg, ↓x_eqI, ↓x_neI, ↓x_eqS, ↓x_neS, ↓x_eqB, ↓x_neB, ↓x_eqNI, ↓x_neNI, ↓x_lenS, ↓x_lenL_l, ↓x_lenL_k, ↓x_lenL_t, ↓x_str, ↓x_intI, ↓x_intB, ↓x_divmod, ↓x_max2, ↓x_min2, ↓x_ixS, ↓x_slS, ↓x_slT, ↓x_slL_l, ↓x_slL_k, ↓x_inS, ↓x_newT, ↓x_newF, ↓x_si, ↓x_s1, ↓x_s0, ↓x_rpart, ↓x_part, ↓x_a1, ↓x_a2, ↓x_isiStr, ↓x_isiInt, ↓x_isiIntB, ↓x_isiIntS, ↓x_isiBB, ↓x_isiBI, ↓x_isiStrI, ↓x_isiNonI, ↓x_isiNonS, ↓x_isiT, ↓x_isiL, ↓x_var0, ↓x_varS, ↓x_ex, ↓x_aug0, gat, pick, Option.some.injEq, D.bl.injEq, D.int.injEq, D.str.injEq, D.tup.injEq, D.lst.injEq, List.cons.injEq, and_true, true_and, List.set_cons_zero, List.set_cons_succ, List.length_cons, List.length_nil, List.filterMap_cons, List.filterMap_nil, List.getElem?_cons_zero, List.getElem?_cons_succ, Option.bind_some, ↓reduceIte, if_true, if_false, Bool.false_eq_true, Bool.true_eq_false, decide_eq_true_eq, beq_self_eq_true, Bool.not_true, Bool.not_false, Bool.not_eq_true', decide_eq_false_iff_not, exists_eq_left', exists_eq_left, exists_eq, ↓x_dnT, ↓x_dnF, ↓gAsgL, ↓gMMDef, ↓gDSet, ↓gSItems, ↓x_nilL, ↓x_nilE, List.isEmpty_nil, List.isEmpty_cons, Bool.true_xor, Bool.false_xor, ↓gSortSet, ↓gLenFz, ↓gOrT, ↓gAndT, ↓gTryAs, ↓gTryO, ↓gRaise, ↓gCallX, ↓gMethX, ↓gMakeX, ↓gFldX, ↓x_inXs, Bool.false_xor, Bool.true_xor, ↓gOrS, ↓x_fmtRS, ↓x_afRS, ↓x_afRI, ↓x_stO, ↓x_zipS, ↓x_zipE, ↓x_zipSL, ↓x_zipST, ↓x_zipEL, ↓x_augix, ↓x_isB, ↓x_notB, ↓gLR1, ↓gLR2, ↓gDIxT, ↓gDGt1T, ↓gDSetT, ↓gDNewT, ↓gDIx, ↓gDGt1, ↓gDGt2, ↓gDIn, ↓gDSetd, ↓gDPop1, ↓gDPop2, ↓gTIdx, ↓gLKeys, ↓gDisp, ↓gAsgT, ↓gFldAug, ↓gts, ↓gts0, ↓gnm, ↓gfl, ↓gds, ↓x_lenSt, ↓x_enumK, ↓x_enumKL, ↓gSortK, ↓gSortKR, ↓gFrD, ↓gFzD]
      rw [take_snoc hj, List.flatten_append, List.flatten_cons, List.flatten_nil, List.append_nil, ← List.append_assoc]
      have hC : (A ++ ([ofNB L n "near", ofNB L n "far"].take j).flatten).length ≤ 7600 := by
        have h1 : (ofNB L n "near").length ≤ L.length := List.length_filter_le _ _
        have h2 : j = 0 ∨ j = 1 := by
          have := (List.getElem?_eq_some_iff.mp hj).1
          simp only [List.length_cons, List.length_nil] at this
          omega
        rcases h2 with rfl | rfl <;> simp <;> omega
      generalize A ++ ([ofNB L n "near", ofNB L n "far"].take j).flatten = C at *
      have hnl : ∀ d ∈ L, PyData.strOk d.1 = true ∧ PyData.strOk d.2.1 = true := fun d hd => ⟨nm_ok (hL.nm d hd), (ba_ok (hL.ba d hd)).1⟩
      have hnn : PyData.strOk n = true := by
        obtain ⟨d, hd, e⟩ := List.mem_map.mp ((hN.2.2 n).mp (List.mem_of_getElem? hn))
        rw [← e]; exact (hnl d hd).1
      have hbb := (ba_ok hb).1
      have hp := of_rise hL.gr n b
      have so1 : sortI ((ofNB L n b).map fun d => ((d.2.2.1 : Nat) : Int)) = (ofNB L n b).map fun d => ((d.2.2.1 : Nat) : Int) := sortI_id (List.pairwise_map.mpr (hp.imp fun {x y} z => by have := z.1; omega))
      have so2 : sortI ((ofNB L n b).map fun d => ((d.2.2.2 : Nat) : Int)) = (ofNB L n b).map fun d => ((d.2.2.2 : Nat) : Int) := sortI_id (List.pairwise_map.mpr (hp.imp fun {x y} z => by have := z.2; omega))
      refine lc_on (F := dyD) (fun d : Dy => if d.1 = n ∧ d.2.1 = b then some (D.int (d.2.2.1 : Nat)) else none) trivial (by omega) (fun d hd acc R hac hR => ⟨_, x_bnm, ?_⟩) ?_
      · obtain ⟨h1, h2⟩ := hnl d hd
        simp only [wipeD, ↓x_eqSS, ↓x_neSS, ↓gKGet, ↓x_kget, ↓x_ixE, at_last, ↓x_appE, ↓x_tyE, ↓x_itE, ↓x_lenE, ↓x_nePr, ↓x_eqPr, ↓x_neE, ↓x_lenr, ↓x_lenrI, ↓gRev, ↓x_par3, ↓x_par33, ↓x_fld, ↓x_fset, ↓x_mkF, ↓x_mk, ↓x_meth, ↓x_fldO, ↓x_fsetE, ↓x_fldE, ↓x_methO, ↓x_isiCO, ↓x_isiCN, ↓x_isiCT, ↓x_isiCLi, ↓x_isiCS, ↓x_isiCI, ↓x_own, ↓x_eqT2, ↓x_neT2, ↓x_neL4, ↓x_eqLN, ↓x_neNil, ↓x_gset, ↓x_lc, ↓x_for, ↓x_it, ↓x_rn1, ↓x_rn2, ↓x_enu, ↓x_zip, ↓x_itS, ↓x_itL, ↓x_itK, ↓x_itT, ↓x_rn1I, ↓x_rn2I, ↓x_enuL, ↓x_enuK, ↓x_zipL, ↓x_ixS0, ↓x_ixL, ↓x_ixT, ↓x_ixK, x_at0, x_at1, x_at2, x_at3, x_at4, ↓x_set00, ↓x_set01, ↓x_set02, ↓x_aug1, ↓x_aug2, ↓x_aug3, ↓x_aug4, ↓x_aug5, ↓x_aug6, ↓x_aug7, ↓x_aug8, ↓x_aug9, ↓x_aug10, ↓x_aug11, ↓x_aug12, ↓x_aug13, ↓x_aug14, ↓x_aug15, ↓x_aug16, ↓x_aug17, ↓x_aug18, ↓x_aug19, ↓x_aug20, ↓x_aug21, ↓x_aug22, ↓x_aug23, Int.reduceToNat, Int.reducePow, ↓gSeq, ↓gIfS, ↓gSet, ↓gAsg, ↓x_par, ↓x_par2, ↓gRet, ↓gRetN, ↓gNext, ↓gDrop, ↓gBreak, ↓gCont, ↓gDead, ↓gCB, ↓gB2, ↓gU, ↓gC, ↓Dl.gCons, ↓Dl.gNil, ↓Dl.gTup, ↓Dl.gLst, ↓gTest, ↓gOrB, ↓gAndB, ↓gNotB, ↓gAndV, ↓gOrV, ↓gNotV, ↓gIf, ↓gIx, ↓gSl, ↓gPart, ↓gNoP, ↓gMt, ↓gCall, ↓gArgs, ↓gIsN, ↓gNotN, ↓gChain, ↓x_fmtS, ↓x_afS, ↓x_afI, ↓x_js0, ↓x_jsc, ↓gJoined, ↓gYes, ↓x_bnm, ↓x_btp, ↓x_bn, ↓x_bc, ↓x_nnN, ↓x_nnI, ↓x_nnS, ↓x_nnB, ↓x_nnT, ↓x_nnL, ↓x_nnO, ↓x_nnl, ↓x_tyS, ↓x_tyL, ↓x_i2, ↓aSub, ↓aFdiv, ↓aMod, ↓aPow, ↓aShr, ↓aLt, ↓aLe, ↓aGt, ↓aGe, ↓x_addI, ↓x_addS, ↓x_mulI, ↓x_iaddS, ↓x_iaddI, ↓x_neg, ↓x_eqI, ↓x_neI, ↓x_eqS, ↓x_neS, ↓x_eqB, ↓x_neB, ↓x_eqNI, ↓x_neNI, ↓x_lenS, ↓x_lenL_l, ↓x_lenL_k, ↓x_lenL_t, ↓x_str, ↓x_intI, ↓x_intB, ↓x_divmod, ↓x_max2, ↓x_min2, ↓x_ixS, ↓x_slS, ↓x_slT, ↓x_slL_l, ↓x_slL_k, ↓x_inS, ↓x_newT, ↓x_newF, ↓x_si, ↓x_s1, ↓x_s0, ↓x_rpart, ↓x_part, ↓x_a1, ↓x_a2, ↓x_isiStr, ↓x_isiInt, ↓x_isiIntB, ↓x_isiIntS, ↓x_isiBB, ↓x_isiBI, ↓x_isiStrI, ↓x_isiNonI, ↓x_isiNonS, ↓x_isiT, ↓x_isiL, ↓x_var0, ↓x_varS, ↓x_ex, ↓x_aug0, gat, pick, Option.some.injEq, D.bl.injEq, D.int.injEq, D.str.injEq, D.tup.injEq, D.lst.injEq, List.cons.injEq, and_true, true_and, List.set_cons_zero, List.set_cons_succ, List.length_cons, List.length_nil, List.filterMap_cons, List.filterMap_nil, List.getElem?_cons_zero, List.getElem?_cons_succ, Option.bind_some, ↓reduceIte, if_true, if_false, Bool.false_eq_true, Bool.true_eq_false, decide_eq_true_eq, beq_self_eq_true, Bool.not_true, Bool.not_false, Bool.not_eq_true', decide_eq_false_iff_not, exists_eq_left', exists_eq_left, exists_eq, ↓x_dnT, ↓x_dnF, ↓gAsgL, ↓gMMDef, ↓gDSet, ↓gSItems, ↓x_nilL, ↓x_nilE, List.isEmpty_nil, List.isEmpty_cons, Bool.true_xor, Bool.false_xor, ↓gSortSet, ↓gLenFz, ↓gOrT, ↓gAndT, ↓gTryAs, ↓gTryO, ↓gRaise, ↓gCallX, ↓gMethX, ↓gMakeX, ↓gFldX, ↓x_inXs, Bool.false_xor, Bool.true_xor, ↓gOrS, ↓x_fmtRS, ↓x_afRS, ↓x_afRI, ↓x_stO, ↓x_zipS, ↓x_zipE, ↓x_zipSL, ↓x_zipST, ↓x_zipEL, ↓x_augix, ↓x_isB, ↓x_notB, ↓gLR1, ↓gLR2, ↓gDIxT, ↓gDGt1T, ↓gDSetT, ↓gDNewT, ↓gDIx, ↓gDGt1, ↓gDGt2, ↓gDIn, ↓gDSetd, ↓gDPop1, ↓gDPop2, ↓gTIdx, ↓gLKeys, ↓gDisp, ↓gAsgT, ↓gFldAug, ↓gts, ↓gts0, ↓gnm, ↓gfl, ↓gds, ↓x_lenSt, ↓x_enumK, ↓x_enumKL, ↓gSortK, ↓gSortKR, ↓gFrD, ↓gFzD]
        refine ⟨h1, hnn, ?_⟩
        by_cases c1 : d.1 = n
        · rw [if_pos c1]
          refine ⟨h2, hbb, ?_⟩
          by_cases c2 : d.2.1 = b
          · rw [if_pos c2]
            rw [if_pos ⟨c1, c2⟩] at hR
            exact ⟨hac, hR⟩
          · rw [if_neg c2]
            rw [if_neg (fun z => c2 z.2)] at hR
            exact List.append_nil acc ▸ hR
        · rw [if_neg c1]
          rw [if_neg (fun z => c1 z.1)] at hR
          exact List.append_nil acc ▸ hR
      rw [fm_if, x_newT, show ((L.filter fun d => decide (d.1 = n ∧ d.2.1 = b)).map fun d => D.int (d.2.2.1 : Nat)) = ((ofNB L n b).map fun d => ((d.2.2.1 : Nat) : Int)).map D.int by rw [List.map_map]; rfl]
      refine x_sortedI ?_
      rw [x_newT, so1]
      refine lc_on (F := dyD) (fun d : Dy => if d.1 = n ∧ d.2.1 = b then some (D.int (d.2.2.2 : Nat)) else none) trivial (by omega) (fun d hd acc R hac hR => ⟨_, x_bnm, ?_⟩) ?_
      · obtain ⟨h1, h2⟩ := hnl d hd
        simp only [wipeD, ↓x_eqSS, ↓x_neSS, ↓gKGet, ↓x_kget, ↓x_ixE, at_last, ↓x_appE, ↓x_tyE, ↓x_itE, ↓x_lenE, ↓x_nePr, ↓x_eqPr, ↓x_neE, ↓x_lenr, ↓x_lenrI, ↓gRev, ↓x_par3, ↓x_par33, ↓x_fld, ↓x_fset, ↓x_mkF, ↓x_mk, ↓x_meth, ↓x_fldO, ↓x_fsetE, ↓x_fldE, ↓x_methO, ↓x_isiCO, ↓x_isiCN, ↓x_isiCT, ↓x_isiCLi, ↓x_isiCS, ↓x_isiCI, ↓x_own, ↓x_eqT2, ↓x_neT2, ↓x_neL4, ↓x_eqLN, ↓x_neNil, ↓x_gset, ↓x_lc, ↓x_for, ↓x_it, ↓x_rn1, ↓x_rn2, ↓x_enu, ↓x_zip, ↓x_itS, ↓x_itL, ↓x_itK, ↓x_itT, ↓x_rn1I, ↓x_rn2I, ↓x_enuL, ↓x_enuK, ↓x_zipL, ↓x_ixS0, ↓x_ixL, ↓x_ixT, ↓x_ixK, x_at0, x_at1, x_at2, x_at3, x_at4, ↓x_set00, ↓x_set01, ↓x_set02, ↓x_aug1, ↓x_aug2, ↓x_aug3, ↓x_aug4, ↓x_aug5, ↓x_aug6, ↓x_aug7, ↓x_aug8, ↓x_aug9, ↓x_aug10, ↓x_aug11, ↓x_aug12, ↓x_aug13, ↓x_aug14, ↓x_aug15, ↓x_aug16, ↓x_aug17, ↓x_aug18, ↓x_aug19, ↓x_aug20, ↓x_aug21, ↓x_aug22, ↓x_aug23, Int.reduceToNat, Int.reducePow, ↓gSeq, ↓gIfS, ↓gSet, ↓gAsg, ↓x_par, ↓x_par2, ↓gRet, ↓gRetN, ↓gNext, ↓gDrop, ↓gBreak, ↓gCont, ↓gDead, ↓gCB, ↓gB2, ↓gU, ↓gC, ↓Dl.gCons, ↓Dl.gNil, ↓Dl.gTup, ↓Dl.gLst, ↓gTest, ↓gOrB, ↓gAndB, ↓gNotB, ↓gAndV, ↓gOrV, ↓gNotV, ↓gIf, ↓gIx, ↓gSl, ↓gPart, ↓gNoP, ↓gMt, ↓gCall, ↓gArgs, ↓gIsN, ↓gNotN, ↓gChain, ↓x_fmtS, ↓x_afS, ↓x_afI, ↓x_js0, ↓x_jsc, ↓gJoined, ↓gYes, ↓x_bnm, ↓x_btp, ↓x_bn, ↓x_bc, ↓x_nnN, ↓x_nnI, ↓x_nnS, ↓x_nnB, ↓x_nnT, ↓x_nnL, ↓x_nnO, ↓x_nnl, ↓x_tyS, ↓x_tyL, ↓x_i2, ↓aSub, ↓aFdiv, ↓aMod, ↓aPow, ↓aShr, ↓aLt, ↓aLe, ↓aGt, ↓aGe, ↓x_addI, ↓x_addS, ↓x_mulI, ↓x_iaddS, ↓x_iaddI, ↓x_neg, ↓x_eqI, ↓x_neI, ↓x_eqS, ↓x_neS, ↓x_eqB, ↓x_neB, ↓x_eqNI, ↓x_neNI, ↓x_lenS, ↓x_lenL_l, ↓x_lenL_k, ↓x_lenL_t, ↓x_str, ↓x_intI, ↓x_intB, ↓x_divmod, ↓x_max2, ↓x_min2, ↓x_ixS, ↓x_slS, ↓x_slT, ↓x_slL_l, ↓x_slL_k, ↓x_inS, ↓x_newT, ↓x_newF, ↓x_si, ↓x_s1, ↓x_s0, ↓x_rpart, ↓x_part, ↓x_a1, ↓x_a2, ↓x_isiStr, ↓x_isiInt, ↓x_isiIntB, ↓x_isiIntS, ↓x_isiBB, ↓x_isiBI, ↓x_isiStrI, ↓x_isiNonI, ↓x_isiNonS, ↓x_isiT, ↓x_isiL, ↓x_var0, ↓x_varS, ↓x_ex, ↓x_aug0, gat, pick, Option.some.injEq, D.bl.injEq, D.int.injEq, D.str.injEq, D.tup.injEq, D.lst.injEq, List.cons.injEq, and_true, true_and, List.set_cons_zero, List.set_cons_succ, List.length_cons, List.length_nil, List.filterMap_cons, List.filterMap_nil, List.getElem?_cons_zero, List.getElem?_cons_succ, Option.bind_some, ↓reduceIte, if_true, if_false, Bool.false_eq_true, Bool.true_eq_false, decide_eq_true_eq, beq_self_eq_true, Bool.not_true, Bool.not_false, Bool.not_eq_true', decide_eq_false_iff_not, exists_eq_left', exists_eq_left, exists_eq, ↓x_dnT, ↓x_dnF, ↓gAsgL, ↓gMMDef, ↓gDSet, ↓gSItems, ↓x_nilL, ↓x_nilE, List.isEmpty_nil, List.isEmpty_cons, Bool.true_xor, Bool.false_xor, ↓gSortSet, ↓gLenFz, ↓gOrT, ↓gAndT, ↓gTryAs, ↓gTryO, ↓gRaise, ↓gCallX, ↓gMethX, ↓gMakeX, ↓gFldX, ↓x_inXs, Bool.false_xor, Bool.true_xor, ↓gOrS, ↓x_fmtRS, ↓x_afRS, ↓x_afRI, ↓x_stO, ↓x_zipS, ↓x_zipE, ↓x_zipSL, ↓x_zipST, ↓x_zipEL, ↓x_augix, ↓x_isB, ↓x_notB, ↓gLR1, ↓gLR2, ↓gDIxT, ↓gDGt1T, ↓gDSetT, ↓gDNewT, ↓gDIx, ↓gDGt1, ↓gDGt2, ↓gDIn, ↓gDSetd, ↓gDPop1, ↓gDPop2, ↓gTIdx, ↓gLKeys, ↓gDisp, ↓gAsgT, ↓gFldAug, ↓gts, ↓gts0, ↓gnm, ↓gfl, ↓gds, ↓x_lenSt, ↓x_enumK, ↓x_enumKL, ↓gSortK, ↓gSortKR, ↓gFrD, ↓gFzD]
        refine ⟨h1, hnn, ?_⟩
        by_cases c1 : d.1 = n
        · rw [if_pos c1]
          refine ⟨h2, hbb, ?_⟩
          by_cases c2 : d.2.1 = b
          · rw [if_pos c2]
            rw [if_pos ⟨c1, c2⟩] at hR
            exact ⟨hac, hR⟩
          · rw [if_neg c2]
            rw [if_neg (fun z => c2 z.2)] at hR
            exact List.append_nil acc ▸ hR
        · rw [if_neg c1]
          rw [if_neg (fun z => c1 z.1)] at hR
          exact List.append_nil acc ▸ hR
      rw [fm_if, x_newT, show ((L.filter fun d => decide (d.1 = n ∧ d.2.1 = b)).map fun d => D.int (d.2.2.2 : Nat)) = ((ofNB L n b).map fun d => ((d.2.2.2 : Nat) : Int)).map D.int by rw [List.map_map]; rfl]
      refine x_sortedI ?_
      rw [x_newT, so2]
      refine ⟨x_tyO (ds := C.map dyD) (by simp), x_zipL.mpr ?_⟩
      have ez : zipD (((ofNB L n b).map fun d => ((d.2.2.1 : Nat) : Int)).map D.int) (((ofNB L n b).map fun d => ((d.2.2.2 : Nat) : Int)).map D.int) = (ofNB L n b).map fun d => D.tup [.int (d.2.2.1 : Nat), .int (d.2.2.2 : Nat)] := by
        unfold zipD
        rw [List.map_map, List.map_map, List.zipWith_map, List.zipWith_self]
        rfl
      rw [ez]
      have hol : (ofNB L n b).length ≤ L.length := List.length_filter_le _ _
      refine lc_on (F := fun d : Dy => D.tup [.int (d.2.2.1 : Nat), .int (d.2.2.2 : Nat)]) (fun d : Dy => some (dyD d)) trivial (by omega) (fun d hd acc R hac hR => ⟨_, x_b2, ?_⟩) ?_
      · simp only [wipeD, ↓x_eqSS, ↓x_neSS, ↓gKGet, ↓x_kget, ↓x_ixE, at_last, ↓x_appE, ↓x_tyE, ↓x_itE, ↓x_lenE, ↓x_nePr, ↓x_eqPr, ↓x_neE, ↓x_lenr, ↓x_lenrI, ↓gRev, ↓x_par3, ↓x_par33, ↓x_fld, ↓x_fset, ↓x_mkF, ↓x_mk, ↓x_meth, ↓x_fldO, ↓x_fsetE, ↓x_fldE, ↓x_methO, ↓x_isiCO, ↓x_isiCN, ↓x_isiCT, ↓x_isiCLi, ↓x_isiCS, ↓x_isiCI, ↓x_own, ↓x_eqT2, ↓x_neT2, ↓x_neL4, ↓x_eqLN, ↓x_neNil, ↓x_gset, ↓x_lc, ↓x_for, ↓x_it, ↓x_rn1, ↓x_rn2, ↓x_enu, ↓x_zip, ↓x_itS, ↓x_itL, ↓x_itK, ↓x_itT, ↓x_rn1I, ↓x_rn2I, ↓x_enuL, ↓x_enuK, ↓x_zipL, ↓x_ixS0, ↓x_ixL, ↓x_ixT, ↓x_ixK, x_at0, x_at1, x_at2, x_at3, x_at4, ↓x_set00, ↓x_set01, ↓x_set02, ↓x_aug1, ↓x_aug2, ↓x_aug3, ↓x_aug4, ↓x_aug5, ↓x_aug6, ↓x_aug7, ↓x_aug8, ↓x_aug9, ↓x_aug10, ↓x_aug11, ↓x_aug12, ↓x_aug13, ↓x_aug14, ↓x_aug15, ↓x_aug16, ↓x_aug17, ↓x_aug18, ↓x_aug19, ↓x_aug20, ↓x_aug21, ↓x_aug22, ↓x_aug23, Int.reduceToNat, Int.reducePow, ↓gSeq, ↓gIfS, ↓gSet, ↓gAsg, ↓x_par, ↓x_par2, ↓gRet, ↓gRetN, ↓gNext, ↓gDrop, ↓gBreak, ↓gCont, ↓gDead, ↓gCB, ↓gB2, ↓gU, ↓gC, ↓Dl.gCons, ↓Dl.gNil, ↓Dl.gTup, ↓Dl.gLst, ↓gTest, ↓gOrB, ↓gAndB, ↓gNotB, ↓gAndV, ↓gOrV, ↓gNotV, ↓gIf, ↓gIx, ↓gSl, ↓gPart, ↓gNoP, ↓gMt, ↓gCall, ↓gArgs, ↓gIsN, ↓gNotN, ↓gChain, ↓x_fmtS, ↓x_afS, ↓x_afI, ↓x_js0, ↓x_jsc, ↓gJoined, ↓gYes, ↓x_bnm, ↓x_btp, ↓x_bn, ↓x_bc, ↓x_nnN, ↓x_nnI, ↓x_nnS, ↓x_nnB, ↓x_nnT, ↓x_nnL, ↓x_nnO, ↓x_nnl, ↓x_tyS, ↓x_tyL, ↓x_i2, ↓aSub, ↓aFdiv, ↓aMod, ↓aPow, ↓aShr, ↓aLt, ↓aLe, ↓aGt, ↓aGe, ↓x_addI, ↓x_addS, ↓x_mulI, ↓x_iaddS, ↓x_iaddI, ↓x_neg, ↓x_eqI, ↓x_neI, ↓x_eqS, ↓x_neS, ↓x_eqB, ↓x_neB, ↓x_eqNI, ↓x_neNI, ↓x_lenS, ↓x_lenL_l, ↓x_lenL_k, ↓x_lenL_t, ↓x_str, ↓x_intI, ↓x_intB, ↓x_divmod, ↓x_max2, ↓x_min2, ↓x_ixS, ↓x_slS, ↓x_slT, ↓x_slL_l, ↓x_slL_k, ↓x_inS, ↓x_newT, ↓x_newF, ↓x_si, ↓x_s1, ↓x_s0, ↓x_rpart, ↓x_part, ↓x_a1, ↓x_a2, ↓x_isiStr, ↓x_isiInt, ↓x_isiIntB, ↓x_isiIntS, ↓x_isiBB, ↓x_isiBI, ↓x_isiStrI, ↓x_isiNonI, ↓x_isiNonS, ↓x_isiT, ↓x_isiL, ↓x_var0, ↓x_varS, ↓x_ex, ↓x_aug0, gat, pick, Option.some.injEq, D.bl.injEq, D.int.injEq, D.str.injEq, D.tup.injEq, D.lst.injEq, List.cons.injEq, and_true, true_and, List.set_cons_zero, List.set_cons_succ, List.length_cons, List.length_nil, List.filterMap_cons, List.filterMap_nil, List.getElem?_cons_zero, List.getElem?_cons_succ, Option.bind_some, ↓reduceIte, if_true, if_false, Bool.false_eq_true, Bool.true_eq_false, decide_eq_true_eq, beq_self_eq_true, Bool.not_true, Bool.not_false, Bool.not_eq_true', decide_eq_false_iff_not, exists_eq_left', exists_eq_left, exists_eq, ↓x_dnT, ↓x_dnF, ↓gAsgL, ↓gMMDef, ↓gDSet, ↓gSItems, ↓x_nilL, ↓x_nilE, List.isEmpty_nil, List.isEmpty_cons, Bool.true_xor, Bool.false_xor, ↓gSortSet, ↓gLenFz, ↓gOrT, ↓gAndT, ↓gTryAs, ↓gTryO, ↓gRaise, ↓gCallX, ↓gMethX, ↓gMakeX, ↓gFldX, ↓x_inXs, Bool.false_xor, Bool.true_xor, ↓gOrS, ↓x_fmtRS, ↓x_afRS, ↓x_afRI, ↓x_stO, ↓x_zipS, ↓x_zipE, ↓x_zipSL, ↓x_zipST, ↓x_zipEL, ↓x_augix, ↓x_isB, ↓x_notB, ↓gLR1, ↓gLR2, ↓gDIxT, ↓gDGt1T, ↓gDSetT, ↓gDNewT, ↓gDIx, ↓gDGt1, ↓gDGt2, ↓gDIn, ↓gDSetd, ↓gDPop1, ↓gDPop2, ↓gTIdx, ↓gLKeys, ↓gDisp, ↓gAsgT, ↓gFldAug, ↓gts, ↓gts0, ↓gnm, ↓gfl, ↓gds, ↓x_lenSt, ↓x_enumK, ↓x_enumKL, ↓gSortK, ↓gSortKR, ↓gFrD, ↓gFzD]
        have he := (of_mem.mp hd).2
        refine ⟨by decide, hac, ?_⟩
        have e : dyD d = D.tup [D.str n, D.str b, D.int (d.2.2.1 : Nat), D.int (d.2.2.2 : Nat)] := by rw [← he.1, ← he.2]
        rw [← e]
        exact hR
      rw [fm_some, x_newT]
      refine ⟨S.length, C.map dyD, _, (ofNB L n b).map dyD, rfl, rfl, by simp, rfl, by rw [List.length_map, List.length_map]; omega, ?_⟩
      rw [List.set_append_right _ _ (Nat.le_refl _), Nat.sub_self, ← List.map_append]
      exact ⟨rfl, _, _, _, _, _, _, rfl, rfl, rfl, rfl, rfl, rfl⟩
    · rintro ρ S' ⟨rfl, x3, x4, x5, x6, x7, x8, rfl⟩
      refine ⟨trivial, ?_⟩
      exact ⟨by simp, _, _, _, _, _, _, _, rfl⟩
  · rintro ρ S' ⟨rfl, x2, x3, x4, x5, x6, x7, x8, rfl⟩
    refine ⟨trivial, ?_⟩
    rw [List.length_map, List.take_length]
    simp only [↓x_eqSS, ↓x_neSS, ↓gKGet, ↓x_kget, ↓x_ixE, at_last, ↓x_appE, ↓x_tyE, ↓x_itE, ↓x_lenE, ↓x_nePr, ↓x_eqPr, ↓x_neE, ↓x_lenr, ↓x_lenrI, ↓gRev, ↓x_par3, ↓x_par33, ↓x_fld, ↓x_fset, ↓x_mkF, ↓x_mk, ↓x_meth, ↓x_fldO, ↓x_fsetE, ↓x_fldE, ↓x_methO, ↓x_isiCO, ↓x_isiCN, ↓x_isiCT, ↓x_isiCLi, ↓x_isiCS, ↓x_isiCI, ↓x_own, ↓x_eqT2, ↓x_neT2, ↓x_neL4, ↓x_eqLN, ↓x_neNil, ↓x_gset, ↓x_lc, ↓x_for, ↓x_it, ↓x_rn1, ↓x_rn2, ↓x_enu, ↓x_zip, ↓x_itS, ↓x_itL, ↓x_itK, ↓x_itT, ↓x_rn1I, ↓x_rn2I, ↓x_enuL, ↓x_enuK, ↓x_zipL, ↓x_ixS0, ↓x_ixL, ↓x_ixT, ↓x_ixK, x_at0, x_at1, x_at2, x_at3, x_at4, ↓x_set00, ↓x_set01, ↓x_set02, ↓x_aug1, ↓x_aug2, ↓x_aug3, ↓x_aug4, ↓x_aug5, ↓x_aug6, ↓x_aug7, ↓x_aug8, ↓x_aug9, ↓x_aug10, ↓x_aug11, ↓x_aug12, ↓x_aug13, ↓x_aug14, ↓x_aug15, ↓x_aug16, ↓x_aug17, ↓x_aug18, ↓x_aug19, ↓x_aug20, ↓x_aug21, ↓x_aug22, ↓x_aug23, Int.reduceToNat, Int.reducePow, ↓gSeq, ↓gIfS, ↓gSet, ↓gAsg, ↓x_par, ↓x_par2, ↓gRet, ↓gRetN, ↓gNext, ↓gDrop, ↓gBreak, ↓gCont, ↓gDead, ↓gCB, ↓gB2, ↓gU, ↓gC, ↓Dl.gCons, ↓Dl.gNil, ↓Dl.gTup, ↓Dl.gLst, ↓gTest, ↓gOrB, ↓gAndB, ↓gNotB, ↓gAndV, ↓gOrV, ↓gNotV, ↓gIf, ↓gIx, ↓gSl, ↓gPart, ↓gNoP, ↓gMt, ↓gCall, ↓gArgs, ↓gIsN, ↓gNotN, ↓gChain, ↓x_fmtS, ↓x_afS, ↓x_afI, ↓x_js0, ↓x_jsc, ↓gJoined, ↓gYes, ↓x_bnm, ↓x_btp, ↓x_bn, ↓x_bc, ↓x_nnN, ↓x_nnI, ↓x_nnS, ↓x_nnB, ↓x_nnT, ↓x_nnL, ↓x_nnO, ↓x_nnl, ↓x_tyS, ↓x_tyL, ↓x_i2, ↓aSub, ↓aFdiv, ↓aMod, ↓aPow, ↓aShr, ↓aLt, ↓aLe, ↓aGt, ↓aGe, ↓x_addI, ↓x_addS, ↓x_mulI, ↓x_iaddS, ↓x_iaddI, ↓x_neg, ↓x_eqI, ↓x_neI, ↓x_eqS, ↓x_neS, ↓x_eqB, ↓x_neB, ↓x_eqNI, ↓x_neNI, ↓x_lenS, ↓x_lenL_l, ↓x_lenL_k, ↓x_lenL_t, ↓x_str, ↓x_intI, ↓x_intB, ↓x_divmod, ↓x_max2, ↓x_min2, ↓x_ixS, ↓x_slS, ↓x_slT, ↓x_slL_l, ↓x_slL_k, ↓x_inS, ↓x_newT, ↓x_newF, ↓x_si, ↓x_s1, ↓x_s0, ↓x_rpart, ↓x_part, ↓x_a1, ↓x_a2, ↓x_isiStr, ↓x_isiInt, ↓x_isiIntB, ↓x_isiIntS, ↓x_isiBB, ↓x_isiBI, ↓x_isiStrI, ↓x_isiNonI, ↓x_isiNonS, ↓x_isiT, ↓x_isiL, ↓x_var0, ↓x_varS, ↓x_ex, ↓x_aug0, gat, pick, Option.some.injEq, D.bl.injEq, D.int.injEq, D.str.injEq, D.tup.injEq, D.lst.injEq, List.cons.injEq, and_true, true_and, List.set_cons_zero, List.set_cons_succ, List.length_cons, List.length_nil, List.filterMap_cons, List.filterMap_nil, List.getElem?_cons_zero, List.getElem?_cons_succ, Option.bind_some, ↓reduceIte, if_true, if_false, Bool.false_eq_true, Bool.true_eq_false, decide_eq_true_eq, beq_self_eq_true, Bool.not_true, Bool.not_false, Bool.not_eq_true', decide_eq_false_iff_not, exists_eq_left', exists_eq_left, exists_eq, ↓x_dnT, ↓x_dnF, ↓gAsgL, ↓gMMDef, ↓gDSet, ↓gSItems, ↓x_nilL, ↓x_nilE, List.isEmpty_nil, List.isEmpty_cons, Bool.true_xor, Bool.false_xor, ↓gSortSet, ↓gLenFz, ↓gOrT, ↓gAndT, ↓gTryAs, ↓gTryO, ↓gRaise, ↓gCallX, ↓gMethX, ↓gMakeX, ↓gFldX, ↓x_inXs, Bool.false_xor, Bool.true_xor, ↓gOrS, ↓x_fmtRS, ↓x_afRS, ↓x_afRI, ↓x_stO, ↓x_zipS, ↓x_zipE, ↓x_zipSL, ↓x_zipST, ↓x_zipEL, ↓x_augix, ↓x_isB, ↓x_notB, ↓gLR1, ↓gLR2, ↓gDIxT, ↓gDGt1T, ↓gDSetT, ↓gDNewT, ↓gDIx, ↓gDGt1, ↓gDGt2, ↓gDIn, ↓gDSetd, ↓gDPop1, ↓gDPop2, ↓gTIdx, ↓gLKeys, ↓gDisp, ↓gAsgT, ↓gFldAug, ↓gts, ↓gts0, ↓gnm, ↓gfl, ↓gds, ↓x_lenSt, ↓x_enumK, ↓x_enumKL, ↓gSortK, ↓gSortKR, ↓gFrD, ↓gFzD]
    refine ⟨_, by simp only [seqOf, List.getElem?_append_right (Nat.le_refl S.length), Nat.sub_self]; rfl, rfl, ?_⟩
    refine keys_g (f := kyD) _ (fun r hr q' hq => ?_) ?_
    · simp only [↓x_eqSS, ↓x_neSS, ↓gKGet, ↓x_kget, ↓x_ixE, at_last, ↓x_appE, ↓x_tyE, ↓x_itE, ↓x_lenE, ↓x_nePr, ↓x_eqPr, ↓x_neE, ↓x_lenr, ↓x_lenrI, ↓gRev, ↓x_par3, ↓x_par33, ↓x_fld, ↓x_fset, ↓x_mkF, ↓x_mk, ↓x_meth, ↓x_fldO, ↓x_fsetE, ↓x_fldE, ↓x_methO, ↓x_isiCO, ↓x_isiCN, ↓x_isiCT, ↓x_isiCLi, ↓x_isiCS, ↓x_isiCI, ↓x_own, ↓x_eqT2, ↓x_neT2, ↓x_neL4, ↓x_eqLN, ↓x_neNil, ↓x_gset, ↓x_lc, ↓x_for, ↓x_it, ↓x_rn1, ↓x_rn2, ↓x_enu, ↓x_zip, ↓x_itS, ↓x_itL, ↓x_itK, ↓x_itT, ↓x_rn1I, ↓x_rn2I, ↓x_enuL, ↓x_enuK, ↓x_zipL, ↓x_ixS0, ↓x_ixL, ↓x_ixT, ↓x_ixK, x_at0, x_at1, x_at2, x_at3, x_at4, ↓x_set00, ↓x_set01, ↓x_set02, ↓x_aug1, ↓x_aug2, ↓x_aug3, ↓x_aug4, ↓x_aug5, ↓x_aug6, ↓x_aug7, ↓x_aug8, ↓x_aug9, ↓x_aug10, ↓x_aug11, ↓x_aug12, ↓x_aug13, ↓x_aug14, ↓x_aug15, ↓x_aug16, ↓x_aug17, ↓x_aug18, ↓x_aug19, ↓x_aug20, ↓x_aug21, ↓x_aug22, ↓x_aug23, Int.reduceToNat, Int.reducePow, ↓gSeq, ↓gIfS, ↓gSet, ↓gAsg, ↓x_par, ↓x_par2, ↓gRet, ↓gRetN, ↓gNext, ↓gDrop, ↓gBreak, ↓gCont, ↓gDead, ↓gCB, ↓gB2, ↓gU, ↓gC, ↓Dl.gCons, ↓Dl.gNil, ↓Dl.gTup, ↓Dl.gLst, ↓gTest, ↓gOrB, ↓gAndB, ↓gNotB, ↓gAndV, ↓gOrV, ↓gNotV, ↓gIf, ↓gIx, ↓gSl, ↓gPart, ↓gNoP, ↓gMt, ↓gCall, ↓gArgs, ↓gIsN, ↓gNotN, ↓gChain, ↓x_fmtS, ↓x_afS, ↓x_afI, ↓x_js0, ↓x_jsc, ↓gJoined, ↓gYes, ↓x_bnm, ↓x_btp, ↓x_bn, ↓x_bc, ↓x_nnN, ↓x_nnI, ↓x_nnS, ↓x_nnB, ↓x_nnT, ↓x_nnL, ↓x_nnO, ↓x_nnl, ↓x_tyS, ↓x_tyL, ↓x_i2, ↓aSub, ↓aFdiv, ↓aMod, ↓aPow, ↓aShr, ↓aLt, ↓aLe, ↓aGt, ↓aGe, ↓x_addI, ↓x_addS, ↓x_mulI, ↓x_iaddS, ↓x_iaddI, ↓x_neg, ↓x_eqI, ↓x_neI, ↓x_eqS, ↓x_neS, ↓x_eqB, ↓x_neB, ↓x_eqNI, ↓x_neNI, ↓x_lenS, ↓x_lenL_l, ↓x_lenL_k, ↓x_lenL_t, ↓x_str, ↓x_intI, ↓x_intB, ↓x_divmod, ↓x_max2, ↓x_min2, ↓x_ixS, ↓x_slS, ↓x_slT, ↓x_slL_l, ↓x_slL_k, ↓x_inS, ↓x_newT, ↓x_newF, ↓x_si, ↓x_s1, ↓x_s0, ↓x_rpart, ↓x_part, ↓x_a1, ↓x_a2, ↓x_isiStr, ↓x_isiInt, ↓x_isiIntB, ↓x_isiIntS, ↓x_isiBB, ↓x_isiBI, ↓x_isiStrI, ↓x_isiNonI, ↓x_isiNonS, ↓x_isiT, ↓x_isiL, ↓x_var0, ↓x_varS, ↓x_ex, ↓x_aug0, gat, pick, Option.some.injEq, D.bl.injEq, D.int.injEq, D.str.injEq, D.tup.injEq, D.lst.injEq, List.cons.injEq, and_true, true_and, List.set_cons_zero, List.set_cons_succ, List.length_cons, List.length_nil, List.filterMap_cons, List.filterMap_nil, List.getElem?_cons_zero, List.getElem?_cons_succ, Option.bind_some, ↓reduceIte, if_true, if_false, Bool.false_eq_true, Bool.true_eq_false, decide_eq_true_eq, beq_self_eq_true, Bool.not_true, Bool.not_false, Bool.not_eq_true', decide_eq_false_iff_not, exists_eq_left', exists_eq_left, exists_eq, ↓x_dnT, ↓x_dnF, ↓gAsgL, ↓gMMDef, ↓gDSet, ↓gSItems, ↓x_nilL, ↓x_nilE, List.isEmpty_nil, List.isEmpty_cons, Bool.true_xor, Bool.false_xor, ↓gSortSet, ↓gLenFz, ↓gOrT, ↓gAndT, ↓gTryAs, ↓gTryO, ↓gRaise, ↓gCallX, ↓gMethX, ↓gMakeX, ↓gFldX, ↓x_inXs, Bool.false_xor, Bool.true_xor, ↓gOrS, ↓x_fmtRS, ↓x_afRS, ↓x_afRI, ↓x_stO, ↓x_zipS, ↓x_zipE, ↓x_zipSL, ↓x_zipST, ↓x_zipEL, ↓x_augix, ↓x_isB, ↓x_notB, ↓gLR1, ↓gLR2, ↓gDIxT, ↓gDGt1T, ↓gDSetT, ↓gDNewT, ↓gDIx, ↓gDGt1, ↓gDGt2, ↓gDIn, ↓gDSetd, ↓gDPop1, ↓gDPop2, ↓gTIdx, ↓gLKeys, ↓gDisp, ↓gAsgT, ↓gFldAug, ↓gts, ↓gts0, ↓gnm, ↓gfl, ↓gds, ↓x_lenSt, ↓x_enumK, ↓x_enumKL, ↓gSortK, ↓gSortKR, ↓gFrD, ↓gFzD]
      exact ⟨(ba_ok (hL.ba r (du_mem hr))).1, by decide +kernel, by decide, hq⟩
    refine x_byD ?_
    rw [x_newT]
    exact (x_finL hs).mpr ⟨und_dy, h ns hN⟩
end
end Lw
namespace Lw
open PySem L2 Dl
abbrev rwY (r : Rw) : PyData := .tuple [.int (r.m : Nat), .str r.w, .str r.n]
theorem rows_py : ∀ R : List Rw, toPys (R.map rwD) = some (R.map rwY)
  | [] => by simp [toPys]
  | r :: R => by simp [toPys, toPy, rows_py R]
theorem dep_rows : ∀ R : List Rw, PyData.depthAll (R.map rwY) ≤ 1
  | [] => by simp [PyData.depthAll]
  | p :: P => by
    have := dep_rows P
    simp [PyData.depthAll, PyData.depth]
    omega
theorem shb_r {R : List Rw} (h : ∀ r ∈ R, RwOk r) : PyData.showableAll (R.map rwY) = true := by
  induction R with
  | nil => rfl
  | cons r R ih =>
    rw [List.map_cons, PyData.showableAll, ih fun q hq => h q (List.mem_cons_of_mem _ hq), Bool.and_true]
    have h1 := (h r List.mem_cons_self).1
    have := Mt.log2_small (i := (r.m : Nat)) (by omega) (by omega)
    rw [Int.natAbs_natCast] at this
    simp [PyData.showable, PyData.showableAll, this]
theorem nod_r : ∀ R : List Rw, PyData.hasDictAll (R.map rwY) = false
  | [] => rfl
  | r :: R => by simp [PyData.hasDictAll, PyData.hasDict, nod_r R]
theorem big_r' {R : List Rw} (h : ∀ r ∈ R, RwOk r) (hl : R.length ≤ 1000) : (PyData.list (R.map rwY)).shown.length ≤ 402002 := by
  have one : ∀ p ∈ R.map rwY, p.shown.length ≤ 400 := fun p hp => by
    obtain ⟨r, hr, rfl⟩ := List.mem_map.mp hp
    have hok := h r hr
    have hw : (PyData.str r.w).shown.length ≤ 100 := Nat.le_trans (shown_str (wd_ok hok.2.1).1 (wd_ok hok.2.1).2) (by decide)
    have hn : (PyData.str r.n).shown.length ≤ 100 := Nat.le_trans (shown_str (nm_ok hok.2.2) hok.2.2.2.1) (by decide)
    have hm : (PyData.int (r.m : Nat)).shown.length ≤ 100 := by
      rw [PyData.shown]
      show (PySem.Str.ofString (toString ((r.m : Nat) : Int))).length ≤ 100
      rw [PySem.ofString_length]
      have := hok.1
      exact Nat.le_trans (PySem.int_text_length_le10 (k := 8) (by decide) (by omega)) (by decide)
    have three : ∀ p ∈ [PyData.int (r.m : Nat), .str r.w, .str r.n], p.shown.length ≤ 100 := fun p hp => by
      simp only [List.mem_cons, List.not_mem_nil, or_false] at hp
      rcases hp with rfl | rfl | rfl
      · exact hm
      · exact hw
      · exact hn
    exact Nat.le_trans (shown_tuple three) (show (100 + 2) * 3 + 3 ≤ 400 by decide)
  have h1 := shown_list one
  rw [List.length_map] at h1
  have h3 : 1000000 ≤ sizeLine := by decide
  have h4 := Nat.mul_le_mul_left (400 + 2) hl
  omega
def keptY (N F : List Rw) : PyData := .list [.list (N.map rwY), .list (F.map rwY)]
theorem show_kept {N F : List Rw} {S : Sto} {q : D → Sto → Prop} (h1 : ∀ r ∈ N, RwOk r) (h2 : ∀ r ∈ F, RwOk r) (l1 : N.length ≤ 1000) (l2 : F.length ≤ 1000) (hq : q (.str (keptY N F).shown) S) : aRepr (.lst [.lst (N.map rwD), .lst (F.map rwD)]) S q := by
  refine (x_repr (p := keptY N F) (by simp [keptY, toPyS, toPy, toPys, rows_py])).mpr ⟨?_, ?_, ?_, ?_, hq⟩
  · simp [keptY, PyData.showable, PyData.showableAll, shb_r h1, shb_r h2]
  · simp [keptY, PyData.hasDict, PyData.hasDictAll, nod_r]
  · have := dep_rows N
    have := dep_rows F
    simp only [keptY, PyData.depth, PyData.depthAll]
    omega
  · unfold keptY
    have b1 := big_r' h1 l1
    have b2 := big_r' h2 l2
    have two : ∀ p ∈ [PyData.list (N.map rwY), .list (F.map rwY)], p.shown.length ≤ 402002 := fun p hp => by
      rcases List.mem_cons.mp hp with rfl | hp
      · exact b1
      · rw [List.mem_singleton.mp hp]; exact b2
    exact Nat.le_trans (shown_list two) (show (402002 + 2) * 2 + 2 ≤ sizeLine by decide)
abbrev dyY (d : Dy) : PyData := .tuple [.str d.1, .str d.2.1, .int (d.2.2.1 : Nat), .int (d.2.2.2 : Nat)]
theorem dys_py : ∀ X : List Dy, toPys (X.map dyD) = some (X.map dyY)
  | [] => rfl
  | d :: X => by rw [List.map_cons, List.map_cons, toPys, dys_py X]; simp [toPy, toPys]
def DyS (d : Dy) : Prop := NmOk d.1 ∧ BaOk d.2.1 ∧ d.2.2.1 ≤ 100000 ∧ d.2.2.2 ≤ 100000
theorem shb_d {X : List Dy} (h : ∀ d ∈ X, DyS d) : PyData.showableAll (X.map dyY) = true := by
  induction X with
  | nil => rfl
  | cons d X ih =>
    rw [List.map_cons, PyData.showableAll, ih fun q hq => h q (List.mem_cons_of_mem _ hq), Bool.and_true]
    have h1 := h d List.mem_cons_self
    have l1 := Mt.log2_small (i := (d.2.2.1 : Nat)) (by omega) (by have := h1.2.2.1; omega)
    have l2 := Mt.log2_small (i := (d.2.2.2 : Nat)) (by omega) (by have := h1.2.2.2; omega)
    rw [Int.natAbs_natCast] at l1 l2
    simp [PyData.showable, PyData.showableAll, l1, l2]
theorem nod_d : ∀ X : List Dy, PyData.hasDictAll (X.map dyY) = false
  | [] => rfl
  | r :: R => by simp [PyData.hasDictAll, PyData.hasDict, nod_d R]
theorem dep_d : ∀ X : List Dy, PyData.depthAll (X.map dyY) ≤ 1
  | [] => by simp [PyData.depthAll]
  | d :: X => by have := dep_d X; simp [PyData.depthAll, PyData.depth]; omega
theorem int_sh {m : Nat} (h : m ≤ 1000000) : (PyData.int (m : Nat)).shown.length ≤ 100 := by
  rw [PyData.shown]
  show (PySem.Str.ofString (toString ((m : Nat) : Int))).length ≤ 100
  rw [PySem.ofString_length]
  exact Nat.le_trans (PySem.int_text_length_le10 (k := 8) (by decide) (by omega)) (by decide)
theorem big_d {X : List Dy} (h : ∀ d ∈ X, DyS d) (hl : X.length ≤ 200) : (PyData.list (X.map dyY)).shown.length ≤ sizeLine := by
  have one : ∀ p ∈ X.map dyY, p.shown.length ≤ 500 := fun p hp => by
    obtain ⟨d, hd, rfl⟩ := List.mem_map.mp hp
    obtain ⟨h1, h2, h3, h4⟩ := h d hd
    have hn : (PyData.str d.1).shown.length ≤ 100 := Nat.le_trans (shown_str (nm_ok h1) h1.2.1) (by decide)
    have hb : (PyData.str d.2.1).shown.length ≤ 100 := Nat.le_trans (shown_str (ba_ok h2).1 (ba_ok h2).2) (by decide)
    have four : ∀ p ∈ [PyData.str d.1, .str d.2.1, .int (d.2.2.1 : Nat), .int (d.2.2.2 : Nat)], p.shown.length ≤ 100 := fun p hp => by
      simp only [List.mem_cons, List.not_mem_nil, or_false] at hp
      rcases hp with rfl | rfl | rfl | rfl
      · exact hn
      · exact hb
      · exact int_sh (by omega)
      · exact int_sh (by omega)
    exact Nat.le_trans (shown_tuple four) (show (100 + 2) * 4 + 3 ≤ 500 by decide)
  have h1 := shown_list one
  rw [List.length_map] at h1
  have h3 : 1000000 ≤ sizeLine := by decide
  have h4 := Nat.mul_le_mul_left (500 + 2) hl
  omega
theorem show_dy {X : List Dy} {d : D} {S : Sto} {q : D → Sto → Prop} (h : ∀ d ∈ X, DyS d) (hl : X.length ≤ 200) (hd : toPyS S d = some (.list (X.map dyY))) (hq : q (.str (PyData.list (X.map dyY)).shown) S) : aRepr d S q :=
  (x_repr hd).mpr ⟨by rw [PyData.showable]; exact shb_d h, by rw [PyData.hasDict]; exact nod_d X, by rw [PyData.depth]; have := dep_d X; omega, big_d h hl, hq⟩
/-- what is due is fit to be shown -/
theorem due_ok {L D' : List Dy} (hL : DyOk L) (hp : D'.Perm L) {ns : List Str} (hN : NsOf L ns) : (∀ d ∈ dueL L ns, DyS d) ∧ (dueL L ns).length ≤ 200 := by
  constructor
  · intro d hd
    have hd := du_mem ((List.mergeSort_perm _ _).mem_iff.mp hd)
    have h := hL.le d hd
    exact ⟨hL.nm d hd, hL.ba d hd, by omega, by omega⟩
  · rw [← crs_due hL hp hN]
    unfold crs crAll
    rw [List.length_map, List.length_mergeSort, List.length_append]
    have h1 := crF_len (rowsOf D' "near") (rowsOf D' "far") 0
    have h2 := crF_len (rowsOf D' "far") (rowsOf D' "near") 1
    have h3 : ∀ s, (rowsOf D' s).length ≤ 61 := fun s => by
      rw [(rows_perm D' s).length_eq, List.length_map, hp.length_eq]
      exact hL.len
    have h4 := h3 "near"
    have h5 := h3 "far"
    omega
end Lw
namespace Lw
open PySem L2 Dl
section
variable {P : Program} {w : World} {K : PySem.W.Frag} {mg : Str → Option Value} {base : Heap} {a : Ad}
abbrev keptT (D' : List Dy) : Str := (keptY (rowsOf D' "near") (rowsOf D' "far")).shown
abbrev dueT (X : List Dy) : Str := (PyData.list (X.map dyY)).shown
theorem c151 (T : Txt K mg a) {E : DE} {o : Option MO} {G : Sto} {L D' : List Dy} {ns : List Str} {x0 x2 x3 x4 x9 x10 : Option D} (hL : DyOk L) (hp : D'.Perm L) (hN : NsOf L ns) (h : ∀ G' x9, E.nx [x0, some (.loc 0), x2, x3, x4, some (bkV a "near" (rowsOf D' "near")), some (bkV a "far" (rowsOf D' "far")), some (.str (dueT (dueL L ns))), some (.str (keptT D')), x9, x10] (o :: G')) : g_law_c151 K a E [x0, some (.loc 0), x2, x3, x4, some (bkV a "near" (rowsOf D' "near")), some (bkV a "far" (rowsOf D' "far")), some (.str (dueT (dueL L ns))), some (.str (keptT D')), x9, x10] (o :: G) := by
  have hc := rows_cr hL hp
  have hcr := crs_due hL hp hN
  obtain ⟨hX1, hX2⟩ := due_ok hL hp hN
  have hz : 8000 ≤ sizeLine := by decide
  simp only [g_law_c151, ↓x_eqSS, ↓x_neSS, ↓gKGet, ↓x_kget, ↓x_ixE, at_last, ↓x_appE, ↓x_tyE, ↓x_itE, ↓x_lenE, ↓x_nePr, ↓x_eqPr, ↓x_neE, ↓x_lenr, ↓x_lenrI, ↓gRev, ↓x_par3, ↓x_par33, ↓x_fld, ↓x_fset, ↓x_mkF, ↓x_mk, ↓x_meth, ↓x_fldO, ↓x_fsetE, ↓x_fldE, ↓x_methO, ↓x_isiCO, ↓x_isiCN, ↓x_isiCT, ↓x_isiCLi, ↓x_isiCS, ↓x_isiCI, ↓x_own, ↓x_eqT2, ↓x_neT2, ↓x_neL4, ↓x_eqLN, ↓x_neNil, ↓x_gset, ↓x_lc, ↓x_for, ↓x_it, ↓x_rn1, ↓x_rn2, ↓x_enu, ↓x_zip, ↓x_itS, ↓x_itL, ↓x_itK, ↓x_itT, ↓x_rn1I, ↓x_rn2I, ↓x_enuL, ↓x_enuK, ↓x_zipL, ↓x_ixS0, ↓x_ixL, ↓x_ixT, ↓x_ixK, x_at0, x_at1, x_at2, x_at3, x_at4, ↓x_set00, ↓x_set01, ↓x_set02, ↓x_aug1, ↓x_aug2, ↓x_aug3, ↓x_aug4, ↓x_aug5, ↓x_aug6, ↓x_aug7, ↓x_aug8, ↓x_aug9, ↓x_aug10, ↓x_aug11, ↓x_aug12, ↓x_aug13, ↓x_aug14, ↓x_aug15, ↓x_aug16, ↓x_aug17, ↓x_aug18, ↓x_aug19, ↓x_aug20, ↓x_aug21, ↓x_aug22, ↓x_aug23, Int.reduceToNat, Int.reducePow, ↓gSeq, ↓gIfS, ↓gSet, ↓gAsg, ↓x_par, ↓x_par2, ↓gRet, ↓gRetN, ↓gNext, ↓gDrop, ↓gBreak, ↓gCont, ↓gDead, ↓gCB, ↓gB2, ↓gU, ↓gC, ↓Dl.gCons, ↓Dl.gNil, ↓Dl.gTup, ↓Dl.gLst, ↓gTest, ↓gOrB, ↓gAndB, ↓gNotB, ↓gAndV, ↓gOrV, ↓gNotV, ↓gIf, ↓gIx, ↓gSl, ↓gPart, ↓gNoP, ↓gMt, ↓gCall, ↓gArgs, ↓gIsN, ↓gNotN, ↓gChain, ↓x_fmtS, ↓x_afS, ↓x_afI, ↓x_js0, ↓x_jsc, ↓gJoined, ↓gYes, ↓x_bnm, ↓x_btp, ↓x_bn, ↓x_bc, ↓x_nnN, ↓x_nnI, ↓x_nnS, ↓x_nnB, ↓x_nnT, ↓x_nnL, ↓x_nnO, ↓x_nnl, ↓x_tyS, ↓x_tyL, ↓x_i2, ↓aSub, ↓aFdiv, ↓aMod, ↓aPow, ↓aShr, ↓aLt, ↓aLe, ↓aGt, ↓aGe, ↓x_addI, ↓x_addS, ↓x_mulI, ↓x_iaddS, ↓x_iaddI, ↓x_neg, ↓x_eqI, ↓x_neI, ↓x_eqS, ↓x_neS, ↓x_eqB, ↓x_neB, ↓x_eqNI, ↓x_neNI, ↓x_lenS, ↓x_lenL_l, ↓x_lenL_k, ↓x_lenL_t, ↓x_str, ↓x_intI, ↓x_intB, ↓x_divmod, ↓x_max2, ↓x_min2, ↓x_ixS, ↓x_slS, ↓x_slT, ↓x_slL_l, ↓x_slL_k, ↓x_inS, ↓x_newT, ↓x_newF, ↓x_si, ↓x_s1, ↓x_s0, ↓x_rpart, ↓x_part, ↓x_a1, ↓x_a2, ↓x_isiStr, ↓x_isiInt, ↓x_isiIntB, ↓x_isiIntS, ↓x_isiBB, ↓x_isiBI, ↓x_isiStrI, ↓x_isiNonI, ↓x_isiNonS, ↓x_isiT, ↓x_isiL, ↓x_var0, ↓x_varS, ↓x_ex, ↓x_aug0, gat, pick, Option.some.injEq, D.bl.injEq, D.int.injEq, D.str.injEq, D.tup.injEq, D.lst.injEq, List.cons.injEq, and_true, true_and, List.set_cons_zero, List.set_cons_succ, List.length_cons, List.length_nil, List.filterMap_cons, List.filterMap_nil, List.getElem?_cons_zero, List.getElem?_cons_succ, Option.bind_some, ↓reduceIte, if_true, if_false, Bool.false_eq_true, Bool.true_eq_false, decide_eq_true_eq, beq_self_eq_true, Bool.not_true, Bool.not_false, Bool.not_eq_true', decide_eq_false_iff_not, exists_eq_left', exists_eq_left, exists_eq, ↓x_dnT, ↓x_dnF, ↓gAsgL, ↓gMMDef, ↓gDSet, ↓gSItems, ↓x_nilL, ↓x_nilE, List.isEmpty_nil, List.isEmpty_cons, Bool.true_xor, Bool.false_xor, ↓gSortSet, ↓gLenFz, ↓gOrT, ↓gAndT, ↓gTryAs, ↓gTryO, ↓gRaise, ↓gCallX, ↓gMethX, ↓gMakeX, ↓gFldX, ↓x_inXs, Bool.false_xor, Bool.true_xor, ↓gOrS, ↓x_fmtRS, ↓x_afRS, ↓x_afRI, ↓x_stO, ↓x_zipS, ↓x_zipE, ↓x_zipSL, ↓x_zipST, ↓x_zipEL, ↓x_augix, ↓x_isB, ↓x_notB, ↓gLR1, ↓gLR2, ↓gDIxT, ↓gDGt1T, ↓gDSetT, ↓gDNewT, ↓gDIx, ↓gDGt1, ↓gDGt2, ↓gDIn, ↓gDSetd, ↓gDPop1, ↓gDPop2, ↓gTIdx, ↓gLKeys, ↓gDisp, ↓gAsgT, ↓gFldAug, ↓gts, ↓gts0, ↓gnm, ↓gfl, ↓gds, ↓x_lenSt, ↓x_enumK, ↓x_enumKL, ↓gSortK, ↓gSortKR, ↓gFrD, ↓gFzD]
  refine ⟨_, _, rfl, _, _, .inl rfl, hc, fun T1 => ⟨_, _, rfl, _, _, .inr rfl, hc, fun T2 => ⟨_, _, rfl, _, _, .inl rfl, hc, fun T3 => ⟨by decide, ?_⟩⟩⟩⟩
  rw [hcr]
  generalize hX : dueL L ns = X at *
  obtain ⟨p1, hp1⟩ : ∃ p, p = (o :: G ++ T1).length := ⟨_, rfl⟩
  obtain ⟨p2, hp2⟩ : ∃ p, p = (o :: G ++ T1 ++ [some (MO.lst (X.map dyD))] ++ T2).length := ⟨_, rfl⟩
  obtain ⟨p3, hp3⟩ : ∃ p, p = (o :: G ++ T1 ++ [some (MO.lst (X.map dyD))] ++ T2 ++ [some (MO.lst (X.map dyD))] ++ T3).length := ⟨_, rfl⟩
  rw [← hp1, ← hp2, ← hp3]
  have l1 : 1 ≤ p1 := by rw [hp1]; simp only [List.length_append, List.length_cons]; omega
  have l2 : p1 < p2 := by rw [hp1, hp2]; simp only [List.length_append, List.length_cons, List.length_nil]; omega
  have l3 : p2 < p3 := by rw [hp2, hp3]; simp only [List.length_append, List.length_cons, List.length_nil]; omega
  generalize hS : o :: G ++ T1 ++ [some (MO.lst (X.map dyD))] ++ T2 ++ [some (MO.lst (X.map dyD))] ++ T3 ++ [some (MO.lst (X.map dyD))] = S1
  have s0 : ∃ G', S1 = o :: G' := by rw [← hS]; simp only [List.cons_append]; exact ⟨_, rfl⟩
  have s1 : S1[p1]? = some (some (.lst (X.map dyD))) := by
    rw [← hS, hp1]; simp
  have s2 : S1[p2]? = some (some (.lst (X.map dyD))) := by
    rw [← hS, hp2]; simp
  have s3 : S1[p3]? = some (some (.lst (X.map dyD))) := by
    rw [← hS, hp3]; simp
  clear hS hp1 hp2 hp3 hX
  refine ⟨fun j ρ S' => (∃ G', S' = o :: G') ∧ (∀ k p, j ≤ k → [p1, p2, p3][k]? = some p → S'[p]? = some (some (.lst (X.map dyD)))) ∧ ∃ x9, ρ = [x0, some (.loc 0), x2, x3, x4, some (bkV a "near" (rowsOf D' "near")), some (bkV a "far" (rowsOf D' "far")), some (.str (dueT X)), some (.str (keptT D')), x9, x10], ⟨s0, ?_, _, rfl⟩, ?_, ?_⟩
  · intro k p _ hk
    match k, hk with
    | 0, hk => cases hk; exact s1
    | 1, hk => cases hk; exact s2
    | 2, hk => cases hk; exact s3
    | k + 3, hk => cases hk
  · rintro j d ρ S' hd ⟨⟨G', rfl⟩, hk, x9, rfl⟩
    obtain ⟨p, rfl, hj, hlp, hnx⟩ : ∃ p, d = .loc p ∧ [p1, p2, p3][j]? = some p ∧ 1 ≤ p ∧ ∀ k p', j + 1 ≤ k → [p1, p2, p3][k]? = some p' → p' ≠ p := by
      match j, hd with
      | 0, hd =>
        cases hd
        refine ⟨p1, rfl, rfl, l1, fun k p' hk h2 => ?_⟩
        match k, h2 with
        | 1, h2 => cases h2; omega
        | 2, h2 => cases h2; omega
        | k + 3, h2 => cases h2
      | 1, hd =>
        cases hd
        refine ⟨p2, rfl, rfl, by omega, fun k p' hk h2 => ?_⟩
        match k, h2 with
        | 2, h2 => cases h2; omega
        | k + 3, h2 => cases h2
      | 2, hd =>
        cases hd
        refine ⟨p3, rfl, rfl, by omega, fun k p' hk h2 => ?_⟩
        match k, h2 with
        | k + 3, h2 => cases h2
      | j + 3, hd => cases hd
    have hS := hk j p (Nat.le_refl _) hj
    refine ⟨trivial, _, x_bnm, ?_⟩
    simp only [↓x_eqSS, ↓x_neSS, ↓gKGet, ↓x_kget, ↓x_ixE, at_last, ↓x_appE, ↓x_tyE, ↓x_itE, ↓x_lenE, ↓x_nePr, ↓x_eqPr, ↓x_neE, ↓x_lenr, ↓x_lenrI, ↓gRev, ↓x_par3, ↓x_par33, ↓x_fld, ↓x_fset, ↓x_mkF, ↓x_mk, ↓x_meth, ↓x_fldO, ↓x_fsetE, ↓x_fldE, ↓x_methO, ↓x_isiCO, ↓x_isiCN, ↓x_isiCT, ↓x_isiCLi, ↓x_isiCS, ↓x_isiCI, ↓x_own, ↓x_eqT2, ↓x_neT2, ↓x_neL4, ↓x_eqLN, ↓x_neNil, ↓x_gset, ↓x_lc, ↓x_for, ↓x_it, ↓x_rn1, ↓x_rn2, ↓x_enu, ↓x_zip, ↓x_itS, ↓x_itL, ↓x_itK, ↓x_itT, ↓x_rn1I, ↓x_rn2I, ↓x_enuL, ↓x_enuK, ↓x_zipL, ↓x_ixS0, ↓x_ixL, ↓x_ixT, ↓x_ixK, x_at0, x_at1, x_at2, x_at3, x_at4, ↓x_set00, ↓x_set01, ↓x_set02, ↓x_aug1, ↓x_aug2, ↓x_aug3, ↓x_aug4, ↓x_aug5, ↓x_aug6, ↓x_aug7, ↓x_aug8, ↓x_aug9, ↓x_aug10, ↓x_aug11, ↓x_aug12, ↓x_aug13, ↓x_aug14, ↓x_aug15, ↓x_aug16, ↓x_aug17, ↓x_aug18, ↓x_aug19, ↓x_aug20, ↓x_aug21, ↓x_aug22, ↓x_aug23, Int.reduceToNat, Int.reducePow, ↓gSeq, ↓gIfS, ↓gSet, ↓gAsg, ↓x_par, ↓x_par2, ↓gRet, ↓gRetN, ↓gNext, ↓gDrop, ↓gBreak, ↓gCont, ↓gDead, ↓gCB, ↓gB2, ↓gU, ↓gC, ↓Dl.gCons, ↓Dl.gNil, ↓Dl.gTup, ↓Dl.gLst, ↓gTest, ↓gOrB, ↓gAndB, ↓gNotB, ↓gAndV, ↓gOrV, ↓gNotV, ↓gIf, ↓gIx, ↓gSl, ↓gPart, ↓gNoP, ↓gMt, ↓gCall, ↓gArgs, ↓gIsN, ↓gNotN, ↓gChain, ↓x_fmtS, ↓x_afS, ↓x_afI, ↓x_js0, ↓x_jsc, ↓gJoined, ↓gYes, ↓x_bnm, ↓x_btp, ↓x_bn, ↓x_bc, ↓x_nnN, ↓x_nnI, ↓x_nnS, ↓x_nnB, ↓x_nnT, ↓x_nnL, ↓x_nnO, ↓x_nnl, ↓x_tyS, ↓x_tyL, ↓x_i2, ↓aSub, ↓aFdiv, ↓aMod, ↓aPow, ↓aShr, ↓aLt, ↓aLe, ↓aGt, ↓aGe, ↓x_addI, ↓x_addS, ↓x_mulI, ↓x_iaddS, ↓x_iaddI, ↓x_neg, ↓x_eqI, ↓x_neI, ↓x_eqS, ↓x_neS, ↓x_eqB, ↓x_neB, ↓x_eqNI, ↓x_neNI, ↓x_lenS, ↓x_lenL_l, ↓x_lenL_k, ↓x_lenL_t, ↓x_str, ↓x_intI, ↓x_intB, ↓x_divmod, ↓x_max2, ↓x_min2, ↓x_ixS, ↓x_slS, ↓x_slT, ↓x_slL_l, ↓x_slL_k, ↓x_inS, ↓x_newT, ↓x_newF, ↓x_si, ↓x_s1, ↓x_s0, ↓x_rpart, ↓x_part, ↓x_a1, ↓x_a2, ↓x_isiStr, ↓x_isiInt, ↓x_isiIntB, ↓x_isiIntS, ↓x_isiBB, ↓x_isiBI, ↓x_isiStrI, ↓x_isiNonI, ↓x_isiNonS, ↓x_isiT, ↓x_isiL, ↓x_var0, ↓x_varS, ↓x_ex, ↓x_aug0, gat, pick, Option.some.injEq, D.bl.injEq, D.int.injEq, D.str.injEq, D.tup.injEq, D.lst.injEq, List.cons.injEq, and_true, true_and, List.set_cons_zero, List.set_cons_succ, List.length_cons, List.length_nil, List.filterMap_cons, List.filterMap_nil, List.getElem?_cons_zero, List.getElem?_cons_succ, Option.bind_some, ↓reduceIte, if_true, if_false, Bool.false_eq_true, Bool.true_eq_false, decide_eq_true_eq, beq_self_eq_true, Bool.not_true, Bool.not_false, Bool.not_eq_true', decide_eq_false_iff_not, exists_eq_left', exists_eq_left, exists_eq, ↓x_dnT, ↓x_dnF, ↓gAsgL, ↓gMMDef, ↓gDSet, ↓gSItems, ↓x_nilL, ↓x_nilE, List.isEmpty_nil, List.isEmpty_cons, Bool.true_xor, Bool.false_xor, ↓gSortSet, ↓gLenFz, ↓gOrT, ↓gAndT, ↓gTryAs, ↓gTryO, ↓gRaise, ↓gCallX, ↓gMethX, ↓gMakeX, ↓gFldX, ↓x_inXs, Bool.false_xor, Bool.true_xor, ↓gOrS, ↓x_fmtRS, ↓x_afRS, ↓x_afRI, ↓x_stO, ↓x_zipS, ↓x_zipE, ↓x_zipSL, ↓x_zipST, ↓x_zipEL, ↓x_augix, ↓x_isB, ↓x_notB, ↓gLR1, ↓gLR2, ↓gDIxT, ↓gDGt1T, ↓gDSetT, ↓gDNewT, ↓gDIx, ↓gDGt1, ↓gDGt2, ↓gDIn, ↓gDSetd, ↓gDPop1, ↓gDPop2, ↓gTIdx, ↓gLKeys, ↓gDisp, ↓gAsgT, ↓gFldAug, ↓gts, ↓gts0, ↓gnm, ↓gfl, ↓gds, ↓x_lenSt, ↓x_enumK, ↓x_enumKL, ↓gSortK, ↓gSortKR, ↓gFrD, ↓gFzD]
    refine (x_isi (t := "list") (u := "list") (by simp only [tyN, hS]) (by decide)).mpr ⟨true, rfl, ?_⟩
    rw [if_neg (by decide)]
    refine show_dy hX1 hX2 (by simp only [toPyS, hS, dys_py]; rfl) ?_
    refine x_neSS.mpr ⟨false, by simp, ?_⟩
    rw [if_neg (by decide)]
    refine ⟨x_tyO hS, (x_app hS).mpr ⟨by rw [List.length_map]; omega, ?_⟩⟩
    have hpl : p < (o :: G').length := (List.getElem?_eq_some_iff.mp hS).1
    have hS2 : ((o :: G').set p (some (.lst (X.map dyD ++ [D.non]))))[p]? = some (some (.lst (X.map dyD ++ [D.non]))) := List.getElem?_set_self hpl
    refine ⟨x_tyO hS2, p, _, rfl, rfl, hS2, ?_⟩
    rw [List.set_set]
    refine ⟨?_, fun k p' hk1 hk2 => ?_, _, rfl⟩
    · obtain ⟨m, rfl⟩ : ∃ m, p = m + 1 := ⟨p - 1, by omega⟩
      exact ⟨_, rfl⟩
    · rw [List.getElem?_set_ne (hnx k p' hk1 hk2).symm]
      exact hk k p' (by omega) hk2
  · rintro ρ S' ⟨⟨G', rfl⟩, _, x9, rfl⟩
    refine ⟨trivial, ?_⟩
    simp only [↓x_methO (show (["bank", "kept"] : List Str).contains (Str.ofString "rows") = false by decide +kernel), ↓x_eqSS, ↓x_neSS, ↓gKGet, ↓x_kget, ↓x_ixE, at_last, ↓x_appE, ↓x_tyE, ↓x_itE, ↓x_lenE, ↓x_nePr, ↓x_eqPr, ↓x_neE, ↓x_lenr, ↓x_lenrI, ↓gRev, ↓x_par3, ↓x_par33, ↓x_fld, ↓x_fset, ↓x_mkF, ↓x_mk, ↓x_meth, ↓x_fldO, ↓x_fsetE, ↓x_fldE, ↓x_methO, ↓x_isiCO, ↓x_isiCN, ↓x_isiCT, ↓x_isiCLi, ↓x_isiCS, ↓x_isiCI, ↓x_own, ↓x_eqT2, ↓x_neT2, ↓x_neL4, ↓x_eqLN, ↓x_neNil, ↓x_gset, ↓x_lc, ↓x_for, ↓x_it, ↓x_rn1, ↓x_rn2, ↓x_enu, ↓x_zip, ↓x_itS, ↓x_itL, ↓x_itK, ↓x_itT, ↓x_rn1I, ↓x_rn2I, ↓x_enuL, ↓x_enuK, ↓x_zipL, ↓x_ixS0, ↓x_ixL, ↓x_ixT, ↓x_ixK, x_at0, x_at1, x_at2, x_at3, x_at4, ↓x_set00, ↓x_set01, ↓x_set02, ↓x_aug1, ↓x_aug2, ↓x_aug3, ↓x_aug4, ↓x_aug5, ↓x_aug6, ↓x_aug7, ↓x_aug8, ↓x_aug9, ↓x_aug10, ↓x_aug11, ↓x_aug12, ↓x_aug13, ↓x_aug14, ↓x_aug15, ↓x_aug16, ↓x_aug17, ↓x_aug18, ↓x_aug19, ↓x_aug20, ↓x_aug21, ↓x_aug22, ↓x_aug23, Int.reduceToNat, Int.reducePow, ↓gSeq, ↓gIfS, ↓gSet, ↓gAsg, ↓x_par, ↓x_par2, ↓gRet, ↓gRetN, ↓gNext, ↓gDrop, ↓gBreak, ↓gCont, ↓gDead, ↓gCB, ↓gB2, ↓gU, ↓gC, ↓Dl.gCons, ↓Dl.gNil, ↓Dl.gTup, ↓Dl.gLst, ↓gTest, ↓gOrB, ↓gAndB, ↓gNotB, ↓gAndV, ↓gOrV, ↓gNotV, ↓gIf, ↓gIx, ↓gSl, ↓gPart, ↓gNoP, ↓gMt, ↓gCall, ↓gArgs, ↓gIsN, ↓gNotN, ↓gChain, ↓x_fmtS, ↓x_afS, ↓x_afI, ↓x_js0, ↓x_jsc, ↓gJoined, ↓gYes, ↓x_bnm, ↓x_btp, ↓x_bn, ↓x_bc, ↓x_nnN, ↓x_nnI, ↓x_nnS, ↓x_nnB, ↓x_nnT, ↓x_nnL, ↓x_nnO, ↓x_nnl, ↓x_tyS, ↓x_tyL, ↓x_i2, ↓aSub, ↓aFdiv, ↓aMod, ↓aPow, ↓aShr, ↓aLt, ↓aLe, ↓aGt, ↓aGe, ↓x_addI, ↓x_addS, ↓x_mulI, ↓x_iaddS, ↓x_iaddI, ↓x_neg, ↓x_eqI, ↓x_neI, ↓x_eqS, ↓x_neS, ↓x_eqB, ↓x_neB, ↓x_eqNI, ↓x_neNI, ↓x_lenS, ↓x_lenL_l, ↓x_lenL_k, ↓x_lenL_t, ↓x_str, ↓x_intI, ↓x_intB, ↓x_divmod, ↓x_max2, ↓x_min2, ↓x_ixS, ↓x_slS, ↓x_slT, ↓x_slL_l, ↓x_slL_k, ↓x_inS, ↓x_newT, ↓x_newF, ↓x_si, ↓x_s1, ↓x_s0, ↓x_rpart, ↓x_part, ↓x_a1, ↓x_a2, ↓x_isiStr, ↓x_isiInt, ↓x_isiIntB, ↓x_isiIntS, ↓x_isiBB, ↓x_isiBI, ↓x_isiStrI, ↓x_isiNonI, ↓x_isiNonS, ↓x_isiT, ↓x_isiL, ↓x_var0, ↓x_varS, ↓x_ex, ↓x_aug0, gat, pick, Option.some.injEq, D.bl.injEq, D.int.injEq, D.str.injEq, D.tup.injEq, D.lst.injEq, List.cons.injEq, and_true, true_and, List.set_cons_zero, List.set_cons_succ, List.length_cons, List.length_nil, List.filterMap_cons, List.filterMap_nil, List.getElem?_cons_zero, List.getElem?_cons_succ, Option.bind_some, ↓reduceIte, if_true, if_false, Bool.false_eq_true, Bool.true_eq_false, decide_eq_true_eq, beq_self_eq_true, Bool.not_true, Bool.not_false, Bool.not_eq_true', decide_eq_false_iff_not, exists_eq_left', exists_eq_left, exists_eq, ↓x_dnT, ↓x_dnF, ↓gAsgL, ↓gMMDef, ↓gDSet, ↓gSItems, ↓x_nilL, ↓x_nilE, List.isEmpty_nil, List.isEmpty_cons, Bool.true_xor, Bool.false_xor, ↓gSortSet, ↓gLenFz, ↓gOrT, ↓gAndT, ↓gTryAs, ↓gTryO, ↓gRaise, ↓gCallX, ↓gMethX, ↓gMakeX, ↓gFldX, ↓x_inXs, Bool.false_xor, Bool.true_xor, ↓gOrS, ↓x_fmtRS, ↓x_afRS, ↓x_afRI, ↓x_stO, ↓x_zipS, ↓x_zipE, ↓x_zipSL, ↓x_zipST, ↓x_zipEL, ↓x_augix, ↓x_isB, ↓x_notB, ↓gLR1, ↓gLR2, ↓gDIxT, ↓gDGt1T, ↓gDSetT, ↓gDNewT, ↓gDIx, ↓gDGt1, ↓gDGt2, ↓gDIn, ↓gDSetd, ↓gDPop1, ↓gDPop2, ↓gTIdx, ↓gLKeys, ↓gDisp, ↓gAsgT, ↓gFldAug, ↓gts, ↓gts0, ↓gnm, ↓gfl, ↓gds, ↓x_lenSt, ↓x_enumK, ↓x_enumKL, ↓gSortK, ↓gSortKR, ↓gFrD, ↓gFzD]
    refine ⟨_, _, rfl, Nat.le_trans hc.n.le (by decide), _, _, rfl, Nat.le_trans hc.f.le (by decide), by decide, show_kept hc.n.ro hc.f.ro hc.n.le hc.f.le ?_⟩
    refine x_neSS.mpr ⟨false, by simp, ?_⟩
    rw [if_neg (by decide)]
    refine ⟨_, _, rfl, _, _, .inl rfl, hc, ?_⟩
    rw [hcr]
    refine show_dy hX1 hX2 (by simp only [toPyS, toPy, dys_py]; rfl) ?_
    refine x_neSS.mpr ⟨false, by simp, ?_⟩
    rw [if_neg (by decide)]
    exact h _ _
theorem x_bs2 {ρ : Env_} {i j : Nat} {x y : D} : Tgt.binds [.nm i, .nm j] [x, y] ρ = some ((ρ.set i (some x)).set j (some y)) := by simp [Tgt.binds, Tgt.bind]
theorem c148 (T : Txt K mg a) {E : DE} {o : Option MO} {G : Sto} {L D' : List Dy} {x0 x2 x5 x6 x7 x8 x9 x10 : Option D} (hL : DyOk L) (hp : D'.Perm L) (h : ∀ G' x5 x6 x7 x8 x9 x10, E.nx [x0, some (.loc 0), x2, some (.lst (L.map dyD)), some (.lst (D'.map dyD)), x5, x6, x7, x8, x9, x10] (o :: G')) : g_law_c148 K a E [x0, some (.loc 0), x2, some (.lst (L.map dyD)), some (.lst (D'.map dyD)), x5, x6, x7, x8, x9, x10] (o :: G) := by
  have hc := rows_cr hL hp
  have hz : 8000 ≤ sizeLine := by decide
  have hlen : D'.length ≤ 100 := by
    rw [hp.length_eq]
    exact Nat.le_trans hL.len (by decide)
  simp only [g_law_c148, ↓x_eqSS, ↓x_neSS, ↓gKGet, ↓x_kget, ↓x_ixE, at_last, ↓x_appE, ↓x_tyE, ↓x_itE, ↓x_lenE, ↓x_nePr, ↓x_eqPr, ↓x_neE, ↓x_lenr, ↓x_lenrI, ↓gRev, ↓x_par3, ↓x_par33, ↓x_fld, ↓x_fset, ↓x_mkF, ↓x_mk, ↓x_meth, ↓x_fldO, ↓x_fsetE, ↓x_fldE, ↓x_methO, ↓x_isiCO, ↓x_isiCN, ↓x_isiCT, ↓x_isiCLi, ↓x_isiCS, ↓x_isiCI, ↓x_own, ↓x_eqT2, ↓x_neT2, ↓x_neL4, ↓x_eqLN, ↓x_neNil, ↓x_gset, ↓x_lc, ↓x_for, ↓x_it, ↓x_rn1, ↓x_rn2, ↓x_enu, ↓x_zip, ↓x_itS, ↓x_itL, ↓x_itK, ↓x_itT, ↓x_rn1I, ↓x_rn2I, ↓x_enuL, ↓x_enuK, ↓x_zipL, ↓x_ixS0, ↓x_ixL, ↓x_ixT, ↓x_ixK, x_at0, x_at1, x_at2, x_at3, x_at4, ↓x_set00, ↓x_set01, ↓x_set02, ↓x_aug1, ↓x_aug2, ↓x_aug3, ↓x_aug4, ↓x_aug5, ↓x_aug6, ↓x_aug7, ↓x_aug8, ↓x_aug9, ↓x_aug10, ↓x_aug11, ↓x_aug12, ↓x_aug13, ↓x_aug14, ↓x_aug15, ↓x_aug16, ↓x_aug17, ↓x_aug18, ↓x_aug19, ↓x_aug20, ↓x_aug21, ↓x_aug22, ↓x_aug23, Int.reduceToNat, Int.reducePow, ↓gSeq, ↓gIfS, ↓gSet, ↓gAsg, ↓x_par, ↓x_par2, ↓gRet, ↓gRetN, ↓gNext, ↓gDrop, ↓gBreak, ↓gCont, ↓gDead, ↓gCB, ↓gB2, ↓gU, ↓gC, ↓Dl.gCons, ↓Dl.gNil, ↓Dl.gTup, ↓Dl.gLst, ↓gTest, ↓gOrB, ↓gAndB, ↓gNotB, ↓gAndV, ↓gOrV, ↓gNotV, ↓gIf, ↓gIx, ↓gSl, ↓gPart, ↓gNoP, ↓gMt, ↓gCall, ↓gArgs, ↓gIsN, ↓gNotN, ↓gChain, ↓x_fmtS, ↓x_afS, ↓x_afI, ↓x_js0, ↓x_jsc, ↓gJoined, ↓gYes, ↓x_bnm, ↓x_btp, ↓x_bn, ↓x_bc, ↓x_nnN, ↓x_nnI, ↓x_nnS, ↓x_nnB, ↓x_nnT, ↓x_nnL, ↓x_nnO, ↓x_nnl, ↓x_tyS, ↓x_tyL, ↓x_i2, ↓aSub, ↓aFdiv, ↓aMod, ↓aPow, ↓aShr, ↓aLt, ↓aLe, ↓aGt, ↓aGe, ↓x_addI, ↓x_addS, ↓x_mulI, ↓x_iaddS, ↓x_iaddI, ↓x_neg, ↓x_eqI, ↓x_neI, ↓x_eqS, ↓x_neS, ↓x_eqB, ↓x_neB, ↓x_eqNI, ↓x_neNI, ↓x_lenS, ↓x_lenL_l, ↓x_lenL_k, ↓x_lenL_t, ↓x_str, ↓x_intI, ↓x_intB, ↓x_divmod, ↓x_max2, ↓x_min2, ↓x_ixS, ↓x_slS, ↓x_slT, ↓x_slL_l, ↓x_slL_k, ↓x_inS, ↓x_newT, ↓x_newF, ↓x_si, ↓x_s1, ↓x_s0, ↓x_rpart, ↓x_part, ↓x_a1, ↓x_a2, ↓x_isiStr, ↓x_isiInt, ↓x_isiIntB, ↓x_isiIntS, ↓x_isiBB, ↓x_isiBI, ↓x_isiStrI, ↓x_isiNonI, ↓x_isiNonS, ↓x_isiT, ↓x_isiL, ↓x_var0, ↓x_varS, ↓x_ex, ↓x_aug0, gat, pick, Option.some.injEq, D.bl.injEq, D.int.injEq, D.str.injEq, D.tup.injEq, D.lst.injEq, List.cons.injEq, and_true, true_and, List.set_cons_zero, List.set_cons_succ, List.length_cons, List.length_nil, List.filterMap_cons, List.filterMap_nil, List.getElem?_cons_zero, List.getElem?_cons_succ, Option.bind_some, ↓reduceIte, if_true, if_false, Bool.false_eq_true, Bool.true_eq_false, decide_eq_true_eq, beq_self_eq_true, Bool.not_true, Bool.not_false, Bool.not_eq_true', decide_eq_false_iff_not, exists_eq_left', exists_eq_left, exists_eq, ↓x_dnT, ↓x_dnF, ↓gAsgL, ↓gMMDef, ↓gDSet, ↓gSItems, ↓x_nilL, ↓x_nilE, List.isEmpty_nil, List.isEmpty_cons, Bool.true_xor, Bool.false_xor, ↓gSortSet, ↓gLenFz, ↓gOrT, ↓gAndT, ↓gTryAs, ↓gTryO, ↓gRaise, ↓gCallX, ↓gMethX, ↓gMakeX, ↓gFldX, ↓x_inXs, Bool.false_xor, Bool.true_xor, ↓gOrS, ↓x_fmtRS, ↓x_afRS, ↓x_afRI, ↓x_stO, ↓x_zipS, ↓x_zipE, ↓x_zipSL, ↓x_zipST, ↓x_zipEL, ↓x_augix, ↓x_isB, ↓x_notB, ↓gLR1, ↓gLR2, ↓gDIxT, ↓gDGt1T, ↓gDSetT, ↓gDNewT, ↓gDIx, ↓gDGt1, ↓gDGt2, ↓gDIn, ↓gDSetd, ↓gDPop1, ↓gDPop2, ↓gTIdx, ↓gLKeys, ↓gDisp, ↓gAsgT, ↓gFldAug, ↓gts, ↓gts0, ↓gnm, ↓gfl, ↓gds, ↓x_lenSt, ↓x_enumK, ↓x_enumKL, ↓gSortK, ↓gSortKR, ↓gFrD, ↓gFzD]
  refine ⟨by decide, ?_⟩
  refine lc_on (F := D.str) (L := ["near", "far"]) (fun s : Str => some (bkV a s (rowsOf D' s))) trivial (by decide) (fun s hs acc R hac hR => ⟨_, x_bnm, ?_⟩) ?_
  · have hb : BaOk s := by
      rcases List.mem_cons.mp hs with rfl | hs
      · exact .inl rfl
      · exact .inr (List.mem_singleton.mp hs)
    simp only [wipeD, ↓x_eqSS, ↓x_neSS, ↓gKGet, ↓x_kget, ↓x_ixE, at_last, ↓x_appE, ↓x_tyE, ↓x_itE, ↓x_lenE, ↓x_nePr, ↓x_eqPr, ↓x_neE, ↓x_lenr, ↓x_lenrI, ↓gRev, ↓x_par3, ↓x_par33, ↓x_fld, ↓x_fset, ↓x_mkF, ↓x_mk, ↓x_meth, ↓x_fldO, ↓x_fsetE, ↓x_fldE, ↓x_methO, ↓x_isiCO, ↓x_isiCN, ↓x_isiCT, ↓x_isiCLi, ↓x_isiCS, ↓x_isiCI, ↓x_own, ↓x_eqT2, ↓x_neT2, ↓x_neL4, ↓x_eqLN, ↓x_neNil, ↓x_gset, ↓x_lc, ↓x_for, ↓x_it, ↓x_rn1, ↓x_rn2, ↓x_enu, ↓x_zip, ↓x_itS, ↓x_itL, ↓x_itK, ↓x_itT, ↓x_rn1I, ↓x_rn2I, ↓x_enuL, ↓x_enuK, ↓x_zipL, ↓x_ixS0, ↓x_ixL, ↓x_ixT, ↓x_ixK, x_at0, x_at1, x_at2, x_at3, x_at4, ↓x_set00, ↓x_set01, ↓x_set02, ↓x_aug1, ↓x_aug2, ↓x_aug3, ↓x_aug4, ↓x_aug5, ↓x_aug6, ↓x_aug7, ↓x_aug8, ↓x_aug9, ↓x_aug10, ↓x_aug11, ↓x_aug12, ↓x_aug13, ↓x_aug14, ↓x_aug15, ↓x_aug16, ↓x_aug17, ↓x_aug18, ↓x_aug19, ↓x_aug20, ↓x_aug21, ↓x_aug22, ↓x_aug23, Int.reduceToNat, Int.reducePow, ↓gSeq, ↓gIfS, ↓gSet, ↓gAsg, ↓x_par, ↓x_par2, ↓gRet, ↓gRetN, ↓gNext, ↓gDrop, ↓gBreak, ↓gCont, ↓gDead, ↓gCB, ↓gB2, ↓gU, ↓gC, ↓Dl.gCons, ↓Dl.gNil, ↓Dl.gTup, ↓Dl.gLst, ↓gTest, ↓gOrB, ↓gAndB, ↓gNotB, ↓gAndV, ↓gOrV, ↓gNotV, ↓gIf, ↓gIx, ↓gSl, ↓gPart, ↓gNoP, ↓gMt, ↓gCall, ↓gArgs, ↓gIsN, ↓gNotN, ↓gChain, ↓x_fmtS, ↓x_afS, ↓x_afI, ↓x_js0, ↓x_jsc, ↓gJoined, ↓gYes, ↓x_bnm, ↓x_btp, ↓x_bn, ↓x_bc, ↓x_nnN, ↓x_nnI, ↓x_nnS, ↓x_nnB, ↓x_nnT, ↓x_nnL, ↓x_nnO, ↓x_nnl, ↓x_tyS, ↓x_tyL, ↓x_i2, ↓aSub, ↓aFdiv, ↓aMod, ↓aPow, ↓aShr, ↓aLt, ↓aLe, ↓aGt, ↓aGe, ↓x_addI, ↓x_addS, ↓x_mulI, ↓x_iaddS, ↓x_iaddI, ↓x_neg, ↓x_eqI, ↓x_neI, ↓x_eqS, ↓x_neS, ↓x_eqB, ↓x_neB, ↓x_eqNI, ↓x_neNI, ↓x_lenS, ↓x_lenL_l, ↓x_lenL_k, ↓x_lenL_t, ↓x_str, ↓x_intI, ↓x_intB, ↓x_divmod, ↓x_max2, ↓x_min2, ↓x_ixS, ↓x_slS, ↓x_slT, ↓x_slL_l, ↓x_slL_k, ↓x_inS, ↓x_newT, ↓x_newF, ↓x_si, ↓x_s1, ↓x_s0, ↓x_rpart, ↓x_part, ↓x_a1, ↓x_a2, ↓x_isiStr, ↓x_isiInt, ↓x_isiIntB, ↓x_isiIntS, ↓x_isiBB, ↓x_isiBI, ↓x_isiStrI, ↓x_isiNonI, ↓x_isiNonS, ↓x_isiT, ↓x_isiL, ↓x_var0, ↓x_varS, ↓x_ex, ↓x_aug0, gat, pick, Option.some.injEq, D.bl.injEq, D.int.injEq, D.str.injEq, D.tup.injEq, D.lst.injEq, List.cons.injEq, and_true, true_and, List.set_cons_zero, List.set_cons_succ, List.length_cons, List.length_nil, List.filterMap_cons, List.filterMap_nil, List.getElem?_cons_zero, List.getElem?_cons_succ, Option.bind_some, ↓reduceIte, if_true, if_false, Bool.false_eq_true, Bool.true_eq_false, decide_eq_true_eq, beq_self_eq_true, Bool.not_true, Bool.not_false, Bool.not_eq_true', decide_eq_false_iff_not, exists_eq_left', exists_eq_left, exists_eq, ↓x_dnT, ↓x_dnF, ↓gAsgL, ↓gMMDef, ↓gDSet, ↓gSItems, ↓x_nilL, ↓x_nilE, List.isEmpty_nil, List.isEmpty_cons, Bool.true_xor, Bool.false_xor, ↓gSortSet, ↓gLenFz, ↓gOrT, ↓gAndT, ↓gTryAs, ↓gTryO, ↓gRaise, ↓gCallX, ↓gMethX, ↓gMakeX, ↓gFldX, ↓x_inXs, Bool.false_xor, Bool.true_xor, ↓gOrS, ↓x_fmtRS, ↓x_afRS, ↓x_afRI, ↓x_stO, ↓x_zipS, ↓x_zipE, ↓x_zipSL, ↓x_zipST, ↓x_zipEL, ↓x_augix, ↓x_isB, ↓x_notB, ↓gLR1, ↓gLR2, ↓gDIxT, ↓gDGt1T, ↓gDSetT, ↓gDNewT, ↓gDIx, ↓gDGt1, ↓gDGt2, ↓gDIn, ↓gDSetd, ↓gDPop1, ↓gDPop2, ↓gTIdx, ↓gLKeys, ↓gDisp, ↓gAsgT, ↓gFldAug, ↓gts, ↓gts0, ↓gnm, ↓gfl, ↓gds, ↓x_lenSt, ↓x_enumK, ↓x_enumKL, ↓gSortK, ↓gSortKR, ↓gFrD, ↓gFzD]
    refine ⟨D', s, rfl, hlen, fun d hd => hL.ba d (hp.mem_iff.mp hd), hb, s, rowsOf D' s, rfl, rows_bk hL hp hb, hac, hR⟩
  rw [fm_some, x_newT]
  refine ⟨_, _, rfl, rfl, x_bs2, ?_⟩
  simp only [↓x_methO (show (["bank", "kept"] : List Str).contains (Str.ofString "rows") = false by decide +kernel), ↓x_eqSS, ↓x_neSS, ↓gKGet, ↓x_kget, ↓x_ixE, at_last, ↓x_appE, ↓x_tyE, ↓x_itE, ↓x_lenE, ↓x_nePr, ↓x_eqPr, ↓x_neE, ↓x_lenr, ↓x_lenrI, ↓gRev, ↓x_par3, ↓x_par33, ↓x_fld, ↓x_fset, ↓x_mkF, ↓x_mk, ↓x_meth, ↓x_fldO, ↓x_fsetE, ↓x_fldE, ↓x_methO, ↓x_isiCO, ↓x_isiCN, ↓x_isiCT, ↓x_isiCLi, ↓x_isiCS, ↓x_isiCI, ↓x_own, ↓x_eqT2, ↓x_neT2, ↓x_neL4, ↓x_eqLN, ↓x_neNil, ↓x_gset, ↓x_lc, ↓x_for, ↓x_it, ↓x_rn1, ↓x_rn2, ↓x_enu, ↓x_zip, ↓x_itS, ↓x_itL, ↓x_itK, ↓x_itT, ↓x_rn1I, ↓x_rn2I, ↓x_enuL, ↓x_enuK, ↓x_zipL, ↓x_ixS0, ↓x_ixL, ↓x_ixT, ↓x_ixK, x_at0, x_at1, x_at2, x_at3, x_at4, ↓x_set00, ↓x_set01, ↓x_set02, ↓x_aug1, ↓x_aug2, ↓x_aug3, ↓x_aug4, ↓x_aug5, ↓x_aug6, ↓x_aug7, ↓x_aug8, ↓x_aug9, ↓x_aug10, ↓x_aug11, ↓x_aug12, ↓x_aug13, ↓x_aug14, ↓x_aug15, ↓x_aug16, ↓x_aug17, ↓x_aug18, ↓x_aug19, ↓x_aug20, ↓x_aug21, ↓x_aug22, ↓x_aug23, Int.reduceToNat, Int.reducePow, ↓gSeq, ↓gIfS, ↓gSet, ↓gAsg, ↓x_par, ↓x_par2, ↓gRet, ↓gRetN, ↓gNext, ↓gDrop, ↓gBreak, ↓gCont, ↓gDead, ↓gCB, ↓gB2, ↓gU, ↓gC, ↓Dl.gCons, ↓Dl.gNil, ↓Dl.gTup, ↓Dl.gLst, ↓gTest, ↓gOrB, ↓gAndB, ↓gNotB, ↓gAndV, ↓gOrV, ↓gNotV, ↓gIf, ↓gIx, ↓gSl, ↓gPart, ↓gNoP, ↓gMt, ↓gCall, ↓gArgs, ↓gIsN, ↓gNotN, ↓gChain, ↓x_fmtS, ↓x_afS, ↓x_afI, ↓x_js0, ↓x_jsc, ↓gJoined, ↓gYes, ↓x_bnm, ↓x_btp, ↓x_bn, ↓x_bc, ↓x_nnN, ↓x_nnI, ↓x_nnS, ↓x_nnB, ↓x_nnT, ↓x_nnL, ↓x_nnO, ↓x_nnl, ↓x_tyS, ↓x_tyL, ↓x_i2, ↓aSub, ↓aFdiv, ↓aMod, ↓aPow, ↓aShr, ↓aLt, ↓aLe, ↓aGt, ↓aGe, ↓x_addI, ↓x_addS, ↓x_mulI, ↓x_iaddS, ↓x_iaddI, ↓x_neg, ↓x_eqI, ↓x_neI, ↓x_eqS, ↓x_neS, ↓x_eqB, ↓x_neB, ↓x_eqNI, ↓x_neNI, ↓x_lenS, ↓x_lenL_l, ↓x_lenL_k, ↓x_lenL_t, ↓x_str, ↓x_intI, ↓x_intB, ↓x_divmod, ↓x_max2, ↓x_min2, ↓x_ixS, ↓x_slS, ↓x_slT, ↓x_slL_l, ↓x_slL_k, ↓x_inS, ↓x_newT, ↓x_newF, ↓x_si, ↓x_s1, ↓x_s0, ↓x_rpart, ↓x_part, ↓x_a1, ↓x_a2, ↓x_isiStr, ↓x_isiInt, ↓x_isiIntB, ↓x_isiIntS, ↓x_isiBB, ↓x_isiBI, ↓x_isiStrI, ↓x_isiNonI, ↓x_isiNonS, ↓x_isiT, ↓x_isiL, ↓x_var0, ↓x_varS, ↓x_ex, ↓x_aug0, gat, pick, Option.some.injEq, D.bl.injEq, D.int.injEq, D.str.injEq, D.tup.injEq, D.lst.injEq, List.cons.injEq, and_true, true_and, List.set_cons_zero, List.set_cons_succ, List.length_cons, List.length_nil, List.filterMap_cons, List.filterMap_nil, List.getElem?_cons_zero, List.getElem?_cons_succ, Option.bind_some, ↓reduceIte, if_true, if_false, Bool.false_eq_true, Bool.true_eq_false, decide_eq_true_eq, beq_self_eq_true, Bool.not_true, Bool.not_false, Bool.not_eq_true', decide_eq_false_iff_not, exists_eq_left', exists_eq_left, exists_eq, ↓x_dnT, ↓x_dnF, ↓gAsgL, ↓gMMDef, ↓gDSet, ↓gSItems, ↓x_nilL, ↓x_nilE, List.isEmpty_nil, List.isEmpty_cons, Bool.true_xor, Bool.false_xor, ↓gSortSet, ↓gLenFz, ↓gOrT, ↓gAndT, ↓gTryAs, ↓gTryO, ↓gRaise, ↓gCallX, ↓gMethX, ↓gMakeX, ↓gFldX, ↓x_inXs, Bool.false_xor, Bool.true_xor, ↓gOrS, ↓x_fmtRS, ↓x_afRS, ↓x_afRI, ↓x_stO, ↓x_zipS, ↓x_zipE, ↓x_zipSL, ↓x_zipST, ↓x_zipEL, ↓x_augix, ↓x_isB, ↓x_notB, ↓gLR1, ↓gLR2, ↓gDIxT, ↓gDGt1T, ↓gDSetT, ↓gDNewT, ↓gDIx, ↓gDGt1, ↓gDGt2, ↓gDIn, ↓gDSetd, ↓gDPop1, ↓gDPop2, ↓gTIdx, ↓gLKeys, ↓gDisp, ↓gAsgT, ↓gFldAug, ↓gts, ↓gts0, ↓gnm, ↓gfl, ↓gds, ↓x_lenSt, ↓x_enumK, ↓x_enumKL, ↓gSortK, ↓gSortKR, ↓gFrD, ↓gFzD]
  refine ⟨L, rfl, hL, fun ns hN => ?_⟩
  obtain ⟨hX1, hX2⟩ := due_ok hL hp hN
  refine show_dy hX1 hX2 (by simp only [toPyS, toPy, dys_py]; rfl) ?_
  refine ⟨_, _, rfl, Nat.le_trans hc.n.le (by decide), _, _, rfl, Nat.le_trans hc.f.le (by decide), by decide, show_kept hc.n.ro hc.f.ro hc.n.le hc.f.le ?_⟩
  exact c151 T hL hp hN fun G' x9 => h _ _ _ _ _ _ _
theorem crs_nil : crs [] [] = [] := by simp [crs, crAll, crF, numL]
theorem cr_nil : CrOk [] [] := by
  have hb : ∀ b, BaOk b → BkOk b [] := fun b h => ⟨h, (fun _ z => nomatch z), List.Pairwise.nil, Nat.zero_le _⟩
  have hf : NoF [] [] := fun i r z => by cases z
  exact ⟨hb _ (.inl rfl), hb _ (.inr rfl), hf, hf⟩
theorem r_law (T : Txt K mg a) : ∀ ds S q, sp_law ds S q → g_law K a { nx := fun _ S' => q .non S', rt := q } (startD N_law ds) S := by
  rintro ds S q ⟨ns, rfl, rfl, h⟩
  rw [st_law]
  have hz : 8000 ≤ sizeLine := by decide
  simp only [g_law, ↓x_eqSS, ↓x_neSS, ↓gKGet, ↓x_kget, ↓x_ixE, at_last, ↓x_appE, ↓x_tyE, ↓x_itE, ↓x_lenE, ↓x_nePr, ↓x_eqPr, ↓x_neE, ↓x_lenr, ↓x_lenrI, ↓gRev, ↓x_par3, ↓x_par33, ↓x_fld, ↓x_fset, ↓x_mkF, ↓x_mk, ↓x_meth, ↓x_fldO, ↓x_fsetE, ↓x_fldE, ↓x_methO, ↓x_isiCO, ↓x_isiCN, ↓x_isiCT, ↓x_isiCLi, ↓x_isiCS, ↓x_isiCI, ↓x_own, ↓x_eqT2, ↓x_neT2, ↓x_neL4, ↓x_eqLN, ↓x_neNil, ↓x_gset, ↓x_lc, ↓x_for, ↓x_it, ↓x_rn1, ↓x_rn2, ↓x_enu, ↓x_zip, ↓x_itS, ↓x_itL, ↓x_itK, ↓x_itT, ↓x_rn1I, ↓x_rn2I, ↓x_enuL, ↓x_enuK, ↓x_zipL, ↓x_ixS0, ↓x_ixL, ↓x_ixT, ↓x_ixK, x_at0, x_at1, x_at2, x_at3, x_at4, ↓x_set00, ↓x_set01, ↓x_set02, ↓x_aug1, ↓x_aug2, ↓x_aug3, ↓x_aug4, ↓x_aug5, ↓x_aug6, ↓x_aug7, ↓x_aug8, ↓x_aug9, ↓x_aug10, ↓x_aug11, ↓x_aug12, ↓x_aug13, ↓x_aug14, ↓x_aug15, ↓x_aug16, ↓x_aug17, ↓x_aug18, ↓x_aug19, ↓x_aug20, ↓x_aug21, ↓x_aug22, ↓x_aug23, Int.reduceToNat, Int.reducePow, ↓gSeq, ↓gIfS, ↓gSet, ↓gAsg, ↓x_par, ↓x_par2, ↓gRet, ↓gRetN, ↓gNext, ↓gDrop, ↓gBreak, ↓gCont, ↓gDead, ↓gCB, ↓gB2, ↓gU, ↓gC, ↓Dl.gCons, ↓Dl.gNil, ↓Dl.gTup, ↓Dl.gLst, ↓gTest, ↓gOrB, ↓gAndB, ↓gNotB, ↓gAndV, ↓gOrV, ↓gNotV, ↓gIf, ↓gIx, ↓gSl, ↓gPart, ↓gNoP, ↓gMt, ↓gCall, ↓gArgs, ↓gIsN, ↓gNotN, ↓gChain, ↓x_fmtS, ↓x_afS, ↓x_afI, ↓x_js0, ↓x_jsc, ↓gJoined, ↓gYes, ↓x_bnm, ↓x_btp, ↓x_bn, ↓x_bc, ↓x_nnN, ↓x_nnI, ↓x_nnS, ↓x_nnB, ↓x_nnT, ↓x_nnL, ↓x_nnO, ↓x_nnl, ↓x_tyS, ↓x_tyL, ↓x_i2, ↓aSub, ↓aFdiv, ↓aMod, ↓aPow, ↓aShr, ↓aLt, ↓aLe, ↓aGt, ↓aGe, ↓x_addI, ↓x_addS, ↓x_mulI, ↓x_iaddS, ↓x_iaddI, ↓x_neg, ↓x_eqI, ↓x_neI, ↓x_eqS, ↓x_neS, ↓x_eqB, ↓x_neB, ↓x_eqNI, ↓x_neNI, ↓x_lenS, ↓x_lenL_l, ↓x_lenL_k, ↓x_lenL_t, ↓x_str, ↓x_intI, ↓x_intB, ↓x_divmod, ↓x_max2, ↓x_min2, ↓x_ixS, ↓x_slS, ↓x_slT, ↓x_slL_l, ↓x_slL_k, ↓x_inS, ↓x_newT, ↓x_newF, ↓x_si, ↓x_s1, ↓x_s0, ↓x_rpart, ↓x_part, ↓x_a1, ↓x_a2, ↓x_isiStr, ↓x_isiInt, ↓x_isiIntB, ↓x_isiIntS, ↓x_isiBB, ↓x_isiBI, ↓x_isiStrI, ↓x_isiNonI, ↓x_isiNonS, ↓x_isiT, ↓x_isiL, ↓x_var0, ↓x_varS, ↓x_ex, ↓x_aug0, gat, pick, Option.some.injEq, D.bl.injEq, D.int.injEq, D.str.injEq, D.tup.injEq, D.lst.injEq, List.cons.injEq, and_true, true_and, List.set_cons_zero, List.set_cons_succ, List.length_cons, List.length_nil, List.filterMap_cons, List.filterMap_nil, List.getElem?_cons_zero, List.getElem?_cons_succ, Option.bind_some, ↓reduceIte, if_true, if_false, Bool.false_eq_true, Bool.true_eq_false, decide_eq_true_eq, beq_self_eq_true, Bool.not_true, Bool.not_false, Bool.not_eq_true', decide_eq_false_iff_not, exists_eq_left', exists_eq_left, exists_eq, ↓x_dnT, ↓x_dnF, ↓gAsgL, ↓gMMDef, ↓gDSet, ↓gSItems, ↓x_nilL, ↓x_nilE, List.isEmpty_nil, List.isEmpty_cons, Bool.true_xor, Bool.false_xor, ↓gSortSet, ↓gLenFz, ↓gOrT, ↓gAndT, ↓gTryAs, ↓gTryO, ↓gRaise, ↓gCallX, ↓gMethX, ↓gMakeX, ↓gFldX, ↓x_inXs, Bool.false_xor, Bool.true_xor, ↓gOrS, ↓x_fmtRS, ↓x_afRS, ↓x_afRI, ↓x_stO, ↓x_zipS, ↓x_zipE, ↓x_zipSL, ↓x_zipST, ↓x_zipEL, ↓x_augix, ↓x_isB, ↓x_notB, ↓gLR1, ↓gLR2, ↓gDIxT, ↓gDGt1T, ↓gDSetT, ↓gDNewT, ↓gDIx, ↓gDGt1, ↓gDGt2, ↓gDIn, ↓gDSetd, ↓gDPop1, ↓gDPop2, ↓gTIdx, ↓gLKeys, ↓gDisp, ↓gAsgT, ↓gFldAug, ↓gts, ↓gts0, ↓gnm, ↓gfl, ↓gds, ↓x_lenSt, ↓x_enumK, ↓x_enumKL, ↓gSortK, ↓gSortKR, ↓gFrD, ↓gFzD]
  refine ⟨ns, rfl, rfl, ?_⟩
  refine ⟨by decide, by decide, ?_⟩
  refine ⟨fun i ρ S' => ∃ o G x2 x3 x4 x5 x6 x7 x8 x9 x10, S' = o :: G ∧ Mt.Tp (2000 * (i : Nat)) o ∧ ρ = [some (.ksq (ns.map .int)), some (.loc 0), x2, x3, x4, x5, x6, x7, x8, x9, x10], ?_, ?_, ?_⟩
  · exact ⟨_, [], _, _, _, _, _, _, _, _, _, rfl, ⟨ns.take 63, 0, 0, rfl, by decide, by decide, by decide⟩, rfl⟩
  · rintro i d ρ S' hd ⟨o, G, x2, x3, x4, x5, x6, x7, x8, x9, x10, rfl, ht, rfl⟩
    have hi : i < 3 := by
      have := (List.getElem?_eq_some_iff.mp hd).1
      rwa [x_rngL] at this
    refine ⟨trivial, _, x_bnm, ?_⟩
    simp only [↓x_eqSS, ↓x_neSS, ↓gKGet, ↓x_kget, ↓x_ixE, at_last, ↓x_appE, ↓x_tyE, ↓x_itE, ↓x_lenE, ↓x_nePr, ↓x_eqPr, ↓x_neE, ↓x_lenr, ↓x_lenrI, ↓gRev, ↓x_par3, ↓x_par33, ↓x_fld, ↓x_fset, ↓x_mkF, ↓x_mk, ↓x_meth, ↓x_fldO, ↓x_fsetE, ↓x_fldE, ↓x_methO, ↓x_isiCO, ↓x_isiCN, ↓x_isiCT, ↓x_isiCLi, ↓x_isiCS, ↓x_isiCI, ↓x_own, ↓x_eqT2, ↓x_neT2, ↓x_neL4, ↓x_eqLN, ↓x_neNil, ↓x_gset, ↓x_lc, ↓x_for, ↓x_it, ↓x_rn1, ↓x_rn2, ↓x_enu, ↓x_zip, ↓x_itS, ↓x_itL, ↓x_itK, ↓x_itT, ↓x_rn1I, ↓x_rn2I, ↓x_enuL, ↓x_enuK, ↓x_zipL, ↓x_ixS0, ↓x_ixL, ↓x_ixT, ↓x_ixK, x_at0, x_at1, x_at2, x_at3, x_at4, ↓x_set00, ↓x_set01, ↓x_set02, ↓x_aug1, ↓x_aug2, ↓x_aug3, ↓x_aug4, ↓x_aug5, ↓x_aug6, ↓x_aug7, ↓x_aug8, ↓x_aug9, ↓x_aug10, ↓x_aug11, ↓x_aug12, ↓x_aug13, ↓x_aug14, ↓x_aug15, ↓x_aug16, ↓x_aug17, ↓x_aug18, ↓x_aug19, ↓x_aug20, ↓x_aug21, ↓x_aug22, ↓x_aug23, Int.reduceToNat, Int.reducePow, ↓gSeq, ↓gIfS, ↓gSet, ↓gAsg, ↓x_par, ↓x_par2, ↓gRet, ↓gRetN, ↓gNext, ↓gDrop, ↓gBreak, ↓gCont, ↓gDead, ↓gCB, ↓gB2, ↓gU, ↓gC, ↓Dl.gCons, ↓Dl.gNil, ↓Dl.gTup, ↓Dl.gLst, ↓gTest, ↓gOrB, ↓gAndB, ↓gNotB, ↓gAndV, ↓gOrV, ↓gNotV, ↓gIf, ↓gIx, ↓gSl, ↓gPart, ↓gNoP, ↓gMt, ↓gCall, ↓gArgs, ↓gIsN, ↓gNotN, ↓gChain, ↓x_fmtS, ↓x_afS, ↓x_afI, ↓x_js0, ↓x_jsc, ↓gJoined, ↓gYes, ↓x_bnm, ↓x_btp, ↓x_bn, ↓x_bc, ↓x_nnN, ↓x_nnI, ↓x_nnS, ↓x_nnB, ↓x_nnT, ↓x_nnL, ↓x_nnO, ↓x_nnl, ↓x_tyS, ↓x_tyL, ↓x_i2, ↓aSub, ↓aFdiv, ↓aMod, ↓aPow, ↓aShr, ↓aLt, ↓aLe, ↓aGt, ↓aGe, ↓x_addI, ↓x_addS, ↓x_mulI, ↓x_iaddS, ↓x_iaddI, ↓x_neg, ↓x_eqI, ↓x_neI, ↓x_eqS, ↓x_neS, ↓x_eqB, ↓x_neB, ↓x_eqNI, ↓x_neNI, ↓x_lenS, ↓x_lenL_l, ↓x_lenL_k, ↓x_lenL_t, ↓x_str, ↓x_intI, ↓x_intB, ↓x_divmod, ↓x_max2, ↓x_min2, ↓x_ixS, ↓x_slS, ↓x_slT, ↓x_slL_l, ↓x_slL_k, ↓x_inS, ↓x_newT, ↓x_newF, ↓x_si, ↓x_s1, ↓x_s0, ↓x_rpart, ↓x_part, ↓x_a1, ↓x_a2, ↓x_isiStr, ↓x_isiInt, ↓x_isiIntB, ↓x_isiIntS, ↓x_isiBB, ↓x_isiBI, ↓x_isiStrI, ↓x_isiNonI, ↓x_isiNonS, ↓x_isiT, ↓x_isiL, ↓x_var0, ↓x_varS, ↓x_ex, ↓x_aug0, gat, pick, Option.some.injEq, D.bl.injEq, D.int.injEq, D.str.injEq, D.tup.injEq, D.lst.injEq, List.cons.injEq, and_true, true_and, List.set_cons_zero, List.set_cons_succ, List.length_cons, List.length_nil, List.filterMap_cons, List.filterMap_nil, List.getElem?_cons_zero, List.getElem?_cons_succ, Option.bind_some, ↓reduceIte, if_true, if_false, Bool.false_eq_true, Bool.true_eq_false, decide_eq_true_eq, beq_self_eq_true, Bool.not_true, Bool.not_false, Bool.not_eq_true', decide_eq_false_iff_not, exists_eq_left', exists_eq_left, exists_eq, ↓x_dnT, ↓x_dnF, ↓gAsgL, ↓gMMDef, ↓gDSet, ↓gSItems, ↓x_nilL, ↓x_nilE, List.isEmpty_nil, List.isEmpty_cons, Bool.true_xor, Bool.false_xor, ↓gSortSet, ↓gLenFz, ↓gOrT, ↓gAndT, ↓gTryAs, ↓gTryO, ↓gRaise, ↓gCallX, ↓gMethX, ↓gMakeX, ↓gFldX, ↓x_inXs, Bool.false_xor, Bool.true_xor, ↓gOrS, ↓x_fmtRS, ↓x_afRS, ↓x_afRI, ↓x_stO, ↓x_zipS, ↓x_zipE, ↓x_zipSL, ↓x_zipST, ↓x_zipEL, ↓x_augix, ↓x_isB, ↓x_notB, ↓gLR1, ↓gLR2, ↓gDIxT, ↓gDGt1T, ↓gDSetT, ↓gDNewT, ↓gDIx, ↓gDGt1, ↓gDGt2, ↓gDIn, ↓gDSetd, ↓gDPop1, ↓gDPop2, ↓gTIdx, ↓gLKeys, ↓gDisp, ↓gAsgT, ↓gFldAug, ↓gts, ↓gts0, ↓gnm, ↓gfl, ↓gds, ↓x_lenSt, ↓x_enumK, ↓x_enumKL, ↓gSortK, ↓gSortKR, ↓gFrD, ↓gFzD]
    refine ⟨4, by decide, by decide, Mt.tk_in ht (by omega) fun d1 o1 ⟨xs, e1, hxl, hxn, hx⟩ t1 => ?_⟩
    subst e1
    refine ⟨xs, ⟨by omega, by omega, hx⟩, Mt.tk_in t1 (by omega) fun d2 o2 ⟨L, e2, hL⟩ t2 => ?_⟩
    subst e2
    refine Mt.draw_in (by decide) (by decide) t2 (by omega) fun y o3 hy0 hy1 t3 => ?_
    simp only [↓x_eqSS, ↓x_neSS, ↓gKGet, ↓x_kget, ↓x_ixE, at_last, ↓x_appE, ↓x_tyE, ↓x_itE, ↓x_lenE, ↓x_nePr, ↓x_eqPr, ↓x_neE, ↓x_lenr, ↓x_lenrI, ↓gRev, ↓x_par3, ↓x_par33, ↓x_fld, ↓x_fset, ↓x_mkF, ↓x_mk, ↓x_meth, ↓x_fldO, ↓x_fsetE, ↓x_fldE, ↓x_methO, ↓x_isiCO, ↓x_isiCN, ↓x_isiCT, ↓x_isiCLi, ↓x_isiCS, ↓x_isiCI, ↓x_own, ↓x_eqT2, ↓x_neT2, ↓x_neL4, ↓x_eqLN, ↓x_neNil, ↓x_gset, ↓x_lc, ↓x_for, ↓x_it, ↓x_rn1, ↓x_rn2, ↓x_enu, ↓x_zip, ↓x_itS, ↓x_itL, ↓x_itK, ↓x_itT, ↓x_rn1I, ↓x_rn2I, ↓x_enuL, ↓x_enuK, ↓x_zipL, ↓x_ixS0, ↓x_ixL, ↓x_ixT, ↓x_ixK, x_at0, x_at1, x_at2, x_at3, x_at4, ↓x_set00, ↓x_set01, ↓x_set02, ↓x_aug1, ↓x_aug2, ↓x_aug3, ↓x_aug4, ↓x_aug5, ↓x_aug6, ↓x_aug7, ↓x_aug8, ↓x_aug9, ↓x_aug10, ↓x_aug11, ↓x_aug12, ↓x_aug13, ↓x_aug14, ↓x_aug15, ↓x_aug16, ↓x_aug17, ↓x_aug18, ↓x_aug19, ↓x_aug20, ↓x_aug21, ↓x_aug22, ↓x_aug23, Int.reduceToNat, Int.reducePow, ↓gSeq, ↓gIfS, ↓gSet, ↓gAsg, ↓x_par, ↓x_par2, ↓gRet, ↓gRetN, ↓gNext, ↓gDrop, ↓gBreak, ↓gCont, ↓gDead, ↓gCB, ↓gB2, ↓gU, ↓gC, ↓Dl.gCons, ↓Dl.gNil, ↓Dl.gTup, ↓Dl.gLst, ↓gTest, ↓gOrB, ↓gAndB, ↓gNotB, ↓gAndV, ↓gOrV, ↓gNotV, ↓gIf, ↓gIx, ↓gSl, ↓gPart, ↓gNoP, ↓gMt, ↓gCall, ↓gArgs, ↓gIsN, ↓gNotN, ↓gChain, ↓x_fmtS, ↓x_afS, ↓x_afI, ↓x_js0, ↓x_jsc, ↓gJoined, ↓gYes, ↓x_bnm, ↓x_btp, ↓x_bn, ↓x_bc, ↓x_nnN, ↓x_nnI, ↓x_nnS, ↓x_nnB, ↓x_nnT, ↓x_nnL, ↓x_nnO, ↓x_nnl, ↓x_tyS, ↓x_tyL, ↓x_i2, ↓aSub, ↓aFdiv, ↓aMod, ↓aPow, ↓aShr, ↓aLt, ↓aLe, ↓aGt, ↓aGe, ↓x_addI, ↓x_addS, ↓x_mulI, ↓x_iaddS, ↓x_iaddI, ↓x_neg, ↓x_eqI, ↓x_neI, ↓x_eqS, ↓x_neS, ↓x_eqB, ↓x_neB, ↓x_eqNI, ↓x_neNI, ↓x_lenS, ↓x_lenL_l, ↓x_lenL_k, ↓x_lenL_t, ↓x_str, ↓x_intI, ↓x_intB, ↓x_divmod, ↓x_max2, ↓x_min2, ↓x_ixS, ↓x_slS, ↓x_slT, ↓x_slL_l, ↓x_slL_k, ↓x_inS, ↓x_newT, ↓x_newF, ↓x_si, ↓x_s1, ↓x_s0, ↓x_rpart, ↓x_part, ↓x_a1, ↓x_a2, ↓x_isiStr, ↓x_isiInt, ↓x_isiIntB, ↓x_isiIntS, ↓x_isiBB, ↓x_isiBI, ↓x_isiStrI, ↓x_isiNonI, ↓x_isiNonS, ↓x_isiT, ↓x_isiL, ↓x_var0, ↓x_varS, ↓x_ex, ↓x_aug0, gat, pick, Option.some.injEq, D.bl.injEq, D.int.injEq, D.str.injEq, D.tup.injEq, D.lst.injEq, List.cons.injEq, and_true, true_and, List.set_cons_zero, List.set_cons_succ, List.length_cons, List.length_nil, List.filterMap_cons, List.filterMap_nil, List.getElem?_cons_zero, List.getElem?_cons_succ, Option.bind_some, ↓reduceIte, if_true, if_false, Bool.false_eq_true, Bool.true_eq_false, decide_eq_true_eq, beq_self_eq_true, Bool.not_true, Bool.not_false, Bool.not_eq_true', decide_eq_false_iff_not, exists_eq_left', exists_eq_left, exists_eq, ↓x_dnT, ↓x_dnF, ↓gAsgL, ↓gMMDef, ↓gDSet, ↓gSItems, ↓x_nilL, ↓x_nilE, List.isEmpty_nil, List.isEmpty_cons, Bool.true_xor, Bool.false_xor, ↓gSortSet, ↓gLenFz, ↓gOrT, ↓gAndT, ↓gTryAs, ↓gTryO, ↓gRaise, ↓gCallX, ↓gMethX, ↓gMakeX, ↓gFldX, ↓x_inXs, Bool.false_xor, Bool.true_xor, ↓gOrS, ↓x_fmtRS, ↓x_afRS, ↓x_afRI, ↓x_stO, ↓x_zipS, ↓x_zipE, ↓x_zipSL, ↓x_zipST, ↓x_zipEL, ↓x_augix, ↓x_isB, ↓x_notB, ↓gLR1, ↓gLR2, ↓gDIxT, ↓gDGt1T, ↓gDSetT, ↓gDNewT, ↓gDIx, ↓gDGt1, ↓gDGt2, ↓gDIn, ↓gDSetd, ↓gDPop1, ↓gDPop2, ↓gTIdx, ↓gLKeys, ↓gDisp, ↓gAsgT, ↓gFldAug, ↓gts, ↓gts0, ↓gnm, ↓gfl, ↓gds, ↓x_lenSt, ↓x_enumK, ↓x_enumKL, ↓gSortK, ↓gSortKR, ↓gFrD, ↓gFzD]
    split
    · refine ⟨_, rfl, rfl, ?_⟩
      rw [← List.map_reverse, x_newT]
      exact c148 T hL L.reverse_perm fun G' x5 x6 x7 x8 x9 x10 => ⟨o3, G', _, _, _, _, _, _, _, _, _, rfl, t3.mono (by omega), rfl⟩
    · exact c148 T hL (List.Perm.refl _) fun G' x5 x6 x7 x8 x9 x10 => ⟨o3, G', _, _, _, _, _, _, _, _, _, rfl, t3.mono (by omega), rfl⟩
  · rintro ρ S' ⟨o, G, x2, x3, x4, x5, x6, x7, x8, x9, x10, rfl, ht, rfl⟩
    refine ⟨trivial, ?_⟩
    simp only [↓x_eqSS, ↓x_neSS, ↓gKGet, ↓x_kget, ↓x_ixE, at_last, ↓x_appE, ↓x_tyE, ↓x_itE, ↓x_lenE, ↓x_nePr, ↓x_eqPr, ↓x_neE, ↓x_lenr, ↓x_lenrI, ↓gRev, ↓x_par3, ↓x_par33, ↓x_fld, ↓x_fset, ↓x_mkF, ↓x_mk, ↓x_meth, ↓x_fldO, ↓x_fsetE, ↓x_fldE, ↓x_methO, ↓x_isiCO, ↓x_isiCN, ↓x_isiCT, ↓x_isiCLi, ↓x_isiCS, ↓x_isiCI, ↓x_own, ↓x_eqT2, ↓x_neT2, ↓x_neL4, ↓x_eqLN, ↓x_neNil, ↓x_gset, ↓x_lc, ↓x_for, ↓x_it, ↓x_rn1, ↓x_rn2, ↓x_enu, ↓x_zip, ↓x_itS, ↓x_itL, ↓x_itK, ↓x_itT, ↓x_rn1I, ↓x_rn2I, ↓x_enuL, ↓x_enuK, ↓x_zipL, ↓x_ixS0, ↓x_ixL, ↓x_ixT, ↓x_ixK, x_at0, x_at1, x_at2, x_at3, x_at4, ↓x_set00, ↓x_set01, ↓x_set02, ↓x_aug1, ↓x_aug2, ↓x_aug3, ↓x_aug4, ↓x_aug5, ↓x_aug6, ↓x_aug7, ↓x_aug8, ↓x_aug9, ↓x_aug10, ↓x_aug11, ↓x_aug12, ↓x_aug13, ↓x_aug14, ↓x_aug15, ↓x_aug16, ↓x_aug17, ↓x_aug18, ↓x_aug19, ↓x_aug20, ↓x_aug21, ↓x_aug22, ↓x_aug23, Int.reduceToNat, Int.reducePow, ↓gSeq, ↓gIfS, ↓gSet, ↓gAsg, ↓x_par, ↓x_par2, ↓gRet, ↓gRetN, ↓gNext, ↓gDrop, ↓gBreak, ↓gCont, ↓gDead, ↓gCB, ↓gB2, ↓gU, ↓gC, ↓Dl.gCons, ↓Dl.gNil, ↓Dl.gTup, ↓Dl.gLst, ↓gTest, ↓gOrB, ↓gAndB, ↓gNotB, ↓gAndV, ↓gOrV, ↓gNotV, ↓gIf, ↓gIx, ↓gSl, ↓gPart, ↓gNoP, ↓gMt, ↓gCall, ↓gArgs, ↓gIsN, ↓gNotN, ↓gChain, ↓x_fmtS, ↓x_afS, ↓x_afI, ↓x_js0, ↓x_jsc, ↓gJoined, ↓gYes, ↓x_bnm, ↓x_btp, ↓x_bn, ↓x_bc, ↓x_nnN, ↓x_nnI, ↓x_nnS, ↓x_nnB, ↓x_nnT, ↓x_nnL, ↓x_nnO, ↓x_nnl, ↓x_tyS, ↓x_tyL, ↓x_i2, ↓aSub, ↓aFdiv, ↓aMod, ↓aPow, ↓aShr, ↓aLt, ↓aLe, ↓aGt, ↓aGe, ↓x_addI, ↓x_addS, ↓x_mulI, ↓x_iaddS, ↓x_iaddI, ↓x_neg, ↓x_eqI, ↓x_neI, ↓x_eqS, ↓x_neS, ↓x_eqB, ↓x_neB, ↓x_eqNI, ↓x_neNI, ↓x_lenS, ↓x_lenL_l, ↓x_lenL_k, ↓x_lenL_t, ↓x_str, ↓x_intI, ↓x_intB, ↓x_divmod, ↓x_max2, ↓x_min2, ↓x_ixS, ↓x_slS, ↓x_slT, ↓x_slL_l, ↓x_slL_k, ↓x_inS, ↓x_newT, ↓x_newF, ↓x_si, ↓x_s1, ↓x_s0, ↓x_rpart, ↓x_part, ↓x_a1, ↓x_a2, ↓x_isiStr, ↓x_isiInt, ↓x_isiIntB, ↓x_isiIntS, ↓x_isiBB, ↓x_isiBI, ↓x_isiStrI, ↓x_isiNonI, ↓x_isiNonS, ↓x_isiT, ↓x_isiL, ↓x_var0, ↓x_varS, ↓x_ex, ↓x_aug0, gat, pick, Option.some.injEq, D.bl.injEq, D.int.injEq, D.str.injEq, D.tup.injEq, D.lst.injEq, List.cons.injEq, and_true, true_and, List.set_cons_zero, List.set_cons_succ, List.length_cons, List.length_nil, List.filterMap_cons, List.filterMap_nil, List.getElem?_cons_zero, List.getElem?_cons_succ, Option.bind_some, ↓reduceIte, if_true, if_false, Bool.false_eq_true, Bool.true_eq_false, decide_eq_true_eq, beq_self_eq_true, Bool.not_true, Bool.not_false, Bool.not_eq_true', decide_eq_false_iff_not, exists_eq_left', exists_eq_left, exists_eq, ↓x_dnT, ↓x_dnF, ↓gAsgL, ↓gMMDef, ↓gDSet, ↓gSItems, ↓x_nilL, ↓x_nilE, List.isEmpty_nil, List.isEmpty_cons, Bool.true_xor, Bool.false_xor, ↓gSortSet, ↓gLenFz, ↓gOrT, ↓gAndT, ↓gTryAs, ↓gTryO, ↓gRaise, ↓gCallX, ↓gMethX, ↓gMakeX, ↓gFldX, ↓x_inXs, Bool.false_xor, Bool.true_xor, ↓gOrS, ↓x_fmtRS, ↓x_afRS, ↓x_afRI, ↓x_stO, ↓x_zipS, ↓x_zipE, ↓x_zipSL, ↓x_zipST, ↓x_zipEL, ↓x_augix, ↓x_isB, ↓x_notB, ↓gLR1, ↓gLR2, ↓gDIxT, ↓gDGt1T, ↓gDSetT, ↓gDNewT, ↓gDIx, ↓gDGt1, ↓gDGt2, ↓gDIn, ↓gDSetd, ↓gDPop1, ↓gDPop2, ↓gTIdx, ↓gLKeys, ↓gDisp, ↓gAsgT, ↓gFldAug, ↓gts, ↓gts0, ↓gnm, ↓gfl, ↓gds, ↓x_lenSt, ↓x_enumK, ↓x_enumKL, ↓gSortK, ↓gSortKR, ↓gFrD, ↓gFzD]
    refine ⟨rfl, rfl, o :: G, "far", rfl, rfl, rfl, ?_⟩
    have e1 := frz2 (a := a) (X := []) (b := "far") (R := []) (S0 := o :: G) rfl
    rw [List.append_nil, List.append_nil] at e1
    refine ⟨_, _, _, e1, ?_⟩
    refine ⟨rfl, rfl, _, "near", rfl, rfl, rfl, ?_⟩
    have e2 := frz2 (a := a) (X := []) (b := "near") (R := []) (S0 := o :: G ++ [none, none]) rfl
    rw [List.append_nil, List.append_nil] at e2
    refine ⟨_, _, _, e2, ?_⟩
    refine ⟨_, _, rfl, [], [], .inr rfl, cr_nil, ?_⟩
    rw [crs_nil]
    refine ⟨by decide, x_nilL.mpr ?_⟩
    exact h _
end
end Lw
namespace Lw
open PySem L2 Dl
section
variable {P : Program} {w : World} {K : PySem.W.Frag} {mg : Str → Option Value} {base : Heap} {a : Ad}
theorem ok_other_bank (T : Txt K mg a) : Fnc P w K mg base "other_bank" s_other_bank dv_other_bank 1 ps_other_bank (sp_other_bank a) :=
  fnc_of0 T.b_other_bank sc_other_bank (by intro ds S q h; obtain ⟨_, rfl, _⟩ := h; rfl) (g_other_bank K a) (fun f cdv A outer s H E hr => t_other_bank T  hr) (fun ds S q _ _ h => r_other_bank ds S q h)
theorem ok_Book_init (T : Txt K mg a) : CFn P w K mg base "Book" a.C_Book "Book.__init__" s_Book_init dv_Book_init 1 ps_Book_init (sp_Book_init a) :=
  cfn_of0 T.mC_Book T.b_Book_init sc_Book_init (by intro ds S q h; obtain ⟨_, _, rfl, _⟩ := h; rfl) (g_Book_init K a) (fun f cdv A outer s H E hr => t_Book_init T  hr) (fun ds S q _ _ h => r_Book_init T ds S q h)
theorem ok_Book_write (T : Txt K mg a) : MFn P w K mg base a.C_Book "write" "Book.write" s_Book_write dv_Book_write 1 ps_Book_write (sp_Book_write a) :=
  mfn_of0 T.cl_Book T.b_Book_write sc_Book_write (by intro ds S q h; obtain ⟨_, _, _, _, _, _, _, rfl, _⟩ := h; rfl) (g_Book_write K a) (fun f cdv A outer s H E hr => t_Book_write T  hr) (fun ds S q _ _ h => r_Book_write T ds S q h)
theorem ok_Book_rows (T : Txt K mg a) : MFn P w K mg base a.C_Book "rows" "Book.rows" s_Book_rows dv_Book_rows 1 ps_Book_rows (sp_Book_rows a) :=
  mfn_of T.cl_Book T.b_Book_rows sc_Book_rows (by intro ds S q h; obtain ⟨_, _, rfl, _⟩ := h; rfl) (g_Book_rows K a) (fun f cdv A outer s H E hr => t_Book_rows T  hr) (rf_Book_rows T)
theorem ok_numbered (T : Txt K mg a) : Fnc P w K mg base "numbered" s_numbered dv_numbered 2 ps_numbered (sp_numbered a) :=
  fnc_of0 T.b_numbered sc_numbered (by intro ds S q h; obtain ⟨_, _, _, rfl, _⟩ := h; rfl) (g_numbered K a) (fun f cdv A outer s H E hr => t_numbered T (ok_Book_rows T) hr) (fun ds S q _ _ h => r_numbered T ds S q h)
theorem ok_faults_of (T : Txt K mg a) : Fnc P w K mg base "faults_of" s_faults_of dv_faults_of 3 ps_faults_of (sp_faults_of a) :=
  fnc_of T.b_faults_of sc_faults_of (by intro ds S q h; obtain ⟨_, _, _, _, rfl, _⟩ := h; rfl) (g_faults_of K a) (fun f cdv A outer s H E hr => t_faults_of T (ok_Book_rows T) (ok_numbered T) hr) (rf_faults_of T)
theorem ok_crossings_live (T : Txt K mg a) : Fnc P w K mg base "crossings" s_crossings dv_crossings 4 ps_crossings (sp_crossings_live a) :=
  fnc_of0 T.b_crossings sc_crossings (by intro ds S q h; first | exact False.elim h | (cases h with | inl h => (first | (obtain ⟨rfl, _⟩ := h; rfl) | (obtain ⟨_, _, _, _, ⟨_, _, rfl, _⟩, _⟩ := h; rfl) | (obtain ⟨_, rfl, _⟩ := h; rfl) | (obtain ⟨_, _, rfl, _⟩ := h; rfl) | (obtain ⟨_, _, _, rfl, _⟩ := h; rfl) | (obtain ⟨_, _, _, _, rfl, _⟩ := h; rfl) | (obtain ⟨_, _, _, _, _, rfl, _⟩ := h; rfl) | (obtain ⟨_, _, _, _, _, _, rfl, _⟩ := h; rfl) | (obtain ⟨_, _, _, _, _, _, _, rfl, _⟩ := h; rfl) | (obtain ⟨_, _, _, _, _, _, _, _, rfl, _⟩ := h; rfl) | (obtain ⟨_, _, _, _, _, _, _, _, _, rfl, _⟩ := h; rfl) | (obtain ⟨_, _, _, _, _, _, _, _, _, _, rfl, _⟩ := h; rfl) | (obtain ⟨_, _, _, _, _, _, _, _, _, _, _, rfl, _⟩ := h; rfl) | (obtain ⟨_, _, _, _, _, _, _, _, _, _, _, _, rfl, _⟩ := h; rfl) | (obtain ⟨_, _, _, _, _, _, _, _, _, _, _, _, _, rfl, _⟩ := h; rfl) | (obtain ⟨_, _, _, _, _, _, _, _, _, _, _, _, _, _, rfl, _⟩ := h; rfl) | (obtain ⟨_, _, _, _, _, _, _, _, _, _, _, _, _, _, _, rfl, _⟩ := h; rfl) | (obtain ⟨_, _, _, _, _, _, _, _, _, _, _, _, _, _, _, _, rfl, _⟩ := h; rfl) | (obtain ⟨_, _, _, _, _, _, _, _, _, _, _, _, _, _, _, _, _, rfl, _⟩ := h; rfl) | (obtain ⟨_, _, _, _, _, _, _, _, _, _, _, _, _, _, _, _, _, _, rfl, _⟩ := h; rfl) | (obtain ⟨_, _, _, _, _, _, _, _, _, _, _, _, _, _, _, _, _, _, _, rfl, _⟩ := h; rfl) | exact Mt.tk_len rfl h | (obtain ⟨_, h⟩ := h; exact Mt.tk_len rfl h) | (obtain ⟨_, _, h⟩ := h; exact Mt.tk_len rfl h) | (obtain ⟨_, _, _, h⟩ := h; exact Mt.tk_len rfl h) | (obtain ⟨_, _, _, _, h⟩ := h; exact Mt.tk_len rfl h) | (obtain ⟨_, _, _, _, _, h⟩ := h; exact Mt.tk_len rfl h) | (obtain ⟨_, _, _, _, _, _, h⟩ := h; exact Mt.tk_len rfl h) | (obtain ⟨_, _, _, _, _, _, _, h⟩ := h; exact Mt.tk_len rfl h) | (obtain ⟨_, _, _, _, _, _, _, _, h⟩ := h; exact Mt.tk_len rfl h) | (obtain ⟨_, _, _, _, _, _, _, _, _, h⟩ := h; exact Mt.tk_len rfl h) | (obtain ⟨_, _, _, _, _, _, _, _, _, _, h⟩ := h; exact Mt.tk_len rfl h) | (obtain ⟨_, _, _, _, _, _, _, _, _, _, _, h⟩ := h; exact Mt.tk_len rfl h) | (obtain ⟨_, _, _, _, _, _, _, _, _, _, _, _, h⟩ := h; exact Mt.tk_len rfl h) | (obtain ⟨_, _, _, _, _, _, _, _, _, _, _, _, _, h⟩ := h; exact Mt.tk_len rfl h) | (obtain ⟨_, _, _, _, _, _, _, _, _, _, _, _, _, _, h⟩ := h; exact Mt.tk_len rfl h) | (obtain ⟨_, _, _, _, _, _, _, _, _, _, _, _, _, _, _, h⟩ := h; exact Mt.tk_len rfl h) | (obtain ⟨_, _, _, _, _, _, _, _, _, _, _, _, _, _, _, _, h⟩ := h; exact Mt.tk_len rfl h) | (obtain ⟨_, _, _, _, _, _, _, _, _, _, _, _, _, _, _, _, _, h⟩ := h; exact Mt.tk_len rfl h)) | inr h => (first | (obtain ⟨rfl, _⟩ := h; rfl) | (obtain ⟨_, _, _, _, ⟨_, _, rfl, _⟩, _⟩ := h; rfl) | (obtain ⟨_, rfl, _⟩ := h; rfl) | (obtain ⟨_, _, rfl, _⟩ := h; rfl) | (obtain ⟨_, _, _, rfl, _⟩ := h; rfl) | (obtain ⟨_, _, _, _, rfl, _⟩ := h; rfl) | (obtain ⟨_, _, _, _, _, rfl, _⟩ := h; rfl) | (obtain ⟨_, _, _, _, _, _, rfl, _⟩ := h; rfl) | (obtain ⟨_, _, _, _, _, _, _, rfl, _⟩ := h; rfl) | (obtain ⟨_, _, _, _, _, _, _, _, rfl, _⟩ := h; rfl) | (obtain ⟨_, _, _, _, _, _, _, _, _, rfl, _⟩ := h; rfl) | (obtain ⟨_, _, _, _, _, _, _, _, _, _, rfl, _⟩ := h; rfl) | (obtain ⟨_, _, _, _, _, _, _, _, _, _, _, rfl, _⟩ := h; rfl) | (obtain ⟨_, _, _, _, _, _, _, _, _, _, _, _, rfl, _⟩ := h; rfl) | (obtain ⟨_, _, _, _, _, _, _, _, _, _, _, _, _, rfl, _⟩ := h; rfl) | (obtain ⟨_, _, _, _, _, _, _, _, _, _, _, _, _, _, rfl, _⟩ := h; rfl) | (obtain ⟨_, _, _, _, _, _, _, _, _, _, _, _, _, _, _, rfl, _⟩ := h; rfl) | (obtain ⟨_, _, _, _, _, _, _, _, _, _, _, _, _, _, _, _, rfl, _⟩ := h; rfl) | (obtain ⟨_, _, _, _, _, _, _, _, _, _, _, _, _, _, _, _, _, rfl, _⟩ := h; rfl) | (obtain ⟨_, _, _, _, _, _, _, _, _, _, _, _, _, _, _, _, _, _, rfl, _⟩ := h; rfl) | (obtain ⟨_, _, _, _, _, _, _, _, _, _, _, _, _, _, _, _, _, _, _, rfl, _⟩ := h; rfl) | exact Mt.tk_len rfl h | (obtain ⟨_, h⟩ := h; exact Mt.tk_len rfl h) | (obtain ⟨_, _, h⟩ := h; exact Mt.tk_len rfl h) | (obtain ⟨_, _, _, h⟩ := h; exact Mt.tk_len rfl h) | (obtain ⟨_, _, _, _, h⟩ := h; exact Mt.tk_len rfl h) | (obtain ⟨_, _, _, _, _, h⟩ := h; exact Mt.tk_len rfl h) | (obtain ⟨_, _, _, _, _, _, h⟩ := h; exact Mt.tk_len rfl h) | (obtain ⟨_, _, _, _, _, _, _, h⟩ := h; exact Mt.tk_len rfl h) | (obtain ⟨_, _, _, _, _, _, _, _, h⟩ := h; exact Mt.tk_len rfl h) | (obtain ⟨_, _, _, _, _, _, _, _, _, h⟩ := h; exact Mt.tk_len rfl h) | (obtain ⟨_, _, _, _, _, _, _, _, _, _, h⟩ := h; exact Mt.tk_len rfl h) | (obtain ⟨_, _, _, _, _, _, _, _, _, _, _, h⟩ := h; exact Mt.tk_len rfl h) | (obtain ⟨_, _, _, _, _, _, _, _, _, _, _, _, h⟩ := h; exact Mt.tk_len rfl h) | (obtain ⟨_, _, _, _, _, _, _, _, _, _, _, _, _, h⟩ := h; exact Mt.tk_len rfl h) | (obtain ⟨_, _, _, _, _, _, _, _, _, _, _, _, _, _, h⟩ := h; exact Mt.tk_len rfl h) | (obtain ⟨_, _, _, _, _, _, _, _, _, _, _, _, _, _, _, h⟩ := h; exact Mt.tk_len rfl h) | (obtain ⟨_, _, _, _, _, _, _, _, _, _, _, _, _, _, _, _, h⟩ := h; exact Mt.tk_len rfl h) | (obtain ⟨_, _, _, _, _, _, _, _, _, _, _, _, _, _, _, _, _, h⟩ := h; exact Mt.tk_len rfl h))) | (first | (obtain ⟨rfl, _⟩ := h; rfl) | (obtain ⟨_, _, _, _, ⟨_, _, rfl, _⟩, _⟩ := h; rfl) | (obtain ⟨_, rfl, _⟩ := h; rfl) | (obtain ⟨_, _, rfl, _⟩ := h; rfl) | (obtain ⟨_, _, _, rfl, _⟩ := h; rfl) | (obtain ⟨_, _, _, _, rfl, _⟩ := h; rfl) | (obtain ⟨_, _, _, _, _, rfl, _⟩ := h; rfl) | (obtain ⟨_, _, _, _, _, _, rfl, _⟩ := h; rfl) | (obtain ⟨_, _, _, _, _, _, _, rfl, _⟩ := h; rfl) | (obtain ⟨_, _, _, _, _, _, _, _, rfl, _⟩ := h; rfl) | (obtain ⟨_, _, _, _, _, _, _, _, _, rfl, _⟩ := h; rfl) | (obtain ⟨_, _, _, _, _, _, _, _, _, _, rfl, _⟩ := h; rfl) | (obtain ⟨_, _, _, _, _, _, _, _, _, _, _, rfl, _⟩ := h; rfl) | (obtain ⟨_, _, _, _, _, _, _, _, _, _, _, _, rfl, _⟩ := h; rfl) | (obtain ⟨_, _, _, _, _, _, _, _, _, _, _, _, _, rfl, _⟩ := h; rfl) | (obtain ⟨_, _, _, _, _, _, _, _, _, _, _, _, _, _, rfl, _⟩ := h; rfl) | (obtain ⟨_, _, _, _, _, _, _, _, _, _, _, _, _, _, _, rfl, _⟩ := h; rfl) | (obtain ⟨_, _, _, _, _, _, _, _, _, _, _, _, _, _, _, _, rfl, _⟩ := h; rfl) | (obtain ⟨_, _, _, _, _, _, _, _, _, _, _, _, _, _, _, _, _, rfl, _⟩ := h; rfl) | (obtain ⟨_, _, _, _, _, _, _, _, _, _, _, _, _, _, _, _, _, _, rfl, _⟩ := h; rfl) | (obtain ⟨_, _, _, _, _, _, _, _, _, _, _, _, _, _, _, _, _, _, _, rfl, _⟩ := h; rfl) | exact Mt.tk_len rfl h | (obtain ⟨_, h⟩ := h; exact Mt.tk_len rfl h) | (obtain ⟨_, _, h⟩ := h; exact Mt.tk_len rfl h) | (obtain ⟨_, _, _, h⟩ := h; exact Mt.tk_len rfl h) | (obtain ⟨_, _, _, _, h⟩ := h; exact Mt.tk_len rfl h) | (obtain ⟨_, _, _, _, _, h⟩ := h; exact Mt.tk_len rfl h) | (obtain ⟨_, _, _, _, _, _, h⟩ := h; exact Mt.tk_len rfl h) | (obtain ⟨_, _, _, _, _, _, _, h⟩ := h; exact Mt.tk_len rfl h) | (obtain ⟨_, _, _, _, _, _, _, _, h⟩ := h; exact Mt.tk_len rfl h) | (obtain ⟨_, _, _, _, _, _, _, _, _, h⟩ := h; exact Mt.tk_len rfl h) | (obtain ⟨_, _, _, _, _, _, _, _, _, _, h⟩ := h; exact Mt.tk_len rfl h) | (obtain ⟨_, _, _, _, _, _, _, _, _, _, _, h⟩ := h; exact Mt.tk_len rfl h) | (obtain ⟨_, _, _, _, _, _, _, _, _, _, _, _, h⟩ := h; exact Mt.tk_len rfl h) | (obtain ⟨_, _, _, _, _, _, _, _, _, _, _, _, _, h⟩ := h; exact Mt.tk_len rfl h) | (obtain ⟨_, _, _, _, _, _, _, _, _, _, _, _, _, _, h⟩ := h; exact Mt.tk_len rfl h) | (obtain ⟨_, _, _, _, _, _, _, _, _, _, _, _, _, _, _, h⟩ := h; exact Mt.tk_len rfl h) | (obtain ⟨_, _, _, _, _, _, _, _, _, _, _, _, _, _, _, _, h⟩ := h; exact Mt.tk_len rfl h) | (obtain ⟨_, _, _, _, _, _, _, _, _, _, _, _, _, _, _, _, _, h⟩ := h; exact Mt.tk_len rfl h))) (g_crossings K a) (fun f cdv A outer s H E hr => t_crossings T (ok_faults_of T) (ok_numbered T) (ok_other_bank T) hr) (fun ds S q _ _ h => r_crossings_live T ds S q h)
theorem ok_crossings (T : Txt K mg a) : Fnc P w K mg base "crossings" s_crossings dv_crossings 4 ps_crossings (sp_crossings a) :=
  fnc_of T.b_crossings sc_crossings (by intro ds S q h; obtain ⟨_, _, rfl, _⟩ := h; rfl) (g_crossings K a) (fun f cdv A outer s H E hr => t_crossings T (ok_faults_of T) (ok_numbered T) (ok_other_bank T) hr) (rf_crossings T)
theorem ok__law_feed (T : Txt K mg a) : Fnc P w K mg base "_law_feed" s__law_feed dv__law_feed 1 ps__law_feed (sp__law_feed a) :=
  fnc_of0 T.b__law_feed sc__law_feed (by intro ds S q h; first | exact False.elim h | (cases h with | inl h => (first | (obtain ⟨rfl, _⟩ := h; rfl) | (obtain ⟨_, _, _, _, ⟨_, _, rfl, _⟩, _⟩ := h; rfl) | (obtain ⟨_, rfl, _⟩ := h; rfl) | (obtain ⟨_, _, rfl, _⟩ := h; rfl) | (obtain ⟨_, _, _, rfl, _⟩ := h; rfl) | (obtain ⟨_, _, _, _, rfl, _⟩ := h; rfl) | (obtain ⟨_, _, _, _, _, rfl, _⟩ := h; rfl) | (obtain ⟨_, _, _, _, _, _, rfl, _⟩ := h; rfl) | (obtain ⟨_, _, _, _, _, _, _, rfl, _⟩ := h; rfl) | (obtain ⟨_, _, _, _, _, _, _, _, rfl, _⟩ := h; rfl) | (obtain ⟨_, _, _, _, _, _, _, _, _, rfl, _⟩ := h; rfl) | (obtain ⟨_, _, _, _, _, _, _, _, _, _, rfl, _⟩ := h; rfl) | (obtain ⟨_, _, _, _, _, _, _, _, _, _, _, rfl, _⟩ := h; rfl) | (obtain ⟨_, _, _, _, _, _, _, _, _, _, _, _, rfl, _⟩ := h; rfl) | (obtain ⟨_, _, _, _, _, _, _, _, _, _, _, _, _, rfl, _⟩ := h; rfl) | (obtain ⟨_, _, _, _, _, _, _, _, _, _, _, _, _, _, rfl, _⟩ := h; rfl) | (obtain ⟨_, _, _, _, _, _, _, _, _, _, _, _, _, _, _, rfl, _⟩ := h; rfl) | (obtain ⟨_, _, _, _, _, _, _, _, _, _, _, _, _, _, _, _, rfl, _⟩ := h; rfl) | (obtain ⟨_, _, _, _, _, _, _, _, _, _, _, _, _, _, _, _, _, rfl, _⟩ := h; rfl) | (obtain ⟨_, _, _, _, _, _, _, _, _, _, _, _, _, _, _, _, _, _, rfl, _⟩ := h; rfl) | (obtain ⟨_, _, _, _, _, _, _, _, _, _, _, _, _, _, _, _, _, _, _, rfl, _⟩ := h; rfl) | exact Mt.tk_len rfl h | (obtain ⟨_, h⟩ := h; exact Mt.tk_len rfl h) | (obtain ⟨_, _, h⟩ := h; exact Mt.tk_len rfl h) | (obtain ⟨_, _, _, h⟩ := h; exact Mt.tk_len rfl h) | (obtain ⟨_, _, _, _, h⟩ := h; exact Mt.tk_len rfl h) | (obtain ⟨_, _, _, _, _, h⟩ := h; exact Mt.tk_len rfl h) | (obtain ⟨_, _, _, _, _, _, h⟩ := h; exact Mt.tk_len rfl h) | (obtain ⟨_, _, _, _, _, _, _, h⟩ := h; exact Mt.tk_len rfl h) | (obtain ⟨_, _, _, _, _, _, _, _, h⟩ := h; exact Mt.tk_len rfl h) | (obtain ⟨_, _, _, _, _, _, _, _, _, h⟩ := h; exact Mt.tk_len rfl h) | (obtain ⟨_, _, _, _, _, _, _, _, _, _, h⟩ := h; exact Mt.tk_len rfl h) | (obtain ⟨_, _, _, _, _, _, _, _, _, _, _, h⟩ := h; exact Mt.tk_len rfl h) | (obtain ⟨_, _, _, _, _, _, _, _, _, _, _, _, h⟩ := h; exact Mt.tk_len rfl h) | (obtain ⟨_, _, _, _, _, _, _, _, _, _, _, _, _, h⟩ := h; exact Mt.tk_len rfl h) | (obtain ⟨_, _, _, _, _, _, _, _, _, _, _, _, _, _, h⟩ := h; exact Mt.tk_len rfl h) | (obtain ⟨_, _, _, _, _, _, _, _, _, _, _, _, _, _, _, h⟩ := h; exact Mt.tk_len rfl h) | (obtain ⟨_, _, _, _, _, _, _, _, _, _, _, _, _, _, _, _, h⟩ := h; exact Mt.tk_len rfl h) | (obtain ⟨_, _, _, _, _, _, _, _, _, _, _, _, _, _, _, _, _, h⟩ := h; exact Mt.tk_len rfl h)) | inr h => (first | (obtain ⟨rfl, _⟩ := h; rfl) | (obtain ⟨_, _, _, _, ⟨_, _, rfl, _⟩, _⟩ := h; rfl) | (obtain ⟨_, rfl, _⟩ := h; rfl) | (obtain ⟨_, _, rfl, _⟩ := h; rfl) | (obtain ⟨_, _, _, rfl, _⟩ := h; rfl) | (obtain ⟨_, _, _, _, rfl, _⟩ := h; rfl) | (obtain ⟨_, _, _, _, _, rfl, _⟩ := h; rfl) | (obtain ⟨_, _, _, _, _, _, rfl, _⟩ := h; rfl) | (obtain ⟨_, _, _, _, _, _, _, rfl, _⟩ := h; rfl) | (obtain ⟨_, _, _, _, _, _, _, _, rfl, _⟩ := h; rfl) | (obtain ⟨_, _, _, _, _, _, _, _, _, rfl, _⟩ := h; rfl) | (obtain ⟨_, _, _, _, _, _, _, _, _, _, rfl, _⟩ := h; rfl) | (obtain ⟨_, _, _, _, _, _, _, _, _, _, _, rfl, _⟩ := h; rfl) | (obtain ⟨_, _, _, _, _, _, _, _, _, _, _, _, rfl, _⟩ := h; rfl) | (obtain ⟨_, _, _, _, _, _, _, _, _, _, _, _, _, rfl, _⟩ := h; rfl) | (obtain ⟨_, _, _, _, _, _, _, _, _, _, _, _, _, _, rfl, _⟩ := h; rfl) | (obtain ⟨_, _, _, _, _, _, _, _, _, _, _, _, _, _, _, rfl, _⟩ := h; rfl) | (obtain ⟨_, _, _, _, _, _, _, _, _, _, _, _, _, _, _, _, rfl, _⟩ := h; rfl) | (obtain ⟨_, _, _, _, _, _, _, _, _, _, _, _, _, _, _, _, _, rfl, _⟩ := h; rfl) | (obtain ⟨_, _, _, _, _, _, _, _, _, _, _, _, _, _, _, _, _, _, rfl, _⟩ := h; rfl) | (obtain ⟨_, _, _, _, _, _, _, _, _, _, _, _, _, _, _, _, _, _, _, rfl, _⟩ := h; rfl) | exact Mt.tk_len rfl h | (obtain ⟨_, h⟩ := h; exact Mt.tk_len rfl h) | (obtain ⟨_, _, h⟩ := h; exact Mt.tk_len rfl h) | (obtain ⟨_, _, _, h⟩ := h; exact Mt.tk_len rfl h) | (obtain ⟨_, _, _, _, h⟩ := h; exact Mt.tk_len rfl h) | (obtain ⟨_, _, _, _, _, h⟩ := h; exact Mt.tk_len rfl h) | (obtain ⟨_, _, _, _, _, _, h⟩ := h; exact Mt.tk_len rfl h) | (obtain ⟨_, _, _, _, _, _, _, h⟩ := h; exact Mt.tk_len rfl h) | (obtain ⟨_, _, _, _, _, _, _, _, h⟩ := h; exact Mt.tk_len rfl h) | (obtain ⟨_, _, _, _, _, _, _, _, _, h⟩ := h; exact Mt.tk_len rfl h) | (obtain ⟨_, _, _, _, _, _, _, _, _, _, h⟩ := h; exact Mt.tk_len rfl h) | (obtain ⟨_, _, _, _, _, _, _, _, _, _, _, h⟩ := h; exact Mt.tk_len rfl h) | (obtain ⟨_, _, _, _, _, _, _, _, _, _, _, _, h⟩ := h; exact Mt.tk_len rfl h) | (obtain ⟨_, _, _, _, _, _, _, _, _, _, _, _, _, h⟩ := h; exact Mt.tk_len rfl h) | (obtain ⟨_, _, _, _, _, _, _, _, _, _, _, _, _, _, h⟩ := h; exact Mt.tk_len rfl h) | (obtain ⟨_, _, _, _, _, _, _, _, _, _, _, _, _, _, _, h⟩ := h; exact Mt.tk_len rfl h) | (obtain ⟨_, _, _, _, _, _, _, _, _, _, _, _, _, _, _, _, h⟩ := h; exact Mt.tk_len rfl h) | (obtain ⟨_, _, _, _, _, _, _, _, _, _, _, _, _, _, _, _, _, h⟩ := h; exact Mt.tk_len rfl h))) | (first | (obtain ⟨rfl, _⟩ := h; rfl) | (obtain ⟨_, _, _, _, ⟨_, _, rfl, _⟩, _⟩ := h; rfl) | (obtain ⟨_, rfl, _⟩ := h; rfl) | (obtain ⟨_, _, rfl, _⟩ := h; rfl) | (obtain ⟨_, _, _, rfl, _⟩ := h; rfl) | (obtain ⟨_, _, _, _, rfl, _⟩ := h; rfl) | (obtain ⟨_, _, _, _, _, rfl, _⟩ := h; rfl) | (obtain ⟨_, _, _, _, _, _, rfl, _⟩ := h; rfl) | (obtain ⟨_, _, _, _, _, _, _, rfl, _⟩ := h; rfl) | (obtain ⟨_, _, _, _, _, _, _, _, rfl, _⟩ := h; rfl) | (obtain ⟨_, _, _, _, _, _, _, _, _, rfl, _⟩ := h; rfl) | (obtain ⟨_, _, _, _, _, _, _, _, _, _, rfl, _⟩ := h; rfl) | (obtain ⟨_, _, _, _, _, _, _, _, _, _, _, rfl, _⟩ := h; rfl) | (obtain ⟨_, _, _, _, _, _, _, _, _, _, _, _, rfl, _⟩ := h; rfl) | (obtain ⟨_, _, _, _, _, _, _, _, _, _, _, _, _, rfl, _⟩ := h; rfl) | (obtain ⟨_, _, _, _, _, _, _, _, _, _, _, _, _, _, rfl, _⟩ := h; rfl) | (obtain ⟨_, _, _, _, _, _, _, _, _, _, _, _, _, _, _, rfl, _⟩ := h; rfl) | (obtain ⟨_, _, _, _, _, _, _, _, _, _, _, _, _, _, _, _, rfl, _⟩ := h; rfl) | (obtain ⟨_, _, _, _, _, _, _, _, _, _, _, _, _, _, _, _, _, rfl, _⟩ := h; rfl) | (obtain ⟨_, _, _, _, _, _, _, _, _, _, _, _, _, _, _, _, _, _, rfl, _⟩ := h; rfl) | (obtain ⟨_, _, _, _, _, _, _, _, _, _, _, _, _, _, _, _, _, _, _, rfl, _⟩ := h; rfl) | exact Mt.tk_len rfl h | (obtain ⟨_, h⟩ := h; exact Mt.tk_len rfl h) | (obtain ⟨_, _, h⟩ := h; exact Mt.tk_len rfl h) | (obtain ⟨_, _, _, h⟩ := h; exact Mt.tk_len rfl h) | (obtain ⟨_, _, _, _, h⟩ := h; exact Mt.tk_len rfl h) | (obtain ⟨_, _, _, _, _, h⟩ := h; exact Mt.tk_len rfl h) | (obtain ⟨_, _, _, _, _, _, h⟩ := h; exact Mt.tk_len rfl h) | (obtain ⟨_, _, _, _, _, _, _, h⟩ := h; exact Mt.tk_len rfl h) | (obtain ⟨_, _, _, _, _, _, _, _, h⟩ := h; exact Mt.tk_len rfl h) | (obtain ⟨_, _, _, _, _, _, _, _, _, h⟩ := h; exact Mt.tk_len rfl h) | (obtain ⟨_, _, _, _, _, _, _, _, _, _, h⟩ := h; exact Mt.tk_len rfl h) | (obtain ⟨_, _, _, _, _, _, _, _, _, _, _, h⟩ := h; exact Mt.tk_len rfl h) | (obtain ⟨_, _, _, _, _, _, _, _, _, _, _, _, h⟩ := h; exact Mt.tk_len rfl h) | (obtain ⟨_, _, _, _, _, _, _, _, _, _, _, _, _, h⟩ := h; exact Mt.tk_len rfl h) | (obtain ⟨_, _, _, _, _, _, _, _, _, _, _, _, _, _, h⟩ := h; exact Mt.tk_len rfl h) | (obtain ⟨_, _, _, _, _, _, _, _, _, _, _, _, _, _, _, h⟩ := h; exact Mt.tk_len rfl h) | (obtain ⟨_, _, _, _, _, _, _, _, _, _, _, _, _, _, _, _, h⟩ := h; exact Mt.tk_len rfl h) | (obtain ⟨_, _, _, _, _, _, _, _, _, _, _, _, _, _, _, _, _, h⟩ := h; exact Mt.tk_len rfl h))) (g__law_feed K a) (fun f cdv A outer s H E hr => t__law_feed T  hr) (fun ds S q _ _ h => r__law_feed ds S q h)
theorem ok__law_draw (T : Txt K mg a) : Fnc P w K mg base "_law_draw" s__law_draw dv__law_draw 1 ps__law_draw (sp__law_draw a) :=
  fnc_of0 T.b__law_draw sc__law_draw (by intro ds S q h; first | exact False.elim h | (cases h with | inl h => (first | (obtain ⟨rfl, _⟩ := h; rfl) | (obtain ⟨_, _, _, _, ⟨_, _, rfl, _⟩, _⟩ := h; rfl) | (obtain ⟨_, rfl, _⟩ := h; rfl) | (obtain ⟨_, _, rfl, _⟩ := h; rfl) | (obtain ⟨_, _, _, rfl, _⟩ := h; rfl) | (obtain ⟨_, _, _, _, rfl, _⟩ := h; rfl) | (obtain ⟨_, _, _, _, _, rfl, _⟩ := h; rfl) | (obtain ⟨_, _, _, _, _, _, rfl, _⟩ := h; rfl) | (obtain ⟨_, _, _, _, _, _, _, rfl, _⟩ := h; rfl) | (obtain ⟨_, _, _, _, _, _, _, _, rfl, _⟩ := h; rfl) | (obtain ⟨_, _, _, _, _, _, _, _, _, rfl, _⟩ := h; rfl) | (obtain ⟨_, _, _, _, _, _, _, _, _, _, rfl, _⟩ := h; rfl) | (obtain ⟨_, _, _, _, _, _, _, _, _, _, _, rfl, _⟩ := h; rfl) | (obtain ⟨_, _, _, _, _, _, _, _, _, _, _, _, rfl, _⟩ := h; rfl) | (obtain ⟨_, _, _, _, _, _, _, _, _, _, _, _, _, rfl, _⟩ := h; rfl) | (obtain ⟨_, _, _, _, _, _, _, _, _, _, _, _, _, _, rfl, _⟩ := h; rfl) | (obtain ⟨_, _, _, _, _, _, _, _, _, _, _, _, _, _, _, rfl, _⟩ := h; rfl) | (obtain ⟨_, _, _, _, _, _, _, _, _, _, _, _, _, _, _, _, rfl, _⟩ := h; rfl) | (obtain ⟨_, _, _, _, _, _, _, _, _, _, _, _, _, _, _, _, _, rfl, _⟩ := h; rfl) | (obtain ⟨_, _, _, _, _, _, _, _, _, _, _, _, _, _, _, _, _, _, rfl, _⟩ := h; rfl) | (obtain ⟨_, _, _, _, _, _, _, _, _, _, _, _, _, _, _, _, _, _, _, rfl, _⟩ := h; rfl) | exact Mt.tk_len rfl h | (obtain ⟨_, h⟩ := h; exact Mt.tk_len rfl h) | (obtain ⟨_, _, h⟩ := h; exact Mt.tk_len rfl h) | (obtain ⟨_, _, _, h⟩ := h; exact Mt.tk_len rfl h) | (obtain ⟨_, _, _, _, h⟩ := h; exact Mt.tk_len rfl h) | (obtain ⟨_, _, _, _, _, h⟩ := h; exact Mt.tk_len rfl h) | (obtain ⟨_, _, _, _, _, _, h⟩ := h; exact Mt.tk_len rfl h) | (obtain ⟨_, _, _, _, _, _, _, h⟩ := h; exact Mt.tk_len rfl h) | (obtain ⟨_, _, _, _, _, _, _, _, h⟩ := h; exact Mt.tk_len rfl h) | (obtain ⟨_, _, _, _, _, _, _, _, _, h⟩ := h; exact Mt.tk_len rfl h) | (obtain ⟨_, _, _, _, _, _, _, _, _, _, h⟩ := h; exact Mt.tk_len rfl h) | (obtain ⟨_, _, _, _, _, _, _, _, _, _, _, h⟩ := h; exact Mt.tk_len rfl h) | (obtain ⟨_, _, _, _, _, _, _, _, _, _, _, _, h⟩ := h; exact Mt.tk_len rfl h) | (obtain ⟨_, _, _, _, _, _, _, _, _, _, _, _, _, h⟩ := h; exact Mt.tk_len rfl h) | (obtain ⟨_, _, _, _, _, _, _, _, _, _, _, _, _, _, h⟩ := h; exact Mt.tk_len rfl h) | (obtain ⟨_, _, _, _, _, _, _, _, _, _, _, _, _, _, _, h⟩ := h; exact Mt.tk_len rfl h) | (obtain ⟨_, _, _, _, _, _, _, _, _, _, _, _, _, _, _, _, h⟩ := h; exact Mt.tk_len rfl h) | (obtain ⟨_, _, _, _, _, _, _, _, _, _, _, _, _, _, _, _, _, h⟩ := h; exact Mt.tk_len rfl h)) | inr h => (first | (obtain ⟨rfl, _⟩ := h; rfl) | (obtain ⟨_, _, _, _, ⟨_, _, rfl, _⟩, _⟩ := h; rfl) | (obtain ⟨_, rfl, _⟩ := h; rfl) | (obtain ⟨_, _, rfl, _⟩ := h; rfl) | (obtain ⟨_, _, _, rfl, _⟩ := h; rfl) | (obtain ⟨_, _, _, _, rfl, _⟩ := h; rfl) | (obtain ⟨_, _, _, _, _, rfl, _⟩ := h; rfl) | (obtain ⟨_, _, _, _, _, _, rfl, _⟩ := h; rfl) | (obtain ⟨_, _, _, _, _, _, _, rfl, _⟩ := h; rfl) | (obtain ⟨_, _, _, _, _, _, _, _, rfl, _⟩ := h; rfl) | (obtain ⟨_, _, _, _, _, _, _, _, _, rfl, _⟩ := h; rfl) | (obtain ⟨_, _, _, _, _, _, _, _, _, _, rfl, _⟩ := h; rfl) | (obtain ⟨_, _, _, _, _, _, _, _, _, _, _, rfl, _⟩ := h; rfl) | (obtain ⟨_, _, _, _, _, _, _, _, _, _, _, _, rfl, _⟩ := h; rfl) | (obtain ⟨_, _, _, _, _, _, _, _, _, _, _, _, _, rfl, _⟩ := h; rfl) | (obtain ⟨_, _, _, _, _, _, _, _, _, _, _, _, _, _, rfl, _⟩ := h; rfl) | (obtain ⟨_, _, _, _, _, _, _, _, _, _, _, _, _, _, _, rfl, _⟩ := h; rfl) | (obtain ⟨_, _, _, _, _, _, _, _, _, _, _, _, _, _, _, _, rfl, _⟩ := h; rfl) | (obtain ⟨_, _, _, _, _, _, _, _, _, _, _, _, _, _, _, _, _, rfl, _⟩ := h; rfl) | (obtain ⟨_, _, _, _, _, _, _, _, _, _, _, _, _, _, _, _, _, _, rfl, _⟩ := h; rfl) | (obtain ⟨_, _, _, _, _, _, _, _, _, _, _, _, _, _, _, _, _, _, _, rfl, _⟩ := h; rfl) | exact Mt.tk_len rfl h | (obtain ⟨_, h⟩ := h; exact Mt.tk_len rfl h) | (obtain ⟨_, _, h⟩ := h; exact Mt.tk_len rfl h) | (obtain ⟨_, _, _, h⟩ := h; exact Mt.tk_len rfl h) | (obtain ⟨_, _, _, _, h⟩ := h; exact Mt.tk_len rfl h) | (obtain ⟨_, _, _, _, _, h⟩ := h; exact Mt.tk_len rfl h) | (obtain ⟨_, _, _, _, _, _, h⟩ := h; exact Mt.tk_len rfl h) | (obtain ⟨_, _, _, _, _, _, _, h⟩ := h; exact Mt.tk_len rfl h) | (obtain ⟨_, _, _, _, _, _, _, _, h⟩ := h; exact Mt.tk_len rfl h) | (obtain ⟨_, _, _, _, _, _, _, _, _, h⟩ := h; exact Mt.tk_len rfl h) | (obtain ⟨_, _, _, _, _, _, _, _, _, _, h⟩ := h; exact Mt.tk_len rfl h) | (obtain ⟨_, _, _, _, _, _, _, _, _, _, _, h⟩ := h; exact Mt.tk_len rfl h) | (obtain ⟨_, _, _, _, _, _, _, _, _, _, _, _, h⟩ := h; exact Mt.tk_len rfl h) | (obtain ⟨_, _, _, _, _, _, _, _, _, _, _, _, _, h⟩ := h; exact Mt.tk_len rfl h) | (obtain ⟨_, _, _, _, _, _, _, _, _, _, _, _, _, _, h⟩ := h; exact Mt.tk_len rfl h) | (obtain ⟨_, _, _, _, _, _, _, _, _, _, _, _, _, _, _, h⟩ := h; exact Mt.tk_len rfl h) | (obtain ⟨_, _, _, _, _, _, _, _, _, _, _, _, _, _, _, _, h⟩ := h; exact Mt.tk_len rfl h) | (obtain ⟨_, _, _, _, _, _, _, _, _, _, _, _, _, _, _, _, _, h⟩ := h; exact Mt.tk_len rfl h))) | (first | (obtain ⟨rfl, _⟩ := h; rfl) | (obtain ⟨_, _, _, _, ⟨_, _, rfl, _⟩, _⟩ := h; rfl) | (obtain ⟨_, rfl, _⟩ := h; rfl) | (obtain ⟨_, _, rfl, _⟩ := h; rfl) | (obtain ⟨_, _, _, rfl, _⟩ := h; rfl) | (obtain ⟨_, _, _, _, rfl, _⟩ := h; rfl) | (obtain ⟨_, _, _, _, _, rfl, _⟩ := h; rfl) | (obtain ⟨_, _, _, _, _, _, rfl, _⟩ := h; rfl) | (obtain ⟨_, _, _, _, _, _, _, rfl, _⟩ := h; rfl) | (obtain ⟨_, _, _, _, _, _, _, _, rfl, _⟩ := h; rfl) | (obtain ⟨_, _, _, _, _, _, _, _, _, rfl, _⟩ := h; rfl) | (obtain ⟨_, _, _, _, _, _, _, _, _, _, rfl, _⟩ := h; rfl) | (obtain ⟨_, _, _, _, _, _, _, _, _, _, _, rfl, _⟩ := h; rfl) | (obtain ⟨_, _, _, _, _, _, _, _, _, _, _, _, rfl, _⟩ := h; rfl) | (obtain ⟨_, _, _, _, _, _, _, _, _, _, _, _, _, rfl, _⟩ := h; rfl) | (obtain ⟨_, _, _, _, _, _, _, _, _, _, _, _, _, _, rfl, _⟩ := h; rfl) | (obtain ⟨_, _, _, _, _, _, _, _, _, _, _, _, _, _, _, rfl, _⟩ := h; rfl) | (obtain ⟨_, _, _, _, _, _, _, _, _, _, _, _, _, _, _, _, rfl, _⟩ := h; rfl) | (obtain ⟨_, _, _, _, _, _, _, _, _, _, _, _, _, _, _, _, _, rfl, _⟩ := h; rfl) | (obtain ⟨_, _, _, _, _, _, _, _, _, _, _, _, _, _, _, _, _, _, rfl, _⟩ := h; rfl) | (obtain ⟨_, _, _, _, _, _, _, _, _, _, _, _, _, _, _, _, _, _, _, rfl, _⟩ := h; rfl) | exact Mt.tk_len rfl h | (obtain ⟨_, h⟩ := h; exact Mt.tk_len rfl h) | (obtain ⟨_, _, h⟩ := h; exact Mt.tk_len rfl h) | (obtain ⟨_, _, _, h⟩ := h; exact Mt.tk_len rfl h) | (obtain ⟨_, _, _, _, h⟩ := h; exact Mt.tk_len rfl h) | (obtain ⟨_, _, _, _, _, h⟩ := h; exact Mt.tk_len rfl h) | (obtain ⟨_, _, _, _, _, _, h⟩ := h; exact Mt.tk_len rfl h) | (obtain ⟨_, _, _, _, _, _, _, h⟩ := h; exact Mt.tk_len rfl h) | (obtain ⟨_, _, _, _, _, _, _, _, h⟩ := h; exact Mt.tk_len rfl h) | (obtain ⟨_, _, _, _, _, _, _, _, _, h⟩ := h; exact Mt.tk_len rfl h) | (obtain ⟨_, _, _, _, _, _, _, _, _, _, h⟩ := h; exact Mt.tk_len rfl h) | (obtain ⟨_, _, _, _, _, _, _, _, _, _, _, h⟩ := h; exact Mt.tk_len rfl h) | (obtain ⟨_, _, _, _, _, _, _, _, _, _, _, _, h⟩ := h; exact Mt.tk_len rfl h) | (obtain ⟨_, _, _, _, _, _, _, _, _, _, _, _, _, h⟩ := h; exact Mt.tk_len rfl h) | (obtain ⟨_, _, _, _, _, _, _, _, _, _, _, _, _, _, h⟩ := h; exact Mt.tk_len rfl h) | (obtain ⟨_, _, _, _, _, _, _, _, _, _, _, _, _, _, _, h⟩ := h; exact Mt.tk_len rfl h) | (obtain ⟨_, _, _, _, _, _, _, _, _, _, _, _, _, _, _, _, h⟩ := h; exact Mt.tk_len rfl h) | (obtain ⟨_, _, _, _, _, _, _, _, _, _, _, _, _, _, _, _, _, h⟩ := h; exact Mt.tk_len rfl h))) (g__law_draw K a) (fun f cdv A outer s H E hr => t__law_draw T  hr) (fun ds S q _ _ h => r__law_draw ds S q h)
theorem ok__law_of (T : Txt K mg a) : Fnc P w K mg base "_law_of" s__law_of dv__law_of 2 ps__law_of (sp__law_of a) :=
  fnc_of0 T.b__law_of sc__law_of (by intro ds S q h; first | exact False.elim h | (cases h with | inl h => (first | (obtain ⟨rfl, _⟩ := h; rfl) | (obtain ⟨_, _, _, _, ⟨_, _, rfl, _⟩, _⟩ := h; rfl) | (obtain ⟨_, rfl, _⟩ := h; rfl) | (obtain ⟨_, _, rfl, _⟩ := h; rfl) | (obtain ⟨_, _, _, rfl, _⟩ := h; rfl) | (obtain ⟨_, _, _, _, rfl, _⟩ := h; rfl) | (obtain ⟨_, _, _, _, _, rfl, _⟩ := h; rfl) | (obtain ⟨_, _, _, _, _, _, rfl, _⟩ := h; rfl) | (obtain ⟨_, _, _, _, _, _, _, rfl, _⟩ := h; rfl) | (obtain ⟨_, _, _, _, _, _, _, _, rfl, _⟩ := h; rfl) | (obtain ⟨_, _, _, _, _, _, _, _, _, rfl, _⟩ := h; rfl) | (obtain ⟨_, _, _, _, _, _, _, _, _, _, rfl, _⟩ := h; rfl) | (obtain ⟨_, _, _, _, _, _, _, _, _, _, _, rfl, _⟩ := h; rfl) | (obtain ⟨_, _, _, _, _, _, _, _, _, _, _, _, rfl, _⟩ := h; rfl) | (obtain ⟨_, _, _, _, _, _, _, _, _, _, _, _, _, rfl, _⟩ := h; rfl) | (obtain ⟨_, _, _, _, _, _, _, _, _, _, _, _, _, _, rfl, _⟩ := h; rfl) | (obtain ⟨_, _, _, _, _, _, _, _, _, _, _, _, _, _, _, rfl, _⟩ := h; rfl) | (obtain ⟨_, _, _, _, _, _, _, _, _, _, _, _, _, _, _, _, rfl, _⟩ := h; rfl) | (obtain ⟨_, _, _, _, _, _, _, _, _, _, _, _, _, _, _, _, _, rfl, _⟩ := h; rfl) | (obtain ⟨_, _, _, _, _, _, _, _, _, _, _, _, _, _, _, _, _, _, rfl, _⟩ := h; rfl) | (obtain ⟨_, _, _, _, _, _, _, _, _, _, _, _, _, _, _, _, _, _, _, rfl, _⟩ := h; rfl) | exact Mt.tk_len rfl h | (obtain ⟨_, h⟩ := h; exact Mt.tk_len rfl h) | (obtain ⟨_, _, h⟩ := h; exact Mt.tk_len rfl h) | (obtain ⟨_, _, _, h⟩ := h; exact Mt.tk_len rfl h) | (obtain ⟨_, _, _, _, h⟩ := h; exact Mt.tk_len rfl h) | (obtain ⟨_, _, _, _, _, h⟩ := h; exact Mt.tk_len rfl h) | (obtain ⟨_, _, _, _, _, _, h⟩ := h; exact Mt.tk_len rfl h) | (obtain ⟨_, _, _, _, _, _, _, h⟩ := h; exact Mt.tk_len rfl h) | (obtain ⟨_, _, _, _, _, _, _, _, h⟩ := h; exact Mt.tk_len rfl h) | (obtain ⟨_, _, _, _, _, _, _, _, _, h⟩ := h; exact Mt.tk_len rfl h) | (obtain ⟨_, _, _, _, _, _, _, _, _, _, h⟩ := h; exact Mt.tk_len rfl h) | (obtain ⟨_, _, _, _, _, _, _, _, _, _, _, h⟩ := h; exact Mt.tk_len rfl h) | (obtain ⟨_, _, _, _, _, _, _, _, _, _, _, _, h⟩ := h; exact Mt.tk_len rfl h) | (obtain ⟨_, _, _, _, _, _, _, _, _, _, _, _, _, h⟩ := h; exact Mt.tk_len rfl h) | (obtain ⟨_, _, _, _, _, _, _, _, _, _, _, _, _, _, h⟩ := h; exact Mt.tk_len rfl h) | (obtain ⟨_, _, _, _, _, _, _, _, _, _, _, _, _, _, _, h⟩ := h; exact Mt.tk_len rfl h) | (obtain ⟨_, _, _, _, _, _, _, _, _, _, _, _, _, _, _, _, h⟩ := h; exact Mt.tk_len rfl h) | (obtain ⟨_, _, _, _, _, _, _, _, _, _, _, _, _, _, _, _, _, h⟩ := h; exact Mt.tk_len rfl h)) | inr h => (first | (obtain ⟨rfl, _⟩ := h; rfl) | (obtain ⟨_, _, _, _, ⟨_, _, rfl, _⟩, _⟩ := h; rfl) | (obtain ⟨_, rfl, _⟩ := h; rfl) | (obtain ⟨_, _, rfl, _⟩ := h; rfl) | (obtain ⟨_, _, _, rfl, _⟩ := h; rfl) | (obtain ⟨_, _, _, _, rfl, _⟩ := h; rfl) | (obtain ⟨_, _, _, _, _, rfl, _⟩ := h; rfl) | (obtain ⟨_, _, _, _, _, _, rfl, _⟩ := h; rfl) | (obtain ⟨_, _, _, _, _, _, _, rfl, _⟩ := h; rfl) | (obtain ⟨_, _, _, _, _, _, _, _, rfl, _⟩ := h; rfl) | (obtain ⟨_, _, _, _, _, _, _, _, _, rfl, _⟩ := h; rfl) | (obtain ⟨_, _, _, _, _, _, _, _, _, _, rfl, _⟩ := h; rfl) | (obtain ⟨_, _, _, _, _, _, _, _, _, _, _, rfl, _⟩ := h; rfl) | (obtain ⟨_, _, _, _, _, _, _, _, _, _, _, _, rfl, _⟩ := h; rfl) | (obtain ⟨_, _, _, _, _, _, _, _, _, _, _, _, _, rfl, _⟩ := h; rfl) | (obtain ⟨_, _, _, _, _, _, _, _, _, _, _, _, _, _, rfl, _⟩ := h; rfl) | (obtain ⟨_, _, _, _, _, _, _, _, _, _, _, _, _, _, _, rfl, _⟩ := h; rfl) | (obtain ⟨_, _, _, _, _, _, _, _, _, _, _, _, _, _, _, _, rfl, _⟩ := h; rfl) | (obtain ⟨_, _, _, _, _, _, _, _, _, _, _, _, _, _, _, _, _, rfl, _⟩ := h; rfl) | (obtain ⟨_, _, _, _, _, _, _, _, _, _, _, _, _, _, _, _, _, _, rfl, _⟩ := h; rfl) | (obtain ⟨_, _, _, _, _, _, _, _, _, _, _, _, _, _, _, _, _, _, _, rfl, _⟩ := h; rfl) | exact Mt.tk_len rfl h | (obtain ⟨_, h⟩ := h; exact Mt.tk_len rfl h) | (obtain ⟨_, _, h⟩ := h; exact Mt.tk_len rfl h) | (obtain ⟨_, _, _, h⟩ := h; exact Mt.tk_len rfl h) | (obtain ⟨_, _, _, _, h⟩ := h; exact Mt.tk_len rfl h) | (obtain ⟨_, _, _, _, _, h⟩ := h; exact Mt.tk_len rfl h) | (obtain ⟨_, _, _, _, _, _, h⟩ := h; exact Mt.tk_len rfl h) | (obtain ⟨_, _, _, _, _, _, _, h⟩ := h; exact Mt.tk_len rfl h) | (obtain ⟨_, _, _, _, _, _, _, _, h⟩ := h; exact Mt.tk_len rfl h) | (obtain ⟨_, _, _, _, _, _, _, _, _, h⟩ := h; exact Mt.tk_len rfl h) | (obtain ⟨_, _, _, _, _, _, _, _, _, _, h⟩ := h; exact Mt.tk_len rfl h) | (obtain ⟨_, _, _, _, _, _, _, _, _, _, _, h⟩ := h; exact Mt.tk_len rfl h) | (obtain ⟨_, _, _, _, _, _, _, _, _, _, _, _, h⟩ := h; exact Mt.tk_len rfl h) | (obtain ⟨_, _, _, _, _, _, _, _, _, _, _, _, _, h⟩ := h; exact Mt.tk_len rfl h) | (obtain ⟨_, _, _, _, _, _, _, _, _, _, _, _, _, _, h⟩ := h; exact Mt.tk_len rfl h) | (obtain ⟨_, _, _, _, _, _, _, _, _, _, _, _, _, _, _, h⟩ := h; exact Mt.tk_len rfl h) | (obtain ⟨_, _, _, _, _, _, _, _, _, _, _, _, _, _, _, _, h⟩ := h; exact Mt.tk_len rfl h) | (obtain ⟨_, _, _, _, _, _, _, _, _, _, _, _, _, _, _, _, _, h⟩ := h; exact Mt.tk_len rfl h))) | (first | (obtain ⟨rfl, _⟩ := h; rfl) | (obtain ⟨_, _, _, _, ⟨_, _, rfl, _⟩, _⟩ := h; rfl) | (obtain ⟨_, rfl, _⟩ := h; rfl) | (obtain ⟨_, _, rfl, _⟩ := h; rfl) | (obtain ⟨_, _, _, rfl, _⟩ := h; rfl) | (obtain ⟨_, _, _, _, rfl, _⟩ := h; rfl) | (obtain ⟨_, _, _, _, _, rfl, _⟩ := h; rfl) | (obtain ⟨_, _, _, _, _, _, rfl, _⟩ := h; rfl) | (obtain ⟨_, _, _, _, _, _, _, rfl, _⟩ := h; rfl) | (obtain ⟨_, _, _, _, _, _, _, _, rfl, _⟩ := h; rfl) | (obtain ⟨_, _, _, _, _, _, _, _, _, rfl, _⟩ := h; rfl) | (obtain ⟨_, _, _, _, _, _, _, _, _, _, rfl, _⟩ := h; rfl) | (obtain ⟨_, _, _, _, _, _, _, _, _, _, _, rfl, _⟩ := h; rfl) | (obtain ⟨_, _, _, _, _, _, _, _, _, _, _, _, rfl, _⟩ := h; rfl) | (obtain ⟨_, _, _, _, _, _, _, _, _, _, _, _, _, rfl, _⟩ := h; rfl) | (obtain ⟨_, _, _, _, _, _, _, _, _, _, _, _, _, _, rfl, _⟩ := h; rfl) | (obtain ⟨_, _, _, _, _, _, _, _, _, _, _, _, _, _, _, rfl, _⟩ := h; rfl) | (obtain ⟨_, _, _, _, _, _, _, _, _, _, _, _, _, _, _, _, rfl, _⟩ := h; rfl) | (obtain ⟨_, _, _, _, _, _, _, _, _, _, _, _, _, _, _, _, _, rfl, _⟩ := h; rfl) | (obtain ⟨_, _, _, _, _, _, _, _, _, _, _, _, _, _, _, _, _, _, rfl, _⟩ := h; rfl) | (obtain ⟨_, _, _, _, _, _, _, _, _, _, _, _, _, _, _, _, _, _, _, rfl, _⟩ := h; rfl) | exact Mt.tk_len rfl h | (obtain ⟨_, h⟩ := h; exact Mt.tk_len rfl h) | (obtain ⟨_, _, h⟩ := h; exact Mt.tk_len rfl h) | (obtain ⟨_, _, _, h⟩ := h; exact Mt.tk_len rfl h) | (obtain ⟨_, _, _, _, h⟩ := h; exact Mt.tk_len rfl h) | (obtain ⟨_, _, _, _, _, h⟩ := h; exact Mt.tk_len rfl h) | (obtain ⟨_, _, _, _, _, _, h⟩ := h; exact Mt.tk_len rfl h) | (obtain ⟨_, _, _, _, _, _, _, h⟩ := h; exact Mt.tk_len rfl h) | (obtain ⟨_, _, _, _, _, _, _, _, h⟩ := h; exact Mt.tk_len rfl h) | (obtain ⟨_, _, _, _, _, _, _, _, _, h⟩ := h; exact Mt.tk_len rfl h) | (obtain ⟨_, _, _, _, _, _, _, _, _, _, h⟩ := h; exact Mt.tk_len rfl h) | (obtain ⟨_, _, _, _, _, _, _, _, _, _, _, h⟩ := h; exact Mt.tk_len rfl h) | (obtain ⟨_, _, _, _, _, _, _, _, _, _, _, _, h⟩ := h; exact Mt.tk_len rfl h) | (obtain ⟨_, _, _, _, _, _, _, _, _, _, _, _, _, h⟩ := h; exact Mt.tk_len rfl h) | (obtain ⟨_, _, _, _, _, _, _, _, _, _, _, _, _, _, h⟩ := h; exact Mt.tk_len rfl h) | (obtain ⟨_, _, _, _, _, _, _, _, _, _, _, _, _, _, _, h⟩ := h; exact Mt.tk_len rfl h) | (obtain ⟨_, _, _, _, _, _, _, _, _, _, _, _, _, _, _, _, h⟩ := h; exact Mt.tk_len rfl h) | (obtain ⟨_, _, _, _, _, _, _, _, _, _, _, _, _, _, _, _, _, h⟩ := h; exact Mt.tk_len rfl h))) (g__law_of K a) (fun f cdv A outer s H E hr => t__law_of T (ok__law_draw T) hr) (fun ds S q _ _ h => r__law_of ds S q h)
theorem ok__law_names (T : Txt K mg a) : Fnc P w K mg base "_law_names" s__law_names dv__law_names 2 ps__law_names (sp__law_names a) :=
  fnc_of T.b__law_names sc__law_names (by intro ds S q h; first | exact False.elim h | (cases h with | inl h => (first | (obtain ⟨rfl, _⟩ := h; rfl) | (obtain ⟨_, _, _, _, ⟨_, _, rfl, _⟩, _⟩ := h; rfl) | (obtain ⟨_, rfl, _⟩ := h; rfl) | (obtain ⟨_, _, rfl, _⟩ := h; rfl) | (obtain ⟨_, _, _, rfl, _⟩ := h; rfl) | (obtain ⟨_, _, _, _, rfl, _⟩ := h; rfl) | (obtain ⟨_, _, _, _, _, rfl, _⟩ := h; rfl) | (obtain ⟨_, _, _, _, _, _, rfl, _⟩ := h; rfl) | (obtain ⟨_, _, _, _, _, _, _, rfl, _⟩ := h; rfl) | (obtain ⟨_, _, _, _, _, _, _, _, rfl, _⟩ := h; rfl) | (obtain ⟨_, _, _, _, _, _, _, _, _, rfl, _⟩ := h; rfl) | (obtain ⟨_, _, _, _, _, _, _, _, _, _, rfl, _⟩ := h; rfl) | (obtain ⟨_, _, _, _, _, _, _, _, _, _, _, rfl, _⟩ := h; rfl) | (obtain ⟨_, _, _, _, _, _, _, _, _, _, _, _, rfl, _⟩ := h; rfl) | (obtain ⟨_, _, _, _, _, _, _, _, _, _, _, _, _, rfl, _⟩ := h; rfl) | (obtain ⟨_, _, _, _, _, _, _, _, _, _, _, _, _, _, rfl, _⟩ := h; rfl) | (obtain ⟨_, _, _, _, _, _, _, _, _, _, _, _, _, _, _, rfl, _⟩ := h; rfl) | (obtain ⟨_, _, _, _, _, _, _, _, _, _, _, _, _, _, _, _, rfl, _⟩ := h; rfl) | (obtain ⟨_, _, _, _, _, _, _, _, _, _, _, _, _, _, _, _, _, rfl, _⟩ := h; rfl) | (obtain ⟨_, _, _, _, _, _, _, _, _, _, _, _, _, _, _, _, _, _, rfl, _⟩ := h; rfl) | (obtain ⟨_, _, _, _, _, _, _, _, _, _, _, _, _, _, _, _, _, _, _, rfl, _⟩ := h; rfl) | exact Mt.tk_len rfl h | (obtain ⟨_, h⟩ := h; exact Mt.tk_len rfl h) | (obtain ⟨_, _, h⟩ := h; exact Mt.tk_len rfl h) | (obtain ⟨_, _, _, h⟩ := h; exact Mt.tk_len rfl h) | (obtain ⟨_, _, _, _, h⟩ := h; exact Mt.tk_len rfl h) | (obtain ⟨_, _, _, _, _, h⟩ := h; exact Mt.tk_len rfl h) | (obtain ⟨_, _, _, _, _, _, h⟩ := h; exact Mt.tk_len rfl h) | (obtain ⟨_, _, _, _, _, _, _, h⟩ := h; exact Mt.tk_len rfl h) | (obtain ⟨_, _, _, _, _, _, _, _, h⟩ := h; exact Mt.tk_len rfl h) | (obtain ⟨_, _, _, _, _, _, _, _, _, h⟩ := h; exact Mt.tk_len rfl h) | (obtain ⟨_, _, _, _, _, _, _, _, _, _, h⟩ := h; exact Mt.tk_len rfl h) | (obtain ⟨_, _, _, _, _, _, _, _, _, _, _, h⟩ := h; exact Mt.tk_len rfl h) | (obtain ⟨_, _, _, _, _, _, _, _, _, _, _, _, h⟩ := h; exact Mt.tk_len rfl h) | (obtain ⟨_, _, _, _, _, _, _, _, _, _, _, _, _, h⟩ := h; exact Mt.tk_len rfl h) | (obtain ⟨_, _, _, _, _, _, _, _, _, _, _, _, _, _, h⟩ := h; exact Mt.tk_len rfl h) | (obtain ⟨_, _, _, _, _, _, _, _, _, _, _, _, _, _, _, h⟩ := h; exact Mt.tk_len rfl h) | (obtain ⟨_, _, _, _, _, _, _, _, _, _, _, _, _, _, _, _, h⟩ := h; exact Mt.tk_len rfl h) | (obtain ⟨_, _, _, _, _, _, _, _, _, _, _, _, _, _, _, _, _, h⟩ := h; exact Mt.tk_len rfl h)) | inr h => (first | (obtain ⟨rfl, _⟩ := h; rfl) | (obtain ⟨_, _, _, _, ⟨_, _, rfl, _⟩, _⟩ := h; rfl) | (obtain ⟨_, rfl, _⟩ := h; rfl) | (obtain ⟨_, _, rfl, _⟩ := h; rfl) | (obtain ⟨_, _, _, rfl, _⟩ := h; rfl) | (obtain ⟨_, _, _, _, rfl, _⟩ := h; rfl) | (obtain ⟨_, _, _, _, _, rfl, _⟩ := h; rfl) | (obtain ⟨_, _, _, _, _, _, rfl, _⟩ := h; rfl) | (obtain ⟨_, _, _, _, _, _, _, rfl, _⟩ := h; rfl) | (obtain ⟨_, _, _, _, _, _, _, _, rfl, _⟩ := h; rfl) | (obtain ⟨_, _, _, _, _, _, _, _, _, rfl, _⟩ := h; rfl) | (obtain ⟨_, _, _, _, _, _, _, _, _, _, rfl, _⟩ := h; rfl) | (obtain ⟨_, _, _, _, _, _, _, _, _, _, _, rfl, _⟩ := h; rfl) | (obtain ⟨_, _, _, _, _, _, _, _, _, _, _, _, rfl, _⟩ := h; rfl) | (obtain ⟨_, _, _, _, _, _, _, _, _, _, _, _, _, rfl, _⟩ := h; rfl) | (obtain ⟨_, _, _, _, _, _, _, _, _, _, _, _, _, _, rfl, _⟩ := h; rfl) | (obtain ⟨_, _, _, _, _, _, _, _, _, _, _, _, _, _, _, rfl, _⟩ := h; rfl) | (obtain ⟨_, _, _, _, _, _, _, _, _, _, _, _, _, _, _, _, rfl, _⟩ := h; rfl) | (obtain ⟨_, _, _, _, _, _, _, _, _, _, _, _, _, _, _, _, _, rfl, _⟩ := h; rfl) | (obtain ⟨_, _, _, _, _, _, _, _, _, _, _, _, _, _, _, _, _, _, rfl, _⟩ := h; rfl) | (obtain ⟨_, _, _, _, _, _, _, _, _, _, _, _, _, _, _, _, _, _, _, rfl, _⟩ := h; rfl) | exact Mt.tk_len rfl h | (obtain ⟨_, h⟩ := h; exact Mt.tk_len rfl h) | (obtain ⟨_, _, h⟩ := h; exact Mt.tk_len rfl h) | (obtain ⟨_, _, _, h⟩ := h; exact Mt.tk_len rfl h) | (obtain ⟨_, _, _, _, h⟩ := h; exact Mt.tk_len rfl h) | (obtain ⟨_, _, _, _, _, h⟩ := h; exact Mt.tk_len rfl h) | (obtain ⟨_, _, _, _, _, _, h⟩ := h; exact Mt.tk_len rfl h) | (obtain ⟨_, _, _, _, _, _, _, h⟩ := h; exact Mt.tk_len rfl h) | (obtain ⟨_, _, _, _, _, _, _, _, h⟩ := h; exact Mt.tk_len rfl h) | (obtain ⟨_, _, _, _, _, _, _, _, _, h⟩ := h; exact Mt.tk_len rfl h) | (obtain ⟨_, _, _, _, _, _, _, _, _, _, h⟩ := h; exact Mt.tk_len rfl h) | (obtain ⟨_, _, _, _, _, _, _, _, _, _, _, h⟩ := h; exact Mt.tk_len rfl h) | (obtain ⟨_, _, _, _, _, _, _, _, _, _, _, _, h⟩ := h; exact Mt.tk_len rfl h) | (obtain ⟨_, _, _, _, _, _, _, _, _, _, _, _, _, h⟩ := h; exact Mt.tk_len rfl h) | (obtain ⟨_, _, _, _, _, _, _, _, _, _, _, _, _, _, h⟩ := h; exact Mt.tk_len rfl h) | (obtain ⟨_, _, _, _, _, _, _, _, _, _, _, _, _, _, _, h⟩ := h; exact Mt.tk_len rfl h) | (obtain ⟨_, _, _, _, _, _, _, _, _, _, _, _, _, _, _, _, h⟩ := h; exact Mt.tk_len rfl h) | (obtain ⟨_, _, _, _, _, _, _, _, _, _, _, _, _, _, _, _, _, h⟩ := h; exact Mt.tk_len rfl h))) | (first | (obtain ⟨rfl, _⟩ := h; rfl) | (obtain ⟨_, _, _, _, ⟨_, _, rfl, _⟩, _⟩ := h; rfl) | (obtain ⟨_, rfl, _⟩ := h; rfl) | (obtain ⟨_, _, rfl, _⟩ := h; rfl) | (obtain ⟨_, _, _, rfl, _⟩ := h; rfl) | (obtain ⟨_, _, _, _, rfl, _⟩ := h; rfl) | (obtain ⟨_, _, _, _, _, rfl, _⟩ := h; rfl) | (obtain ⟨_, _, _, _, _, _, rfl, _⟩ := h; rfl) | (obtain ⟨_, _, _, _, _, _, _, rfl, _⟩ := h; rfl) | (obtain ⟨_, _, _, _, _, _, _, _, rfl, _⟩ := h; rfl) | (obtain ⟨_, _, _, _, _, _, _, _, _, rfl, _⟩ := h; rfl) | (obtain ⟨_, _, _, _, _, _, _, _, _, _, rfl, _⟩ := h; rfl) | (obtain ⟨_, _, _, _, _, _, _, _, _, _, _, rfl, _⟩ := h; rfl) | (obtain ⟨_, _, _, _, _, _, _, _, _, _, _, _, rfl, _⟩ := h; rfl) | (obtain ⟨_, _, _, _, _, _, _, _, _, _, _, _, _, rfl, _⟩ := h; rfl) | (obtain ⟨_, _, _, _, _, _, _, _, _, _, _, _, _, _, rfl, _⟩ := h; rfl) | (obtain ⟨_, _, _, _, _, _, _, _, _, _, _, _, _, _, _, rfl, _⟩ := h; rfl) | (obtain ⟨_, _, _, _, _, _, _, _, _, _, _, _, _, _, _, _, rfl, _⟩ := h; rfl) | (obtain ⟨_, _, _, _, _, _, _, _, _, _, _, _, _, _, _, _, _, rfl, _⟩ := h; rfl) | (obtain ⟨_, _, _, _, _, _, _, _, _, _, _, _, _, _, _, _, _, _, rfl, _⟩ := h; rfl) | (obtain ⟨_, _, _, _, _, _, _, _, _, _, _, _, _, _, _, _, _, _, _, rfl, _⟩ := h; rfl) | exact Mt.tk_len rfl h | (obtain ⟨_, h⟩ := h; exact Mt.tk_len rfl h) | (obtain ⟨_, _, h⟩ := h; exact Mt.tk_len rfl h) | (obtain ⟨_, _, _, h⟩ := h; exact Mt.tk_len rfl h) | (obtain ⟨_, _, _, _, h⟩ := h; exact Mt.tk_len rfl h) | (obtain ⟨_, _, _, _, _, h⟩ := h; exact Mt.tk_len rfl h) | (obtain ⟨_, _, _, _, _, _, h⟩ := h; exact Mt.tk_len rfl h) | (obtain ⟨_, _, _, _, _, _, _, h⟩ := h; exact Mt.tk_len rfl h) | (obtain ⟨_, _, _, _, _, _, _, _, h⟩ := h; exact Mt.tk_len rfl h) | (obtain ⟨_, _, _, _, _, _, _, _, _, h⟩ := h; exact Mt.tk_len rfl h) | (obtain ⟨_, _, _, _, _, _, _, _, _, _, h⟩ := h; exact Mt.tk_len rfl h) | (obtain ⟨_, _, _, _, _, _, _, _, _, _, _, h⟩ := h; exact Mt.tk_len rfl h) | (obtain ⟨_, _, _, _, _, _, _, _, _, _, _, _, h⟩ := h; exact Mt.tk_len rfl h) | (obtain ⟨_, _, _, _, _, _, _, _, _, _, _, _, _, h⟩ := h; exact Mt.tk_len rfl h) | (obtain ⟨_, _, _, _, _, _, _, _, _, _, _, _, _, _, h⟩ := h; exact Mt.tk_len rfl h) | (obtain ⟨_, _, _, _, _, _, _, _, _, _, _, _, _, _, _, h⟩ := h; exact Mt.tk_len rfl h) | (obtain ⟨_, _, _, _, _, _, _, _, _, _, _, _, _, _, _, _, h⟩ := h; exact Mt.tk_len rfl h) | (obtain ⟨_, _, _, _, _, _, _, _, _, _, _, _, _, _, _, _, _, h⟩ := h; exact Mt.tk_len rfl h))) (g__law_names K a) (fun f cdv A outer s H E hr => t__law_names T (ok__law_draw T) hr) (rf__law_names)
theorem ok__law_days (T : Txt K mg a) : Fnc P w K mg base "_law_days" s__law_days dv__law_days 3 ps__law_days (sp__law_days a) :=
  fnc_of T.b__law_days sc__law_days (by intro ds S q h; first | exact False.elim h | (cases h with | inl h => (first | (obtain ⟨rfl, _⟩ := h; rfl) | (obtain ⟨_, _, _, _, ⟨_, _, rfl, _⟩, _⟩ := h; rfl) | (obtain ⟨_, rfl, _⟩ := h; rfl) | (obtain ⟨_, _, rfl, _⟩ := h; rfl) | (obtain ⟨_, _, _, rfl, _⟩ := h; rfl) | (obtain ⟨_, _, _, _, rfl, _⟩ := h; rfl) | (obtain ⟨_, _, _, _, _, rfl, _⟩ := h; rfl) | (obtain ⟨_, _, _, _, _, _, rfl, _⟩ := h; rfl) | (obtain ⟨_, _, _, _, _, _, _, rfl, _⟩ := h; rfl) | (obtain ⟨_, _, _, _, _, _, _, _, rfl, _⟩ := h; rfl) | (obtain ⟨_, _, _, _, _, _, _, _, _, rfl, _⟩ := h; rfl) | (obtain ⟨_, _, _, _, _, _, _, _, _, _, rfl, _⟩ := h; rfl) | (obtain ⟨_, _, _, _, _, _, _, _, _, _, _, rfl, _⟩ := h; rfl) | (obtain ⟨_, _, _, _, _, _, _, _, _, _, _, _, rfl, _⟩ := h; rfl) | (obtain ⟨_, _, _, _, _, _, _, _, _, _, _, _, _, rfl, _⟩ := h; rfl) | (obtain ⟨_, _, _, _, _, _, _, _, _, _, _, _, _, _, rfl, _⟩ := h; rfl) | (obtain ⟨_, _, _, _, _, _, _, _, _, _, _, _, _, _, _, rfl, _⟩ := h; rfl) | (obtain ⟨_, _, _, _, _, _, _, _, _, _, _, _, _, _, _, _, rfl, _⟩ := h; rfl) | (obtain ⟨_, _, _, _, _, _, _, _, _, _, _, _, _, _, _, _, _, rfl, _⟩ := h; rfl) | (obtain ⟨_, _, _, _, _, _, _, _, _, _, _, _, _, _, _, _, _, _, rfl, _⟩ := h; rfl) | (obtain ⟨_, _, _, _, _, _, _, _, _, _, _, _, _, _, _, _, _, _, _, rfl, _⟩ := h; rfl) | exact Mt.tk_len rfl h | (obtain ⟨_, h⟩ := h; exact Mt.tk_len rfl h) | (obtain ⟨_, _, h⟩ := h; exact Mt.tk_len rfl h) | (obtain ⟨_, _, _, h⟩ := h; exact Mt.tk_len rfl h) | (obtain ⟨_, _, _, _, h⟩ := h; exact Mt.tk_len rfl h) | (obtain ⟨_, _, _, _, _, h⟩ := h; exact Mt.tk_len rfl h) | (obtain ⟨_, _, _, _, _, _, h⟩ := h; exact Mt.tk_len rfl h) | (obtain ⟨_, _, _, _, _, _, _, h⟩ := h; exact Mt.tk_len rfl h) | (obtain ⟨_, _, _, _, _, _, _, _, h⟩ := h; exact Mt.tk_len rfl h) | (obtain ⟨_, _, _, _, _, _, _, _, _, h⟩ := h; exact Mt.tk_len rfl h) | (obtain ⟨_, _, _, _, _, _, _, _, _, _, h⟩ := h; exact Mt.tk_len rfl h) | (obtain ⟨_, _, _, _, _, _, _, _, _, _, _, h⟩ := h; exact Mt.tk_len rfl h) | (obtain ⟨_, _, _, _, _, _, _, _, _, _, _, _, h⟩ := h; exact Mt.tk_len rfl h) | (obtain ⟨_, _, _, _, _, _, _, _, _, _, _, _, _, h⟩ := h; exact Mt.tk_len rfl h) | (obtain ⟨_, _, _, _, _, _, _, _, _, _, _, _, _, _, h⟩ := h; exact Mt.tk_len rfl h) | (obtain ⟨_, _, _, _, _, _, _, _, _, _, _, _, _, _, _, h⟩ := h; exact Mt.tk_len rfl h) | (obtain ⟨_, _, _, _, _, _, _, _, _, _, _, _, _, _, _, _, h⟩ := h; exact Mt.tk_len rfl h) | (obtain ⟨_, _, _, _, _, _, _, _, _, _, _, _, _, _, _, _, _, h⟩ := h; exact Mt.tk_len rfl h)) | inr h => (first | (obtain ⟨rfl, _⟩ := h; rfl) | (obtain ⟨_, _, _, _, ⟨_, _, rfl, _⟩, _⟩ := h; rfl) | (obtain ⟨_, rfl, _⟩ := h; rfl) | (obtain ⟨_, _, rfl, _⟩ := h; rfl) | (obtain ⟨_, _, _, rfl, _⟩ := h; rfl) | (obtain ⟨_, _, _, _, rfl, _⟩ := h; rfl) | (obtain ⟨_, _, _, _, _, rfl, _⟩ := h; rfl) | (obtain ⟨_, _, _, _, _, _, rfl, _⟩ := h; rfl) | (obtain ⟨_, _, _, _, _, _, _, rfl, _⟩ := h; rfl) | (obtain ⟨_, _, _, _, _, _, _, _, rfl, _⟩ := h; rfl) | (obtain ⟨_, _, _, _, _, _, _, _, _, rfl, _⟩ := h; rfl) | (obtain ⟨_, _, _, _, _, _, _, _, _, _, rfl, _⟩ := h; rfl) | (obtain ⟨_, _, _, _, _, _, _, _, _, _, _, rfl, _⟩ := h; rfl) | (obtain ⟨_, _, _, _, _, _, _, _, _, _, _, _, rfl, _⟩ := h; rfl) | (obtain ⟨_, _, _, _, _, _, _, _, _, _, _, _, _, rfl, _⟩ := h; rfl) | (obtain ⟨_, _, _, _, _, _, _, _, _, _, _, _, _, _, rfl, _⟩ := h; rfl) | (obtain ⟨_, _, _, _, _, _, _, _, _, _, _, _, _, _, _, rfl, _⟩ := h; rfl) | (obtain ⟨_, _, _, _, _, _, _, _, _, _, _, _, _, _, _, _, rfl, _⟩ := h; rfl) | (obtain ⟨_, _, _, _, _, _, _, _, _, _, _, _, _, _, _, _, _, rfl, _⟩ := h; rfl) | (obtain ⟨_, _, _, _, _, _, _, _, _, _, _, _, _, _, _, _, _, _, rfl, _⟩ := h; rfl) | (obtain ⟨_, _, _, _, _, _, _, _, _, _, _, _, _, _, _, _, _, _, _, rfl, _⟩ := h; rfl) | exact Mt.tk_len rfl h | (obtain ⟨_, h⟩ := h; exact Mt.tk_len rfl h) | (obtain ⟨_, _, h⟩ := h; exact Mt.tk_len rfl h) | (obtain ⟨_, _, _, h⟩ := h; exact Mt.tk_len rfl h) | (obtain ⟨_, _, _, _, h⟩ := h; exact Mt.tk_len rfl h) | (obtain ⟨_, _, _, _, _, h⟩ := h; exact Mt.tk_len rfl h) | (obtain ⟨_, _, _, _, _, _, h⟩ := h; exact Mt.tk_len rfl h) | (obtain ⟨_, _, _, _, _, _, _, h⟩ := h; exact Mt.tk_len rfl h) | (obtain ⟨_, _, _, _, _, _, _, _, h⟩ := h; exact Mt.tk_len rfl h) | (obtain ⟨_, _, _, _, _, _, _, _, _, h⟩ := h; exact Mt.tk_len rfl h) | (obtain ⟨_, _, _, _, _, _, _, _, _, _, h⟩ := h; exact Mt.tk_len rfl h) | (obtain ⟨_, _, _, _, _, _, _, _, _, _, _, h⟩ := h; exact Mt.tk_len rfl h) | (obtain ⟨_, _, _, _, _, _, _, _, _, _, _, _, h⟩ := h; exact Mt.tk_len rfl h) | (obtain ⟨_, _, _, _, _, _, _, _, _, _, _, _, _, h⟩ := h; exact Mt.tk_len rfl h) | (obtain ⟨_, _, _, _, _, _, _, _, _, _, _, _, _, _, h⟩ := h; exact Mt.tk_len rfl h) | (obtain ⟨_, _, _, _, _, _, _, _, _, _, _, _, _, _, _, h⟩ := h; exact Mt.tk_len rfl h) | (obtain ⟨_, _, _, _, _, _, _, _, _, _, _, _, _, _, _, _, h⟩ := h; exact Mt.tk_len rfl h) | (obtain ⟨_, _, _, _, _, _, _, _, _, _, _, _, _, _, _, _, _, h⟩ := h; exact Mt.tk_len rfl h))) | (first | (obtain ⟨rfl, _⟩ := h; rfl) | (obtain ⟨_, _, _, _, ⟨_, _, rfl, _⟩, _⟩ := h; rfl) | (obtain ⟨_, rfl, _⟩ := h; rfl) | (obtain ⟨_, _, rfl, _⟩ := h; rfl) | (obtain ⟨_, _, _, rfl, _⟩ := h; rfl) | (obtain ⟨_, _, _, _, rfl, _⟩ := h; rfl) | (obtain ⟨_, _, _, _, _, rfl, _⟩ := h; rfl) | (obtain ⟨_, _, _, _, _, _, rfl, _⟩ := h; rfl) | (obtain ⟨_, _, _, _, _, _, _, rfl, _⟩ := h; rfl) | (obtain ⟨_, _, _, _, _, _, _, _, rfl, _⟩ := h; rfl) | (obtain ⟨_, _, _, _, _, _, _, _, _, rfl, _⟩ := h; rfl) | (obtain ⟨_, _, _, _, _, _, _, _, _, _, rfl, _⟩ := h; rfl) | (obtain ⟨_, _, _, _, _, _, _, _, _, _, _, rfl, _⟩ := h; rfl) | (obtain ⟨_, _, _, _, _, _, _, _, _, _, _, _, rfl, _⟩ := h; rfl) | (obtain ⟨_, _, _, _, _, _, _, _, _, _, _, _, _, rfl, _⟩ := h; rfl) | (obtain ⟨_, _, _, _, _, _, _, _, _, _, _, _, _, _, rfl, _⟩ := h; rfl) | (obtain ⟨_, _, _, _, _, _, _, _, _, _, _, _, _, _, _, rfl, _⟩ := h; rfl) | (obtain ⟨_, _, _, _, _, _, _, _, _, _, _, _, _, _, _, _, rfl, _⟩ := h; rfl) | (obtain ⟨_, _, _, _, _, _, _, _, _, _, _, _, _, _, _, _, _, rfl, _⟩ := h; rfl) | (obtain ⟨_, _, _, _, _, _, _, _, _, _, _, _, _, _, _, _, _, _, rfl, _⟩ := h; rfl) | (obtain ⟨_, _, _, _, _, _, _, _, _, _, _, _, _, _, _, _, _, _, _, rfl, _⟩ := h; rfl) | exact Mt.tk_len rfl h | (obtain ⟨_, h⟩ := h; exact Mt.tk_len rfl h) | (obtain ⟨_, _, h⟩ := h; exact Mt.tk_len rfl h) | (obtain ⟨_, _, _, h⟩ := h; exact Mt.tk_len rfl h) | (obtain ⟨_, _, _, _, h⟩ := h; exact Mt.tk_len rfl h) | (obtain ⟨_, _, _, _, _, h⟩ := h; exact Mt.tk_len rfl h) | (obtain ⟨_, _, _, _, _, _, h⟩ := h; exact Mt.tk_len rfl h) | (obtain ⟨_, _, _, _, _, _, _, h⟩ := h; exact Mt.tk_len rfl h) | (obtain ⟨_, _, _, _, _, _, _, _, h⟩ := h; exact Mt.tk_len rfl h) | (obtain ⟨_, _, _, _, _, _, _, _, _, h⟩ := h; exact Mt.tk_len rfl h) | (obtain ⟨_, _, _, _, _, _, _, _, _, _, h⟩ := h; exact Mt.tk_len rfl h) | (obtain ⟨_, _, _, _, _, _, _, _, _, _, _, h⟩ := h; exact Mt.tk_len rfl h) | (obtain ⟨_, _, _, _, _, _, _, _, _, _, _, _, h⟩ := h; exact Mt.tk_len rfl h) | (obtain ⟨_, _, _, _, _, _, _, _, _, _, _, _, _, h⟩ := h; exact Mt.tk_len rfl h) | (obtain ⟨_, _, _, _, _, _, _, _, _, _, _, _, _, _, h⟩ := h; exact Mt.tk_len rfl h) | (obtain ⟨_, _, _, _, _, _, _, _, _, _, _, _, _, _, _, h⟩ := h; exact Mt.tk_len rfl h) | (obtain ⟨_, _, _, _, _, _, _, _, _, _, _, _, _, _, _, _, h⟩ := h; exact Mt.tk_len rfl h) | (obtain ⟨_, _, _, _, _, _, _, _, _, _, _, _, _, _, _, _, _, h⟩ := h; exact Mt.tk_len rfl h))) (g__law_days K a) (fun f cdv A outer s H E hr => t__law_days T (ok__law_draw T) (ok__law_of T) hr) (rf__law_days)
theorem ok__law_rows_of (T : Txt K mg a) : Fnc P w K mg base "_law_rows_of" s__law_rows_of dv__law_rows_of 6 ps__law_rows_of (sp__law_rows_of a) :=
  fnc_ofL T.b__law_rows_of T.lm__law_rows_of sc__law_rows_of (by intro ds S q h; obtain ⟨_, _, rfl, _⟩ := h; rfl) (g__law_rows_of K a) (fun f cdv A outer s H E lm hr => t__law_rows_of T  lm hr) (rf__law_rows_of)
theorem ok__law_book (T : Txt K mg a) : Fnc P w K mg base "_law_book" s__law_book dv__law_book 3 ps__law_book (sp__law_book a) :=
  fnc_of T.b__law_book sc__law_book (by intro ds S q h; obtain ⟨_, _, rfl, _⟩ := h; rfl) (g__law_book K a) (fun f cdv A outer s H E hr => t__law_book T (ok_Book_init T) (ok_Book_write T) hr) (rf__law_book T)
theorem ok__law_due (T : Txt K mg a) : Fnc P w K mg base "_law_due" s__law_due dv__law_due 6 ps__law_due (sp__law_due a) :=
  fnc_ofL T.b__law_due T.lm__law_due sc__law_due (by intro ds S q h; obtain ⟨_, rfl, _⟩ := h; rfl) (g__law_due K a) (fun f cdv A outer s H E lm hr => t__law_due T  lm hr) (rf__law_due)
end
def hlam : Hd.Lams := [(("_law_rows_of", none), lamq "_law_rows_of"), (("_law_due", none), lamq "_law_due")]
def hd_other_bank : He.DefD := ⟨("other_bank", none), "other_bank", "other_bank", defArgs s_other_bank, defBody s_other_bank, defScope s_other_bank, [], []⟩
def hd_Book_init : He.DefD := ⟨("Book", some "__init__"), "__init__", "Book.__init__", defArgs s_Book_init, defBody s_Book_init, defScope s_Book_init, [], []⟩
def hd_Book_write : He.DefD := ⟨("Book", some "write"), "write", "Book.write", defArgs s_Book_write, defBody s_Book_write, defScope s_Book_write, [], []⟩
def hd_Book_rows : He.DefD := ⟨("Book", some "rows"), "rows", "Book.rows", defArgs s_Book_rows, defBody s_Book_rows, defScope s_Book_rows, [], []⟩
def hd_numbered : He.DefD := ⟨("numbered", none), "numbered", "numbered", defArgs s_numbered, defBody s_numbered, defScope s_numbered, [], []⟩
def hd_faults_of : He.DefD := ⟨("faults_of", none), "faults_of", "faults_of", defArgs s_faults_of, defBody s_faults_of, defScope s_faults_of, [], []⟩
def hd_crossings : He.DefD := ⟨("crossings", none), "crossings", "crossings", defArgs s_crossings, defBody s_crossings, defScope s_crossings, [], []⟩
def hd__law_feed : He.DefD := ⟨("_law_feed", none), "_law_feed", "_law_feed", defArgs s__law_feed, defBody s__law_feed, defScope s__law_feed, [], []⟩
def hd__law_draw : He.DefD := ⟨("_law_draw", none), "_law_draw", "_law_draw", defArgs s__law_draw, defBody s__law_draw, defScope s__law_draw, [], []⟩
def hd__law_of : He.DefD := ⟨("_law_of", none), "_law_of", "_law_of", defArgs s__law_of, defBody s__law_of, defScope s__law_of, [], []⟩
def hd__law_names : He.DefD := ⟨("_law_names", none), "_law_names", "_law_names", defArgs s__law_names, defBody s__law_names, defScope s__law_names, [], []⟩
def hd__law_days : He.DefD := ⟨("_law_days", none), "_law_days", "_law_days", defArgs s__law_days, defBody s__law_days, defScope s__law_days, [], []⟩
def hd__law_rows_of : He.DefD := ⟨("_law_rows_of", none), "_law_rows_of", "_law_rows_of", defArgs s__law_rows_of, defBody s__law_rows_of, defScope s__law_rows_of, [], []⟩
def hd__law_book : He.DefD := ⟨("_law_book", none), "_law_book", "_law_book", defArgs s__law_book, defBody s__law_book, defScope s__law_book, [], []⟩
def hd__law_due : He.DefD := ⟨("_law_due", none), "_law_due", "_law_due", defArgs s__law_due, defBody s__law_due, defScope s__law_due, [], []⟩
def hd_law : He.DefD := ⟨("law", none), "law", "law", defArgs s_law, defBody s_law, defScope s_law, [], []⟩
def hfn0 : List He.DefD := [hd_other_bank, hd_Book_init, hd_Book_write, hd_Book_rows, hd_numbered, hd_faults_of, hd_crossings, hd__law_feed, hd__law_draw, hd__law_of, hd__law_names, hd__law_days, hd__law_rows_of, hd__law_book, hd__law_due, hd_law]
def hfa0 : List Hd.Fq := [fun K => decide (PySem.W.nsIn K mainGlobals "Book" = some (some (.ref (He.ga K "Book")))), fun K => decide (PySem.W.nsIn K mainGlobals "other_bank" = some (some (.ref (He.fAd K ("other_bank", none))))), fun K => decide (PySem.W.findIn K (.ref (He.ga K "Book")) "__init__" = some (some (.ref (He.fAd K ("Book", some "__init__"))))), fun K => PySem.W.isFn K (.ref (He.fAd K ("Book", some "__init__"))), fun K => decide (PySem.W.findIn K (.ref (He.ga K "Book")) "write" = some (some (.ref (He.fAd K ("Book", some "write"))))), fun K => PySem.W.isFn K (.ref (He.fAd K ("Book", some "write"))), fun K => decide (PySem.W.findIn K (.ref (He.ga K "Book")) "rows" = some (some (.ref (He.fAd K ("Book", some "rows"))))), fun K => PySem.W.isFn K (.ref (He.fAd K ("Book", some "rows"))), fun K => decide (PySem.W.nsIn K mainGlobals "numbered" = some (some (.ref (He.fAd K ("numbered", none))))), fun K => decide (PySem.W.nsIn K mainGlobals "faults_of" = some (some (.ref (He.fAd K ("faults_of", none))))), fun K => decide (PySem.W.nsIn K mainGlobals "crossings" = some (some (.ref (He.fAd K ("crossings", none))))), fun K => decide (PySem.W.nsIn K mainGlobals "_law_feed" = some (some (.ref (He.fAd K ("_law_feed", none))))), fun K => decide (PySem.W.nsIn K mainGlobals "_law_draw" = some (some (.ref (He.fAd K ("_law_draw", none))))), fun K => decide (PySem.W.nsIn K mainGlobals "_law_of" = some (some (.ref (He.fAd K ("_law_of", none))))), fun K => decide (PySem.W.nsIn K mainGlobals "_law_names" = some (some (.ref (He.fAd K ("_law_names", none))))), fun K => decide (PySem.W.nsIn K mainGlobals "_law_days" = some (some (.ref (He.fAd K ("_law_days", none))))), fun K => decide (PySem.W.nsIn K mainGlobals "_law_rows_of" = some (some (.ref (He.fAd K ("_law_rows_of", none))))), fun K => decide (PySem.W.nsIn K mainGlobals "_law_book" = some (some (.ref (He.fAd K ("_law_book", none))))), fun K => decide (PySem.W.nsIn K mainGlobals "_law_due" = some (some (.ref (He.fAd K ("_law_due", none))))), fun K => decide (PySem.W.nsIn K mainGlobals "law" = some (some (.ref (He.fAd K ("law", none))))), fun K => PySem.W.plainGet K (He.ga K "Book") Str.empty, fun K => PySem.W.hasDictIn K (He.ga K "Book"), fun K => PySem.W.plainOver K (He.ga K "Book"), fun K => decide (PySem.W.findIn K (.ref (He.ga K "Book")) "__setattr__" = some (some (.builtin "object.__setattr__"))), fun K => PySem.W.makesIn K (He.ga K "Book"), fun K => PySem.W.keepIn K (.ref (He.ga K "Book")), fun K => Hd.lamsB hlam K, fun K => decide (PySem.W.nsIn K mainGlobals "enumerate" = some none), fun K => decide (PySem.W.nsIn K mainGlobals "isinstance" = some none), fun K => decide (PySem.W.nsIn K mainGlobals "len" = some none), fun K => decide (PySem.W.nsIn K mainGlobals "list" = some none), fun K => decide (PySem.W.nsIn K mainGlobals "max" = some none), fun K => decide (PySem.W.nsIn K mainGlobals "range" = some none), fun K => decide (PySem.W.nsIn K mainGlobals "repr" = some none), fun K => decide (PySem.W.nsIn K mainGlobals "set" = some none), fun K => decide (PySem.W.nsIn K mainGlobals "sorted" = some none), fun K => decide (PySem.W.nsIn K mainGlobals "zip" = some none), fun K => decide (PySem.W.nsIn K mainGlobals "BANKS" = some (some (.ref (He.ga K "BANKS")))), fun K => Hd.kttB K (He.ga K "BANKS") ["near", "far"], fun K => decide (PySem.W.findIn K (.ref (He.ga K "Book")) "bank" = some none), fun K => decide (PySem.W.findIn K (.ref (He.ga K "Book")) "kept" = some none)]
def hqs : Hd.Qs := [([], hfn0), (hfa0, [])]
abbrev hR : PySem.W.OpenRow := PySem.W.OpenLaw.row PySem.Challenge.rw_boatbridge_k71_crossings
abbrev hk : PySem.W.Hook := Hd.hookT 5 hlam hqs
abbrev hob : PySem.W.SharedT → Bool × List He.AlD := fun s => (Hd.obsTb 5 hlam (HandSHeadRun.getT s), Hd.obsLL 5 hlam hqs (HandSHeadRun.getT s))
theorem hob_eq (s : PySem.W.SharedT) : hob s = hk.obs s.abs := Hd.obsT_eq (HandSHeadRun.getT_eq s)
def hnames : List PySem.Str := (["Lacks", "Backward", "BANKS", "other_bank", "HOUR", "DAY", "show_clock", "show_time", "Book", "numbered", "faults_of", "crossings", "_law_feed", "_law_draw", "_law_of", "_law_names", "_law_days", "_law_rows_of", "_law_book", "_law_due"] : List PySem.Str)
theorem hrun_l (w : World) : Hd.Looks hR (PySem.W.view hR.prog [26]) 60000 hnames w := by
  intro os
  kernel_rfl
theorem hrun_0 (w : World) : Hd.Obs1L hR 5 hlam [] hfn0 60000 w := by
  intro os
  kernel_rfl
theorem hrun_1 (w : World) : Hd.Obs1L hR 5 hlam hfa0 [] 60000 w := by
  intro os
  kernel_rfl
theorem hrun_t (w : World) : Hd.ObsTb hR 5 hlam 60000 w := by
  intro os
  kernel_rfl
theorem hrun (w : World) : HandSHeadRun.RunEq hR (PySem.W.view hR.prog [26]) hk hob 60000 hnames w := Hd.runEqT_of (hrun_l w) (Hd.obsAL_cons (hrun_0 w) (Hd.obsAL_cons (hrun_1 w) (Hd.obsAL_nil (hrun_l w)))) (hrun_t w)
theorem all_mk {l : PySem.W.OpenLaw} {w : World} {K : PySem.W.Frag} {h : Heap} {mg : Str → Option Value} {fa : Addr} (X : K.In h) (G : h.Ns mainGlobals mg) (hfa_ : mg "law" = some (.ref fa)) (c : Hd.SaysL hqs K) (ta : Hd.SaysTb hlam K h) :
    Hd.lamsB hlam K = true ∧ ∃ fd : FuncData, (∀ (s : Shared) (v : Value), BindsTo s fd ⟨[v], []⟩ [("_law_script", v)]) ∧ ∀ base : Heap, K.In base → base.Ns mainGlobals mg → FnG l.prog w K mg base CX0 7 fa fd ["_law_script"] (spOf K sp_law) := by
  have c0 := c ([], hfn0) (by simp [hqs])
  have cc0 := c (hfa0, []) (by simp [hqs])
  obtain ⟨fd_other_bank, F_other_bank⟩ := c0.def_ 0 (d := hd_other_bank) rfl
  obtain ⟨fd_Book_init, F_Book_init⟩ := c0.def_ 1 (d := hd_Book_init) rfl
  obtain ⟨fd_Book_write, F_Book_write⟩ := c0.def_ 2 (d := hd_Book_write) rfl
  obtain ⟨fd_Book_rows, F_Book_rows⟩ := c0.def_ 3 (d := hd_Book_rows) rfl
  obtain ⟨fd_numbered, F_numbered⟩ := c0.def_ 4 (d := hd_numbered) rfl
  obtain ⟨fd_faults_of, F_faults_of⟩ := c0.def_ 5 (d := hd_faults_of) rfl
  obtain ⟨fd_crossings, F_crossings⟩ := c0.def_ 6 (d := hd_crossings) rfl
  obtain ⟨fd__law_feed, F__law_feed⟩ := c0.def_ 7 (d := hd__law_feed) rfl
  obtain ⟨fd__law_draw, F__law_draw⟩ := c0.def_ 8 (d := hd__law_draw) rfl
  obtain ⟨fd__law_of, F__law_of⟩ := c0.def_ 9 (d := hd__law_of) rfl
  obtain ⟨fd__law_names, F__law_names⟩ := c0.def_ 10 (d := hd__law_names) rfl
  obtain ⟨fd__law_days, F__law_days⟩ := c0.def_ 11 (d := hd__law_days) rfl
  obtain ⟨fd__law_rows_of, F__law_rows_of⟩ := c0.def_ 12 (d := hd__law_rows_of) rfl
  obtain ⟨fd__law_book, F__law_book⟩ := c0.def_ 13 (d := hd__law_book) rfl
  obtain ⟨fd__law_due, F__law_due⟩ := c0.def_ 14 (d := hd__law_due) rfl
  obtain ⟨fd_law, F_law⟩ := c0.def_ 15 (d := hd_law) rfl
  have aC_Book : PySem.W.nsIn K mainGlobals "Book" = some (some (.ref (He.ga K "Book"))) := of_decide_eq_true (cc0.fact 0 rfl)
  have a_other_bank : PySem.W.nsIn K mainGlobals "other_bank" = some (some (.ref (He.fAd K ("other_bank", none)))) := of_decide_eq_true (cc0.fact 1 rfl)
  have a_Book_init : PySem.W.findIn K (.ref (He.ga K "Book")) "__init__" = some (some (.ref (He.fAd K ("Book", some "__init__")))) := of_decide_eq_true (cc0.fact 2 rfl)
  have i_Book_init : PySem.W.isFn K (.ref (He.fAd K ("Book", some "__init__"))) = true := cc0.fact 3 rfl
  have a_Book_write : PySem.W.findIn K (.ref (He.ga K "Book")) "write" = some (some (.ref (He.fAd K ("Book", some "write")))) := of_decide_eq_true (cc0.fact 4 rfl)
  have i_Book_write : PySem.W.isFn K (.ref (He.fAd K ("Book", some "write"))) = true := cc0.fact 5 rfl
  have a_Book_rows : PySem.W.findIn K (.ref (He.ga K "Book")) "rows" = some (some (.ref (He.fAd K ("Book", some "rows")))) := of_decide_eq_true (cc0.fact 6 rfl)
  have i_Book_rows : PySem.W.isFn K (.ref (He.fAd K ("Book", some "rows"))) = true := cc0.fact 7 rfl
  have a_numbered : PySem.W.nsIn K mainGlobals "numbered" = some (some (.ref (He.fAd K ("numbered", none)))) := of_decide_eq_true (cc0.fact 8 rfl)
  have a_faults_of : PySem.W.nsIn K mainGlobals "faults_of" = some (some (.ref (He.fAd K ("faults_of", none)))) := of_decide_eq_true (cc0.fact 9 rfl)
  have a_crossings : PySem.W.nsIn K mainGlobals "crossings" = some (some (.ref (He.fAd K ("crossings", none)))) := of_decide_eq_true (cc0.fact 10 rfl)
  have a__law_feed : PySem.W.nsIn K mainGlobals "_law_feed" = some (some (.ref (He.fAd K ("_law_feed", none)))) := of_decide_eq_true (cc0.fact 11 rfl)
  have a__law_draw : PySem.W.nsIn K mainGlobals "_law_draw" = some (some (.ref (He.fAd K ("_law_draw", none)))) := of_decide_eq_true (cc0.fact 12 rfl)
  have a__law_of : PySem.W.nsIn K mainGlobals "_law_of" = some (some (.ref (He.fAd K ("_law_of", none)))) := of_decide_eq_true (cc0.fact 13 rfl)
  have a__law_names : PySem.W.nsIn K mainGlobals "_law_names" = some (some (.ref (He.fAd K ("_law_names", none)))) := of_decide_eq_true (cc0.fact 14 rfl)
  have a__law_days : PySem.W.nsIn K mainGlobals "_law_days" = some (some (.ref (He.fAd K ("_law_days", none)))) := of_decide_eq_true (cc0.fact 15 rfl)
  have a__law_rows_of : PySem.W.nsIn K mainGlobals "_law_rows_of" = some (some (.ref (He.fAd K ("_law_rows_of", none)))) := of_decide_eq_true (cc0.fact 16 rfl)
  have a__law_book : PySem.W.nsIn K mainGlobals "_law_book" = some (some (.ref (He.fAd K ("_law_book", none)))) := of_decide_eq_true (cc0.fact 17 rfl)
  have a__law_due : PySem.W.nsIn K mainGlobals "_law_due" = some (some (.ref (He.fAd K ("_law_due", none)))) := of_decide_eq_true (cc0.fact 18 rfl)
  have a_law : PySem.W.nsIn K mainGlobals "law" = some (some (.ref (He.fAd K ("law", none)))) := of_decide_eq_true (cc0.fact 19 rfl)
  have pg_Book : PySem.W.plainGet K (He.ga K "Book") Str.empty = true := cc0.fact 20 rfl
  have hd_Book : PySem.W.hasDictIn K (He.ga K "Book") = true := cc0.fact 21 rfl
  have po_Book : PySem.W.plainOver K (He.ga K "Book") = true := cc0.fact 22 rfl
  have sa_Book : PySem.W.findIn K (.ref (He.ga K "Book")) "__setattr__" = some (some (.builtin "object.__setattr__")) := of_decide_eq_true (cc0.fact 23 rfl)
  have mk_Book : PySem.W.makesIn K (He.ga K "Book") = true := cc0.fact 24 rfl
  have kc_Book : PySem.W.keepIn K (.ref (He.ga K "Book")) = true := cc0.fact 25 rfl
  have hlams : Hd.lamsB hlam K = true := cc0.fact 26 rfl
  have zno_enumerate : PySem.W.nsIn K mainGlobals "enumerate" = some none := of_decide_eq_true (cc0.fact 27 rfl)
  have zno_isinstance : PySem.W.nsIn K mainGlobals "isinstance" = some none := of_decide_eq_true (cc0.fact 28 rfl)
  have zno_len : PySem.W.nsIn K mainGlobals "len" = some none := of_decide_eq_true (cc0.fact 29 rfl)
  have zno_list : PySem.W.nsIn K mainGlobals "list" = some none := of_decide_eq_true (cc0.fact 30 rfl)
  have zno_max : PySem.W.nsIn K mainGlobals "max" = some none := of_decide_eq_true (cc0.fact 31 rfl)
  have zno_range : PySem.W.nsIn K mainGlobals "range" = some none := of_decide_eq_true (cc0.fact 32 rfl)
  have zno_repr : PySem.W.nsIn K mainGlobals "repr" = some none := of_decide_eq_true (cc0.fact 33 rfl)
  have zno_set : PySem.W.nsIn K mainGlobals "set" = some none := of_decide_eq_true (cc0.fact 34 rfl)
  have zno_sorted : PySem.W.nsIn K mainGlobals "sorted" = some none := of_decide_eq_true (cc0.fact 35 rfl)
  have zno_zip : PySem.W.nsIn K mainGlobals "zip" = some none := of_decide_eq_true (cc0.fact 36 rfl)
  have zc_BANKS : PySem.W.nsIn K mainGlobals "BANKS" = some (some (.ref (He.ga K "BANKS"))) := of_decide_eq_true (cc0.fact 37 rfl)
  have kt_BANKS : Hd.kttB K (He.ga K "BANKS") ["near", "far"] = true := cc0.fact 38 rfl
  have zf_Book_bank : PySem.W.findIn K (.ref (He.ga K "Book")) "bank" = some none := of_decide_eq_true (cc0.fact 39 rfl)
  have zf_Book_kept : PySem.W.findIn K (.ref (He.ga K "Book")) "kept" = some none := of_decide_eq_true (cc0.fact 40 rfl)
  have T : Txt K mg ⟨(He.ga K "Book"), (He.ga K "BANKS")⟩ := ⟨⟨(He.fAd K ("other_bank", none)), fd_other_bank, F_other_bank, PySem.W.mg_of X G a_other_bank⟩, ⟨(He.fAd K ("Book", some "__init__")), fd_Book_init, F_Book_init, ⟨mk_Book, a_Book_init, i_Book_init, kc_Book⟩⟩, ⟨(He.fAd K ("Book", some "write")), fd_Book_write, F_Book_write, ⟨a_Book_write, i_Book_write, F_Book_write.kp⟩⟩, ⟨(He.fAd K ("Book", some "rows")), fd_Book_rows, F_Book_rows, ⟨a_Book_rows, i_Book_rows, F_Book_rows.kp⟩⟩, ⟨(He.fAd K ("numbered", none)), fd_numbered, F_numbered, PySem.W.mg_of X G a_numbered⟩, ⟨(He.fAd K ("faults_of", none)), fd_faults_of, F_faults_of, PySem.W.mg_of X G a_faults_of⟩, ⟨(He.fAd K ("crossings", none)), fd_crossings, F_crossings, PySem.W.mg_of X G a_crossings⟩, ⟨(He.fAd K ("_law_feed", none)), fd__law_feed, F__law_feed, PySem.W.mg_of X G a__law_feed⟩, ⟨(He.fAd K ("_law_draw", none)), fd__law_draw, F__law_draw, PySem.W.mg_of X G a__law_draw⟩, ⟨(He.fAd K ("_law_of", none)), fd__law_of, F__law_of, PySem.W.mg_of X G a__law_of⟩, ⟨(He.fAd K ("_law_names", none)), fd__law_names, F__law_names, PySem.W.mg_of X G a__law_names⟩, ⟨(He.fAd K ("_law_days", none)), fd__law_days, F__law_days, PySem.W.mg_of X G a__law_days⟩, Hd.lamT_mk X G ta hlams (PySem.W.mg_of X G a__law_rows_of) (by decide +kernel), ⟨(He.fAd K ("_law_rows_of", none)), fd__law_rows_of, F__law_rows_of, PySem.W.mg_of X G a__law_rows_of⟩, ⟨(He.fAd K ("_law_book", none)), fd__law_book, F__law_book, PySem.W.mg_of X G a__law_book⟩, Hd.lamT_mk X G ta hlams (PySem.W.mg_of X G a__law_due) (by decide +kernel), ⟨(He.fAd K ("_law_due", none)), fd__law_due, F__law_due, PySem.W.mg_of X G a__law_due⟩, ⟨(He.fAd K ("law", none)), fd_law, F_law, PySem.W.mg_of X G a_law⟩, PySem.W.mg_of X G aC_Book, ⟨pg_Book, hd_Book, po_Book, sa_Book⟩, PySem.W.mg_none_of X G zno_enumerate, PySem.W.mg_none_of X G zno_isinstance, PySem.W.mg_none_of X G zno_len, PySem.W.mg_none_of X G zno_list, PySem.W.mg_none_of X G zno_max, PySem.W.mg_none_of X G zno_range, PySem.W.mg_none_of X G zno_repr, PySem.W.mg_none_of X G zno_set, PySem.W.mg_none_of X G zno_sorted, PySem.W.mg_none_of X G zno_zip, PySem.W.mg_of X G zc_BANKS, ⟨Hd.kttB_ok kt_BANKS⟩, ⟨⟨pg_Book, hd_Book, po_Book, sa_Book⟩, zf_Book_bank⟩, ⟨⟨pg_Book, hd_Book, po_Book, sa_Book⟩, zf_Book_kept⟩⟩
  obtain ⟨f0, fd, F, hm⟩ := T.b_law
  have e := hfa_.symm.trans hm
  cases e
  refine ⟨hlams, fd, fun s v => ?_, fun base _ _ => fn_body0 F sc_law (by intro ds S q h; first | exact False.elim h | (cases h with | inl h => (first | (obtain ⟨rfl, _⟩ := h; rfl) | (obtain ⟨_, _, _, _, ⟨_, _, rfl, _⟩, _⟩ := h; rfl) | (obtain ⟨_, rfl, _⟩ := h; rfl) | (obtain ⟨_, _, rfl, _⟩ := h; rfl) | (obtain ⟨_, _, _, rfl, _⟩ := h; rfl) | (obtain ⟨_, _, _, _, rfl, _⟩ := h; rfl) | (obtain ⟨_, _, _, _, _, rfl, _⟩ := h; rfl) | (obtain ⟨_, _, _, _, _, _, rfl, _⟩ := h; rfl) | (obtain ⟨_, _, _, _, _, _, _, rfl, _⟩ := h; rfl) | (obtain ⟨_, _, _, _, _, _, _, _, rfl, _⟩ := h; rfl) | (obtain ⟨_, _, _, _, _, _, _, _, _, rfl, _⟩ := h; rfl) | (obtain ⟨_, _, _, _, _, _, _, _, _, _, rfl, _⟩ := h; rfl) | (obtain ⟨_, _, _, _, _, _, _, _, _, _, _, rfl, _⟩ := h; rfl) | (obtain ⟨_, _, _, _, _, _, _, _, _, _, _, _, rfl, _⟩ := h; rfl) | (obtain ⟨_, _, _, _, _, _, _, _, _, _, _, _, _, rfl, _⟩ := h; rfl) | (obtain ⟨_, _, _, _, _, _, _, _, _, _, _, _, _, _, rfl, _⟩ := h; rfl) | (obtain ⟨_, _, _, _, _, _, _, _, _, _, _, _, _, _, _, rfl, _⟩ := h; rfl) | (obtain ⟨_, _, _, _, _, _, _, _, _, _, _, _, _, _, _, _, rfl, _⟩ := h; rfl) | (obtain ⟨_, _, _, _, _, _, _, _, _, _, _, _, _, _, _, _, _, rfl, _⟩ := h; rfl) | (obtain ⟨_, _, _, _, _, _, _, _, _, _, _, _, _, _, _, _, _, _, rfl, _⟩ := h; rfl) | (obtain ⟨_, _, _, _, _, _, _, _, _, _, _, _, _, _, _, _, _, _, _, rfl, _⟩ := h; rfl) | exact Mt.tk_len rfl h | (obtain ⟨_, h⟩ := h; exact Mt.tk_len rfl h) | (obtain ⟨_, _, h⟩ := h; exact Mt.tk_len rfl h) | (obtain ⟨_, _, _, h⟩ := h; exact Mt.tk_len rfl h) | (obtain ⟨_, _, _, _, h⟩ := h; exact Mt.tk_len rfl h) | (obtain ⟨_, _, _, _, _, h⟩ := h; exact Mt.tk_len rfl h) | (obtain ⟨_, _, _, _, _, _, h⟩ := h; exact Mt.tk_len rfl h) | (obtain ⟨_, _, _, _, _, _, _, h⟩ := h; exact Mt.tk_len rfl h) | (obtain ⟨_, _, _, _, _, _, _, _, h⟩ := h; exact Mt.tk_len rfl h) | (obtain ⟨_, _, _, _, _, _, _, _, _, h⟩ := h; exact Mt.tk_len rfl h) | (obtain ⟨_, _, _, _, _, _, _, _, _, _, h⟩ := h; exact Mt.tk_len rfl h) | (obtain ⟨_, _, _, _, _, _, _, _, _, _, _, h⟩ := h; exact Mt.tk_len rfl h) | (obtain ⟨_, _, _, _, _, _, _, _, _, _, _, _, h⟩ := h; exact Mt.tk_len rfl h) | (obtain ⟨_, _, _, _, _, _, _, _, _, _, _, _, _, h⟩ := h; exact Mt.tk_len rfl h) | (obtain ⟨_, _, _, _, _, _, _, _, _, _, _, _, _, _, h⟩ := h; exact Mt.tk_len rfl h) | (obtain ⟨_, _, _, _, _, _, _, _, _, _, _, _, _, _, _, h⟩ := h; exact Mt.tk_len rfl h) | (obtain ⟨_, _, _, _, _, _, _, _, _, _, _, _, _, _, _, _, h⟩ := h; exact Mt.tk_len rfl h) | (obtain ⟨_, _, _, _, _, _, _, _, _, _, _, _, _, _, _, _, _, h⟩ := h; exact Mt.tk_len rfl h)) | inr h => (first | (obtain ⟨rfl, _⟩ := h; rfl) | (obtain ⟨_, _, _, _, ⟨_, _, rfl, _⟩, _⟩ := h; rfl) | (obtain ⟨_, rfl, _⟩ := h; rfl) | (obtain ⟨_, _, rfl, _⟩ := h; rfl) | (obtain ⟨_, _, _, rfl, _⟩ := h; rfl) | (obtain ⟨_, _, _, _, rfl, _⟩ := h; rfl) | (obtain ⟨_, _, _, _, _, rfl, _⟩ := h; rfl) | (obtain ⟨_, _, _, _, _, _, rfl, _⟩ := h; rfl) | (obtain ⟨_, _, _, _, _, _, _, rfl, _⟩ := h; rfl) | (obtain ⟨_, _, _, _, _, _, _, _, rfl, _⟩ := h; rfl) | (obtain ⟨_, _, _, _, _, _, _, _, _, rfl, _⟩ := h; rfl) | (obtain ⟨_, _, _, _, _, _, _, _, _, _, rfl, _⟩ := h; rfl) | (obtain ⟨_, _, _, _, _, _, _, _, _, _, _, rfl, _⟩ := h; rfl) | (obtain ⟨_, _, _, _, _, _, _, _, _, _, _, _, rfl, _⟩ := h; rfl) | (obtain ⟨_, _, _, _, _, _, _, _, _, _, _, _, _, rfl, _⟩ := h; rfl) | (obtain ⟨_, _, _, _, _, _, _, _, _, _, _, _, _, _, rfl, _⟩ := h; rfl) | (obtain ⟨_, _, _, _, _, _, _, _, _, _, _, _, _, _, _, rfl, _⟩ := h; rfl) | (obtain ⟨_, _, _, _, _, _, _, _, _, _, _, _, _, _, _, _, rfl, _⟩ := h; rfl) | (obtain ⟨_, _, _, _, _, _, _, _, _, _, _, _, _, _, _, _, _, rfl, _⟩ := h; rfl) | (obtain ⟨_, _, _, _, _, _, _, _, _, _, _, _, _, _, _, _, _, _, rfl, _⟩ := h; rfl) | (obtain ⟨_, _, _, _, _, _, _, _, _, _, _, _, _, _, _, _, _, _, _, rfl, _⟩ := h; rfl) | exact Mt.tk_len rfl h | (obtain ⟨_, h⟩ := h; exact Mt.tk_len rfl h) | (obtain ⟨_, _, h⟩ := h; exact Mt.tk_len rfl h) | (obtain ⟨_, _, _, h⟩ := h; exact Mt.tk_len rfl h) | (obtain ⟨_, _, _, _, h⟩ := h; exact Mt.tk_len rfl h) | (obtain ⟨_, _, _, _, _, h⟩ := h; exact Mt.tk_len rfl h) | (obtain ⟨_, _, _, _, _, _, h⟩ := h; exact Mt.tk_len rfl h) | (obtain ⟨_, _, _, _, _, _, _, h⟩ := h; exact Mt.tk_len rfl h) | (obtain ⟨_, _, _, _, _, _, _, _, h⟩ := h; exact Mt.tk_len rfl h) | (obtain ⟨_, _, _, _, _, _, _, _, _, h⟩ := h; exact Mt.tk_len rfl h) | (obtain ⟨_, _, _, _, _, _, _, _, _, _, h⟩ := h; exact Mt.tk_len rfl h) | (obtain ⟨_, _, _, _, _, _, _, _, _, _, _, h⟩ := h; exact Mt.tk_len rfl h) | (obtain ⟨_, _, _, _, _, _, _, _, _, _, _, _, h⟩ := h; exact Mt.tk_len rfl h) | (obtain ⟨_, _, _, _, _, _, _, _, _, _, _, _, _, h⟩ := h; exact Mt.tk_len rfl h) | (obtain ⟨_, _, _, _, _, _, _, _, _, _, _, _, _, _, h⟩ := h; exact Mt.tk_len rfl h) | (obtain ⟨_, _, _, _, _, _, _, _, _, _, _, _, _, _, _, h⟩ := h; exact Mt.tk_len rfl h) | (obtain ⟨_, _, _, _, _, _, _, _, _, _, _, _, _, _, _, _, h⟩ := h; exact Mt.tk_len rfl h) | (obtain ⟨_, _, _, _, _, _, _, _, _, _, _, _, _, _, _, _, _, h⟩ := h; exact Mt.tk_len rfl h))) | (first | (obtain ⟨rfl, _⟩ := h; rfl) | (obtain ⟨_, _, _, _, ⟨_, _, rfl, _⟩, _⟩ := h; rfl) | (obtain ⟨_, rfl, _⟩ := h; rfl) | (obtain ⟨_, _, rfl, _⟩ := h; rfl) | (obtain ⟨_, _, _, rfl, _⟩ := h; rfl) | (obtain ⟨_, _, _, _, rfl, _⟩ := h; rfl) | (obtain ⟨_, _, _, _, _, rfl, _⟩ := h; rfl) | (obtain ⟨_, _, _, _, _, _, rfl, _⟩ := h; rfl) | (obtain ⟨_, _, _, _, _, _, _, rfl, _⟩ := h; rfl) | (obtain ⟨_, _, _, _, _, _, _, _, rfl, _⟩ := h; rfl) | (obtain ⟨_, _, _, _, _, _, _, _, _, rfl, _⟩ := h; rfl) | (obtain ⟨_, _, _, _, _, _, _, _, _, _, rfl, _⟩ := h; rfl) | (obtain ⟨_, _, _, _, _, _, _, _, _, _, _, rfl, _⟩ := h; rfl) | (obtain ⟨_, _, _, _, _, _, _, _, _, _, _, _, rfl, _⟩ := h; rfl) | (obtain ⟨_, _, _, _, _, _, _, _, _, _, _, _, _, rfl, _⟩ := h; rfl) | (obtain ⟨_, _, _, _, _, _, _, _, _, _, _, _, _, _, rfl, _⟩ := h; rfl) | (obtain ⟨_, _, _, _, _, _, _, _, _, _, _, _, _, _, _, rfl, _⟩ := h; rfl) | (obtain ⟨_, _, _, _, _, _, _, _, _, _, _, _, _, _, _, _, rfl, _⟩ := h; rfl) | (obtain ⟨_, _, _, _, _, _, _, _, _, _, _, _, _, _, _, _, _, rfl, _⟩ := h; rfl) | (obtain ⟨_, _, _, _, _, _, _, _, _, _, _, _, _, _, _, _, _, _, rfl, _⟩ := h; rfl) | (obtain ⟨_, _, _, _, _, _, _, _, _, _, _, _, _, _, _, _, _, _, _, rfl, _⟩ := h; rfl) | exact Mt.tk_len rfl h | (obtain ⟨_, h⟩ := h; exact Mt.tk_len rfl h) | (obtain ⟨_, _, h⟩ := h; exact Mt.tk_len rfl h) | (obtain ⟨_, _, _, h⟩ := h; exact Mt.tk_len rfl h) | (obtain ⟨_, _, _, _, h⟩ := h; exact Mt.tk_len rfl h) | (obtain ⟨_, _, _, _, _, h⟩ := h; exact Mt.tk_len rfl h) | (obtain ⟨_, _, _, _, _, _, h⟩ := h; exact Mt.tk_len rfl h) | (obtain ⟨_, _, _, _, _, _, _, h⟩ := h; exact Mt.tk_len rfl h) | (obtain ⟨_, _, _, _, _, _, _, _, h⟩ := h; exact Mt.tk_len rfl h) | (obtain ⟨_, _, _, _, _, _, _, _, _, h⟩ := h; exact Mt.tk_len rfl h) | (obtain ⟨_, _, _, _, _, _, _, _, _, _, h⟩ := h; exact Mt.tk_len rfl h) | (obtain ⟨_, _, _, _, _, _, _, _, _, _, _, h⟩ := h; exact Mt.tk_len rfl h) | (obtain ⟨_, _, _, _, _, _, _, _, _, _, _, _, h⟩ := h; exact Mt.tk_len rfl h) | (obtain ⟨_, _, _, _, _, _, _, _, _, _, _, _, _, h⟩ := h; exact Mt.tk_len rfl h) | (obtain ⟨_, _, _, _, _, _, _, _, _, _, _, _, _, _, h⟩ := h; exact Mt.tk_len rfl h) | (obtain ⟨_, _, _, _, _, _, _, _, _, _, _, _, _, _, _, h⟩ := h; exact Mt.tk_len rfl h) | (obtain ⟨_, _, _, _, _, _, _, _, _, _, _, _, _, _, _, _, h⟩ := h; exact Mt.tk_len rfl h) | (obtain ⟨_, _, _, _, _, _, _, _, _, _, _, _, _, _, _, _, _, h⟩ := h; exact Mt.tk_len rfl h))) (g_law K ⟨(He.ga K "Book"), (He.ga K "BANKS")⟩) (fun cdv A outer s H E hr => t_law T (ok_Book_init T) (ok_Book_rows T) (ok__law_book T) (ok__law_days T) (ok__law_draw T) (ok__law_due T) (ok__law_feed T) (ok__law_names T) (ok__law_rows_of T) (ok_crossings_live T) (ok_crossings T) hr) (fun ds S q _ _ h => r_law T ds S q h)⟩
  obtain ⟨oc, od, dV, kV, doc, pm, an, cdv, ct, osl, rfl, lk, hcd, df, kw⟩ := F.ex
  rcases df with ⟨_, rfl⟩ | ⟨z, _⟩
  · exact .of_eq rfl
  · exact absurd rfl z
end Lw
open PySem PySem.W PySem.Calls PyProof.Rows in
set_option maxRecDepth 100000 in
set_option maxHeartbeats 0 in
theorem PySem.Challenge.cw_boatbridge_k71_crossings_holds : PySem.Challenge.rw_boatbridge_k71_crossings.Holds := by
  w_on; o_law
  refine HandSHeadRun.head_any (r := OpenLaw.row PySem.Challenge.rw_boatbridge_k71_crossings) (q := view (OpenLaw.row PySem.Challenge.rw_boatbridge_k71_crossings).prog [26]) (H := Lw.hk) (ob := Lw.hob) (M := 60000) (loose := Lw.hnames) (d := HandSHeadRun.topDef (OpenLaw.row PySem.Challenge.rw_boatbridge_k71_crossings).prog 26) (kwd := []) Lw.hob_eq
    (by kernel_rfl) (fun s => by kernel_rfl) Lw.hrun (by kernel_rfl) (by kernel_rfl) (by kernel_rfl) (by rfl) (by first | assumption | decide +kernel) (by decide +kernel) ⟨rfl, rfl, rfl, rfl, rfl, by decide +kernel⟩ ?hw ?hc
  case hw => w_witness2
  case hc =>
    refine Hd.walk_ofT (l := PySem.Challenge.rw_boatbridge_k71_crossings) (n := 63) (k := 7) (x := "_law_script") (sp := fun K => Dl.spOf K Lw.sp_law) rfl (by decide) (by kernel_rfl) ⟨rfl, by decide, by decide⟩ ?F (fun K H a ns hl hT hO hS => Hd.start_T ⟨ns, rfl, rfl, fun _ => rfl⟩ hT hO hS)
    intro w mg fa h Y G hmg0
    obtain ⟨K, KX, c, ta⟩ := Y
    have hmg : mg ("law" : PySem.Str) = some (.ref fa) := by
      have e : (HandSHeadRun.topDef (OpenLaw.row PySem.Challenge.rw_boatbridge_k71_crossings).prog 26).name = ("law" : PySem.Str) := by kernel_rfl
      rw [← e]
      exact hmg0
    obtain ⟨hlams, fd, hb, hF⟩ := Lw.all_mk (l := PySem.Challenge.rw_boatbridge_k71_crossings) (w := w) KX G hmg c ta
    exact ⟨K, fd, KX, Hd.tabs_facts KX ta hlams, hb, hF⟩
#print axioms PySem.Challenge.cw_boatbridge_k71_crossings_holds
