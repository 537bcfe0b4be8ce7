import PyProof.Rows.All
import Wide.All
import OpenK.AllK
import Wide.FinOn
import HandS.ForMost
import HandS.ForExc
import HandS.IsInst
import HandS.TupAny
import HandS.TupMul
import HandS.Conv
import HandS.SortKw
import HandS.Deep
import HandS.Style
import HandS.Strs
import HandS.SortOrd
import HandS.Wide
import HandS.Zip
import HandS.TupLe
import HandS.SetKeys
import HandS.Lambda
import KE.DataFind
import PyProof.Rows.SortShellAny
import PyProof.SeqIndex
import PyProof.AutoSeq1
import HandS.SetFor
import HandS.Codes
import HandS.TupSets
import KE.DataMinMax
import KE.KTupSum
import HandS.SortInts
import HandS.SortRule
import HandS.More
import PyProof.ReprRoads
import PyProof.CallStr
import HandS.EndTab
import HandS.Dict
import HandS.Flow
import HandS.Small
import KE.KRevSl
import KE.KMinKey
import KE.KSortKeySt
import HandS.Comp
import PyProof.Rows.StrRev
import HandS.ExcInit
import HandS.ExcIs
import HandS.ExcField
import KE.KExcIs
import HandS.Exc
import KE.GoesEnum
import HandS.RevRange
import KE.SortData
import HandS.Remove
import PyProof.Fits
import PySem.Challenge.RW_benchdays_k01_fractions
set_option Elab.async false
set_option linter.all false
set_option maxRecDepth 100000
set_option maxHeartbeats 4000000
/-! MP1: plain data D in the place of values and tuples, an abstract heap of lists and dicts, the lifted readings. -/
namespace MP
open PySem PySem.Spec PyProof.Rows L2

inductive D where
  | non | bl (b : Bool) | int (i : Int) | str (x : Str) | tup (ds : List D) | pr (ds : List D) | ref (a : Addr) | cl (ds : List D) | exn (a dd : Addr) (ks : List Str) (ds : List D) | err (c : Str) (a dd : Addr) (ks : List Str) (ds : List D)
inductive AO where
  | lst (ds : List D)
  | dct (kvs : List (Key × D))
  | tbl (x : Str)
abbrev AH := Addr → Option AO
abbrev AS := List (Option D)
def aput (h : AH) (a : Addr) (o : AO) : AH := fun b => if b = a then some o else h b
theorem aput_same {h : AH} {a : Addr} {o : AO} : aput h a o a = some o := by unfold aput; rw [if_pos rfl]
theorem aput_ne {h : AH} {a b : Addr} {o : AO} (e : b ≠ a) : aput h a o b = h b := by unfold aput; rw [if_neg e]

/-- an error that is kept behind its suite: its object stands at a, of the class cls, with the dict d -/
def EK (cls : Value) (d : Option Addr) (a : Addr) : HO := .ext fun h => ∃ oe : Obj, h.get? a = some oe ∧ L2.Zc cls d oe ∧ ∃ vs, oe.data = .fields vs
theorem ek_ok {P : Program} {w : World} {H : Hp} {h : Heap} {a : Addr} {cls : Value} {d : Option Addr} {oe : Obj} (e : h.get? a = some oe) (z : L2.Zc cls d oe) (f : ∃ vs, oe.data = .fields vs) : ObjOk P w H h a (EK cls d a) :=
  ⟨⟨oe, e, z, f⟩, ⟨oe, e⟩, fun _ _ ⟨o, q, r⟩ k => ⟨o, k o q, r⟩⟩
/-- the class that the module's name c has -/
def ClsN (K : PySem.W.Frag) (c : Str) (C : Addr) : Prop := PySem.W.nsIn K mainGlobals c = some (some (.ref C))
/-- a tuple, its object without a dict -/
def NoD (H : Hp) (a : Addr) (xs : List V) : Prop := ∃ ob : Obj, H a = some (.frz ob (.tup xs)) ∧ ob.dict = none
theorem NoD.t {K : PySem.W.Frag} {H : Hp} {a : Addr} {xs : List V} (n : NoD H a xs) : SqT K H a xs := let ⟨ob, e, _⟩ := n; .inl (.inr ⟨ob, e⟩)
/-- a list that stays: the script -/
def CL (K : PySem.W.Frag) (H : Hp) (a : Addr) (xs : List V) : Prop := (∃ ob, H a = some (.frz ob (.lst xs))) ∨
  ∃ (o : Obj) (its : Array Value) (n : Nat), K.lookup a = some o ∧ o.cls = .type "list" ∧ o.dict = none ∧ o.data = .seq its n ∧ its.size ≤ sizeLine ∧ Vals xs its.toList
theorem CL.seq {K : PySem.W.Frag} {H : Hp} {a : Addr} {xs : List V} (c : CL K H a xs) : SqL K H a xs := by
  rcases c with ⟨ob, e⟩ | q
  · exact .inl (.inr ⟨ob, e⟩)
  · exact .inr q
mutual
def Rep (K : PySem.W.Frag) (H : Hp) : D → V → Prop
  | .non, v => v = .non
  | .bl b, v => v = .bl b
  | .int i, v => v = .int i
  | .str x, v => v = .str x
  | .ref a, v => v = .ref a
  | .tup ds, v => ∃ a xs, v = .ref a ∧ NoD H a xs ∧ Reps K H ds xs
  | .pr ds, v => ∃ a xs, v = .ref a ∧ SqT K H a xs ∧ Reps K H ds xs
  | .cl ds, v => ∃ a xs, v = .ref a ∧ CL K H a xs ∧ Reps K H ds xs
  | .exn a dd ks ds, v => v = .ref a ∧ ∃ ws, H dd = some (.xd ws) ∧ ws.map (·.1) = ks ∧ Reps K H ds (ws.map (·.2))
  | .err c a dd ks ds, v => v = .ref a ∧ (∃ C, ClsN K c C ∧ H a = some (EK (.ref C) (some dd) a)) ∧ ∃ ws, H dd = some (.xd ws) ∧ ws.map (·.1) = ks ∧ Reps K H ds (ws.map (·.2))
def Reps (K : PySem.W.Frag) (H : Hp) : List D → List V → Prop
  | [], xs => xs = []
  | d :: ds, xs => ∃ x r, xs = x :: r ∧ Rep K H d x ∧ Reps K H ds r
end
def KReps (K : PySem.W.Frag) (H : Hp) (kvs : List (Key × D)) (ws : List (Key × V)) : Prop :=
  ws.map (·.1) = kvs.map (·.1) ∧ Reps K H (kvs.map (·.2)) (ws.map (·.2))
/-- the name of the lambda of the def x -/
def lamQ (x : Str) : Str := (x ++ ".<locals>.") ++ "<lambda>"
/-- at P stands the table of code objects of the def x -/
def TabT (K : PySem.W.Frag) (H : Hp) (P : Addr) (x : Str) : Prop := (∃ c, PySem.W.tabIn K x = some (c, P)) ∧ LamX.TabS H P (lamQ x)
def RepO (K : PySem.W.Frag) (H : Hp) (a : Addr) : AO → Prop
  | .lst ds => ∃ xs, H a = some (.lst xs) ∧ Reps K H ds xs
  | .dct kvs => ∃ ws, H a = some (.dK ws) ∧ KReps K H kvs ws
  | .tbl x => TabT K H a x
def HRep (K : PySem.W.Frag) (H : Hp) (h : AH) : Prop := ∀ a o, h a = some o → RepO K H a o
def SRep (K : PySem.W.Frag) (H : Hp) (s : AS) (σ : L2.St) : Prop :=
  σ.length = s.length ∧ ∀ (i : Nat) (d : D), s[i]? = some (some d) → ∃ v, σ[i]? = some (some v) ∧ Rep K H d v
def Ext (h : AH) (H : Hp) (h' : AH) (H' : Hp) : Prop := ∀ a o, H a = some o → h a = none → H' a = some o ∧ h' a = none
def Sub (h h' : AH) : Prop := ∀ a o, h a = some o → h' a = some o
def SSub (s s' : AS) : Prop := s'.length = s.length ∧ ∀ (i : Nat) (d : D), s[i]? = some (some d) → s'[i]? = some (some d)

section
variable {K : PySem.W.Frag} {H H' H1 H2 : Hp} {h h' h1 h2 : AH} {a p : Addr}
theorem Ext.refl : Ext h H h H := fun _ _ e n => ⟨e, n⟩
theorem Ext.trans (x : Ext h H h1 H1) (y : Ext h1 H1 h2 H2) : Ext h H h2 H2 := fun a o e n => let ⟨e1, n1⟩ := x a o e n; y a o e1 n1
theorem Sub.refl : Sub h h := fun _ _ e => e
theorem Sub.trans (x : Sub h h1) (y : Sub h1 h2) : Sub h h2 := fun a o e => y a o (x a o e)
theorem Sub.none (x : Sub h h') (n : h' a = none) : h a = none := by
  cases q : h a with
  | none => rfl
  | some o => rw [x a o q] at n; cases n
theorem Ext.sub (x : Ext h H h' H') (y : Sub h1 h') : Ext h H h1 H' := fun a o e n => let ⟨e1, n1⟩ := x a o e n; ⟨e1, y.none n1⟩
theorem SSub.refl {s : AS} : SSub s s := ⟨rfl, fun _ _ e => e⟩
theorem HRep.sub (r : HRep K H h) (y : Sub h1 h) : HRep K H h1 := fun a o e => r a o (y a o e)
theorem SRep.sub {s s1 : AS} {σ : L2.St} (r : SRep K H s σ) (y : SSub s1 s) : SRep K H s1 σ := ⟨r.1.trans y.1, fun i d e => r.2 i d (y.2 i d e)⟩
theorem HRep.tupNone (r : HRep K H h) {xs : List V} (q : Rd H a (.tup xs)) : h a = none := by
  cases e : h a with
  | none => rfl
  | some o =>
    have z := r a o e
    cases o with
    | lst ds => obtain ⟨ys, e2, _⟩ := z; rcases q with q | ⟨ob, q⟩ <;> (rw [e2] at q; cases q)
    | dct kvs => obtain ⟨ys, e2, _⟩ := z; rcases q with q | ⟨ob, q⟩ <;> (rw [e2] at q; cases q)
    | tbl x => obtain ⟨_, ps, e2, _⟩ := z; rcases q with q | ⟨ob, q⟩ <;> (rw [e2] at q; cases q)
theorem HRep.frzNone (r : HRep K H h) {ob : Obj} {u : HO} (q : H a = some (.frz ob u)) : h a = none := by
  cases e : h a with
  | none => rfl
  | some o =>
    have z := r a o e
    cases o with
    | lst ds => obtain ⟨ys, e2, _⟩ := z; rw [e2] at q; cases q
    | dct kvs => obtain ⟨ys, e2, _⟩ := z; rw [e2] at q; cases q
    | tbl x => obtain ⟨_, ps, e2, _⟩ := z; rw [e2] at q; cases q
theorem cl_ext (r : HRep K H h) (x : Ext h H h' H') {xs : List V} (q : CL K H a xs) : CL K H' a xs := by
  rcases q with ⟨ob, q⟩ | q
  · exact .inl ⟨ob, (x a _ q (r.frzNone q)).1⟩
  · exact .inr q
theorem HRep.fresh (r : HRep K H h) (n : H a = none) : h a = none := by
  cases e : h a with
  | none => rfl
  | some o =>
    have z := r a o e
    cases o with
    | lst ds => obtain ⟨ys, e2, _⟩ := z; rw [e2] at n; cases n
    | dct kvs => obtain ⟨ys, e2, _⟩ := z; rw [e2] at n; cases n
    | tbl x => obtain ⟨_, ps, e2, _⟩ := z; rw [e2] at n; cases n
theorem seqT_ext (r : HRep K H h) (x : Ext h H h' H') {xs : List V} (q : SqT K H a xs) : SqT K H' a xs := by
  rcases q with q | q
  · have n := r.tupNone q
    rcases q with q | ⟨ob, q⟩
    · exact .inl (.inl (x a _ q n).1)
    · exact .inl (.inr ⟨ob, (x a _ q n).1⟩)
  · exact .inr q
theorem nod_ext (r : HRep K H h) (x : Ext h H h' H') {xs : List V} (q : NoD H a xs) : NoD H' a xs := by
  obtain ⟨ob, e, d⟩ := q
  exact ⟨ob, (x a _ e (r.frzNone e)).1, d⟩
theorem xd_none (r : HRep K H h) {b : Addr} {ws : List (Str × V)} (t : H b = some (.xd ws)) : h b = none := by
  cases e : h b with
  | none => rfl
  | some o =>
    have q := r b o e
    cases o with
    | lst ds => obtain ⟨xs, z, _⟩ := q; rw [t] at z; cases z
    | dct kvs => obtain ⟨xs, z, _⟩ := q; rw [t] at z; cases z
    | tbl x => obtain ⟨_, ps, z, _⟩ := q; rw [t] at z; cases z
theorem ek_none (r : HRep K H h) {b : Addr} {cls : Value} {d : Option Addr} (t : H b = some (EK cls d b)) : h b = none := by
  unfold EK at t
  cases e : h b with
  | none => rfl
  | some o =>
    have q := r b o e
    cases o with
    | lst ds => obtain ⟨xs, z, _⟩ := q; rw [t] at z; cases z
    | dct kvs => obtain ⟨xs, z, _⟩ := q; rw [t] at z; cases z
    | tbl x => obtain ⟨_, ps, z, _⟩ := q; rw [t] at z; cases z
theorem xd_ext (r : HRep K H h) (x : Ext h H h' H') {b : Addr} {ws : List (Str × V)} (t : H b = some (.xd ws)) : H' b = some (.xd ws) := (x b _ t (xd_none r t)).1
mutual
theorem Rep.ext (r : HRep K H h) (x : Ext h H h' H') : ∀ (d : D) (v : V), Rep K H d v → Rep K H' d v
  | .non, v, q => q
  | .bl b, v, q => q
  | .int i, v, q => q
  | .str s, v, q => q
  | .ref b, v, q => q
  | .tup ds, v, ⟨b, xs, e, t, q⟩ => ⟨b, xs, e, nod_ext r x t, Reps.ext r x ds xs q⟩
  | .pr ds, v, ⟨b, xs, e, t, q⟩ => ⟨b, xs, e, seqT_ext r x t, Reps.ext r x ds xs q⟩
  | .cl ds, v, ⟨b, xs, e, t, q⟩ => ⟨b, xs, e, cl_ext r x t, Reps.ext r x ds xs q⟩
  | .exn a dd ks ds, v, ⟨e, ws, t, u, q⟩ => ⟨e, ws, xd_ext r x t, u, Reps.ext r x ds _ q⟩
  | .err c a dd ks ds, v, ⟨e, ⟨C, m, z⟩, ws, t, u, q⟩ => ⟨e, ⟨C, m, (x a _ z (ek_none r z)).1⟩, ws, xd_ext r x t, u, Reps.ext r x ds _ q⟩
theorem Reps.ext (r : HRep K H h) (x : Ext h H h' H') : ∀ (ds : List D) (xs : List V), Reps K H ds xs → Reps K H' ds xs
  | [], _, q => q
  | d :: ds, _, ⟨y, ys, e, q1, q2⟩ => ⟨y, ys, e, Rep.ext r x d y q1, Reps.ext r x ds ys q2⟩
end
theorem KReps.ext (r : HRep K H h) (x : Ext h H h' H') {kvs : List (Key × D)} {ws : List (Key × V)} (q : KReps K H kvs ws) : KReps K H' kvs ws := ⟨q.1, Reps.ext r x _ _ q.2⟩
theorem SRep.ext (r : HRep K H h) (x : Ext h H h' H') {s : AS} {σ : L2.St} (q : SRep K H s σ) : SRep K H' s σ :=
  ⟨q.1, fun i d e => let ⟨v, e1, q1⟩ := q.2 i d e; ⟨v, e1, Rep.ext r x d v q1⟩⟩
theorem Reps.length : ∀ {ds : List D} {xs : List V}, Reps K H ds xs → xs.length = ds.length
  | [], _, q => by rw [show _ = [] from q]; rfl
  | d :: ds, _, ⟨y, ys, e, q1, q2⟩ => by rw [e, List.length_cons, List.length_cons, Reps.length q2]
theorem Reps.get : ∀ {ds : List D} {xs : List V} {i : Nat} {d : D}, Reps K H ds xs → ds[i]? = some d → ∃ x, xs[i]? = some x ∧ Rep K H d x
  | [], _, _, _, _, e => by simp at e
  | d :: ds, _, 0, d', ⟨y, ys, e, q1, q2⟩, g => by
    have : d = d' := by simpa using g
    subst this; subst e; exact ⟨y, rfl, q1⟩
  | d :: ds, _, i + 1, d', ⟨y, ys, e, q1, q2⟩, g => by
    subst e
    obtain ⟨x, e1, q⟩ := Reps.get (i := i) q2 (by simpa using g)
    exact ⟨x, by simpa using e1, q⟩
theorem Reps.getv {ds : List D} {xs : List V} {i : Nat} {x : V} (q : Reps K H ds xs) (g : xs[i]? = some x) : ∃ d, ds[i]? = some d ∧ Rep K H d x := by
  have hl := q.length
  have hi : i < ds.length := by rw [← hl]; exact (List.getElem?_eq_some_iff.mp g).1
  obtain ⟨y, e1, q1⟩ := q.get (List.getElem?_eq_getElem hi)
  rw [g] at e1; cases e1
  exact ⟨_, List.getElem?_eq_getElem hi, q1⟩
theorem Reps.app : ∀ {ds es : List D} {xs ys : List V}, Reps K H ds xs → Reps K H es ys → Reps K H (ds ++ es) (xs ++ ys)
  | [], es, xs, ys, q, r => by rw [show xs = [] from q]; exact r
  | d :: ds, es, _, ys, ⟨y, r, e, q1, q2⟩, s => ⟨y, r ++ ys, by rw [e]; rfl, q1, Reps.app q2 s⟩
theorem Reps.one {d : D} {v : V} (r : Rep K H d v) : Reps K H [d] [v] := ⟨v, [], rfl, r, rfl⟩
theorem Reps.of : ∀ {ds : List D} {xs : List V}, ds.length = xs.length → (∀ (i : Nat) (d : D) (x : V), ds[i]? = some d → xs[i]? = some x → Rep K H d x) → Reps K H ds xs
  | [], [], _, _ => rfl
  | d :: ds, x :: xs, e, q => ⟨x, xs, rfl, q 0 d x rfl rfl, Reps.of (by simpa using e) fun i d' x' a b => q (i + 1) d' x' (by simpa using a) (by simpa using b)⟩
  | [], _ :: _, e, _ => by simp at e
  | _ :: _, [], e, _ => by simp at e
theorem Reps.take {ds : List D} {xs : List V} (q : Reps K H ds xs) (n : Nat) : Reps K H (ds.take n) (xs.take n) :=
  Reps.of (by rw [List.length_take, List.length_take, q.length]) fun i d x a b => by
    rw [List.getElem?_take] at a b
    split at a
    · rename_i hi
      rw [if_pos hi] at b
      obtain ⟨y, e1, q1⟩ := q.get a
      rw [b] at e1; cases e1; exact q1
    · cases a
theorem Reps.drop {ds : List D} {xs : List V} (q : Reps K H ds xs) (n : Nat) : Reps K H (ds.drop n) (xs.drop n) :=
  Reps.of (by rw [List.length_drop, List.length_drop, q.length]) fun i d x a b => by
    rw [List.getElem?_drop] at a b
    obtain ⟨y, e1, q1⟩ := q.get a
    rw [b] at e1; cases e1; exact q1
theorem Reps.reverse {ds : List D} {xs : List V} (q : Reps K H ds xs) : Reps K H ds.reverse xs.reverse :=
  Reps.of (by rw [List.length_reverse, List.length_reverse, q.length]) fun i d x a b => by
    have hi : i < ds.length := by have := (List.getElem?_eq_some_iff.mp a).1; simpa using this
    have hl := q.length
    rw [List.getElem?_reverse hi] at a
    rw [List.getElem?_reverse (by omega), hl] at b
    obtain ⟨y, e1, q1⟩ := q.get a
    rw [b] at e1; cases e1; exact q1
theorem Reps.set {ds : List D} {xs : List V} (q : Reps K H ds xs) (n : Nat) {d : D} {v : V} (r : Rep K H d v) : Reps K H (ds.set n d) (xs.set n v) :=
  Reps.of (by rw [List.length_set, List.length_set, q.length]) fun i d' x a b => by
    rw [List.getElem?_set] at a b
    have hl := q.length
    by_cases e : n = i
    · rw [if_pos e] at a b
      split at a
      · rename_i hi
        rw [if_pos (by omega)] at b
        cases a; cases b; exact r
      · cases a
    · rw [if_neg e] at a b
      obtain ⟨y, e1, q1⟩ := q.get a
      rw [b] at e1; cases e1; exact q1
theorem Reps.eraseIdx {ds : List D} {xs : List V} (q : Reps K H ds xs) (n : Nat) : Reps K H (ds.eraseIdx n) (xs.eraseIdx n) := by
  rw [List.eraseIdx_eq_take_drop_succ, List.eraseIdx_eq_take_drop_succ]
  exact (q.take n).app (q.drop (n + 1))
theorem Reps.ints : ∀ {ns : List Int} {xs : List V}, Reps K H (ns.map D.int) xs → xs = ns.map V.int
  | [], _, q => q
  | n :: ns, _, ⟨y, ys, e, q1, q2⟩ => by rw [e, show y = _ from q1, Reps.ints q2]; rfl
theorem Reps.bls : ∀ {ns : List Bool} {xs : List V}, Reps K H (ns.map D.bl) xs → xs = ns.map V.bl
  | [], _, q => q
  | n :: ns, _, ⟨y, ys, e, q1, q2⟩ => by rw [e, show y = _ from q1, Reps.bls q2]; rfl
theorem Reps.of_ints : ∀ (ns : List Int), Reps K H (ns.map D.int) (ns.map V.int)
  | [] => rfl
  | n :: ns => ⟨_, _, rfl, rfl, Reps.of_ints ns⟩
theorem Reps.of_bls : ∀ (ns : List Bool), Reps K H (ns.map D.bl) (ns.map V.bl)
  | [] => rfl
  | n :: ns => ⟨_, _, rfl, rfl, Reps.of_bls ns⟩
theorem Reps.of_strs : ∀ (ns : List Str), Reps K H (ns.map D.str) (ns.map V.str)
  | [] => rfl
  | n :: ns => ⟨_, _, rfl, rfl, Reps.of_strs ns⟩
theorem Reps.strs : ∀ {ns : List Str} {xs : List V}, Reps K H (ns.map D.str) xs → xs = ns.map V.str
  | [], _, q => q
  | n :: ns, _, ⟨y, ys, e, q1, q2⟩ => by rw [e, show y = _ from q1, Reps.strs q2]; rfl

/-! the heap's steps -/
theorem codeO_none (r : HRep K H h) {c : Addr} {q : Str} (e : H c = some (LamX.CodeO c q)) : h c = none := by
  cases z : h c with
  | none => rfl
  | some o =>
    have w := r c o z
    unfold LamX.CodeO at e
    cases o with
    | lst ds => obtain ⟨xs, e2, _⟩ := w; rw [e2] at e; cases e
    | dct kvs => obtain ⟨xs, e2, _⟩ := w; rw [e2] at e; cases e
    | tbl x => obtain ⟨_, ps, e2, _⟩ := w; rw [e2] at e; cases e
theorem TabT.mono {x : Str} (t : TabT K H a x) (k : ∀ u, H a = some u → H' a = some u) (kc : ∀ c q, H c = some (LamX.CodeO c q) → H' c = some (LamX.CodeO c q)) : TabT K H' a x := by
  obtain ⟨t1, ps, e, t2, t3⟩ := t
  refine ⟨t1, ps, k _ e, t2, fun pos cv hc => ?_⟩
  obtain ⟨c, e1, e2⟩ := t3 pos cv hc
  exact ⟨c, e1, kc c _ e2⟩
theorem RepO.ext (r : HRep K H h) (x : Ext h H h' H') {o : AO} (q : RepO K H a o) (k : ∀ u, H a = some u → H' a = some u) : RepO K H' a o := by
  cases o with
  | lst ds => obtain ⟨xs, e, q⟩ := q; exact ⟨xs, k _ e, Reps.ext r x _ _ q⟩
  | dct kvs => obtain ⟨ws, e, q⟩ := q; exact ⟨ws, k _ e, q.ext r x⟩
  | tbl y => exact TabT.mono q k fun c q e => (x c _ e (codeO_none r e)).1
/-- something new that isn't shown -/
theorem ext_new {o : HO} (n : H p = none) : Ext h H h (upd H p o) := fun b u e q => ⟨by rw [upd_ne (ne_of_none e n)]; exact e, q⟩
theorem HRep.new {o : HO} (r : HRep K H h) (n : H p = none) : HRep K (upd H p o) h := fun b u e =>
  (r b u e).ext r (ext_new n) fun v q => by rw [upd_ne (ne_of_none q n)]; exact q
theorem ext_put {o : HO} {u : AO} (n : H p = none) : Ext h H (aput h p u) (upd H p o) := fun b v e q => by
  have hb := ne_of_none e n
  exact ⟨by rw [upd_ne hb]; exact e, by rw [aput_ne hb]; exact q⟩
theorem HRep.put {o : HO} {u : AO} (r : HRep K H h) (n : H p = none) (q : RepO K (upd H p o) p u) : HRep K (upd H p o) (aput h p u) := fun b v e => by
  by_cases hb : b = p
  · subst hb
    rw [aput_same] at e; cases e
    exact q
  · rw [aput_ne hb] at e
    exact r.new n b v e
theorem ext_write {o : HO} {u u0 : AO} (e0 : h p = some u0) : Ext h H (aput h p u) (upd H p o) := fun b v e q => by
  have hb : b ≠ p := fun z => by rw [z, e0] at q; cases q
  exact ⟨by rw [upd_ne hb]; exact e, by rw [aput_ne hb]; exact q⟩
theorem HRep.write {o : HO} {u u0 : AO} (r : HRep K H h) (e0 : h p = some u0) (q : RepO K (upd H p o) p u) : HRep K (upd H p o) (aput h p u) := fun b v e => by
  by_cases hb : b = p
  · subst hb
    rw [aput_same] at e; cases e
    exact q
  · rw [aput_ne hb] at e
    exact (r b v e).ext r (ext_write (u := u) e0) fun w z => by rw [upd_ne hb]; exact z
theorem HRep.newL {ds : List D} {xs : List V} (r : HRep K H h) (n : H p = none) (q : Reps K H ds xs) : HRep K (upd H p (.lst xs)) (aput h p (.lst ds)) :=
  r.put n ⟨xs, upd_same, Reps.ext r (ext_new n) _ _ q⟩
theorem HRep.setL {ds : List D} {xs : List V} {u0 : AO} (r : HRep K H h) (e0 : h p = some u0) (q : Reps K H ds xs) : HRep K (upd H p (.lst xs)) (aput h p (.lst ds)) :=
  r.write e0 ⟨xs, upd_same, Reps.ext r (ext_write (u := .lst ds) e0) _ _ q⟩
theorem rep_newT {ds : List D} {xs : List V} {ob : Obj} (r : HRep K H h) (n : H p = none) (nd : ob.dict = none) (q : Reps K H ds xs) : Rep K (upd H p (.frz ob (.tup xs))) (.tup ds) (.ref p) :=
  ⟨p, xs, rfl, ⟨ob, upd_same, nd⟩, Reps.ext r (ext_new n) _ _ q⟩
theorem rep_newP {ds : List D} {xs : List V} (r : HRep K H h) (n : H p = none) (q : Reps K H ds xs) : Rep K (upd H p (.tup xs)) (.pr ds) (.ref p) :=
  ⟨p, xs, rfl, .inl (.inl upd_same), Reps.ext r (ext_new n) _ _ q⟩
end

/-! exceptions, wishes -/
structure Xn where
  cls : Str
  fs : List (Str × D)
abbrev AK := D → AH → Prop
abbrev AXK := Xn → AH → Prop
abbrev AE := AS → AH → AK → AXK → Prop
abbrev AT := AS → AH → (Bool → AH → Prop) → AXK → Prop
abbrev AA := AS → AH → (List D → AH → Prop) → AXK → Prop
structure SD where
  nx : AS → AH → Prop
  rt : AK
  bk : AS → AH → Prop := fun _ _ => False
  ct : AS → AH → Prop := fun _ _ => False
  ex : Xn → AS → AH → Prop := fun _ _ _ => False
abbrev AW := SD → AS → AH → Prop
abbrev ASp := List D → AH → AK → AXK → Prop

def XRep (K : PySem.W.Frag) (mg : Str → Option Value) (H : Hp) (cls : Value) (d : Option Addr) (x : Xn) : Prop :=
  mg x.cls = some cls ∧ ∃ dd ws, d = some dd ∧ H dd = some (.xd ws) ∧ ws.map (·.1) = x.fs.map (·.1) ∧ Reps K H (x.fs.map (·.2)) (ws.map (·.2))

def liftE (K : PySem.W.Frag) (mg : Str → Option Value) (W : WX) (w : AE) : TE := fun σ H Q => ∃ (s : AS) (h : AH) (Qd : AK) (Ed : AXK), SRep K H s σ ∧ HRep K H h ∧ w s h Qd Ed ∧
  (∀ xn h' cls d H', Ed xn h' → XRep K mg H' cls d xn → HRep K H' h' → Ext h H h' H' → W cls d σ H') ∧
  (∀ dv h' v H', Qd dv h' → Rep K H' dv v → HRep K H' h' → Ext h H h' H' → Q v H')
def liftT (K : PySem.W.Frag) (mg : Str → Option Value) (W : WX) (w : AT) : TT := fun σ H Q => ∃ (s : AS) (h : AH) (Qd : Bool → AH → Prop) (Ed : AXK), SRep K H s σ ∧ HRep K H h ∧ w s h Qd Ed ∧
  (∀ xn h' cls d H', Ed xn h' → XRep K mg H' cls d xn → HRep K H' h' → Ext h H h' H' → W cls d σ H') ∧
  (∀ b h' H', Qd b h' → HRep K H' h' → Ext h H h' H' → Q b H')
def liftA (K : PySem.W.Frag) (mg : Str → Option Value) (W : WX) (w : AA) : TA := fun σ H Q => ∃ (s : AS) (h : AH) (Qd : List D → AH → Prop) (Ed : AXK), SRep K H s σ ∧ HRep K H h ∧ w s h Qd Ed ∧
  (∀ xn h' cls d H', Ed xn h' → XRep K mg H' cls d xn → HRep K H' h' → Ext h H h' H' → W cls d σ H') ∧
  (∀ ds h' vs H', Qd ds h' → Reps K H' ds vs → HRep K H' h' → Ext h H h' H' → Q vs H')
def liftS (K : PySem.W.Frag) (mg : Str → Option Value) (W : WX) (w : AW) : TS := fun R σ H => ∃ (s : AS) (h : AH) (Dd : SD), SRep K H s σ ∧ HRep K H h ∧ w Dd s h ∧
  (∀ xn s' h' cls d σ' H', Dd.ex xn s' h' → XRep K mg H' cls d xn → SRep K H' s' σ' → HRep K H' h' → Ext h H h' H' → W cls d σ' H') ∧
  (∀ dv h' v H', Dd.rt dv h' → Rep K H' dv v → HRep K H' h' → Ext h H h' H' → R.rt v H') ∧
  (∀ s' h' σ' H', Dd.nx s' h' → SRep K H' s' σ' → HRep K H' h' → Ext h H h' H' → R.nx σ' H') ∧
  (∀ s' h' σ' H', Dd.bk s' h' → SRep K H' s' σ' → HRep K H' h' → Ext h H h' H' → R.bk σ' H') ∧
  (∀ s' h' σ' H', Dd.ct s' h' → SRep K H' s' σ' → HRep K H' h' → Ext h H h' H' → R.ct σ' H')

theorem _root_.L2.PE.imp {X : Cx} {e : Expr} {t t' : TE} (p : PE X e t) (i : ∀ σ H Q, t' σ H Q → t σ H Q) : PE X e t' := ⟨fun pins s σ H Q I h => p.run pins s σ H Q I (i _ _ _ h)⟩
theorem _root_.L2.PT.imp {X : Cx} {e : Expr} {t t' : TT} (p : PT X e t) (i : ∀ σ H Q, t' σ H Q → t σ H Q) : PT X e t' := ⟨fun pins s σ H Q I h => p.run pins s σ H Q I (i _ _ _ h)⟩
theorem _root_.L2.PW.imp {X : Cx} {e : Expr} {t t' : TT} (p : PW X e t) (i : ∀ σ H Q, t' σ H Q → t σ H Q) : PW X e t' := ⟨fun wh pins s σ H Q I h => p.run wh pins s σ H Q I (i _ _ _ h)⟩
theorem _root_.L2.PA.imp {X : Cx} {e : List Expr} {t t' : TA} (p : PA X e t) (i : ∀ σ H Q, t' σ H Q → t σ H Q) : PA X e t' := ⟨fun pos pins s σ H Q I h => p.run pos pins s σ H Q I (i _ _ _ h)⟩
theorem _root_.L2.PS.imp {X : Cx} {e : Stmt} {t t' : TS} (p : PS X e t) (i : ∀ R σ H, t' R σ H → t R σ H) : PS X e t' := ⟨fun pins s σ H R I h => p.run pins s σ H R I (i _ _ _ h)⟩
theorem _root_.L2.PSs.imp {X : Cx} {e : List Stmt} {t t' : TS} (p : PSs X e t) (i : ∀ R σ H, t' R σ H → t R σ H) : PSs X e t' := ⟨fun pins s σ H R I h => p.run pins s σ H R I (i _ _ _ h)⟩

abbrev ME (X : Cx) (W : WX) (e : Expr) (w : AE) : Prop := PE X e (liftE X.K X.mg W w)
abbrev MT (X : Cx) (W : WX) (e : Expr) (w : AT) : Prop := PT X e (liftT X.K X.mg W w)
abbrev MA (X : Cx) (W : WX) (e : List Expr) (w : AA) : Prop := PA X e (liftA X.K X.mg W w)
abbrev MS (X : Cx) (W : WX) (e : Stmt) (w : AW) : Prop := PS X e (liftS X.K X.mg W w)
abbrev MB (X : Cx) (W : WX) (e : List Stmt) (w : AW) : Prop := PSs X e (liftS X.K X.mg W w)
end MP
/-! MX0: tuples that are made are laid as they are: the object itself is known, it has no dict -/
namespace MP
open PySem PySem.Spec PyProof.Rows L2
section
variable {X : Cx}
theorem laidN {pins : List (Addr × Obj)} {σ : L2.St} {H : Hp} {s : Shared} {ys : List V} {vals : List Value} (J : Inv X pins σ H s) (len : ys.length ≤ sizeLine) (rel : Vals ys vals) :
    ∃ ob : Obj, ob.dict = none ∧ H s.heap.objs.size = none ∧ Inv X pins σ (upd H s.heap.objs.size (.frz ob (.tup ys))) { s with heap := s.heap.push { cls := .type "tuple", data := .seq vals.toArray } } :=
  ⟨_, rfl, J.hok.fresh (Nat.le_refl _), J.laid (t' := s.toks) (o := .frz { cls := .type "tuple", data := .seq vals.toArray } (.tup ys)) (fun _ _ g => Heap.get?_push_of_some _ g) (Nat.le_refl _) ⟨Heap.get?_push_size _ rfl, len, vals, rel, ⟨_, Heap.get?_push_size _ rfl, rfl, _, rfl⟩⟩⟩
abbrev NewT (H : Hp) (Q : VK) (xs : List V) : Prop := ∀ (p : Addr) (ob : Obj), H p = none → ob.dict = none → Q (.ref p) (upd H p (.frz ob (.tup xs)))
def tTupN (t : TA) : TE := fun σ H Q => t σ H fun xs H1 => xs.length ≤ sizeLine ∧ NewT H1 Q xs
theorem tup_display {es : List Expr} {k : Nat} {pos : Pos} {t : TA} (g : PA X es t) : PE X (.Tuple es k pos) (tTupN t) := by
  constructor
  intro pn st sg Hp Qv J hw
  refine wpAny_Tuple_spliced (thn (g.run pos pn st sg Hp _ J hw) fun vals st2 z => ?_)
  obtain ⟨ys, Hq, J2, rel, len, q⟩ := z
  obtain ⟨ob, nd, fr, J3⟩ := laidN J2 len rel
  exact ⟨by rw [← rel.length]; exact len, .ref st2.heap.objs.size, _, J3, rfl, q _ ob fr nd⟩
theorem tup_of_list : CallR X (.type "tuple") (fun vs H Q => ∃ p ys, vs = [.ref p] ∧ ((SqL X.K H p ys ∧ NewT H Q ys) ∨ (SqT X.K H p ys ∧ Q (.ref p) H))) := by
  intro pn st sg Hp vs us Qv J r z
  obtain ⟨p, ys, rfl, z⟩ := z
  obtain ⟨u, rfl, ru⟩ := vals1 r
  cases ru
  rcases z with ⟨sl, q⟩ | ⟨sl, q⟩
  · obtain ⟨vals, rel, pl, len⟩ := J.list sl
    have ln := rel.length
    refine call_tuple_list pl.isList (fun hp keep => ?_) (by rw [List.size_toArray]; omega)
    have J1 : Inv X pn sg Hp { st with heap := hp } := J.kept (t' := st.toks) keep
    obtain ⟨ob, nd, fr, J2⟩ := laidN J1 len rel
    exact ⟨.ref hp.objs.size, _, J2, rfl, q _ ob fr nd⟩
  · obtain ⟨vals, _, pl, _⟩ := J.tuple sl
    exact call_tuple_same pl ⟨.ref p, Hp, J, rfl, q⟩
def rCatN (K : PySem.W.Frag) : R2 := fun x y H Q => ∃ a b xs ys, x = .ref a ∧ y = .ref b ∧ SqT K H a xs ∧ SqT K H b ys ∧ xs.length + ys.length ≤ sizeLine ∧
  (xs = [] → Q (.ref b) H) ∧ (xs ≠ [] → ys = [] → Q (.ref a) H) ∧ NewT H Q (xs ++ ys)
theorem tup_cat : OpR X (binaryOp .Add) (rCatN X.K) := by
  intro pn st sg Hp x y v u Qv J rx ry z
  obtain ⟨a, b, xs, ys, rfl, rfl, ta, tb, len, q0, q1, q2⟩ := z
  cases rx; cases ry
  obtain ⟨l1, r1, p1, _⟩ := J.tuple ta
  obtain ⟨l2, r2, p2, _⟩ := J.tuple tb
  by_cases c : xs = []
  · subst c
    cases r1
    exact cat_tup0 p1 p2 ⟨.ref b, Hp, J, rfl, q0 rfl⟩
  · refine HT.cat_tup p1 p2 (fun e => c (r1.nil_iff.mp e)) (fun e => ⟨.ref a, Hp, J, rfl, q1 c (r2.nil_iff.mp e)⟩) (fun _ => ?_) (by rw [← r1.length, ← r2.length]; exact len)
    obtain ⟨ob, nd, fr, J3⟩ := laidN (ys := xs ++ ys) J (by rw [List.length_append]; exact len) (r1.append r2)
    exact ⟨.ref st.heap.objs.size, _, J3, rfl, q2 _ ob fr nd⟩
def rSlN (K : PySem.W.Frag) : V → Option Int → Option Int → Hp → VK → Prop := fun x lo hi H Q => ∃ a xs, x = .ref a ∧ SqT K H a xs ∧
  (HT.sIx xs.length 0 lo = 0 ∧ HT.sIx xs.length xs.length hi = xs.length → Q (.ref a) H) ∧ NewT H Q (cutV xs lo hi)
theorem tup_slice : SlR X (rSlN X.K) := by
  intro pn st sg Hp x v vl vu lo hi sl Qv J rx hs pl pu z
  obtain ⟨a, xs, rfl, ta, q0, q1⟩ := z
  cases rx
  obtain ⟨l, r, pt, len⟩ := J.tuple ta
  have ln : l.toArray.size = xs.length := by rw [List.size_toArray]; exact r.length.symm
  refine ⟨"tuple", _, PyProof.Rows.slot_tuple_getitem.lookup, pt.typeIs, ?_⟩
  by_cases c : HT.sIx xs.length 0 lo = 0 ∧ HT.sIx xs.length xs.length hi = xs.length
  · exact getItem_tuple_whole pt hs pl pu (by rw [ln]; exact c) ⟨.ref a, Hp, J, rfl, q0 c⟩
  · refine HT.getItem_tuple_cut pt hs pl pu (by rw [ln]; exact c) ?_ (by rw [ln]; exact len)
    rw [ln]
    obtain ⟨ob, nd, fr, J3⟩ := laidN (ys := cutV xs lo hi) J (Nat.le_trans (cutV_length xs lo hi) len) ((r.drop (HT.sIx xs.length 0 lo)).take (HT.sIx xs.length xs.length hi - HT.sIx xs.length 0 lo))
    exact ⟨.ref st.heap.objs.size, _, J3, rfl, q1 _ ob fr nd⟩
def tTupRgN (t : L2.St → Hp → (Int → Int → Hp → Prop) → Prop) : TE := fun σ H Q => t σ H fun a b H1 => RgOk a b ∧ NewT H1 Q (rgV a b)
theorem tup_range {e : Expr} {te : L2.St → Hp → (Int → Int → Hp → Prop) → Prop} {p pos : Pos} (hc : X.calm = true) (hg : Gl X "tuple") (hm : X.mg "tuple" = none) (he : PRg X e te) (na : starEach [e] X.env = (false, eval e X.env) :: starEach [] X.env) :
    PE X (.Call (.Name "tuple" p) [e] [] pos) (tTupRgN te) := by
  constructor
  intro pn st sg Hp Qv J hw
  refine Call_ (ld_blt J hg hm boot_tuple (PyProof.Rows.callWith_type1 (args_cons (thn (he pn st sg Hp _ J hw) fun x st1 z => args_nil ?_) na) na))
  obtain ⟨r, a, b, t, u, v, Hq, rfl, ir, J1, ⟨c1, c2, c3, c4, c5⟩, q⟩ := z
  refine call_tuple_range (n := (b - a).toNat) (J1.ok.hd hc) ir (small_one c1 c2 c3 c4) (rangeSize_nat a b) c5 fun hp tk acc keep hi => ?_
  have J2 : Inv X pn sg Hq { st1 with heap := hp, toks := tk } := J1.kept keep
  obtain ⟨ob, nd, fr, J3⟩ := laidN (ys := rgV a b) J2 (by rw [rgV_length, sizeLine_eq]; omega) (vals_rg hi)
  rw [Array.toArray_toList] at J3
  exact ⟨.ref hp.objs.size, _, J3, rfl, q _ ob fr nd⟩
def rRepN (K : PySem.W.Frag) : R2 := fun x y H Q => ∃ l k xs, x = .ref l ∧ y = .int k ∧ SqT K H l xs ∧ xs ≠ [] ∧ 2 ≤ k ∧ k ≤ 1000 ∧ xs.length ≤ 1000 ∧ NewT H Q (List.replicate k.toNat xs).flatten
theorem tup_rep : OpR X (binaryOp .Mult) (rRepN X.K) := by
  intro pn st sg Hp x y v u Qv J rx ry z
  obtain ⟨l, k, xs, rfl, rfl, ta, ne, k1, k2, len, q⟩ := z
  cases rx
  obtain ⟨t, rfl⟩ := ry
  obtain ⟨vals, r, ⟨⟨cls, dd, data, sl⟩, ho, hc, n, hd⟩, _⟩ := J.tuple ta
  simp only at hc hd
  subst hc hd
  have ln : vals.length = xs.length := r.length.symm
  have pos : 0 < xs.length := List.length_pos_iff.mpr ne
  have hi : vals.toArray.isEmpty = false := by
    cases vals with
    | nil => simp at ln; omega
    | cons a b => rfl
  have sz : vals.toArray.size = xs.length := by rw [List.size_toArray, ln]
  have big : ((vals.toArray.size : Nat) : Int) * k ≤ 1000000 := by
    rw [sz]
    have := Int.mul_le_mul_of_nonneg_right (c := k) (show ((xs.length : Nat) : Int) ≤ 1000 by omega) (by omega)
    omega
  have fl : k.toNat * xs.length ≤ 1000000 := Nat.mul_le_mul (show k.toNat ≤ 1000 by omega) len
  have fl1 : (List.replicate k.toNat vals).flatten.length ≤ sizeLine := by
    rw [PyProof.Rows.lm_len_rep_flat, ln, sizeLine_eq]; omega
  have fl2 : (List.replicate k.toNat xs).flatten.length ≤ sizeLine := by
    rw [PyProof.Rows.lm_len_rep_flat, sizeLine_eq]; omega
  refine wpAny_binaryOp_repeat_ref (T := "tuple") (U := "int") (by decide) ⟨_, ho, rfl⟩ (fun st' => typeIs_int st' k t) noFill_tuple_mul F.fills_int_mul F.slot_int_rmul repeat_tuple F.slot_int_index.lookup
    (call_meets F.slot_int_rmul (typeIs_int st k t) F.entry_int_rmul (F.args_int_rmul_2 _ _) (int_rmul_tuple k t l vals.toArray n dd sl) ⟨ho, rfl, ⟨_, ho, rfl⟩,
      call_meets F.slot_tuple_mul ⟨_, ho, rfl⟩ F.entry_tuple_mul (F.args_tuple_mul_2 _ _) (tuple_mulW l vals.toArray n dd sl k t
        (by rw [decide_eq_false (show ¬ k < -(2 ^ 63) by omega), decide_eq_false (show ¬ k ≥ 2 ^ 63 by omega)]; rfl)
        (by rw [hi, Bool.false_or]; exact beq_eq_false_iff_ne.mpr (by omega))
        (by rw [hi, Bool.or_false]; exact decide_eq_false (by omega)) (by omega)
        (by unfold Builtin.Tuple.tupleTooMany; rw [sizeLine_eq]; exact decide_eq_false (by omega))
        (by rw [size_rep, List.size_toArray]; exact fl1)) ⟨ho, ?_⟩⟩)
  rw [size_rep]
  obtain ⟨ob, nd, fr, J3⟩ := laidN (ys := (List.replicate k.toNat xs).flatten) J fl2 (r.rep k.toNat)
  exact ⟨.ref st.heap.objs.size, _, J3, rfl, q _ ob fr nd⟩
theorem NoD.is {pins : List (Addr × Obj)} {σ : L2.St} {H : Hp} {s : Shared} {a : Addr} {xs : List V} (J : Inv X pins σ H s) (n : NoD H a xs) :
    s.TypeIs (.ref a) "tuple" ∧ ∀ b, Value.ref a = .ref b → ∃ ob, s.heap.get? b = some ob ∧ ob.dict = none := by
  obtain ⟨ob, e, nd⟩ := n
  obtain ⟨_, _, p, _⟩ := J.tuple (NoD.t (K := X.K) ⟨ob, e, nd⟩)
  refine ⟨p.typeIs, fun b hb => ?_⟩
  cases hb
  exact ⟨ob, (J.hok a _ e).1, nd⟩
def rTIdx (K : PySem.W.Frag) : V → List V → Hp → VK → Prop := fun x vs H Q => ∃ (a : Addr) (y : V) (d : PyData) (ds : List PyData) (j : Nat) (z : PyData), x = V.ref a ∧ vs = [y] ∧ Dp K H (V.ref a) (.tuple ds) ∧ Dp K H y d ∧
  SeqAt.shaped (.tuple ds) = true ∧ SeqAt.shaped d = true ∧ ds[j]? = some z ∧ PyData.eqv z d = true ∧ (∀ (m : Nat) (w : PyData), m < j → ds[m]? = some w → PyData.eqv w d = false) ∧ Q (.int (j : Nat)) H
theorem tup_index (hu : X.A.units + 65 < cLine) : MtR X "tuple.index" (rTIdx X.K) := by
  intro pn st sg Hp x vs v us Qv J rx rs hh
  obtain ⟨a, y, d, ds, j, z, rfl, rfl, hl, hy, sl, sd, hz, hit, first, q⟩ := hh
  cases rx
  cases rs with
  | cons ry rt =>
    rename_i uy ut
    cases rt
    obtain ⟨_, r1⟩ := Dp.reads J d y uy hy ry
    have lay : PyData.canLayAll0 ds = true := SeqAt.canLay_of_shaped sl
    have room : X.A.units + 1 + min (PyData.depthAll ds) d.depth < cLine := room_in_shaped sd hu
    cases hl with
    | tup ta da =>
      obtain ⟨vals, r, ⟨⟨cls, dd, data, slots⟩, ho, hc, n, hd⟩, _⟩ := J.tuple ta
      simp only at hc hd
      subst hc hd
      obtain ⟨as, ra⟩ := Dp.readsAll J ds _ vals da r
      have ln : vals.length = ds.length := SeqAt.ReadsAll.length ds vals as ra
      have mp : vals.map (SeqAt.readOf st.heap) = ds := SeqAt.readsAll_map ds vals as lay ra
      obtain ⟨jd, _⟩ := List.getElem?_eq_some_iff.mp hz
      have jz : j < vals.toArray.size := by simpa using (show j < vals.length by omega)
      have at_ : ∀ (m : Nat) (hm : m < vals.toArray.size) (w : PyData), ds[m]? = some w → SeqAt.readOf st.heap vals.toArray[m] = w := by
        intro m hm w hw
        have hml : m < vals.length := by simpa using hm
        rw [← mp, List.getElem?_map, List.getElem?_eq_getElem hml] at hw
        have := Option.some.inj (show some (SeqAt.readOf st.heap vals[m]) = some w from hw)
        simpa using this
      have eqs := SeqAt.items_eqAt (A := X.A) (s := st) (vs := vals.toArray) (show ReadsAll st.heap vals.toArray.toList ds as from ra) r1 lay (SeqAt.canLay_of_shaped sd) room
      refine call_meets PySem.F.slot_tuple_index ⟨_, ho, rfl⟩ PySem.F.entry_tuple_index (PySem.F.args_tuple_index_2 _ _)
        (SeqAt.tuple_index2_found a vals.toArray n dd slots uy (fun i => if h : i < vals.toArray.size then PyData.eqv (SeqAt.readOf st.heap vals.toArray[i]) d else false) j jz (Nat.zero_le _) jz ?_ ?_) ⟨ho, fun i hi => ?_, ?_⟩
      · rw [dif_pos jz, at_ j jz z hz]; exact hit
      · intro m hm _ hmj
        have hmd : m < ds.length := by omega
        have hw : ds[m]? = some ds[m] := List.getElem?_eq_getElem hmd
        rw [dif_pos hm, at_ m hm _ hw]
        exact first m _ hmj hw
      · rw [dif_pos hi]
        exact eqs _ (Array.getElem_mem hi)
      · exact ⟨.int (j : Nat), Hp, J.tok _, ⟨_, rfl⟩, q⟩
end
end MP
/-! MX6: xs.extend(t), t a tuple -/
namespace MP
open PySem PySem.Spec PyProof.Rows L2
theorem ext_tupW (l : Addr) (items : Array Value) (n : Nat) (b : Addr) (items2 : Array Value) (n2 : Nat) (dd : Option Addr) (sl : Array (Option Value)) (h0 : ¬(!items.isEmpty && Builtin.List.listTooLong (items.size + items2.size)) = true) (h1 : items.size ≤ sizeLine) (h2 : items.size + items2.size ≤ sizeLine + 1) :
    PySem.Meets (Builtin.«list.extend» ⟨[.ref l, .ref b], []⟩) (fun _ R s => s.heap.get? l = some { cls := .type "list", dict := none, data := .seq items n, slots := #[] } ∧ s.heap.get? b = some { cls := .type "tuple", dict := dd, data := .seq items2 n2, slots := sl } ∧
      R (.ok (.ret Value.none)) { s with heap := s.heap.update l (Obj.mapSeq fun x => x ++ items2), toks := s.toks }) :=
  .of_wp fun prog w A R s z => by
    obtain ⟨hp, g, d, tk, os⟩ := s
    obtain ⟨hl, hb, z⟩ := z
    have f1 := AutoSeq1.idx_int
    have f2 := AutoSeq1.sub_tuple_tuple
    have f3 := AutoSeq1.sub_list_list
    have f4 := AutoSeq1.sub_tuple_list
    have f5 := AutoSeq1.sub_list_tuple
    have hz' : (items ++ items2).size ≤ sizeLine + 1 := by rw [Array.size_append]; exact h2
    wp_walk using (wpAny_updateSeq hl rfl (hz := h1) (_hz' := hz')), wpAny_loadPart' hl, wpAny_loadPart' hb
    exact ⟨_, rfl, z⟩
section
variable {X : Cx}
def rExtT (K : PySem.W.Frag) : V → List V → Hp → VK → Prop := fun x vs H Q => ∃ l b xs zs, x = .ref l ∧ vs = [.ref b] ∧ H l = some (.lst xs) ∧ SqT K H b zs ∧ xs.length + zs.length ≤ sizeLine ∧ Q .non (upd H l (.lst (xs ++ zs)))
theorem list_ext_tup : MtR X "list.extend" (rExtT X.K) := by
  intro pn st sg Hp x vs v us Qv J rx rs z
  obtain ⟨l, b, xs, zs, rfl, rfl, hH, sq, hz, q⟩ := z
  cases rx
  obtain ⟨u, rfl, ru⟩ := rs.one
  cases ru
  obtain ⟨z, its, n, r, hl, e⟩ := J.lstM hH
  obtain ⟨vals, rel, ⟨⟨cls, dd, data, sl⟩, ho, hc, m, hd⟩, len⟩ := J.tuple sq
  simp only at hc hd
  subst hc hd
  have ln := rel.length
  refine call_meets F.slot_list_extend ⟨_, e, rfl⟩ F.entry_list_extend (F.args_list_extend_2 _ _)
    (ext_tupW l its.toArray n b vals.toArray m dd sl (by
      rw [notLongL (by rw [List.size_toArray, List.size_toArray]; omega), Bool.and_false]
      exact Bool.false_ne_true) (by rw [List.size_toArray]; omega) (by rw [List.size_toArray, List.size_toArray]; omega)) ⟨e, ho, ?_⟩
  refine ⟨.non, _, J.lset (its' := its ++ vals) hH e (by simp) (r.append rel) ?_, rfl, q⟩
  rw [List.length_append]; omega
end
end MP
/-! MXE: set(xs) of a list of ints as a set that can be gone along, sorted of such sets of any size -/
namespace MP
open PySem PySem.Spec PyProof.Rows L2
section
variable {P : Program} {w : World} {A : Around} {E : Value → Shared → Prop} {s : Shared}
abbrev newSetO (w : World) : Obj := { cls := .type "set", dict := none, data := .set #[] 0 (.fresh 0 0 (!w.params.followText "set-order")) }
set_option maxHeartbeats 3200000 in
theorem set_listI {l : Addr} {items : Array Value} (ns : List Int) {Q : Value → Shared → Prop} (hh : A.handled = none) (hl : s.heap.IsList l items) (hit : IntsAre items.toList ns) (hb : ns.length + 1 < scanBound)
    (h : ∀ (h' : Heap) (tk c : Nat), SetR w h' s.heap.objs.size (fun j => decide (j ∈ ns)) c → c ≤ ns.length → (∀ b o, s.heap.get? b = some o → h'.get? b = some o) → Q (.ref s.heap.objs.size) { s with heap := h', toks := tk }) :
    wpAny (model P w) A (call (.type "set") [.ref l]) Q E s := by
  have sz : items.size = ns.length := by rw [← Array.length_toList]; exact IntsAre.length hit
  obtain ⟨c, tl, hmro⟩ := F.called_set.mro
  have x1 := F.called_set.made
  have x2 := F.called_set.sub
  have x3 := F.called_set.notType
  have x4 := F.called_set.canCreate
  have x5 := F.typeCall_set_1 (.ref l)
  refine wpAny_call (codeAny_of_tree ?_)
  show wpAny _ _ (callAny (.type "set") _) _ _ _
  refine wpAny_pure ⟨Code.quiet_builtin _ (by decide +kernel), codeAny_builtin F.entry_type_call ?_⟩
  rw [Around.under_plain (weight_type_call_type "set" [.ref l] []) rfl]
  repeat (any_goals (first | assumption | wp_step))
  refine codeAny_mono (code_set_led1 (.ref l) (E := E) (Q₁ := fun obj s₁ => obj = .ref s.heap.objs.size ∧ s₁ = { s with heap := s.heap.push (newSetO w) }) ⟨rfl, rfl⟩) fun r s₁ hr => ?_
  cases r with
  | error e => exact hr
  | ok fl =>
    cases fl with
    | ret obj =>
      obtain ⟨rfl, rfl⟩ := hr
      have hS : (s.heap.push (newSetO w)).get? s.heap.objs.size = some (newSetO w) := Heap.get?_push_size _ rfl
      have hT : Shared.TypeIs { s with heap := s.heap.push (newSetO w) } (.ref s.heap.objs.size) "set" := ⟨_, hS, rfl⟩
      have y1 := F.called_set.init.lookup
      have y2 := F.called_set.init.bind (.ref s.heap.objs.size)
      repeat (any_goals (first | assumption | wp_step))
      refine codeAny_mono (codeAny_call_builtin (R := wants (fun r s₂ => r = .none ∧ ∃ h' tk c, s₂ = { s with heap := h', toks := tk } ∧ SetR w h' s.heap.objs.size (fun j => decide (j ∈ ns)) c ∧ c ≤ ns.length ∧
          (∀ b o, s.heap.get? b = some o → h'.get? b = some o)) E) F.called_set.init.plain F.entry_set_init (check_set_init_1 hT ?_)) fun r₂ s₂ hr₂ => ?_
      · obtain ⟨ol, hol, hcl, nl, hdl⟩ := hl
        obtain ⟨ocls, odict, odata, oslots⟩ := ol
        simp only at hcl hdl
        subst hcl; subst hdl
        have hol' : (s.heap.push (newSetO w)).get? l = some { cls := .type "list", dict := odict, data := .seq items nl, slots := oslots } := Heap.get?_push_of_some _ hol
        have z1 := F.sub_list_set
        have z2 := F.sub_list_frozenset
        have z3 : (Value.type "list" == Value.type "dict") = false := by decide
        have hl1 : (s.heap.push (newSetO w)).IsList l items := ⟨_, hol', rfl, nl, rfl⟩
        unfold Builtin.«set.__init__» noKeywords Builtin.Frozenset.updateFrom
        generalize hPI : pyIter = PI
        wp_walk
        subst hPI
        refine wpAny_pyIter_list hl1 ?_
        refine wpAny_bind (wpAny_runValue ?_)
        have hlS : l < s.heap.objs.size := Heap.lt_size hol
        have hh3 : A.in1.in1.in1.handled = none := by simp [hh]
        have n1 : (s.heap.push (newSetO w)).objs.size = s.heap.objs.size + 1 := Heap.size_push ..
        have hneI : l ≠ (s.heap.push (newSetO w)).objs.size := by rw [n1]; exact Nat.ne_of_lt (Nat.lt_succ_of_lt hlS)
        have hSf : s.heap.objs.size ∉ [(s.heap.push (newSetO w)).objs.size, l] := by
          rw [n1]
          simp only [List.mem_cons, List.mem_singleton, List.not_mem_nil, or_false, not_or]
          exact ⟨Nat.ne_of_lt (Nat.lt_succ_self _), Nat.ne_of_gt hlS⟩
        have hval : ∀ (i : Nat) (v : Value), items[i]? = some v → ∃ k t, ns[i]? = some k ∧ v = .int k t := fun i v hv => by
          have hi : i < ns.length := by rw [← sz]; exact (Array.getElem?_eq_some_iff.mp hv).1
          obtain ⟨t, e⟩ := PyProof.Rows.IntsAre.int_at hit i v (by rw [Array.getElem?_toList]; exact hv)
          refine ⟨ns[i], t, List.getElem?_eq_getElem hi, ?_⟩
          rw [e, List.getD_eq_getElem?_getD, List.getElem?_eq_getElem hi] <;> rfl
        refine set_update_ints ((Walks.list hh3 _ l hneI items).toS) s.heap.objs.size hSf ns sz hb hval (items.size - 0) 0 _ (by omega) (Nat.zero_le _)
          ⟨⟨_, Heap.get?_push_size _ rfl, rfl, rfl⟩, (hl1.push _)⟩ ?hS0 ?hR
        case hS0 =>
          exact ⟨0, Nat.le_refl 0, setR_new_at (Heap.get?_push_of_some _ hS)⟩
        case hR =>
          intro s' c' hm hc' hS'
          obtain ⟨h', g2, d', tk', os'⟩ := s'
          have eg : g2 = s.gens := hm.gens
          have ed : d' = s.drawn := hm.drawn
          have eo : os' = s.os := hm.os
          subst eg; subst ed; subst eo
          show wpAny _ _ _ _ _ _
          refine wpAny_pure ?_
          show wpAny _ _ (ret Value.none) _ _ _
          rw [sz] at hc'
          refine wpAny_pure ⟨rfl, h', tk', c', rfl, hS', hc', fun b o e => ?_⟩
          have hb0 : b < s.heap.objs.size := Heap.lt_size e
          refine hm.heap b o ?_ (Heap.get?_push_of_some _ (Heap.get?_push_of_some _ e))
          simp only [List.mem_cons, List.mem_singleton, List.not_mem_nil, or_false, not_or]
          rw [n1]
          exact ⟨Nat.ne_of_lt hb0, Nat.ne_of_lt (Nat.lt_succ_of_lt hb0)⟩
      · cases r₂ with
        | error e => exact hr₂
        | ok fl₂ =>
          cases fl₂ with
          | ret r =>
            obtain ⟨rfl, h', tk, c', rfl, hS', hc', hk'⟩ := hr₂
            repeat (any_goals (first | assumption | wp_step))
            exact h _ _ _ hS' hc' hk'
          | _ => exact hr₂.elim
    | _ => exact hr.elim
theorem sorted_setAny {a : Addr} {S : Int → Bool} {n : Nat} {Q : Value → Shared → Prop} (R : SetR w s.heap a S n) (hh : A.handled = none)
    (hQ : ∀ s' p (out : Array Value) (c : Nat) (ns : List Int), (∀ b o, s.heap.get? b = some o → s'.heap.get? b = some o) → s'.gens = s.gens → s'.os = s.os → s.heap.objs.size ≤ p →
      s'.heap.get? p = some (seqObj "list" out c) → IntsAre out.toList ns → ns.Pairwise (· < ·) → (∀ k, k ∈ ns ↔ S k = true) → ns.length = n → Q (.ref p) s') :
    wpAny (model P w) A (call (.builtin "sorted") [.ref a]) Q E s := by
  obtain ⟨o, es, ep, t, ho, hex, hd, g, nd, hm, hb, hf, hn, hr, hl⟩ := R
  refine Calls.call_function_entry kind_sorted plain_sorted entry_sorted (args_sorted1 _) ?_
  unfold Builtin.«sorted»
  refine wpAny_bind (m := checkCount "sorted" 1 1 _) (wpAny_pure ?_)
  refine wpAny_bind (collect_set (A := A.in1) hh ⟨o, ho, hex.1, hd⟩ hf hb hr hl fun s1 vs k1 hz g1 o1 pm => ?_)
  have hvl : vs.length = n := by rw [pm.length_eq, List.length_map, Array.length_toList]; exact hn
  have hvz : vs.length ≤ sizeLine := by rw [hvl, ← hn]; exact fits_of_scanBound hb
  have hI : IntsAre vs (vs.map Builtin.Re.reRawOf) := ints_of vs fun v hv => by
    obtain ⟨e, he, q⟩ := List.mem_map.mp (pm.mem_iff.mp hv)
    obtain ⟨k, tk, h1, _⟩ := g e he
    exact ⟨k, tk, by rw [← q]; exact h1⟩
  have pk : (vs.map Builtin.Re.reRawOf).Perm (es.toList.map keyOf) := by
    have q := pm.map Builtin.Re.reRawOf
    rw [List.map_map] at q
    exact q
  refine wpAny_bind (wpAny_newList ?_ hvz)
  have hoL : (s1.heap.push (seqObj "list" vs.toArray 0)).get? s1.heap.objs.size = some (seqObj "list" vs.toArray 0) := Heap.get?_push_size _ rfl
  refine wpAny_bind (wpAny_holding (wpAny_call_entry slot_list_sort ⟨_, hoL, rfl⟩ entry_list_sort (list_sort_treeAny hoL hI hvz fun out ns' a1 a2 a3 => ⟨_, rfl, ?_⟩) (args_list_sort _)))
  obtain ⟨c, hc⟩ := sortedHeap_at (vs := vs) (out := out) hoL
  have pn : ns'.Perm (es.toList.map keyOf) := a2.trans pk
  refine wpAny_pure ⟨_, rfl, hQ _ s1.heap.objs.size out c ns' (fun b u e => ?_) g1 o1 hz hc a1 (lt_of_le_nodup ns' a3 (pn.nodup_iff.mpr nd)) (fun k => by rw [pn.mem_iff, ← hm k]) ?_⟩
  · have q := k1 b u e
    have hlt := Heap.lt_size q
    show (sortedHeap (s1.heap.push (seqObj "list" vs.toArray 0)) s1.heap.objs.size vs out).get? b = some u
    rw [sortedHeap_old (Nat.ne_of_lt hlt) (by rw [size_push']; exact Nat.lt_succ_of_lt hlt)]
    exact Heap.get?_push_of_some _ q
  · rw [pn.length_eq, List.length_map, Array.length_toList]; exact hn
end
end MP
/-! MP2: operators, subscripts, calls of built-ins over plain data. -/
namespace MP
open PySem PySem.Spec PyProof.Rows L2

abbrev D2 := D → D → AH → AK → Prop
abbrev DL := List D → AH → AK → Prop
abbrev DM := D → List D → AH → AK → Prop
def Lnk (K : PySem.W.Frag) (h : AH) (H : Hp) (Qd : AK) (Q : VK) : Prop := ∀ dv h' v H', Qd dv h' → Rep K H' dv v → HRep K H' h' → Ext h H h' H' → Q v H'
def lr1 (K : PySem.W.Frag) (o : D → AH → AK → Prop) : V → Hp → VK → Prop := fun x H Q => ∃ dx h Qd, Rep K H dx x ∧ HRep K H h ∧ o dx h Qd ∧ Lnk K h H Qd Q
def lr2 (K : PySem.W.Frag) (o : D2) : R2 := fun x y H Q => ∃ dx dy h Qd, Rep K H dx x ∧ Rep K H dy y ∧ HRep K H h ∧ o dx dy h Qd ∧ Lnk K h H Qd Q
def lrL (K : PySem.W.Frag) (o : DL) : List V → Hp → VK → Prop := fun vs H Q => ∃ ds h Qd, Reps K H ds vs ∧ HRep K H h ∧ o ds h Qd ∧ Lnk K h H Qd Q
def lrM (K : PySem.W.Frag) (o : DM) : V → List V → Hp → VK → Prop := fun x vs H Q => ∃ dx ds h Qd, Rep K H dx x ∧ Reps K H ds vs ∧ HRep K H h ∧ o dx ds h Qd ∧ Lnk K h H Qd Q

section
variable {K : PySem.W.Frag} {H : Hp} {h : AH} {Qd : AK} {Q : VK}
theorem Lnk.same (l : Lnk K h H Qd Q) (r : HRep K H h) {dv : D} {v : V} (q : Qd dv h) (rv : Rep K H dv v) : Q v H := l dv h v H q rv r Ext.refl
theorem Lnk.newL (l : Lnk K h H Qd Q) (r : HRep K H h) {ds : List D} {xs : List V} (rs : Reps K H ds xs) (q : ∀ p, h p = none → Qd (.ref p) (aput h p (.lst ds))) : ∀ p, H p = none → Q (.ref p) (upd H p (.lst xs)) :=
  fun p n => l _ _ _ _ (q p (r.fresh n)) rfl (r.newL n rs) (ext_put n)
theorem Lnk.newT (l : Lnk K h H Qd Q) (r : HRep K H h) {ds : List D} {xs : List V} (rs : Reps K H ds xs) (q : Qd (.tup ds) h) : NewT H Q xs :=
  fun p ob n nd => l _ _ _ _ q (rep_newT r n nd rs) (r.new n) (ext_new n)
theorem Lnk.setL (l : Lnk K h H Qd Q) (r : HRep K H h) {a : Addr} {u : AO} {ds : List D} {xs : List V} {d : D} {v : V} (e : h a = some u) (rs : Reps K H ds xs) (q : Qd d (aput h a (.lst ds))) (rv : Rep K H d v) : Q v (upd H a (.lst xs)) :=
  l _ _ _ _ q (Rep.ext r (ext_write (u := .lst ds) e) _ _ rv) (r.setL e rs) (ext_write e)
theorem HRep.lst (r : HRep K H h) {a : Addr} {ds : List D} (e : h a = some (.lst ds)) : ∃ xs, H a = some (.lst xs) ∧ Reps K H ds xs := r a _ e
/-- a list, tracked or locked -/
abbrev isL (h : AH) (a : Addr) (ds : List D) : Prop := h a = some (.lst ds)
theorem HRep.seq (r : HRep K H h) {a : Addr} {ds : List D} (e : isL h a ds) : ∃ xs, SqL K H a xs ∧ Reps K H ds xs := by
  obtain ⟨xs, e1, q⟩ := r a _ e; exact ⟨xs, .inl (.inl e1), q⟩
end

/-! binary operators -/
def addD : D2 := fun x y h Q => match x, y with
  | .int i, .int j => Q (.int (i + j)) h
  | .str a, .str b => a.length + b.length ≤ sizeLine ∧ Q (.str (a ++ b)) h
  | .tup a, .tup b => a.length + b.length ≤ sizeLine ∧ Q (.tup (a ++ b)) h
  | .ref a, .ref b => ∃ xs, h a = some (.lst xs) ∧ ∃ ys, h b = some (.lst ys) ∧ xs.length + ys.length ≤ sizeLine ∧ ∀ p, h p = none → Q (.ref p) (aput h p (.lst (xs ++ ys)))
  | _, _ => False
def subD : D2 := fun x y h Q => match x, y with
  | .int i, .int j => Q (.int (i - j)) h
  | _, _ => False
def small64 (i : Int) : Prop := -(2 ^ 64) < i ∧ i < 2 ^ 64
def mulOk (i j : Int) : Prop := small64 i ∨ small64 j ∨ i.natAbs.log2 + j.natAbs.log2 < 1000000
def mulD : D2 := fun x y h Q => match x, y with
  | .int i, .int j => mulOk i j ∧ Q (.int (i * j)) h
  | .ref a, .int k => ∃ xs, h a = some (.lst xs) ∧ -(2 ^ 63) ≤ k ∧ k < 2 ^ 63 ∧ xs.length * k.toNat ≤ sizeLine ∧ ∀ p, h p = none → Q (.ref p) (aput h p (.lst (List.replicate k.toNat xs).flatten))
  | .tup xs, .int k => -(2 ^ 63) ≤ k ∧ k ≤ 1000 ∧ xs.length ≤ 1000 ∧ Q (.tup (List.replicate k.toNat xs).flatten) h
  | _, _ => False
def fdivD : D2 := fun x y h Q => match x, y with
  | .int i, .int j => 0 < j ∧ j.natAbs.log2 < 9000 ∧ Q (.int (i / j)) h
  | _, _ => False
def modD : D2 := fun x y h Q => match x, y with
  | .int i, .int j => 0 < j ∧ Q (.int (i % j)) h
  | _, _ => False
def powD : D2 := fun x y h Q => match x, y with
  | .int i, .int j => 0 ≤ j ∧ j ≤ 1000000 ∧ i.natAbs < 2 ^ 64 ∧ Q (.int (i ^ j.toNat)) h
  | _, _ => False
def shlD : D2 := fun x y h Q => match x, y with
  | .int i, .int j => 0 ≤ j ∧ j ≤ 1000000 ∧ i.natAbs < 2 ^ 64 ∧ Q (.int (i * 2 ^ j.toNat)) h
  | _, _ => False
def shrD : D2 := fun x y h Q => match x, y with
  | .int i, .int j => 0 ≤ j ∧ Q (.int (i / 2 ^ j.toNat)) h
  | _, _ => False
def bandD : D2 := fun x y h Q => match x, y with
  | .int i, .int j => Q (.int (Builtin.bitAnd i j)) h
  | _, _ => False
def fdnD : D2 := fun x y h Q => match x, y with
  | .int i, .int j => j ≠ 0 ∧ j.natAbs.log2 < 9000 ∧ Q (.int (i.fdiv j)) h
  | _, _ => False
inductive BinO where | add | sub | mul | fdiv | mod | pow | shl | shr | band | fdn
def BinO.op : BinO → Operator
  | .add => .Add | .sub => .Sub | .mul => .Mult | .fdiv => .FloorDiv | .mod => .Mod | .pow => .Pow | .shl => .LShift | .shr => .RShift | .band => .BitAnd | .fdn => .FloorDiv
def BinO.d : BinO → D2
  | .add => addD | .sub => subD | .mul => mulD | .fdiv => fdivD | .mod => modD | .pow => powD | .shl => shlD | .shr => shrD | .band => bandD | .fdn => fdnD
theorem _root_.L2.Inv.hNone {X : Cx} {pins σ H s} (I : L2.Inv X pins σ H s) : True := trivial

section
variable {X : Cx}
theorem Reps.flat {K : PySem.W.Frag} {H : Hp} {ds : List D} {xs : List V} (q : Reps K H ds xs) : ∀ k : Nat, Reps K H (List.replicate k ds).flatten (List.replicate k xs).flatten
  | 0 => rfl
  | k + 1 => by
    rw [List.replicate_succ, List.replicate_succ, List.flatten_cons, List.flatten_cons]
    exact q.app (Reps.flat q k)
theorem Reps.nil_iff {K : PySem.W.Frag} {H : Hp} {ds : List D} {xs : List V} (q : Reps K H ds xs) : xs = [] ↔ ds = [] := by
  have := q.length
  constructor
  · intro e; subst e; exact List.eq_nil_of_length_eq_zero (by simpa using this.symm)
  · intro e; subst e; exact q
theorem lop_add : OpR X (binaryOp .Add) (lr2 X.K addD) := by
  intro pins s σ H x y v u Q I rx ry hq
  obtain ⟨dx, dy, h, Qd, r1, r2, hr, ho, lk⟩ := hq
  cases dx <;> cases dy <;> first | exact ho.elim | skip
  · rename_i i j
    cases r1; cases r2
    exact op_add pins s σ H _ _ v u Q I rx ry ⟨i, j, rfl, rfl, lk.same hr ho rfl⟩
  · rename_i i j
    cases r1; cases r2
    exact op_add_str pins s σ H _ _ v u Q I rx ry ⟨i, j, rfl, rfl, ho.1, lk.same hr ho.2 rfl⟩
  · rename_i ds es
    obtain ⟨a, xs, rfl, ta, qa⟩ := r1
    obtain ⟨b, ys, rfl, tb, qb⟩ := r2
    refine tup_cat pins s σ H _ _ v u Q I rx ry ⟨a, b, xs, ys, rfl, rfl, ta.t, tb.t, by rw [qa.length, qb.length]; exact ho.1, fun e => ?_, fun _ e => ?_, lk.newT hr (qa.app qb) ho.2⟩
    · have := qa.nil_iff.mp e; subst this; exact lk.same hr ho.2 ⟨b, ys, rfl, tb, qb⟩
    · have := qb.nil_iff.mp e; subst this
      refine lk.same hr ho.2 ⟨a, xs, rfl, ta, ?_⟩
      rw [List.append_nil]; exact qa
  · rename_i a b
    cases r1; cases r2
    obtain ⟨ds, e1, es, e2, hl, q⟩ := ho
    obtain ⟨xs, f1, q1⟩ := hr.lst e1
    obtain ⟨ys, f2, q2⟩ := hr.lst e2
    exact op_cat pins s σ H _ _ v u Q I rx ry ⟨a, b, xs, ys, rfl, rfl, f1, f2, by rw [q1.length, q2.length]; exact hl, lk.newL hr (q1.app q2) q⟩
theorem lop_sub : OpR X (binaryOp .Sub) (lr2 X.K subD) := by
  intro pins s σ H x y v u Q I rx ry hq
  obtain ⟨dx, dy, h, Qd, r1, r2, hr, ho, lk⟩ := hq
  cases dx <;> cases dy <;> first | exact ho.elim | skip
  rename_i i j
  cases r1; cases r2
  exact op_sub pins s σ H _ _ v u Q I rx ry ⟨i, j, rfl, rfl, lk.same hr ho rfl⟩
theorem tuple_mul1 (l : Addr) (items : Array Value) (n : Nat) (sl : Array (Option Value)) (dd : Option Addr) (u : Tok) :
    PySem.Meets (Builtin.«tuple.__mul__» ⟨[.ref l, .int 1 u], []⟩) (fun _ R s => s.heap.get? l = some { cls := .type "tuple", dict := dd, data := .seq items n, slots := sl } ∧ R (.ok (.ret (Value.ref l))) s) :=
  .of_wp fun prog w A R s h => by
    obtain ⟨hp, g, d, tk, os⟩ := s
    obtain ⟨hl, h⟩ := h
    have f1 := AutoSeq1.idx_int
    wp_walk using wpAny_loadPart' hl
    exact ⟨_, rfl, h⟩
theorem tuple_mul0 (l : Addr) (items : Array Value) (n : Nat) (sl : Array (Option Value)) (dd : Option Addr) (u : Tok) (x : Int) (hx : x ≤ 0) (hx2 : -(2 ^ 63) ≤ x) (hi : items.isEmpty = false) :
    PySem.Meets (Builtin.«tuple.__mul__» ⟨[.ref l, .int x u], []⟩) (fun _ R s => s.heap.get? l = some { cls := .type "tuple", dict := dd, data := .seq items n, slots := sl } ∧
      R (.ok (.ret (Value.ref s.heap.objs.size))) { s with heap := s.heap.push { cls := Value.type "tuple", data := Data.seq #[] }, toks := s.toks }) :=
  .of_wp fun prog w A R s h => by
    obtain ⟨hp, g, d, tk, os⟩ := s
    obtain ⟨hl, h⟩ := h
    have f1 := AutoSeq1.idx_int
    wp_walk using wpAny_loadPart' hl
    repeat (first
      | (refine wpAny_ite_false (decide_eq_false (by rw [decide_eq_false (by omega), decide_eq_false (by omega)]; exact Bool.false_ne_true)) ?_; wp_walk using wpAny_loadPart' hl)
      | (refine wpAny_ite_false (decide_eq_false (by rw [hi, Bool.false_or]; simp; omega)) ?_; wp_walk using wpAny_loadPart' hl))
    exact ⟨_, rfl, h⟩
theorem tuple_mulE (l : Addr) (items : Array Value) (n : Nat) (sl : Array (Option Value)) (dd : Option Addr) (u : Tok) (x : Int) (hx : x ≤ 1000) (hx2 : -(2 ^ 63) ≤ x) (hi : items.isEmpty = true) :
    PySem.Meets (Builtin.«tuple.__mul__» ⟨[.ref l, .int x u], []⟩) (fun _ R s => s.heap.get? l = some { cls := .type "tuple", dict := dd, data := .seq items n, slots := sl } ∧ R (.ok (.ret (Value.ref l))) s) :=
  .of_wp fun prog w A R s h => by
    obtain ⟨hp, g, d, tk, os⟩ := s
    obtain ⟨hl, h⟩ := h
    have f1 := AutoSeq1.idx_int
    wp_walk using wpAny_loadPart' hl
    repeat (first
      | (refine wpAny_ite_false (decide_eq_false (by rw [decide_eq_false (by omega), decide_eq_false (by omega)]; exact Bool.false_ne_true)) ?_; wp_walk using wpAny_loadPart' hl)
      | (refine wpAny_ite_true (decide_eq_true (by rw [hi, Bool.true_or])) ?_; wp_walk using wpAny_loadPart' hl))
    exact ⟨_, rfl, h⟩
def rRepE (K : PySem.W.Frag) : R2 := fun x y H Q => ∃ l k, x = .ref l ∧ y = .int k ∧ SqT K H l [] ∧ -(2 ^ 63) ≤ k ∧ k ≤ 1000 ∧ Q (.ref l) H
theorem op_repE : OpR X (binaryOp .Mult) (rRepE X.K) := by
  intro pins s σ H x y v u Q I rx ry h
  obtain ⟨l, k, rfl, rfl, hT, h1, h2, q⟩ := h
  cases rx
  obtain ⟨t, rfl⟩ := ry
  obtain ⟨its, r, ⟨⟨cls, dd, data, sl⟩, ho, hc, n, hd⟩, hs⟩ := I.tuple hT
  simp only at hc hd
  subst hc hd
  have hi : its.toArray.isEmpty = true := by
    have hle : its.length = 0 := r.length.symm
    rw [List.eq_nil_of_length_eq_zero hle]; rfl
  refine wpAny_binaryOp_repeat_ref (T := "tuple") (U := "int") (by decide) ⟨_, ho, rfl⟩ (fun s' => typeIs_int s' k t) noFill_tuple_mul F.fills_int_mul F.slot_int_rmul repeat_tuple F.slot_int_index.lookup
    (call_meets F.slot_int_rmul (typeIs_int s k t) F.entry_int_rmul (F.args_int_rmul_2 _ _) (int_rmul_tuple k t l its.toArray n dd sl)
      ⟨ho, rfl, ⟨_, ho, rfl⟩, call_meets F.slot_tuple_mul ⟨_, ho, rfl⟩ F.entry_tuple_mul (F.args_tuple_mul_2 _ _) (tuple_mulE l its.toArray n sl dd t k h2 h1 hi) ⟨ho, ?_⟩⟩)
  exact ⟨.ref l, H, I, rfl, q⟩
def rRepT1 (K : PySem.W.Frag) : R2 := fun x y H Q => ∃ l xs, x = .ref l ∧ y = .int 1 ∧ SqT K H l xs ∧ Q (.ref l) H
theorem op_repT1 : OpR X (binaryOp .Mult) (rRepT1 X.K) := by
  intro pins s σ H x y v u Q I rx ry h
  obtain ⟨l, xs, rfl, rfl, hT, q⟩ := h
  cases rx
  obtain ⟨t, rfl⟩ := ry
  obtain ⟨its, r, ⟨⟨cls, dd, data, sl⟩, ho, hc, n, hd⟩, hs⟩ := I.tuple hT
  simp only at hc hd
  subst hc hd
  refine wpAny_binaryOp_repeat_ref (T := "tuple") (U := "int") (by decide) ⟨_, ho, rfl⟩ (fun s' => typeIs_int s' 1 t) noFill_tuple_mul F.fills_int_mul F.slot_int_rmul repeat_tuple F.slot_int_index.lookup
    (call_meets F.slot_int_rmul (typeIs_int s 1 t) F.entry_int_rmul (F.args_int_rmul_2 _ _) (int_rmul_tuple 1 t l its.toArray n dd sl)
      ⟨ho, rfl, ⟨_, ho, rfl⟩, call_meets F.slot_tuple_mul ⟨_, ho, rfl⟩ F.entry_tuple_mul (F.args_tuple_mul_2 _ _) (tuple_mul1 l its.toArray n sl dd t) ⟨ho, ?_⟩⟩)
  exact ⟨.ref l, H, I, rfl, q⟩
def rRepT0 (K : PySem.W.Frag) : R2 := fun x y H Q => ∃ l k xs, x = .ref l ∧ y = .int k ∧ SqT K H l xs ∧ xs ≠ [] ∧ -(2 ^ 63) ≤ k ∧ k ≤ 0 ∧ NewT H Q []
theorem op_repT0 : OpR X (binaryOp .Mult) (rRepT0 X.K) := by
  intro pins s σ H x y v u Q I rx ry h
  obtain ⟨l, k, xs, rfl, rfl, hT, hne, h1, h2, q⟩ := h
  cases rx
  obtain ⟨t, rfl⟩ := ry
  obtain ⟨its, r, ⟨⟨cls, dd, data, sl⟩, ho, hc, n, hd⟩, hs⟩ := I.tuple hT
  simp only at hc hd
  subst hc hd
  have hle : its.length = xs.length := r.length.symm
  have hn : its ≠ [] := fun e => hne (by
    rw [e] at hle
    exact List.eq_nil_of_length_eq_zero hle.symm)
  have hi : its.toArray.isEmpty = false := by
    cases its with
    | nil => exact absurd rfl hn
    | cons a b => rfl
  refine wpAny_binaryOp_repeat_ref (T := "tuple") (U := "int") (by decide) ⟨_, ho, rfl⟩ (fun s' => typeIs_int s' k t) noFill_tuple_mul F.fills_int_mul F.slot_int_rmul repeat_tuple F.slot_int_index.lookup
    (call_meets F.slot_int_rmul (typeIs_int s k t) F.entry_int_rmul (F.args_int_rmul_2 _ _) (int_rmul_tuple k t l its.toArray n dd sl)
      ⟨ho, rfl, ⟨_, ho, rfl⟩, call_meets F.slot_tuple_mul ⟨_, ho, rfl⟩ F.entry_tuple_mul (F.args_tuple_mul_2 _ _) (tuple_mul0 l its.toArray n sl dd t k h2 h1 hi) ⟨ho, ?_⟩⟩)
  obtain ⟨ob, nd, fr, J3⟩ := laidN (ys := []) I (by simp) .nil
  exact ⟨.ref s.heap.objs.size, _, J3, rfl, q _ ob fr nd⟩
theorem lop_mul : OpR X (binaryOp .Mult) (lr2 X.K mulD) := by
  intro pins s σ H x y v u Q I rx ry hq
  obtain ⟨dx, dy, h, Qd, r1, r2, hr, ho, lk⟩ := hq
  cases dx <;> cases dy <;> first | exact ho.elim | skip
  · rename_i i j
    cases r1; cases r2
    obtain ⟨ho, q⟩ := ho
    rcases ho with ho | ho | ho
    · exact op_mul pins s σ H _ _ v u Q I rx ry ⟨i, j, rfl, rfl, .inl ho, lk.same hr q rfl⟩
    · exact op_mul pins s σ H _ _ v u Q I rx ry ⟨i, j, rfl, rfl, .inr ho, lk.same hr q rfl⟩
    · exact op_mulW pins s σ H _ _ v u Q I rx ry ⟨i, j, rfl, rfl, ho, lk.same hr q rfl⟩
  · rename_i ds k
    obtain ⟨a, xs, rfl, ta, qa⟩ := r1
    cases r2
    obtain ⟨h2, h3, h4, q⟩ := ho
    by_cases h1 : ds = []
    · subst h1
      obtain rfl : xs = [] := qa.nil_iff.mpr rfl
      refine op_repE pins s σ H _ _ v u Q I rx ry ⟨a, k, rfl, rfl, ta.t, h2, h3, lk.same hr q ⟨a, [], rfl, ta, ?_⟩⟩
      rw [show (List.replicate k.toNat ([] : List D)).flatten = [] by simp]
      exact qa
    by_cases c2 : 2 ≤ k
    · exact tup_rep pins s σ H _ _ v u Q I rx ry ⟨a, k, xs, rfl, rfl, ta.t, fun e => h1 (qa.nil_iff.mp e), c2, h3, by rw [qa.length]; exact h4, lk.newT hr (qa.flat _) q⟩
    · by_cases c1 : k = 1
      · subst c1
        refine op_repT1 pins s σ H _ _ v u Q I rx ry ⟨a, xs, rfl, rfl, ta.t, lk.same hr q ⟨a, xs, rfl, ta, ?_⟩⟩
        show Reps X.K H (List.replicate 1 ds).flatten xs
        rw [show (List.replicate 1 ds).flatten = ds by simp]
        exact qa
      · refine op_repT0 pins s σ H _ _ v u Q I rx ry ⟨a, k, xs, rfl, rfl, ta.t, fun e => h1 (qa.nil_iff.mp e), h2, by omega, ?_⟩
        have e0 : k.toNat = 0 := by omega
        rw [e0] at q
        exact lk.newT hr (ds := []) (xs := []) rfl q
  · rename_i a k
    cases r1; cases r2
    obtain ⟨ds, e1, h1, h2, h3, q⟩ := ho
    obtain ⟨xs, f1, q1⟩ := hr.lst e1
    exact op_rep pins s σ H _ _ v u Q I rx ry ⟨a, k, xs, rfl, rfl, f1, h1, h2, by rw [q1.length]; exact h3, lk.newL hr (q1.flat _) q⟩
theorem lop_fdiv : OpR X (binaryOp .FloorDiv) (lr2 X.K fdivD) := by
  intro pins s σ H x y v u Q I rx ry hq
  obtain ⟨dx, dy, h, Qd, r1, r2, hr, ho, lk⟩ := hq
  cases dx <;> cases dy <;> first | exact ho.elim | skip
  rename_i i j
  cases r1; cases r2
  exact op_fdivW pins s σ H _ _ v u Q I rx ry ⟨i, j, rfl, rfl, ⟨ho.1, ho.2.1⟩, lk.same hr ho.2.2 rfl⟩
theorem op_fdnW : OpR X (binaryOp .FloorDiv) (rI (fun _ j => j ≠ 0 ∧ j.natAbs.log2 < 9000) fun i j => .int (i.fdiv j)) := opI fun i j _ _ _ _ _ hc q => floordiv_int hc.1 q (.inl (PyProof.noPylong_of_log2 hc.2))
theorem lop_fdn : OpR X (binaryOp .FloorDiv) (lr2 X.K fdnD) := by
  intro pins s σ H x y v u Q I rx ry hq
  obtain ⟨dx, dy, h, Qd, r1, r2, hr, ho, lk⟩ := hq
  cases dx <;> cases dy <;> first | exact ho.elim | skip
  rename_i i j
  cases r1; cases r2
  exact op_fdnW pins s σ H _ _ v u Q I rx ry ⟨i, j, rfl, rfl, ⟨ho.1, ho.2.1⟩, lk.same hr ho.2.2 rfl⟩
theorem lop_mod : OpR X (binaryOp .Mod) (lr2 X.K modD) := by
  intro pins s σ H x y v u Q I rx ry hq
  obtain ⟨dx, dy, h, Qd, r1, r2, hr, ho, lk⟩ := hq
  cases dx <;> cases dy <;> first | exact ho.elim | skip
  rename_i i j
  cases r1; cases r2
  exact op_mod pins s σ H _ _ v u Q I rx ry ⟨i, j, rfl, rfl, ho.1, lk.same hr ho.2 rfl⟩
theorem lop_pow : OpR X (binaryOp .Pow) (lr2 X.K powD) := by
  intro pins s σ H x y v u Q I rx ry hq
  obtain ⟨dx, dy, h, Qd, r1, r2, hr, ho, lk⟩ := hq
  cases dx <;> cases dy <;> first | exact ho.elim | skip
  rename_i i j
  cases r1; cases r2
  exact op_pow pins s σ H _ _ v u Q I rx ry ⟨i, j, rfl, rfl, ⟨ho.1, ho.2.1, ho.2.2.1⟩, lk.same hr ho.2.2.2 rfl⟩
theorem lop_shl : OpR X (binaryOp .LShift) (lr2 X.K shlD) := by
  intro pins s σ H x y v u Q I rx ry hq
  obtain ⟨dx, dy, h, Qd, r1, r2, hr, ho, lk⟩ := hq
  cases dx <;> cases dy <;> first | exact ho.elim | skip
  rename_i i j
  cases r1; cases r2
  exact op_shl pins s σ H _ _ v u Q I rx ry ⟨i, j, rfl, rfl, ⟨ho.1, ho.2.1, ho.2.2.1⟩, lk.same hr ho.2.2.2 rfl⟩
theorem lop_shr : OpR X (binaryOp .RShift) (lr2 X.K shrD) := by
  intro pins s σ H x y v u Q I rx ry hq
  obtain ⟨dx, dy, h, Qd, r1, r2, hr, ho, lk⟩ := hq
  cases dx <;> cases dy <;> first | exact ho.elim | skip
  rename_i i j
  cases r1; cases r2
  exact op_shr pins s σ H _ _ v u Q I rx ry ⟨i, j, rfl, rfl, ho.1, lk.same hr ho.2 rfl⟩
theorem lop_band : OpR X (binaryOp .BitAnd) (lr2 X.K bandD) := by
  intro pins s σ H x y v u Q I rx ry hq
  obtain ⟨dx, dy, h, Qd, r1, r2, hr, ho, lk⟩ := hq
  cases dx <;> cases dy <;> first | exact ho.elim | skip
  rename_i i j
  cases r1; cases r2
  exact op_and pins s σ H _ _ v u Q I rx ry ⟨i, j, rfl, rfl, lk.same hr ho rfl⟩
theorem lop_bin : ∀ o : BinO, OpR X (binaryOp o.op) (lr2 X.K o.d)
  | .add => lop_add | .sub => lop_sub | .mul => lop_mul | .fdiv => lop_fdiv | .mod => lop_mod | .pow => lop_pow | .shl => lop_shl | .shr => lop_shr | .band => lop_band | .fdn => lop_fdn
end

/-! what data is equal -/
mutual
inductive Dat (h : AH) : D → PyData → Prop
  | non : Dat h .non .none
  | bl (b) : Dat h (.bl b) (.bool b)
  | int (i) : Dat h (.int i) (.int i)
  | str (x) : Dat h (.str x) (.str x)
  | tup {ds ps} : Dats h ds ps → Dat h (.tup ds) (.tuple ps)
  | lst {a ds ps} : isL h a ds → Dats h ds ps → Dat h (.ref a) (.list ps)
inductive Dats (h : AH) : List D → List PyData → Prop
  | nil : Dats h [] []
  | cons {d ds p ps} : Dat h d p → Dats h ds ps → Dats h (d :: ds) (p :: ps)
end
mutual
theorem Dat.dp {K : PySem.W.Frag} {H : Hp} {h : AH} (r : HRep K H h) : ∀ {d : D} {p : PyData} {v : V}, Dat h d p → Rep K H d v → Dp K H v p
  | _, _, _, .non, e => by rw [show _ = _ from e]; exact .non
  | _, _, _, .bl b, e => by rw [show _ = _ from e]; exact .bl b
  | _, _, _, .int b, e => by rw [show _ = _ from e]; exact .int b
  | _, _, _, .str b, e => by rw [show _ = _ from e]; exact .str b
  | _, _, _, .tup q, ⟨a, xs, e, t, rs⟩ => by rw [e]; exact .tup t.t (Dats.dp r q rs)
  | _, _, _, .lst l q, e => by
    rw [show _ = _ from e]
    obtain ⟨xs, t, rs⟩ := r.seq l
    exact .lst t (Dats.dp r q rs)
theorem Dats.dp {K : PySem.W.Frag} {H : Hp} {h : AH} (r : HRep K H h) : ∀ {d : List D} {p : List PyData} {v : List V}, Dats h d p → Reps K H d v → DpAll K H v p
  | _, _, _, .nil, e => by rw [show _ = _ from e]; exact .nil
  | _, _, _, .cons a b, ⟨x, xs, e, q1, q2⟩ => by rw [e]; exact .cons (Dat.dp r a q1) (Dats.dp r b q2)
end
def eqD (neg : Bool) : D2 := fun x y h Q => match x, y with
  | .int i, .int j => Q (.bl (neg != decide (i = j))) h
  | .str a, .str b => Q (.bl (neg != decide (a = b))) h
  | .bl a, .bl b => Q (.bl (neg != decide (a = b))) h
  | .non, .non => Q (.bl (neg != true)) h
  | x, y => ∃ p q, Dat h x p ∧ Dat h y q ∧ SeqAt.shaped p = true ∧ SeqAt.shaped q = true ∧ Q (.bl (neg != PyData.eqv p q)) h
def ltD (f : Int → Int → Bool) : D2 := fun x y h Q => match x, y with
  | .int i, .int j => Q (.bl (f i j)) h
  | _, _ => False
def flatD : D → Bool
  | .tup _ => false | .pr _ => false | .ref _ => false | .cl _ => false | .exn .. => false | .err .. => false | _ => true
def D.v : D → V
  | .non => .non | .bl b => .bl b | .int i => .int i | .str x => .str x | .ref a => .ref a | .tup _ => .non | .pr _ => .non | .cl _ => .non | .exn .. => .non | .err .. => .non
theorem flat_rep {K : PySem.W.Frag} {H : Hp} {d : D} {v : V} (f : flatD d = true) (r : Rep K H d v) : v = d.v ∧ flatV v = true := by
  cases d with
  | non => cases r; exact ⟨rfl, rfl⟩
  | bl b => cases r; exact ⟨rfl, rfl⟩
  | int b => cases r; exact ⟨rfl, rfl⟩
  | str b => cases r; exact ⟨rfl, rfl⟩
  | tup b => cases f
  | pr b => cases f
  | ref b => cases f
  | cl b => cases f
  | exn a b c d => cases f
  | err a b c d e => cases f
theorem flat_reps {K : PySem.W.Frag} {H : Hp} : ∀ {ds : List D} {vs : List V}, ds.all flatD = true → Reps K H ds vs → vs = ds.map D.v ∧ vs.all flatV = true
  | [], _, _, q => by rw [show _ = _ from q]; exact ⟨rfl, rfl⟩
  | d :: ds, _, f, ⟨x, xs, e, q1, q2⟩ => by
    rw [List.all_cons, Bool.and_eq_true] at f
    obtain ⟨e1, f1⟩ := flat_rep f.1 q1
    obtain ⟨e2, f2⟩ := flat_reps f.2 q2
    rw [e, e1, e2]
    refine ⟨rfl, ?_⟩
    rw [List.all_cons, ← e2, ← e1, f1, f2]; rfl
/-! dicts -/
def dkey : D → Option Key
  | .int i => some (.inl i)
  | .str x => some (.inr x)
  | _ => none
def getK (kvs : List (Key × D)) (k : Key) : Option D := (kvs.find? fun kv => decide (kv.1 = k)).map (·.2)
def setK (kvs : List (Key × D)) (k : Key) (d : D) : List (Key × D) :=
  if (kvs.any fun kv => decide (kv.1 = k)) = true then kvs.map (fun kv => if kv.1 = k then (kv.1, d) else kv) else kvs ++ [(k, d)]
theorem dkey_rep {K : PySem.W.Frag} {H : Hp} {d : D} {v : V} {k : Key} (e : dkey d = some k) (r : Rep K H d v) : v = kV k := by
  cases d <;> first | (cases e; exact r) | cases e
theorem getK_pos {p : Key × D} {r : List (Key × D)} {k : Key} (e : p.1 = k) : getK (p :: r) k = some p.2 := by simp [getK, List.find?_cons, e]
theorem getK_neg {p : Key × D} {r : List (Key × D)} {k : Key} (e : ¬ p.1 = k) : getK (p :: r) k = getK r k := by simp [getK, List.find?_cons, e]
theorem KReps.cons_of {K : PySem.W.Frag} {H : Hp} {p : Key × D} {kvs : List (Key × D)} {ws : List (Key × V)} (r : KReps K H (p :: kvs) ws) : ∃ w us, ws = w :: us ∧ w.1 = p.1 ∧ Rep K H p.2 w.2 ∧ KReps K H kvs us := by
  obtain ⟨e, y, ys, e2, q1, q2⟩ := r
  cases ws with
  | nil => cases e
  | cons w us =>
    rw [List.map_cons, List.map_cons] at e
    rw [List.map_cons] at e2
    obtain ⟨e3, e4⟩ := List.cons.inj e
    obtain ⟨e5, e6⟩ := List.cons.inj e2
    exact ⟨w, us, rfl, e3, by rw [e5]; exact q1, e4, by rw [e6]; exact q2⟩
theorem KReps.nil_of {K : PySem.W.Frag} {H : Hp} {ws : List (Key × V)} (r : KReps K H [] ws) : ws = [] := by
  cases ws with
  | nil => rfl
  | cons w us => cases r.1
theorem KReps.mk_cons {K : PySem.W.Frag} {H : Hp} {p : Key × D} {kvs : List (Key × D)} {w : Key × V} {us : List (Key × V)} (e : w.1 = p.1) (q : Rep K H p.2 w.2) (r : KReps K H kvs us) : KReps K H (p :: kvs) (w :: us) :=
  ⟨by rw [List.map_cons, List.map_cons, e, r.1], w.2, us.map (·.2), rfl, q, r.2⟩
theorem KReps.get {K : PySem.W.Frag} {H : Hp} {k : Key} : ∀ {kvs : List (Key × D)} {ws : List (Key × V)}, KReps K H kvs ws → (∀ d, getK kvs k = some d → ∃ v, valV ws k = some v ∧ Rep K H d v) ∧ (getK kvs k).isSome = (valV ws k).isSome
  | [], ws, r => by
    rw [r.nil_of]
    exact ⟨fun d e => by simp [getK] at e, rfl⟩
  | p :: kvs, ws, r => by
    obtain ⟨w, us, rfl, e, q, r2⟩ := r.cons_of
    obtain ⟨i1, i2⟩ := r2.get (k := k)
    by_cases h : p.1 = k
    · rw [getK_pos h, valV_pos (e.trans h)]
      exact ⟨fun d z => by cases z; exact ⟨_, rfl, q⟩, rfl⟩
    · rw [getK_neg h, valV_neg (fun z => h (e.symm.trans z))]
      exact ⟨i1, i2⟩
theorem KReps.any {K : PySem.W.Frag} {H : Hp} {k : Key} : ∀ {kvs : List (Key × D)} {ws : List (Key × V)}, KReps K H kvs ws → (ws.any fun kv => decide (kv.1 = k)) = kvs.any fun kv => decide (kv.1 = k)
  | [], ws, r => by rw [r.nil_of]; rfl
  | p :: kvs, ws, r => by
    obtain ⟨w, us, rfl, e, q, r2⟩ := r.cons_of
    rw [List.any_cons, List.any_cons, r2.any, e]
theorem KReps.len {K : PySem.W.Frag} {H : Hp} {kvs : List (Key × D)} {ws : List (Key × V)} (r : KReps K H kvs ws) : ws.length = kvs.length := by
  have := congrArg List.length r.1
  simpa using this
theorem KReps.upd {K : PySem.W.Frag} {H : Hp} {k : Key} {d : D} {v : V} (rv : Rep K H d v) : ∀ {kvs : List (Key × D)} {ws : List (Key × V)}, KReps K H kvs ws → KReps K H (kvs.map fun kv => if kv.1 = k then (kv.1, d) else kv) (ws.map fun kv => if kv.1 = k then (kv.1, v) else kv)
  | [], ws, r => by rw [r.nil_of]; exact ⟨rfl, rfl⟩
  | p :: kvs, ws, r => by
    obtain ⟨w, us, rfl, e, q, r2⟩ := r.cons_of
    rw [List.map_cons, List.map_cons]
    by_cases h : p.1 = k
    · rw [if_pos h, if_pos (e.trans h)]
      exact .mk_cons e rv (r2.upd rv)
    · rw [if_neg h, if_neg (fun z => h (e.symm.trans z))]
      exact .mk_cons e q (r2.upd rv)
theorem KReps.snoc {K : PySem.W.Frag} {H : Hp} {k : Key} {d : D} {v : V} (rv : Rep K H d v) : ∀ {kvs : List (Key × D)} {ws : List (Key × V)}, KReps K H kvs ws → KReps K H (kvs ++ [(k, d)]) (ws ++ [(k, v)])
  | [], ws, r => by rw [r.nil_of]; exact .mk_cons rfl rv ⟨rfl, rfl⟩
  | p :: kvs, ws, r => by
    obtain ⟨w, us, rfl, e, q, r2⟩ := r.cons_of
    exact .mk_cons e q (r2.snoc rv)
theorem KReps.set {K : PySem.W.Frag} {H : Hp} {k : Key} {d : D} {v : V} {kvs : List (Key × D)} {ws : List (Key × V)} (r : KReps K H kvs ws) (rv : Rep K H d v) : KReps K H (setK kvs k d) (putK ws k v) := by
  unfold setK putK
  rw [r.any]
  split
  · exact r.upd rv
  · exact r.snoc rv
theorem HRep.dct {K : PySem.W.Frag} {h : AH} {H : Hp} (r : HRep K H h) {a : Addr} {kvs : List (Key × D)} (e : h a = some (.dct kvs)) : ∃ ws, H a = some (.dK ws) ∧ KReps K H kvs ws := r a _ e
def inD (neg : Bool) : D2 := fun x y h Q => match y with
  | .str b => ∃ a, x = .str a ∧ Q (.bl (neg != !(Builtin.Str.occurrences b a 0 b.length 1).isEmpty)) h
  | .tup ds => (flatD x = true ∧ ds.all flatD = true ∧ Q (.bl (neg != inV x.v (ds.map D.v))) h) ∨
      ∃ p ps, Dat h x p ∧ Dats h ds ps ∧ SeqAt.shaped p = true ∧ SeqAt.shaped (.tuple ps) = true ∧ Q (.bl (neg != ps.any fun z => PyData.eqv z p)) h
  | .ref a => (∃ ds, isL h a ds ∧ ((flatD x = true ∧ ds.all flatD = true ∧ Q (.bl (neg != inV x.v (ds.map D.v))) h) ∨
      ∃ p ps, Dat h x p ∧ Dats h ds ps ∧ SeqAt.shaped p = true ∧ SeqAt.shaped (.list ps) = true ∧ Q (.bl (neg != ps.any fun z => PyData.eqv z p)) h)) ∨
      ∃ kvs k, h a = some (.dct kvs) ∧ dkey x = some k ∧ Q (.bl (neg != (getK kvs k).isSome)) h
  | _ => False
def dNon : D → Bool
  | .non => true
  | _ => false
def isD (neg : Bool) : D2 := fun x y h Q => match y with
  | .non => Q (.bl (neg != dNon x)) h
  | .bl b => ∃ a, x = .bl a ∧ Q (.bl (neg != decide (a = b))) h
  | _ => False
inductive CmpO where | lt | le | gt | ge | eq | ne | in_ | nin | is_ | nis
def CmpO.op : CmpO → CmpOp
  | .lt => .Lt | .le => .LtE | .gt => .Gt | .ge => .GtE | .eq => .Eq | .ne => .NotEq | .in_ => .In | .nin => .NotIn | .is_ => .Is | .nis => .IsNot
def CmpO.d : CmpO → D2
  | .lt => ltD fun i j => decide (i < j) | .le => ltD fun i j => decide (i ≤ j) | .gt => ltD fun i j => decide (j < i) | .ge => ltD fun i j => decide (j ≤ i)
  | .eq => eqD false | .ne => eqD true | .in_ => inD false | .nin => inD true | .is_ => isD false | .nis => isD true
section
variable {X : Cx}
theorem lop_ltI {c : CmpOp} {f : Int → Int → Bool} (o : OpR X (compareOp c) (rI0 fun i j => .bl (f i j))) : OpR X (compareOp c) (lr2 X.K (ltD f)) := by
  intro pins s σ H x y v u Q I rx ry hq
  obtain ⟨dx, dy, h, Qd, r1, r2, hr, ho, lk⟩ := hq
  cases dx <;> cases dy <;> first | exact ho.elim | skip
  rename_i i j
  cases r1; cases r2
  exact o pins s σ H _ _ v u Q I rx ry ⟨i, j, rfl, rfl, lk.same hr ho rfl⟩
theorem dec_i {i j : Int} : decide (V.int i = V.int j) = decide (i = j) := by
  by_cases h : i = j
  · subst h; simp
  · rw [decide_eq_false h, decide_eq_false fun z => h (V.int.inj z)]
theorem dec_s {i j : Str} : decide (V.str i = V.str j) = decide (i = j) := by
  by_cases h : i = j
  · subst h; simp
  · rw [decide_eq_false h, decide_eq_false fun z => h (V.str.inj z)]
theorem dec_b {i j : Bool} : decide (V.bl i = V.bl j) = decide (i = j) := by
  by_cases h : i = j
  · subst h; simp
  · rw [decide_eq_false h, decide_eq_false fun z => h (V.bl.inj z)]
theorem lop_eqG {c : CmpOp} (neg : Bool) (o1 : OpR X (compareOp c) (fun x y H Q => scal x y = true ∧ Q (.bl (neg != decide (x = y))) H))
    (o2 : OpR X (compareOp c) (fun x y H Q => ∃ d e, Dp X.K H x d ∧ Dp X.K H y e ∧ SeqAt.shaped d = true ∧ SeqAt.shaped e = true ∧ Q (.bl (neg != PyData.eqv d e)) H)) : OpR X (compareOp c) (lr2 X.K (eqD neg)) := by
  intro pins s σ H x y v u Q I rx ry hq
  obtain ⟨dx, dy, h, Qd, r1, r2, hr, ho, lk⟩ := hq
  have gen : (∃ p q, Dat h dx p ∧ Dat h dy q ∧ SeqAt.shaped p = true ∧ SeqAt.shaped q = true ∧ Qd (.bl (neg != PyData.eqv p q)) h) → wpAny (model X.prog X.w) X.A (compareOp c v u) (EP X pins σ Q) X.xe s := by
    rintro ⟨p, q, d1, d2, s1, s2, ho⟩
    exact o2 pins s σ H x y v u Q I rx ry ⟨p, q, d1.dp hr r1, d2.dp hr r2, s1, s2, lk.same hr ho rfl⟩
  cases dx <;> cases dy <;> first | exact gen ho | skip
  · cases r1; cases r2
    exact o1 pins s σ H _ _ v u Q I rx ry ⟨rfl, by simpa using lk.same hr ho rfl⟩
  · cases r1; cases r2
    refine o1 pins s σ H _ _ v u Q I rx ry ⟨rfl, ?_⟩
    rw [dec_b]; exact lk.same hr ho rfl
  · cases r1; cases r2
    refine o1 pins s σ H _ _ v u Q I rx ry ⟨rfl, ?_⟩
    rw [dec_i]; exact lk.same hr ho rfl
  · cases r1; cases r2
    refine o1 pins s σ H _ _ v u Q I rx ry ⟨rfl, ?_⟩
    rw [dec_s]; exact lk.same hr ho rfl
theorem neg_f (b : Bool) : (false != b) = b := by cases b <;> rfl
theorem neg_t (b : Bool) : (true != b) = !b := by cases b <;> rfl
theorem lop_eq (hu : X.A.units + 64 < cLine) : OpR X (compareOp .Eq) (lr2 X.K (eqD false)) :=
  lop_eqG false (by simp only [neg_f]; exact op_eq) (by simp only [neg_f]; exact op_eqD hu)
theorem lop_ne (hu : X.A.units + 64 < cLine) : OpR X (compareOp .NotEq) (lr2 X.K (eqD true)) :=
  lop_eqG true (by simp only [neg_t]; exact op_ne) (by simp only [neg_t]; exact op_neD hu)
theorem lop_inG {c : CmpOp} (neg : Bool) (hu : X.A.units + 65 < cLine) (o1 : OpR X (compareOp c) (rIn X.K neg))
    (o2 : OpR X (compareOp c) (fun x y H Q => ∃ d ds, Dp X.K H x d ∧ Dp X.K H y (.list ds) ∧ SeqAt.shaped d = true ∧ SeqAt.shaped (.list ds) = true ∧ Q (.bl (neg != ds.any fun z => PyData.eqv z d)) H))
    (o2t : OpR X (compareOp c) (fun x y H Q => ∃ d ds, Dp X.K H x d ∧ Dp X.K H y (.tuple ds) ∧ SeqAt.shaped d = true ∧ SeqAt.shaped (.tuple ds) = true ∧ Q (.bl (neg != ds.any fun z => PyData.eqv z d)) H))
    (o3 : OpR X (compareOp c) (fun x y H Q => ∃ i j, x = .str i ∧ y = .str j ∧ Q (.bl (neg != !(Builtin.Str.occurrences j i 0 j.length 1).isEmpty)) H))
    (o4 : OpR X (compareOp c) (fun x y H Q => ∃ a o, y = .ref a ∧ DGet H a x o ∧ Q (.bl (neg != o.isSome)) H)) : OpR X (compareOp c) (lr2 X.K (inD neg)) := by
  intro pins s σ H x y v u Q I rx ry hq
  obtain ⟨dx, dy, h, Qd, r1, r2, hr, ho, lk⟩ := hq
  have eneg : ∀ b : Bool, (if neg = true then !b else b) = (neg != b) := by intro b; cases neg <;> cases b <;> rfl
  cases dy <;> first | exact ho.elim | skip
  · rename_i b
    obtain ⟨a, rfl, ho⟩ := ho
    cases r1; cases r2
    exact o3 pins s σ H _ _ v u Q I rx ry ⟨a, b, rfl, rfl, lk.same hr ho rfl⟩
  · rename_i ds
    obtain ho | ⟨p, ps, d1, d2, s1, s2, ho⟩ := ho
    · obtain ⟨f1, f2, ho⟩ := ho
      obtain ⟨a, xs, rfl, t, q⟩ := r2
      obtain ⟨e1, g1⟩ := flat_rep f1 r1
      obtain ⟨e2, g2⟩ := flat_reps f2 q
      refine o1 pins s σ H _ _ v u Q I rx ry ⟨a, xs, rfl, .inr t.t, g1, g2, ?_⟩
      rw [eneg, e1, e2]
      exact lk.same hr ho rfl
    · exact o2t pins s σ H _ _ v u Q I rx ry ⟨p, ps, d1.dp hr r1, (Dat.tup d2).dp hr r2, s1, s2, lk.same hr ho rfl⟩
  · rename_i a
    cases r2
    obtain ⟨ds, l, ho | ⟨p, ps, d1, d2, s1, s2, ho⟩⟩ | ⟨kvs, k, l, e, ho⟩ := ho
    · obtain ⟨f1, f2, ho⟩ := ho
      obtain ⟨xs, t, q⟩ := hr.seq l
      obtain ⟨e1, g1⟩ := flat_rep f1 r1
      obtain ⟨e2, g2⟩ := flat_reps f2 q
      refine o1 pins s σ H _ _ v u Q I rx ry ⟨a, xs, rfl, .inl t, g1, g2, ?_⟩
      rw [eneg, e1, e2]
      exact lk.same hr ho rfl
    · exact o2 pins s σ H _ _ v u Q I rx ry ⟨p, ps, d1.dp hr r1, (Dat.lst l d2).dp hr rfl, s1, s2, lk.same hr ho rfl⟩
    · obtain ⟨ws, e2, q⟩ := hr.dct l
      obtain rfl := dkey_rep e r1
      refine o4 pins s σ H _ _ v u Q I rx ry ⟨a, _, rfl, DGet.k e2, ?_⟩
      rw [← q.get.2]
      exact lk.same hr ho rfl
theorem lop_in (hu : X.A.units + 65 < cLine) : OpR X (compareOp .In) (lr2 X.K (inD false)) :=
  lop_inG false hu op_in_seq (by simp only [neg_f]; exact op_inD hu)
    (by
      simp only [neg_f]
      intro pins s σ H x y v u Q I rx ry h
      obtain ⟨d, ds, hd, he, sd, se, q⟩ := h
      obtain ⟨as, r1⟩ := Dp.reads I d x v hd rx
      obtain ⟨bs, r2⟩ := Dp.reads I (.tuple ds) y u he ry
      exact SeqAt.in_tuple_reads r2 r1 (SeqAt.canLay_of_shaped se) (SeqAt.canLay_of_shaped sd) (room_in_shaped sd hu) ⟨.bl _, H, I, rfl, q⟩)
    (by simp only [neg_f]; exact op_in_str)
    (by
      simp only [neg_f]
      rintro pins s σ H x y v u Q I rx ry ⟨a, o, rfl, g, q⟩
      cases ry
      exact d_in (by omega) I g rx fun s' I' => ⟨.bl _, H, I', rfl, q⟩)
theorem lop_nin (hu : X.A.units + 65 < cLine) : OpR X (compareOp .NotIn) (lr2 X.K (inD true)) :=
  lop_inG true hu op_notIn_seq (by simp only [neg_t]; exact op_notInD hu)
    (by
      simp only [neg_t]
      intro pins s σ H x y v u Q I rx ry h
      obtain ⟨d, ds, hd, he, sd, se, q⟩ := h
      obtain ⟨as, r1⟩ := Dp.reads I d x v hd rx
      obtain ⟨bs, r2⟩ := Dp.reads I (.tuple ds) y u he ry
      exact SeqAt.notIn_tuple_reads r2 r1 (SeqAt.canLay_of_shaped se) (SeqAt.canLay_of_shaped sd) (room_in_shaped sd hu) ⟨.bl _, H, I, rfl, q⟩)
    (by simp only [neg_t]; exact op_notin_str)
    (by
      simp only [neg_t]
      rintro pins s σ H x y v u Q I rx ry ⟨a, o, rfl, g, q⟩
      cases ry
      exact d_notIn (by omega) I g rx fun s' I' => ⟨.bl _, H, I', rfl, q⟩)

theorem rep_non {K : PySem.W.Frag} {H : Hp} {d : D} {v : V} (r : Rep K H d v) : decide (v = V.non) = dNon d := by
  cases d with
  | tup ds => obtain ⟨a, xs, rfl, _⟩ := r; exact decide_eq_false (by simp)
  | pr ds => obtain ⟨a, xs, rfl, _⟩ := r; exact decide_eq_false (by simp)
  | cl ds => obtain ⟨a, xs, rfl, _⟩ := r; exact decide_eq_false (by simp)
  | exn a b c d => obtain ⟨rfl, _⟩ := r; exact decide_eq_false (by simp)
  | err a b c d e => obtain ⟨rfl, _⟩ := r; exact decide_eq_false (by simp)
  | _ => cases r; first | exact decide_eq_true rfl | exact decide_eq_false (by simp)
theorem lop_isG {c : CmpOp} (neg : Bool) (o1 : OpR X (compareOp c) (fun x y H Q => y = .non ∧ Q (.bl (neg != decide (x = .non))) H))
    (o2 : OpR X (compareOp c) (fun x y H Q => ∃ a b, x = .bl a ∧ y = .bl b ∧ Q (.bl (neg != decide (a = b))) H)) : OpR X (compareOp c) (lr2 X.K (isD neg)) := by
  intro pins s σ H x y v u Q I rx ry hq
  obtain ⟨dx, dy, h, Qd, r1, r2, hr, ho, lk⟩ := hq
  cases dy <;> first | exact ho.elim | skip
  · cases r2
    refine o1 pins s σ H _ _ v u Q I rx ry ⟨rfl, ?_⟩
    rw [rep_non r1]
    exact lk.same hr ho rfl
  · rename_i b
    cases r2
    obtain ⟨a, rfl, ho⟩ := ho
    cases r1
    exact o2 pins s σ H _ _ v u Q I rx ry ⟨a, b, rfl, rfl, lk.same hr ho rfl⟩
theorem lop_is : OpR X (compareOp .Is) (lr2 X.K (isD false)) := lop_isG false (by simp only [neg_f]; exact op_isN) (by simp only [neg_f]; exact op_is_bl)
theorem lop_nis : OpR X (compareOp .IsNot) (lr2 X.K (isD true)) := lop_isG true (by simp only [neg_t]; exact op_notN) (by simp only [neg_t]; exact op_isnot_bl)
theorem lop_cmp (hu : X.A.units + 65 < cLine) : ∀ o : CmpO, OpR X (compareOp o.op) (lr2 X.K o.d)
  | .lt => lop_ltI op_lt | .le => lop_ltI op_le | .gt => lop_ltI op_gt | .ge => lop_ltI op_ge
  | .eq => lop_eq (by omega) | .ne => lop_ne (by omega) | .in_ => lop_in hu | .nin => lop_nin hu | .is_ => lop_is | .nis => lop_nis
end

/-! subscripts -/
def ixD : D2 := fun x y h Q => match x, y with
  | .tup ds, .int i => ∃ d, atI ds i = some d ∧ Q d h
  | .ref a, .int i => (∃ ds, isL h a ds ∧ ∃ d, atI ds i = some d ∧ Q d h) ∨ ∃ kvs, h a = some (.dct kvs) ∧ ∃ d, getK kvs (.inl i) = some d ∧ Q d h
  | .ref a, .str x => ∃ kvs, h a = some (.dct kvs) ∧ ∃ d, getK kvs (.inr x) = some d ∧ Q d h
  | .cl ds, .int i => ∃ d, atI ds i = some d ∧ Q d h
  | .pr ds, .int i => ∃ d, atI ds i = some d ∧ Q d h
  | .str z, .int i => z.length ≤ sizeLine ∧ ∃ c, atI z.cps.toList i = some c ∧ Q (.str ⟨#[c]⟩) h
  | _, _ => False
theorem Reps.atI {K : PySem.W.Frag} {H : Hp} {ds : List D} {xs : List V} {i : Int} {d : D} (q : Reps K H ds xs) (e : L2.atI ds i = some d) : ∃ x, L2.atI xs i = some x ∧ Rep K H d x := by
  unfold L2.atI at e ⊢
  rw [q.length]
  cases z : ixN ds.length i with
  | none => rw [z] at e; cases e
  | some j =>
    rw [z] at e
    exact q.get e
def slD : D → Option Int → Option Int → AH → AK → Prop := fun x lo hi h Q => match x with
  | .tup ds => Q (.tup ((ds.drop (HT.sIx ds.length 0 lo)).take (HT.sIx ds.length ds.length hi - HT.sIx ds.length 0 lo))) h
  | .cl ds => ∀ p, h p = none → Q (.ref p) (aput h p (.lst ((ds.drop (HT.sIx ds.length 0 lo)).take (HT.sIx ds.length ds.length hi - HT.sIx ds.length 0 lo))))
  | .ref a => ∃ ds, isL h a ds ∧ ∀ p, h p = none → Q (.ref p) (aput h p (.lst ((ds.drop (HT.sIx ds.length 0 lo)).take (HT.sIx ds.length ds.length hi - HT.sIx ds.length 0 lo))))
  | .str z => z.length ≤ sizeLine ∧ Q (.str (Txt.slice z lo hi)) h
  | _ => False
theorem Reps.cut {K : PySem.W.Frag} {H : Hp} {ds : List D} {xs : List V} (q : Reps K H ds xs) (lo hi : Option Int) :
    Reps K H ((ds.drop (HT.sIx ds.length 0 lo)).take (HT.sIx ds.length ds.length hi - HT.sIx ds.length 0 lo)) (cutV xs lo hi) := by
  unfold cutV
  rw [q.length]
  exact (q.drop _).take _
section
variable {X : Cx}
theorem ix_dct (hu : X.A.units + 1 < cLine) : IxR X (fun x y H Q => ∃ a v, x = .ref a ∧ DGet H a y (some v) ∧ Q v H) := by
  intro value slice pins s σ H x y v u Q I rx ry h hs
  obtain ⟨a, r, rfl, g, q⟩ := h
  obtain rfl : v = Value.ref a := rx
  exact tail_any (dict_typeIs I g) PySem.F.slot_dict_getitem.lookup (d_getItem hu I g ry fun w' s3 I3 rw' => ⟨r, H, I3, rw', q⟩) hs
theorem lix (hu : X.A.units + 1 < cLine) : IxR X (lr2 X.K ixD) := by
  intro value slice pins s σ H x y v u Q I rx ry hq hs
  obtain ⟨dx, dy, h, Qd, r1, r2, hr, ho, lk⟩ := hq
  cases dx <;> cases dy <;> first | exact ho.elim | skip
  · rename_i z i
    cases r1; cases r2
    obtain ⟨hz, c, e, ho⟩ := ho
    exact ix_str value slice pins s σ H _ _ v u Q I rx ry ⟨z, i, c, rfl, rfl, hz, e, lk.same hr ho rfl⟩ hs
  · rename_i ds i
    obtain ⟨a, xs, rfl, t, q⟩ := r1
    cases r2
    obtain ⟨d, e, ho⟩ := ho
    obtain ⟨w, e1, rw1⟩ := q.atI e
    exact ix_tup value slice pins s σ H _ _ v u Q I rx ry ⟨a, xs, i, w, rfl, rfl, t.t, e1, lk.same hr ho rw1⟩ hs
  · rename_i ds i
    obtain ⟨a, xs, rfl, t, q⟩ := r1
    cases r2
    obtain ⟨d, e, ho⟩ := ho
    obtain ⟨w, e1, rw1⟩ := q.atI e
    exact ix_tup value slice pins s σ H _ _ v u Q I rx ry ⟨a, xs, i, w, rfl, rfl, t, e1, lk.same hr ho rw1⟩ hs
  · rename_i a i
    cases r1; cases r2
    obtain ⟨ds, l, d, e, ho⟩ | ⟨kvs, l, d, e, ho⟩ := ho
    · obtain ⟨xs, t, q⟩ := hr.seq l
      obtain ⟨w, e1, rw1⟩ := q.atI e
      exact ix_list value slice pins s σ H _ _ v u Q I rx ry ⟨a, xs, i, w, rfl, rfl, t, e1, lk.same hr ho rw1⟩ hs
    · obtain ⟨ws, e2, q⟩ := hr.dct l
      obtain ⟨w, e3, rw1⟩ := q.get.1 d e
      exact ix_dct hu value slice pins s σ H _ _ v u Q I rx ry ⟨a, w, rfl, .inl ⟨ws, .inl i, .inl e2, rfl, e3.symm⟩, lk.same hr ho rw1⟩ hs
  · rename_i a i
    cases r1; cases r2
    obtain ⟨kvs, l, d, e, ho⟩ := ho
    obtain ⟨ws, e2, q⟩ := hr.dct l
    obtain ⟨w, e3, rw1⟩ := q.get.1 d e
    exact ix_dct hu value slice pins s σ H _ _ v u Q I rx ry ⟨a, w, rfl, .inl ⟨ws, .inr i, .inl e2, rfl, e3.symm⟩, lk.same hr ho rw1⟩ hs
  · rename_i ds i
    obtain ⟨a, xs, rfl, t, q⟩ := r1
    cases r2
    obtain ⟨d, e, ho⟩ := ho
    obtain ⟨w, e1, rw1⟩ := q.atI e
    exact ix_list value slice pins s σ H _ _ v u Q I rx ry ⟨a, xs, i, w, rfl, rfl, t.seq, e1, lk.same hr ho rw1⟩ hs
def lrS (K : PySem.W.Frag) (o : D → Option Int → Option Int → AH → AK → Prop) : V → Option Int → Option Int → Hp → VK → Prop := fun x lo hi H Q => ∃ dx h Qd, Rep K H dx x ∧ HRep K H h ∧ o dx lo hi h Qd ∧ Lnk K h H Qd Q
theorem lsl : SlR X (lrS X.K slD) := by
  intro pins s σ H x v vl vu lo hi sl Q I rx hs p1 p2 hq
  obtain ⟨dx, h, Qd, r1, hr, ho, lk⟩ := hq
  cases dx <;> first | exact ho.elim | skip
  · rename_i z
    cases r1
    obtain ⟨hz, ho⟩ := ho
    exact C8.sl_txt pins s σ H _ v vl vu lo hi sl Q I rx hs p1 p2 ⟨z, rfl, hz, lk.same hr ho rfl⟩
  · rename_i ds
    obtain ⟨a, xs, rfl, t, q⟩ := r1
    refine tup_slice pins s σ H _ v vl vu lo hi sl Q I rx hs p1 p2 ⟨a, xs, rfl, t.t, fun ⟨e1, e2⟩ => ?_, lk.newT hr (q.cut lo hi) ho⟩
    refine lk.same hr ho ⟨a, xs, rfl, t, ?_⟩
    rw [q.length] at e1 e2
    rw [e1, e2, List.drop_zero, Nat.sub_zero, List.take_length]
    exact q
  · rename_i a
    cases r1
    obtain ⟨ds, l, ho⟩ := ho
    obtain ⟨xs, t, q⟩ := hr.seq l
    exact sl_list pins s σ H _ v vl vu lo hi sl Q I rx hs p1 p2 ⟨a, xs, rfl, t, lk.newL hr (q.cut lo hi) ho⟩
  · rename_i ds
    obtain ⟨a, xs, rfl, t, q⟩ := r1
    exact sl_list pins s σ H _ v vl vu lo hi sl Q I rx hs p1 p2 ⟨a, xs, rfl, t.seq, lk.newL hr (q.cut lo hi) ho⟩
end
end MP
/-! MXF: sorted of tuples of ints, of one length, any number of them -/
namespace MP
open PySem PySem.Spec PyProof.Rows L2 SrtO Srt
/-- the one row of ints is less than the other -/
def ltL : List Int → List Int → Bool
  | x :: a, y :: b => if x = y then ltL a b else decide (x < y)
  | [], _ :: _ => true
  | _, [] => false
theorem ltL_asym : ∀ {a b : List Int}, ltL a b = true → ltL b a = false
  | x :: a, y :: b, h => by
    unfold ltL at h ⊢
    by_cases e : x = y
    · rw [if_pos e] at h
      rw [if_pos e.symm]
      exact ltL_asym h
    · rw [if_neg e] at h
      rw [if_neg (fun z => e z.symm)]
      have := of_decide_eq_true h
      exact decide_eq_false (by omega)
  | [], _ :: _, _ => by unfold ltL; rfl
  | [], [], h => by unfold ltL at h; cases h
  | _ :: _, [], h => by unfold ltL at h; cases h
theorem ltL_tr : ∀ {x y z : List Int}, ltL y x = false → ltL z y = false → ltL z x = false
  | x :: a, y :: b, z :: c, h1, h2 => by
    unfold ltL at h1 h2 ⊢
    by_cases e1 : y = x
    · by_cases e2 : z = y
      · rw [if_pos e1] at h1
        rw [if_pos e2] at h2
        rw [if_pos (e2.trans e1)]
        exact ltL_tr h1 h2
      · rw [if_neg e2] at h2
        have h2 := of_decide_eq_false h2
        rw [if_neg (fun w => e2 (w.trans e1.symm))]
        exact decide_eq_false (by omega)
    · rw [if_neg e1] at h1
      have h1 := of_decide_eq_false h1
      by_cases e2 : z = y
      · rw [if_neg (fun w => e1 (e2.symm.trans w))]
        exact decide_eq_false (by omega)
      · rw [if_neg e2] at h2
        have h2 := of_decide_eq_false h2
        rw [if_neg (by omega)]
        exact decide_eq_false (by omega)
  | [], [], _, _, h2 => h2
  | [], _ :: _, [], _, _ => by unfold ltL; rfl
  | [], _ :: _, _ :: _, _, _ => by unfold ltL; rfl
  | _ :: _, [], _, h1, _ => by unfold ltL at h1; cases h1
  | _ :: _, _ :: _, [], _, h2 => by unfold ltL at h2; cases h2
theorem ltL_anti : ∀ {a b : List Int}, ltL a b = false → ltL b a = false → a = b
  | x :: a, y :: b, h1, h2 => by
    unfold ltL at h1 h2
    by_cases e : x = y
    · rw [if_pos e] at h1
      rw [if_pos e.symm] at h2
      rw [e, ltL_anti h1 h2]
    · rw [if_neg e] at h1
      rw [if_neg (fun z => e z.symm)] at h2
      have h1 := of_decide_eq_false h1
      have h2 := of_decide_eq_false h2
      omega
  | [], _ :: _, h, _ => by unfold ltL at h; cases h
  | [], [], _, _ => rfl
  | _ :: _, [], _, h => by unfold ltL at h; cases h
def leL (a b : List Int) : Prop := ltL b a = false
instance (a b : List Int) : Decidable (leL a b) := by unfold leL; exact inferInstance
def insL (x : List Int) : List (List Int) → List (List Int)
  | [] => [x]
  | y :: r => if leL x y then x :: y :: r else y :: insL x r
def sortL : List (List Int) → List (List Int)
  | [] => []
  | x :: r => insL x (sortL r)
theorem insL_perm (x : List Int) : ∀ l, (insL x l).Perm (x :: l)
  | [] => .refl _
  | y :: r => by
    unfold insL
    split
    · exact .refl _
    · exact ((insL_perm x r).cons y).trans (List.Perm.swap x y r)
theorem sortL_perm : ∀ l : List (List Int), (sortL l).Perm l
  | [] => .refl _
  | x :: r => (insL_perm x (sortL r)).trans ((sortL_perm r).cons x)
theorem leL_trans {x y z : List Int} (a : leL x y) (b : leL y z) : leL x z := ltL_tr a b
theorem leL_tot {x y : List Int} (a : ¬ leL x y) : leL y x := by
  unfold leL at *
  cases h : ltL y x with
  | false => exact absurd h a
  | true => exact ltL_asym h
theorem leL_refl (x : List Int) : leL x x := by
  unfold leL
  cases h : ltL x x with
  | false => rfl
  | true => have := ltL_asym h; rw [h] at this; cases this
theorem insL_rising (x : List Int) : ∀ l : List (List Int), l.Pairwise leL → (insL x l).Pairwise leL
  | [], _ => by simp [insL]
  | y :: r, h => by
    unfold insL
    split
    · rename_i q
      refine List.pairwise_cons.mpr ⟨fun z hz => ?_, h⟩
      rcases List.mem_cons.mp hz with rfl | hz
      · exact q
      · exact leL_trans q ((List.pairwise_cons.mp h).1 z hz)
    · rename_i q
      refine List.pairwise_cons.mpr ⟨fun z hz => ?_, insL_rising x r (List.pairwise_cons.mp h).2⟩
      rcases List.mem_cons.mp ((insL_perm x r).mem_iff.mp hz) with rfl | hz
      · exact leL_tot q
      · exact (List.pairwise_cons.mp h).1 z hz
theorem sortL_rising : ∀ l : List (List Int), (sortL l).Pairwise leL
  | [] => .nil
  | x :: r => insL_rising x _ (sortL_rising r)
theorem risingL_uniq : ∀ {l m : List (List Int)}, l.Perm m → l.Pairwise leL → m.Pairwise leL → l = m
  | [], m, p, _, _ => (List.nil_perm.mp p).symm
  | x :: l, [], p, _, _ => absurd p.length_eq (by simp)
  | x :: l, y :: m, p, h1, h2 => by
    have e : x = y := by
      have a : y ∈ x :: l := p.mem_iff.mpr List.mem_cons_self
      have b : x ∈ y :: m := p.mem_iff.mp List.mem_cons_self
      have a' : leL x y := by
        rcases List.mem_cons.mp a with z | z
        · rw [z]; exact leL_refl x
        · exact (List.pairwise_cons.mp h1).1 y z
      have b' : leL y x := by
        rcases List.mem_cons.mp b with z | z
        · rw [z]; exact leL_refl y
        · exact (List.pairwise_cons.mp h2).1 x z
      exact ltL_anti b' a'
    subst e
    rw [risingL_uniq (List.Perm.cons_inv p) (List.pairwise_cons.mp h1).2 (List.pairwise_cons.mp h2).2]
theorem swoL {α : Type} (k : α → List Int) : Swo fun v u => ltL (k v) (k u) := ⟨fun x y h => ltL_asym h, fun x y z h1 h2 => ltL_tr h1 h2⟩
section
variable {prog : Program} {w : World} {A : Around} {E : Value → Shared → Prop} {s : Shared} {Q : Bool → Shared → Prop}
theorem lexL_ints {b : Bool} {xs ys : List Value} {ns ms : List Int} (i : Nat) (hx : IntsAre xs ns) (hy : IntsAre ys ms) (hl : ns.length = ms.length)
    (h : Q (ltL ns ms) s) : PySem.W.KatLex prog w A b false Q (xs.zip ys) i s := by
  induction hx generalizing ys ms i with
  | nil =>
    cases hy with
    | nil =>
      unfold ltL at h
      exact PySem.W.kat_nil h
    | cons q u hy => simp at hl
  | @cons p t xs ns hx ih =>
    cases hy with
    | nil => simp at hl
    | @cons q u ys ms hy =>
      have hl' : ns.length = ms.length := by simpa using hl
      show PySem.W.KatLex prog w A b false Q ((Value.int p t, Value.int q u) :: xs.zip ys) i s
      refine PySem.W.kat_cons (wpAny_eqBool_int ?_)
      unfold ltL at h
      by_cases e : p = q
      · subst e
        rw [beq_self_eq_true]
        rw [if_pos rfl] at h
        refine PySem.W.kat_yes ?_
        first
          | exact ih (i + 1) hy hl' h
          | exact ih _ _ (i + 1) hy hl' h
      · rw [show (p == q) = false from beq_eq_false_iff_ne.mpr e]
        rw [if_neg e] at h
        exact PySem.W.kat_no (TS.oneLt_ints _ h)
theorem firstsL {h : Heap} {d : Nat} (hd : 1 ≤ d) : ∀ vs : List Value, (∀ v, v ∈ vs → ∃ ns, TS.TupInts h v ns ∧ ns.length = d) → ∃ fs, PySem.W.KatTups h vs fs ∧ fs.length = vs.length ∧ ∀ f, f ∈ fs → ∃ n t, f = Value.int n t
  | [], _ => ⟨[], PySem.W.KatTups.nil, rfl, fun f hf => by simp at hf⟩
  | v :: vs, x => by
    obtain ⟨fs, k, hl, hi⟩ := firstsL hd vs fun u hu => x u (List.mem_cons_of_mem _ hu)
    obtain ⟨ns, ⟨a, xs, rfl, ⟨o, ho, hc, n, hdt⟩, i⟩, hn⟩ := x v (List.mem_cons_self ..)
    obtain ⟨y, ys, e⟩ : ∃ y ys, xs.toList = y :: ys := by
      cases q : xs.toList with
      | nil =>
        rw [q] at i
        have l := i.length
        rw [List.length_nil, hn] at l
        omega
      | cons y ys => exact ⟨y, ys, rfl⟩
    obtain ⟨m, t, hy⟩ := i.all y (by rw [e]; exact List.mem_cons_self ..)
    refine ⟨y :: fs, PySem.W.KatTups.cons ho hc hdt ?_ k, by simp [hl], ?_⟩
    · have z := congrArg (fun l : List Value => l[0]?) e
      simpa using z
    · intro f hf
      rcases List.mem_cons.mp hf with rfl | hf
      · exact ⟨m, t, hy⟩
      · exact hi f hf
theorem cmpL {d : Nat} {vs : List Value} {k : Value → List Int} (hp : ∀ v ∈ vs, TS.TupInts s.heap v (k v) ∧ (k v).length = d) : SrtO.Cmp prog w A s (tuples' true) (fun p => p.1 ∈ vs) (lt2 fun v u => ltL (k v) (k u)) := by
  intro p q hm hm'
  obtain ⟨tp, lp⟩ := hp _ hm
  obtain ⟨tq, lq⟩ := hp _ hm'
  show wpAny (model prog w) A (keyLt' (tuples' true) p.1 q.1) (fun r s' => s' = s ∧ r = ltL (k p.1) (k q.1)) (fun _ _ => False) s
  obtain ⟨a, xs, e1, ⟨o, ho, hc, n, hdt⟩, i⟩ := tp
  obtain ⟨a', ys, e2, ⟨o', ho', hc', n', hdt'⟩, i'⟩ := tq
  rw [e1] at i lp ⊢
  rw [e2] at i' lq ⊢
  refine PySem.W.kat_lt ho hdt ho' hdt' ?_
  have sz : decide (xs.size < ys.size) = false := by
    have l1 := i.length
    have l2 := i'.length
    rw [Array.length_toList] at l1 l2
    exact decide_eq_false (by omega)
  rw [sz]
  exact lexL_ints 0 i i' (by omega) ⟨rfl, rfl⟩
theorem sortableL {a : Addr} {d : Nat} {vs : List Value} {k : Value → List Int} (hd : 1 ≤ d) (h0 : 0 < vs.length) (hp : ∀ v ∈ vs, TS.TupInts s.heap v (k v) ∧ (k v).length = d) (ha : ∀ o, s.heap.get? a = some o → o.cls ≠ .type "tuple") : SortableO prog w A s a vs fun v u => ltL (k v) (k u) := by
  intro h' keep
  have hp' : ∀ v ∈ vs, TS.TupInts h' v (k v) ∧ (k v).length = d := fun v hm => ⟨(hp v hm).1.keeps fun b o e c => keep b o (fun z => by subst z; exact ha o e c) e, (hp v hm).2⟩
  obtain ⟨fs, h1, h2, h3⟩ := firstsL hd vs fun v hm => ⟨_, hp' v hm⟩
  refine ⟨tuples' true, fun Q E hq => ?_, cmpL hp'⟩
  refine PySem.W.kat_kind (T := .type "int") h1 (by omega) (fun f hm => ?_) (by rfl) ?_
  · obtain ⟨x, t, rfl⟩ := h3 f hm
    exact PySem.W.Looks.now
  · have e : (Value.type "int" != Value.type "tuple") = true := by first | decide +kernel | rfl | decide
    rw [e]
    exact hq
theorem sorted_tupsL {l : Addr} {d : Nat} {vs : List Value} {k : Value → List Int} {Q : Value → Shared → Prop} (hd : 1 ≤ d) (hl : s.heap.IsList l vs.toArray) (hz : vs.length ≤ sizeLine) (hp : ∀ v ∈ vs, TS.TupInts s.heap v (k v) ∧ (k v).length = d)
    (h : ∀ (h' : Heap) (d : Addr) (out : List Value), Srtd (fun v u => ltL (k v) (k u)) out → Stb (fun v u => ltL (k v) (k u)) out vs → (∀ b o, s.heap.get? b = some o → h'.get? b = some o) → s.heap.objs.size ≤ d → (∃ n, h'.get? d = some (seqObj "list" out.toArray n)) → Q (.ref d) { s with heap := h' }) :
    wpAny (model prog w) A (call (.builtin "sorted") [.ref l]) Q E s := by
  refine sorted_ord (swoL k) hl hz (fun h2 h₁ a ha kk => ?_) fun out hs hb => ?_
  · refine sortableL (s := { s with heap := h₁ }) hd (by omega) (fun v hm => ⟨(hp v hm).1.keeps fun b o e _ => (kk b o e).2, (hp v hm).2⟩) fun o e => ?_
    have e' : some o = some (seqObj "list" vs.toArray 0) := e.symm.trans ha
    cases e'
    intro c
    exact absurd (Value.type.inj c) (by decide)
  · exact h _ _ out hs hb (fun b o e => sortedAll_old e) (Nat.le_succ _) (sortedAll_at s.heap vs out.toArray)
end
section
variable {X : Cx}
def rSortTL (K : PySem.W.Frag) : List V → Hp → VK → Prop := fun vs H Q => ∃ (a : Addr) (xs : List V) (d : Nat), vs = [V.ref a] ∧ 1 ≤ d ∧ SqL K H a xs ∧ (∀ x ∈ xs, ∃ ns, TupI K H x ns ∧ ns.length = d) ∧
  ∀ (ys : List V) (p : Addr), ys.Perm xs → ys.Pairwise (fun x y => ∀ n m, TupI K H x n → TupI K H y m → leL n m) → H p = none → Q (.ref p) (upd H p (.lst ys))
theorem cr_sortTL : CallR X (.builtin "sorted") (rSortTL X.K) := by
  intro pins s σ H vs us Q I r h
  obtain ⟨a, xs, d0, rfl, hd0, hs, hx, q⟩ := h
  obtain ⟨its, rv, hl, hz⟩ := I.list hs
  rw [Vals.ref1 r]
  obtain ⟨e1, e2⟩ := bkV_refs rv fun x m => by
    obtain ⟨ns, ⟨t, e, _⟩, _⟩ := hx x m
    exact ⟨t, e⟩
  refine sorted_tupsL (d := d0) (k := fun u => TS.intsOf s.heap u) hd0 hl.isList (by rw [← rv.length]; exact hz) (fun v hv => ?_) fun h' d out h1 h2 kp hd hn => ?_
  · obtain ⟨t, rfl⟩ := e2 v hv
    have hm : V.ref t ∈ xs := by rw [e1]; exact List.mem_map.mpr ⟨_, hv, rfl⟩
    obtain ⟨ns, ⟨t', e, ht⟩, hn⟩ := hx _ hm
    cases e
    have tr := tupI_raw I ht
    rw [tr.ints]
    exact ⟨tr, hn⟩
  · have h3 : ∀ u ∈ out, ∃ a, u = Value.ref a := fun u hu => e2 u (h2.perm.mem_iff.mp hu)
    obtain ⟨n, hn⟩ := hn
    have hp : (out.map bkV).Perm xs := by rw [e1]; exact h2.perm.map bkV
    refine ⟨.ref d, upd H d (.lst (out.map bkV)), I.laid (t' := s.toks) kp hd ⟨by rw [hp.length_eq]; exact hz, out, n, bkV_vals h3, hn⟩, rfl, q _ d hp ?_ (I.hok.fresh hd)⟩
    rw [List.pairwise_map]
    refine List.Pairwise.imp (fun {u v} huv n m hn hm => ?_) h1
    obtain ⟨t, et, ht⟩ := hn
    obtain ⟨t', et', ht'⟩ := hm
    have eu := bkV_ref et
    have ev := bkV_ref et'
    have i1 : TS.intsOf s.heap u = n := by
      rw [eu]
      exact (tupI_raw I ht).ints
    have i2 : TS.intsOf s.heap v = m := by
      rw [ev]
      exact (tupI_raw I ht').ints
    have huv : ltL (TS.intsOf s.heap v) (TS.intsOf s.heap u) = false := huv
    rw [i1, i2] at huv
    exact huv
end
end MP
/-! MP3: built-ins by their names, methods of lists, over plain data. -/
namespace MP
open PySem PySem.Spec PyProof.Rows L2

/-- the greatest, the least of ints -/
def maxI : List Int → Int
  | [] => 0
  | [x] => x
  | x :: r => max x (maxI r)
def minI : List Int → Int
  | [] => 0
  | [x] => x
  | x :: r => min x (minI r)
theorem maxI_spec : ∀ (ns : List Int), 0 < ns.length → maxI ns ∈ ns ∧ ∀ y, y ∈ ns → y ≤ maxI ns
  | [], h => absurd h (by simp)
  | [x], _ => ⟨by simp [maxI], fun y hy => by simp at hy; subst hy; simp [maxI]⟩
  | x :: z :: r, _ => by
    obtain ⟨m, g⟩ := maxI_spec (z :: r) (by simp)
    have e : maxI (x :: z :: r) = max x (maxI (z :: r)) := rfl
    rw [e]
    constructor
    · rcases Int.le_total x (maxI (z :: r)) with q | q
      · rw [Int.max_eq_right q]; exact List.mem_cons_of_mem _ m
      · rw [Int.max_eq_left q]; exact List.mem_cons_self
    · intro y hy
      rcases List.mem_cons.mp hy with rfl | hy
      · exact Int.le_max_left _ _
      · exact Int.le_trans (g y hy) (Int.le_max_right _ _)
theorem minI_spec : ∀ (ns : List Int), 0 < ns.length → minI ns ∈ ns ∧ ∀ y, y ∈ ns → minI ns ≤ y
  | [], h => absurd h (by simp)
  | [x], _ => ⟨by simp [minI], fun y hy => by simp at hy; subst hy; simp [minI]⟩
  | x :: z :: r, _ => by
    obtain ⟨m, g⟩ := minI_spec (z :: r) (by simp)
    have e : minI (x :: z :: r) = min x (minI (z :: r)) := rfl
    rw [e]
    constructor
    · rcases Int.le_total x (minI (z :: r)) with q | q
      · rw [Int.min_eq_left q]; exact List.mem_cons_self
      · rw [Int.min_eq_right q]; exact List.mem_cons_of_mem _ m
    · intro y hy
      rcases List.mem_cons.mp hy with rfl | hy
      · exact Int.min_le_left _ _
      · exact Int.le_trans (Int.min_le_right _ _) (g y hy)
theorem maxI_uniq {ns : List Int} {m : Int} (hn : 0 < ns.length) (a : m ∈ ns) (b : ∀ y, y ∈ ns → y ≤ m) : m = maxI ns :=
  Int.le_antisymm ((maxI_spec ns hn).2 m a) (b _ (maxI_spec ns hn).1)
theorem minI_uniq {ns : List Int} {m : Int} (hn : 0 < ns.length) (a : m ∈ ns) (b : ∀ y, y ∈ ns → m ≤ y) : m = minI ns :=
  Int.le_antisymm (b _ (minI_spec ns hn).1) ((minI_spec ns hn).2 m a)
/-- rising, by insertion -/
def insI (x : Int) : List Int → List Int
  | [] => [x]
  | y :: r => if x ≤ y then x :: y :: r else y :: insI x r
def sortI : List Int → List Int
  | [] => []
  | x :: r => insI x (sortI r)
theorem insI_perm (x : Int) : ∀ l, (insI x l).Perm (x :: l)
  | [] => .refl _
  | y :: r => by
    unfold insI
    split
    · exact .refl _
    · exact ((insI_perm x r).cons y).trans (List.Perm.swap x y r)
theorem sortI_perm : ∀ l : List Int, (sortI l).Perm l
  | [] => .refl _
  | x :: r => (insI_perm x (sortI r)).trans ((sortI_perm r).cons x)
theorem insI_rising (x : Int) : ∀ l : List Int, l.Pairwise (· ≤ ·) → (insI x l).Pairwise (· ≤ ·)
  | [], _ => by simp [insI]
  | y :: r, h => by
    unfold insI
    split
    · rename_i q
      refine List.pairwise_cons.mpr ⟨fun z hz => ?_, h⟩
      rcases List.mem_cons.mp hz with rfl | hz
      · exact q
      · exact Int.le_trans q ((List.pairwise_cons.mp h).1 z hz)
    · rename_i q
      refine List.pairwise_cons.mpr ⟨fun z hz => ?_, insI_rising x r (List.pairwise_cons.mp h).2⟩
      rcases List.mem_cons.mp ((insI_perm x r).mem_iff.mp hz) with rfl | hz
      · omega
      · exact (List.pairwise_cons.mp h).1 z hz
theorem sortI_rising : ∀ l : List Int, (sortI l).Pairwise (· ≤ ·)
  | [] => .nil
  | x :: r => insI_rising x _ (sortI_rising r)
theorem rising_uniq : ∀ {l m : List Int}, l.Perm m → l.Pairwise (· ≤ ·) → m.Pairwise (· ≤ ·) → l = m
  | [], m, p, _, _ => (List.nil_perm.mp p).symm
  | x :: l, [], p, _, _ => absurd p.length_eq (by simp)
  | x :: l, y :: m, p, h1, h2 => by
    have e : x = y := by
      have a : y ∈ x :: l := p.mem_iff.mpr List.mem_cons_self
      have b : x ∈ y :: m := p.mem_iff.mp List.mem_cons_self
      have a' : x ≤ y := by
        rcases List.mem_cons.mp a with z | z
        · omega
        · exact (List.pairwise_cons.mp h1).1 y z
      have b' : y ≤ x := by
        rcases List.mem_cons.mp b with z | z
        · omega
        · exact (List.pairwise_cons.mp h2).1 x z
      omega
    subst e
    rw [rising_uniq (List.Perm.cons_inv p) (List.pairwise_cons.mp h1).2 (List.pairwise_cons.mp h2).2]

inductive Bi where
  | len | abs | max | min | sum | sorted | all | any | tuple | list | int | str | repr
def Bi.nm : Bi → Str
  | .len => "len" | .abs => "abs" | .max => "max" | .min => "min" | .sum => "sum" | .sorted => "sorted" | .all => "all" | .any => "any"
  | .tuple => "tuple" | .list => "list" | .int => "int" | .str => "str" | .repr => "repr"
def Bi.val : Bi → Value
  | .tuple => .type "tuple" | .list => .type "list" | .int => .type "int" | .str => .type "str"
  | .len => .builtin "len" | .abs => .builtin "abs" | .max => .builtin "max" | .min => .builtin "min" | .sum => .builtin "sum" | .sorted => .builtin "sorted"
  | .all => .builtin "all" | .any => .builtin "any" | .repr => .builtin "repr"
theorem Bi.boot : ∀ b : Bi, bootBuiltins b.nm = some b.val := by
  intro b; cases b <;> decide +kernel

def lenD : DL := fun xs h Q => match xs with
  | [.str z] => z.length ≤ sizeLine ∧ Q (.int z.length) h
  | [.tup ds] => Q (.int ds.length) h
  | [.cl ds] => Q (.int ds.length) h
  | [.ref a] => (∃ ds, isL h a ds ∧ Q (.int ds.length) h) ∨ ∃ kvs, h a = some (.dct kvs) ∧ Q (.int kvs.length) h
  | _ => False
def absD : DL := fun xs h Q => match xs with
  | [.int i] => Q (.int i.natAbs) h
  | _ => False
/-- the item that is best among the items ds, which are alike data -/
def maxOf (ds : List D) (h : AH) (Q : AK) : Prop := ∃ p ps, Dats h ds (p :: ps) ∧ PySem.W.AlikeAll (p :: ps) ∧ PyData.depthAll (p :: ps) ≤ 60 ∧ ∀ d, d ∈ ds → Dat h d (PySem.W.maxD p ps) → Q d h
def maxD : DL := fun xs h Q => match xs with
  | [.int i, .int j] => Q (.int (max i j)) h
  | [.ref a] => (∃ ns : List Int, isL h a (ns.map D.int) ∧ 0 < ns.length ∧ Q (.int (maxI ns)) h) ∨ ∃ ds, isL h a ds ∧ maxOf ds h Q
  | [.tup ds] => maxOf ds h Q
  | _ => False
/-- the item that is best among the items ds, which are alike data -/
def minOf (ds : List D) (h : AH) (Q : AK) : Prop := ∃ p ps, Dats h ds (p :: ps) ∧ PySem.W.AlikeAll (p :: ps) ∧ PyData.depthAll (p :: ps) ≤ 60 ∧ ∀ d, d ∈ ds → Dat h d (PySem.W.minD p ps) → Q d h
def minD : DL := fun xs h Q => match xs with
  | [.int i, .int j] => Q (.int (min i j)) h
  | [.ref a] => (∃ ns : List Int, isL h a (ns.map D.int) ∧ 0 < ns.length ∧ Q (.int (minI ns)) h) ∨ ∃ ds, isL h a ds ∧ minOf ds h Q
  | [.tup ds] => minOf ds h Q
  | _ => False
def sumD : DL := fun xs h Q => match xs with
  | [.tup ds] => ∃ ns : List Int, ds = ns.map D.int ∧ Q (.int ns.sum) h
  | [.ref a] => ∃ ns : List Int, isL h a (ns.map D.int) ∧ Q (.int ns.sum) h
  | _ => False
def tupI (ns : List Int) : D := .tup (ns.map D.int)
/-- pairs, by the first, then by the second -/
def pairD (p : Int × Int) : D := .tup [.int p.1, .int p.2]
def leP (p q : Int × Int) : Prop := p.1 < q.1 ∨ (p.1 = q.1 ∧ p.2 ≤ q.2)
instance (p q : Int × Int) : Decidable (leP p q) := by unfold leP; exact inferInstance
def insP (x : Int × Int) : List (Int × Int) → List (Int × Int)
  | [] => [x]
  | y :: r => if leP x y then x :: y :: r else y :: insP x r
def sortP : List (Int × Int) → List (Int × Int)
  | [] => []
  | x :: r => insP x (sortP r)
theorem insP_perm (x : Int × Int) : ∀ l, (insP x l).Perm (x :: l)
  | [] => .refl _
  | y :: r => by
    unfold insP
    split
    · exact .refl _
    · exact ((insP_perm x r).cons y).trans (List.Perm.swap x y r)
theorem sortP_perm : ∀ l : List (Int × Int), (sortP l).Perm l
  | [] => .refl _
  | x :: r => (insP_perm x (sortP r)).trans ((sortP_perm r).cons x)
theorem leP_trans {x y z : Int × Int} (a : leP x y) (b : leP y z) : leP x z := by unfold leP at *; omega
theorem leP_tot {x y : Int × Int} (a : ¬ leP x y) : leP y x := by unfold leP at *; omega
theorem insP_rising (x : Int × Int) : ∀ l : List (Int × Int), l.Pairwise leP → (insP x l).Pairwise leP
  | [], _ => by simp [insP]
  | y :: r, h => by
    unfold insP
    split
    · rename_i q
      refine List.pairwise_cons.mpr ⟨fun z hz => ?_, h⟩
      rcases List.mem_cons.mp hz with rfl | hz
      · exact q
      · exact leP_trans q ((List.pairwise_cons.mp h).1 z hz)
    · rename_i q
      refine List.pairwise_cons.mpr ⟨fun z hz => ?_, insP_rising x r (List.pairwise_cons.mp h).2⟩
      rcases List.mem_cons.mp ((insP_perm x r).mem_iff.mp hz) with rfl | hz
      · exact leP_tot q
      · exact (List.pairwise_cons.mp h).1 z hz
theorem sortP_rising : ∀ l : List (Int × Int), (sortP l).Pairwise leP
  | [] => .nil
  | x :: r => insP_rising x _ (sortP_rising r)
theorem leP_anti {x y : Int × Int} (a : leP x y) (b : leP y x) : x = y := by
  obtain ⟨x1, x2⟩ := x
  obtain ⟨y1, y2⟩ := y
  unfold leP at a b
  simp only at a b
  have h1 : x1 = y1 := by omega
  have h2 : x2 = y2 := by omega
  rw [h1, h2]
theorem risingP_uniq : ∀ {l m : List (Int × Int)}, l.Perm m → l.Pairwise leP → m.Pairwise leP → l = m
  | [], m, p, _, _ => (List.nil_perm.mp p).symm
  | x :: l, [], p, _, _ => absurd p.length_eq (by simp)
  | x :: l, y :: m, p, h1, h2 => by
    have e : x = y := by
      have a : y ∈ x :: l := p.mem_iff.mpr List.mem_cons_self
      have b : x ∈ y :: m := p.mem_iff.mp List.mem_cons_self
      have a' : leP x y := by
        rcases List.mem_cons.mp a with z | z
        · rw [z]; unfold leP; omega
        · exact (List.pairwise_cons.mp h1).1 y z
      have b' : leP y x := by
        rcases List.mem_cons.mp b with z | z
        · rw [z]; unfold leP; omega
        · exact (List.pairwise_cons.mp h2).1 x z
      exact leP_anti a' b'
    subst e
    rw [risingP_uniq (List.Perm.cons_inv p) (List.pairwise_cons.mp h1).2 (List.pairwise_cons.mp h2).2]
def sortedD : DL := fun xs h Q => match xs with
  | [.ref a] => (∃ ns : List Int, isL h a (ns.map D.int) ∧ ∀ p, h p = none → Q (.ref p) (aput h p (.lst ((sortI ns).map D.int)))) ∨
      (∃ (nss : List (List Int)) (d : Nat) (B : Int), isL h a (nss.map tupI) ∧ nss.length < 64 ∧ 1 ≤ d ∧ (∀ ns, ns ∈ nss → ns.length = d ∧ TS.Bd B ns) ∧
        ∀ rss : List (List Int), rss.Perm nss → rss.Pairwise (fun n m => TS.code B n ≤ TS.code B m) → ∀ p, h p = none → Q (.ref p) (aput h p (.lst (rss.map tupI)))) ∨
      (∃ ps : List (Int × Int), isL h a (ps.map pairD) ∧ ∀ p, h p = none → Q (.ref p) (aput h p (.lst ((sortP ps).map pairD)))) ∨
      ∃ (nss : List (List Int)) (d : Nat), isL h a (nss.map tupI) ∧ 1 ≤ d ∧ (∀ ns, ns ∈ nss → ns.length = d) ∧ ∀ p, h p = none → Q (.ref p) (aput h p (.lst ((sortL nss).map tupI)))
  | [.tup ds] => (∃ ns : List Int, ds = ns.map D.int ∧ ∀ p, h p = none → Q (.ref p) (aput h p (.lst ((sortI ns).map D.int)))) ∨
      ∃ ps : List (Int × Int), ds = ps.map pairD ∧ ∀ p, h p = none → Q (.ref p) (aput h p (.lst ((sortP ps).map pairD)))
  | _ => False
def allD : DL := fun xs h Q => match xs with
  | [.ref a] => ∃ bs : List Bool, isL h a (bs.map D.bl) ∧ Q (.bl (bs.all id)) h
  | _ => False
def anyD : DL := fun xs h Q => match xs with
  | [.ref a] => ∃ bs : List Bool, isL h a (bs.map D.bl) ∧ Q (.bl (bs.any id)) h
  | _ => False
def tupleD : DL := fun xs h Q => match xs with
  | [.tup ds] => Q (.tup ds) h
  | [.ref a] => ∃ ds, isL h a ds ∧ Q (.tup ds) h
  | _ => False
def listD : DL := fun xs h Q => match xs with
  | [.tup ds] => ∀ p, h p = none → Q (.ref p) (aput h p (.lst ds))
  | [.cl ds] => ∀ p, h p = none → Q (.ref p) (aput h p (.lst ds))
  | [.ref a] => ∃ ds, isL h a ds ∧ ∀ p, h p = none → Q (.ref p) (aput h p (.lst ds))
  | _ => False
def intD : DL := fun xs h Q => match xs with
  | [.int i] => Q (.int i) h
  | [.bl b] => Q (.int (if b then 1 else 0)) h
  | _ => False
def strD : DL := fun xs h Q => match xs with
  | [.int i] => i.natAbs.log2 < 1920 ∧ Q (.str (toString i)) h
  | [.bl b] => Q (.str (if b = true then "True" else "False")) h
  | [.tup ds] => ∃ p, Dat h (.tup ds) p ∧ p.showable = true ∧ p.hasDict = false ∧ p.depth ≤ 64 ∧ p.shown.length ≤ sizeLine ∧ Q (.str p.shown) h
  | _ => False
def reprD : DL := fun xs h Q => match xs with
  | [x] => ∃ p, Dat h x p ∧ p.showable = true ∧ p.hasDict = false ∧ p.depth ≤ 64 ∧ p.shown.length ≤ sizeLine ∧ Q (.str p.shown) h
  | _ => False
def Bi.d : Bi → DL
  | .len => lenD | .abs => absD | .max => maxD | .min => minD | .sum => sumD | .sorted => sortedD | .all => allD | .any => anyD
  | .tuple => tupleD | .list => listD | .int => intD | .str => strD | .repr => reprD

theorem Reps.one_of {K : PySem.W.Frag} {H : Hp} {d : D} {vs : List V} (r : Reps K H [d] vs) : ∃ v, vs = [v] ∧ Rep K H d v := by
  obtain ⟨x, xs, e, q1, q2⟩ := r
  rw [show xs = [] from q2] at e
  exact ⟨x, e, q1⟩
theorem Reps.two_of {K : PySem.W.Frag} {H : Hp} {d e : D} {vs : List V} (r : Reps K H [d, e] vs) : ∃ v u, vs = [v, u] ∧ Rep K H d v ∧ Rep K H e u := by
  obtain ⟨x, xs, e1, q1, q2⟩ := r
  obtain ⟨v, e2, q3⟩ := Reps.one_of q2
  rw [e2] at e1
  exact ⟨x, v, e1, q1, q3⟩
section
variable {X : Cx}
theorem lcb_len : CallR X (.builtin "len") (lrL X.K lenD) := by
  intro pins s σ H xs us Q I r hq
  obtain ⟨ds, h, Qd, rs, hr, ho, lk⟩ := hq
  unfold lenD at ho
  split at ho
  · rename_i z
    obtain ⟨v, rfl, e⟩ := rs.one_of; cases e
    exact call_len_str pins s σ H _ us Q I r ⟨z, rfl, ho.1, lk.same hr ho.2 rfl⟩
  · rename_i ds
    obtain ⟨v, rfl, a, xs, rfl, t, q⟩ := rs.one_of
    exact call_len_seq pins s σ H _ us Q I r ⟨a, xs, rfl, .inr t.t, by rw [q.length]; exact lk.same hr ho rfl⟩
  · rename_i ds
    obtain ⟨v, rfl, a, xs, rfl, t, q⟩ := rs.one_of
    exact call_len_seq pins s σ H _ us Q I r ⟨a, xs, rfl, .inl t.seq, by rw [q.length]; exact lk.same hr ho rfl⟩
  · rename_i a
    obtain ⟨v, rfl, e⟩ := rs.one_of; cases e
    rcases ho with ⟨ds, l, ho⟩ | ⟨kvs, e, ho⟩
    · obtain ⟨xs, t, q⟩ := hr.seq l
      exact call_len_seq pins s σ H _ us Q I r ⟨a, xs, rfl, .inl t, by rw [q.length]; exact lk.same hr ho rfl⟩
    · obtain ⟨ws, e1, k1, k2⟩ := hr a _ e
      have hl : ws.length = kvs.length := by have := congrArg List.length k1; simpa using this
      exact call_lenD pins s σ H _ us Q I r ⟨a, ws, rfl, e1, by rw [hl]; exact lk.same hr ho rfl⟩
  · exact ho.elim
theorem lcb_abs : CallR X (.builtin "abs") (lrL X.K absD) := by
  intro pins s σ H xs us Q I r hq
  obtain ⟨ds, h, Qd, rs, hr, ho, lk⟩ := hq
  unfold absD at ho
  split at ho
  · rename_i i
    obtain ⟨v, rfl, e⟩ := rs.one_of; cases e
    refine call_abs pins s σ H _ us Q I r ⟨i, rfl, ?_⟩
    have e : (if i < 0 then -i else i) = (i.natAbs : Int) := by split <;> omega
    rw [e]
    exact lk.same hr ho rfl
  · exact ho.elim
theorem Dats.get {h : AH} : ∀ {ds : List D} {ps : List PyData} {i : Nat} {d : D}, Dats h ds ps → ds[i]? = some d → ∃ p, ps[i]? = some p ∧ Dat h d p
  | _, _, _, _, .nil, e => by cases e
  | _, _, 0, _, .cons a b, e => by cases e; exact ⟨_, rfl, a⟩
  | _, _, i + 1, _, .cons a b, e => Dats.get (i := i) b (by simpa using e)
theorem Vals.geti : ∀ {xs : List V} {us : List Value} {i : Nat} {u : Value}, Vals xs us → us[i]? = some u → ∃ x, xs[i]? = some x ∧ RelV x u
  | _, _, _, _, .nil, e => by cases e
  | _, _, 0, _, .cons a b, e => by cases e; exact ⟨_, rfl, a⟩
  | _, _, i + 1, _, .cons a b, e => Vals.geti (i := i) b (by simpa using e)
theorem Reps.geti {K : PySem.W.Frag} {H : Hp} : ∀ {ds : List D} {xs : List V} {i : Nat} {x : V}, Reps K H ds xs → xs[i]? = some x → ∃ d, ds[i]? = some d ∧ Rep K H d x
  | [], xs, i, x, q, e => by rw [show xs = [] from q] at e; cases e
  | d :: ds, xs, i, x, ⟨y, r, z, q1, q2⟩, e => by
    subst z
    cases i with
    | zero => cases e; exact ⟨d, rfl, q1⟩
    | succ i => exact Reps.geti (i := i) q2 (by simpa using e)
theorem best_end {pins : List (Addr × Obj)} {σ : L2.St} {H : Hp} {s : Shared} {h : AH} {ds : List D} {xs : List V} {its : List Value} {ps : List PyData} {as : List Addr} {b : PyData} {Qd : AK} {Q : VK}
    (I : L2.Inv X pins σ H s) (hr : HRep X.K H h) (q : Reps X.K H ds xs) (rv : Vals xs its) (ra : ReadsAll s.heap its ps as) (hd : Dats h ds ps) (ho : ∀ d, d ∈ ds → Dat h d b → Qd d h) (lk : Lnk X.K h H Qd Q) :
    ∀ (i : Nat) v h' tk bs, its.toArray[i]? = some v → Reads h' v b bs → (∀ b o, s.heap.get? b = some o → h'.get? b = some o) → EP X pins σ Q v { s with heap := h', toks := tk } := by
  intro i v h' tk bs hv rd hk
  rw [List.getElem?_toArray] at hv
  obtain ⟨x, hx, rx⟩ := Vals.geti rv hv
  obtain ⟨d, gd, rd2⟩ := Reps.geti q hx
  obtain ⟨p, gp, dp⟩ := hd.get gd
  obtain ⟨bs2, rd3⟩ := Dp.reads I p x v (dp.dp hr rd2) rx
  obtain ⟨e, _⟩ := PyProof.Rows.reads_det (fun b o e _ => hk b o e) rd3 rd
  subst e
  exact ⟨x, H, I.kept hk, rx, lk.same hr (ho d (List.mem_of_getElem? gd) dp) rd2⟩
theorem lcb_max (hc : X.calm = true) (hu : X.A.units + 70 < cLine) : CallR X (.builtin "max") (lrL X.K maxD) := by
  intro pins s σ H xs us Q I r hq
  obtain ⟨ds, h, Qd, rs, hr, ho, lk⟩ := hq
  unfold maxD at ho
  split at ho
  · rename_i i j
    obtain ⟨v, u, rfl, e1, e2⟩ := rs.two_of; cases e1; cases e2
    refine call_max2 hc pins s σ H _ us Q I r ⟨i, j, rfl, ?_⟩
    have e : (if j > i then j else i) = max i j := by split <;> omega
    rw [e]
    exact lk.same hr ho rfl
  · rename_i a
    obtain ⟨v, rfl, e⟩ := rs.one_of; cases e
    obtain ⟨ns, l, hn, ho⟩ | ⟨ds, l, p, ps, hd, ha, hz, ho⟩ := ho
    obtain ⟨xs, t, q⟩ := hr.seq l
    have e := q.ints; subst e
    exact cr_max hc pins s σ H _ us Q I r ⟨a, ns, rfl, t, hn, fun m h1 h2 => by rw [maxI_uniq hn h1 h2]; exact lk.same hr ho rfl⟩
    obtain ⟨xs, t, q⟩ := hr.seq l
    obtain ⟨its, rv, hl, _⟩ := I.list t
    rw [Vals.ref1 r]
    obtain ⟨as, ra⟩ := Dp.readsAll I _ _ its (hd.dp hr q) rv
    exact PySem.W.max_list_data (I.ok.hd hc) hl.isList (by simpa using ra) ha (by omega) (best_end I hr q rv ra hd ho lk)
  · rename_i ds
    obtain ⟨v, rfl, a, xs, rfl, t, q⟩ := rs.one_of
    obtain ⟨p, ps, hd, ha, hz, ho⟩ := ho
    obtain ⟨its, rv, hl, _⟩ := I.tuple t.t
    rw [Vals.ref1 r]
    obtain ⟨as, ra⟩ := Dp.readsAll I _ _ its (hd.dp hr q) rv
    exact PySem.W.max_tuple_data (I.ok.hd hc) hl (by simpa using ra) ha (by omega) (best_end I hr q rv ra hd ho lk)
  · exact ho.elim
theorem lcb_min (hc : X.calm = true) (hu : X.A.units + 70 < cLine) : CallR X (.builtin "min") (lrL X.K minD) := by
  intro pins s σ H xs us Q I r hq
  obtain ⟨ds, h, Qd, rs, hr, ho, lk⟩ := hq
  unfold minD at ho
  split at ho
  · rename_i i j
    obtain ⟨v, u, rfl, e1, e2⟩ := rs.two_of; cases e1; cases e2
    refine call_min2 hc pins s σ H _ us Q I r ⟨i, j, rfl, ?_⟩
    have e : (if j < i then j else i) = min i j := by split <;> omega
    rw [e]
    exact lk.same hr ho rfl
  · rename_i a
    obtain ⟨v, rfl, e⟩ := rs.one_of; cases e
    obtain ⟨ns, l, hn, ho⟩ | ⟨ds, l, p, ps, hd, ha, hz, ho⟩ := ho
    obtain ⟨xs, t, q⟩ := hr.seq l
    have e := q.ints; subst e
    exact cr_min hc pins s σ H _ us Q I r ⟨a, ns, rfl, t, hn, fun m h1 h2 => by rw [minI_uniq hn h1 h2]; exact lk.same hr ho rfl⟩
    obtain ⟨xs, t, q⟩ := hr.seq l
    obtain ⟨its, rv, hl, _⟩ := I.list t
    rw [Vals.ref1 r]
    obtain ⟨as, ra⟩ := Dp.readsAll I _ _ its (hd.dp hr q) rv
    exact PySem.W.min_list_data (I.ok.hd hc) hl.isList (by simpa using ra) ha (by omega) (best_end I hr q rv ra hd ho lk)
  · rename_i ds
    obtain ⟨v, rfl, a, xs, rfl, t, q⟩ := rs.one_of
    obtain ⟨p, ps, hd, ha, hz, ho⟩ := ho
    obtain ⟨its, rv, hl, _⟩ := I.tuple t.t
    rw [Vals.ref1 r]
    obtain ⟨as, ra⟩ := Dp.readsAll I _ _ its (hd.dp hr q) rv
    exact PySem.W.min_tuple_data (I.ok.hd hc) hl (by simpa using ra) ha (by omega) (best_end I hr q rv ra hd ho lk)
  · exact ho.elim
theorem cr_sumT (hc : X.calm = true) : CallR X (.builtin "sum") (fun vs H Q => ∃ (a : Addr) (ns : List Int), vs = [V.ref a] ∧ SqT X.K H a (ns.map V.int) ∧ Q (.int ns.sum) H) := by
  intro pins s σ H vs us Q I r h
  obtain ⟨a, ns, rfl, hs, q⟩ := h
  obtain ⟨its, rv, hl, _⟩ := I.tuple hs
  rw [Vals.ref1 r]
  have hi := rv.ints
  obtain ⟨xs, e⟩ := hi.allInts.items
  have hn : numsOf (intItems xs).toList = ns := by rw [← e]; exact hi.numsOf
  rw [nums_intItems] at hn
  rw [e] at hl
  refine PySem.W.ktm_sumG (I.ok.hd hc) hl fun h' tk t' hk => ?_
  refine ⟨.int _, H, I.kept hk, ⟨_, rfl⟩, ?_⟩
  rw [preSum_eq, List.take_of_length_le (by simp), hn]
  exact q
theorem lcb_sum (hc : X.calm = true) : CallR X (.builtin "sum") (lrL X.K sumD) := by
  intro pins s σ H xs us Q I r hq
  obtain ⟨ds, h, Qd, rs, hr, ho, lk⟩ := hq
  unfold sumD at ho
  split at ho
  · obtain ⟨v, rfl, a, xs, rfl, t, q⟩ := rs.one_of
    obtain ⟨ns, rfl, ho⟩ := ho
    have e := q.ints; subst e
    exact cr_sumT hc pins s σ H _ us Q I r ⟨a, ns, rfl, t.t, lk.same hr ho rfl⟩
  · rename_i a
    obtain ⟨v, rfl, e⟩ := rs.one_of; cases e
    obtain ⟨ns, l, ho⟩ := ho
    obtain ⟨xs, t, q⟩ := hr.seq l
    have e := q.ints; subst e
    exact cr_sum hc pins s σ H _ us Q I r ⟨a, ns, rfl, t, lk.same hr ho rfl⟩
  · exact ho.elim
theorem lcb_all (hc : X.calm = true) : CallR X (.builtin "all") (lrL X.K allD) := by
  intro pins s σ H xs us Q I r hq
  obtain ⟨ds, h, Qd, rs, hr, ho, lk⟩ := hq
  unfold allD at ho
  split at ho
  · rename_i a
    obtain ⟨v, rfl, e⟩ := rs.one_of; cases e
    obtain ⟨ns, l, ho⟩ := ho
    obtain ⟨xs, t, q⟩ := hr.seq l
    have e := q.bls; subst e
    exact cr_all hc pins s σ H _ us Q I r ⟨a, ns, rfl, t, lk.same hr ho rfl⟩
  · exact ho.elim
theorem lcb_any (hc : X.calm = true) : CallR X (.builtin "any") (lrL X.K anyD) := by
  intro pins s σ H xs us Q I r hq
  obtain ⟨ds, h, Qd, rs, hr, ho, lk⟩ := hq
  unfold anyD at ho
  split at ho
  · rename_i a
    obtain ⟨v, rfl, e⟩ := rs.one_of; cases e
    obtain ⟨ns, l, ho⟩ := ho
    obtain ⟨xs, t, q⟩ := hr.seq l
    have e := q.bls; subst e
    exact cr_any hc pins s σ H _ us Q I r ⟨a, ns, rfl, t, lk.same hr ho rfl⟩
  · exact ho.elim
theorem perm_tups {K : PySem.W.Frag} {H : Hp} : ∀ {xs ys : List V}, xs.Perm ys → ∀ nss : List (List Int), Reps K H (nss.map tupI) xs → ∃ rss : List (List Int), Reps K H (rss.map tupI) ys ∧ rss.Perm nss
  | _, _, .nil, nss, q => ⟨nss, q, .refl _⟩
  | _, _, .cons (l₁ := l1) (l₂ := l2) x p, nss, q => by
    cases nss with
    | nil => cases (show (x :: l1) = [] from q)
    | cons ns nss =>
      obtain ⟨y, r, e, q1, q2⟩ := q
      obtain ⟨e1, e2⟩ := List.cons.inj e
      subst e1 e2
      obtain ⟨rss, r1, r2⟩ := perm_tups p nss q2
      exact ⟨ns :: rss, ⟨_, _, rfl, q1, r1⟩, .cons _ r2⟩
  | _, _, .swap x y l, nss, q => by
    cases nss with
    | nil => cases (show (y :: x :: l) = [] from q)
    | cons ns nss =>
      obtain ⟨y', r, e, q1, q2⟩ := q
      obtain ⟨e1, e2⟩ := List.cons.inj e
      subst e1 e2
      cases nss with
      | nil => cases (show (x :: l) = [] from q2)
      | cons ms nss =>
        obtain ⟨x', r, e, q3, q4⟩ := q2
        obtain ⟨e1, e2⟩ := List.cons.inj e
        subst e1 e2
        exact ⟨ms :: ns :: nss, ⟨_, _, rfl, q3, _, _, rfl, q1, q4⟩, .swap ..⟩
  | _, _, .trans p1 p2, nss, q => by
    obtain ⟨rss, r1, r2⟩ := perm_tups p1 nss q
    obtain ⟨tss, t1, t2⟩ := perm_tups p2 rss r1
    exact ⟨tss, t1, t2.trans r2⟩
theorem tupI_rep {K : PySem.W.Frag} {H : Hp} {ns : List Int} {x : V} (q : Rep K H (tupI ns) x) : TupI K H x ns := by
  obtain ⟨a, xs, rfl, t, r⟩ := q
  have e := r.ints; subst e
  exact ⟨a, rfl, t.t⟩
theorem Reps.mem_tup {K : PySem.W.Frag} {H : Hp} : ∀ {nss : List (List Int)} {xs : List V}, Reps K H (nss.map tupI) xs → ∀ x, x ∈ xs → ∃ ns, ns ∈ nss ∧ TupI K H x ns
  | [], xs, q, x, hx => by rw [show xs = [] from q] at hx; cases hx
  | ns :: nss, xs, ⟨y, r, e, q1, q2⟩, x, hx => by
    rw [e] at hx
    rcases List.mem_cons.mp hx with rfl | hx
    · exact ⟨ns, List.mem_cons_self .., tupI_rep q1⟩
    · obtain ⟨ms, h1, h2⟩ := Reps.mem_tup q2 x hx
      exact ⟨ms, List.mem_cons_of_mem _ h1, h2⟩
theorem pair_tups {K : PySem.W.Frag} {H : Hp} {R : List Int → List Int → Prop} : ∀ {rss : List (List Int)} {ys : List V}, Reps K H (rss.map tupI) ys → ys.Pairwise (fun x y => ∀ n m, TupI K H x n → TupI K H y m → R n m) → rss.Pairwise R
  | [], _, _, _ => .nil
  | ns :: rss, ys, ⟨y, r, e, q1, q2⟩, h => by
    subst e
    obtain ⟨h1, h2⟩ := List.pairwise_cons.mp h
    refine List.pairwise_cons.mpr ⟨fun ms hm => ?_, pair_tups q2 h2⟩
    obtain ⟨i, hi⟩ := List.getElem?_of_mem hm
    obtain ⟨x, gx, rx⟩ := q2.get (i := i) (d := tupI ms) (by rw [List.getElem?_map, hi]; rfl)
    exact h1 x (List.mem_of_getElem? gx) _ _ (tupI_rep q1) (tupI_rep rx)
def rSortPU (K : PySem.W.Frag) : List V → Hp → VK → Prop := fun vs H Q => ∃ (a : Addr) (xs : List V), vs = [V.ref a] ∧ SqL K H a xs ∧ (∀ x ∈ xs, ∃ i j, TupI K H x [i, j]) ∧
  ∀ (ys : List V) (p : Addr), ys.Perm xs → ys.Pairwise (fun x y => ∀ n m, TupI K H x n → TupI K H y m → leP (n.getD 0 0, n.getD 1 0) (m.getD 0 0, m.getD 1 0)) → H p = none → Q (.ref p) (upd H p (.lst ys))
theorem cr_sortPU : CallR X (.builtin "sorted") (rSortPU X.K) := by
  intro pins s σ H vs us Q I r h
  obtain ⟨a, xs, rfl, hs, hx, q⟩ := h
  obtain ⟨its, rv, hl, hz⟩ := I.list hs
  rw [Vals.ref1 r]
  obtain ⟨e1, e2⟩ := bkV_refs rv fun x m => by
    obtain ⟨i, j, ⟨t, e, _⟩⟩ := hx x m
    exact ⟨t, e⟩
  refine SrtO.sorted_pairsO (k := fun u => ((TS.intsOf s.heap u).getD 0 0, (TS.intsOf s.heap u).getD 1 0)) hl.isList (by rw [← rv.length]; exact hz) (fun v hv => ?_) fun h' d out h1 h2 kp hd hn => ?_
  · obtain ⟨t, rfl⟩ := e2 v hv
    have hm : V.ref t ∈ xs := by rw [e1]; exact List.mem_map.mpr ⟨_, hv, rfl⟩
    obtain ⟨i, j, ⟨t', e, ht⟩⟩ := hx _ hm
    cases e
    rw [(tupI_raw I ht).ints]
    obtain ⟨its2, r2, ⟨o, ho, hc, n, hd⟩, _⟩ := I.tuple ht
    obtain ⟨u1, u2, rfl, ri, rj⟩ := vals2 r2
    obtain ⟨t1, rfl⟩ := ri
    obtain ⟨t2, rfl⟩ := rj
    exact ⟨t, o, t1, t2, n, rfl, ho, hc, hd⟩
  · have h3 : ∀ u ∈ out, ∃ a, u = Value.ref a := fun u hu => e2 u (h2.perm.mem_iff.mp hu)
    obtain ⟨n, hn⟩ := hn
    have hp : (out.map bkV).Perm xs := by rw [e1]; exact h2.perm.map bkV
    refine ⟨.ref d, upd H d (.lst (out.map bkV)), I.laid (t' := s.toks) kp hd ⟨by rw [hp.length_eq]; exact hz, out, n, bkV_vals h3, hn⟩, rfl, q _ d hp ?_ (I.hok.fresh hd)⟩
    rw [List.pairwise_map]
    refine List.Pairwise.imp (fun {u v} huv n m hn hm => ?_) h1
    obtain ⟨t, et, ht⟩ := hn
    obtain ⟨t', et', ht'⟩ := hm
    have eu := bkV_ref et
    have ev := bkV_ref et'
    have i1 : TS.intsOf s.heap u = n := by
      rw [eu]
      exact (tupI_raw I ht).ints
    have i2 : TS.intsOf s.heap v = m := by
      rw [ev]
      exact (tupI_raw I ht').ints
    have := SrtO.lexB_no.mp huv
    rw [i1, i2] at this
    unfold leP
    simp only at this ⊢
    omega
section
open PyProof.Rows
variable {prog : Program} {w : World} {A : Around} {E : Value → Shared → Prop} {s : Shared}
theorem collect_tupT {l : Addr} {vs : List Value} {Q : List Value → Shared → Prop} (hl : s.heap.IsTuple l vs.toArray)
    (h : Q vs { s with heap := (s.heap.push (seqObj "list" #[] 0)).update s.heap.objs.size (Obj.mapSeq (· ++ vs.toArray)) }) (hsz : vs.length ≤ sizeLine) :
    wpAny (model prog w) A (collect (.ref l)) Q E s := by
  obtain ⟨o, ho, hc, n, hd⟩ := id hl
  unfold collect
  refine wpAny_bind (wpAny_runValue (codeAny_builtin entry_proto_collect' ?_))
  show wpAny _ _ (do again (.builtin "list.__iadd__" ⟨[← newList [], .ref l], []⟩)) _ _ s
  refine wpAny_bind (wpAny_newList (wpAny_pure ⟨Code.quiet_builtin _ (by decide +kernel), codeAny_builtin entry_list_iadd' ?_⟩))
  show wpAny _ _ (Builtin.List.listExtendWith (.ref s.heap.objs.size) (.ref l) (.ref s.heap.objs.size)) _ _ { s with heap := s.heap.push (seqObj "list" #[] 0) }
  unfold Builtin.List.listExtendWith
  have ho' : (s.heap.push (seqObj "list" #[] 0)).get? l = some o := Heap.get?_push_of_some _ ho
  refine wpAny_bind (wpAny_typeOf (T := "tuple") ⟨o, ho', hc⟩ ?_)
  have ht : (Value.type "tuple" == Value.type "tuple") = true := by rfl
  rw [if_pos (by rw [ht]; simp)]
  refine wpAny_bind (listItems_at ho' hd ?_)
  refine wpAny_bind (listItems_at (xs := #[]) (n := 0) (Heap.get?_push_size _ rfl) rfl ?_)
  rw [if_neg (by simp)]
  refine wpAny_bind (listUpdate_at (xs := #[]) (n := 0) (Heap.get?_push_size _ rfl) rfl ?_ (Nat.zero_le _) (by show (#[] ++ vs.toArray).size ≤ sizeLine + 1; simp only [Array.size_append, List.size_toArray, List.length_nil]; omega))
  refine wpAny_pure ?_
  show wpAny (model prog w) A (do
      let o ← load s.heap.objs.size
      match o.data with
      | .seq xs _ => pure xs.toList
      | _ => unsupported "internal:collect") Q E { s with heap := (s.heap.push (seqObj "list" #[] 0)).update s.heap.objs.size (Obj.mapSeq (· ++ vs.toArray)) }
  refine wpAny_bind (wpAny_load (get?_update_seq (Heap.get?_push_size _ rfl) _) ?_)
  show wpAny _ _ (pure ((#[] : Array Value) ++ vs.toArray).toList) Q E _
  rw [show ((#[] : Array Value) ++ vs.toArray).toList = vs by simp]
  exact wpAny_pure h
theorem call_sorted_intsT {l : Addr} {vs : List Value} {ns : List Int} {Q : Value → Shared → Prop} (hl : s.heap.IsTuple l vs.toArray) (hI : IntsAre vs ns) (hL : vs.length ≤ sizeLine)
    (h : ∀ (out : Array Value) (ns' : List Int), IntsAre out.toList ns' → ns'.Perm ns → ns'.Pairwise (· ≤ ·) → Q (.ref (s.heap.objs.size + 1)) { s with heap := sortedAll s.heap vs out }) :
    wpAny (model prog w) A (call (.builtin "sorted") [.ref l]) Q E s := by
  refine Calls.call_function_entry kind_sorted plain_sorted entry_sorted (args_sorted1 _) ?_
  unfold Builtin.«sorted»
  refine wpAny_bind (m := checkCount "sorted" 1 1 _) (wpAny_pure ?_)
  refine wpAny_bind (collect_tupT hl ?_ hL)
  refine wpAny_bind (wpAny_newList ?_)
  have hsz : ((s.heap.push (seqObj "list" #[] 0)).update s.heap.objs.size (Obj.mapSeq (· ++ vs.toArray))).objs.size = s.heap.objs.size + 1 := by
    rw [Heap.size_update, size_push']
  have hoL : (((s.heap.push (seqObj "list" #[] 0)).update s.heap.objs.size (Obj.mapSeq (· ++ vs.toArray))).push (seqObj "list" vs.toArray 0)).get? (s.heap.objs.size + 1) = some (seqObj "list" vs.toArray 0) := by
    rw [← hsz]; exact Heap.get?_push_size _ rfl
  show wpAny _ _ _ _ _ { s with heap := ((s.heap.push (seqObj "list" #[] 0)).update s.heap.objs.size (Obj.mapSeq (· ++ vs.toArray))).push (seqObj "list" vs.toArray 0) }
  rw [hsz]
  refine wpAny_bind (wpAny_holding (wpAny_call_entry slot_list_sort ⟨_, hoL, rfl⟩ entry_list_sort (list_sort_treeAny hoL hI hL fun out ns' a1 a2 a3 => ⟨_, rfl, ?_⟩) (args_list_sort _)))
  exact wpAny_pure ⟨_, rfl, h out ns' a1 a2 a3⟩
end
def rSortedTI (K : PySem.W.Frag) : List V → Hp → VK → Prop := fun vs H Q => ∃ (a : Addr) (ns : List Int), vs = [V.ref a] ∧ SqT K H a (ns.map V.int) ∧ ∀ (ns' : List Int) (p : Addr), ns'.Perm ns → ns'.Pairwise (· ≤ ·) → H p = none → Q (.ref p) (upd H p (.lst (ns'.map V.int)))
theorem cr_sortedTI : CallR X (.builtin "sorted") (rSortedTI X.K) := by
  intro pins s σ H vs us Q I r h
  obtain ⟨a, ns, rfl, hs, q⟩ := h
  obtain ⟨its, rv, hl, hz⟩ := I.tuple hs
  rw [Vals.ref1 r]
  have hi := rv.ints
  have hil := rv.length
  refine call_sorted_intsT (show s.heap.IsTuple a its.toArray from hl) hi (by omega) fun out ns' k1 k2 k3 => ?_
  obtain ⟨ep, he'⟩ := PyProof.Rows.sortedAll_at s.heap its out
  have hlen : (ns'.map V.int).length ≤ sizeLine := by
    rw [List.length_map, k2.length_eq]
    rw [List.length_map] at hz
    exact hz
  exact ⟨.ref _, upd H (s.heap.objs.size + 1) (.lst (ns'.map V.int)), I.laid (t' := s.toks) (fun _ _ => PyProof.Rows.sortedAll_old) (Nat.le_succ _) ⟨hlen, out.toList, ep, vals_of_ints k1, he'⟩, rfl, q _ _ k2 k3 (I.hok.fresh (Nat.le_succ _))⟩
section
open PyProof.Rows
variable {prog : Program} {w : World} {A : Around} {E : Value → Shared → Prop} {s : Shared}
theorem sorted_ordT {l : Addr} {vs : List Value} {ltv : Value → Value → Bool} {Q : Value → Shared → Prop} (O : SrtO.Swo ltv) (hl : s.heap.IsTuple l vs.toArray) (hz : vs.length ≤ sizeLine)
    (hS : 2 ≤ vs.length → ∀ (hh : Heap) (a : Addr), hh.get? a = some (seqObj "list" vs.toArray 0) → (∀ b o, s.heap.get? b = some o → b ≠ a ∧ hh.get? b = some o) → SrtO.SortableO prog w A.in1.in1 { s with heap := hh } a vs ltv)
    (h : ∀ out : List Value, SrtO.Srtd ltv out → SrtO.Stb ltv out vs → Q (.ref (s.heap.objs.size + 1)) { s with heap := sortedAll s.heap vs out.toArray }) :
    wpAny (model prog w) A (call (.builtin "sorted") [.ref l]) Q E s := by
  refine Calls.call_function_entry kind_sorted plain_sorted entry_sorted (args_sorted1 _) ?_
  unfold Builtin.«sorted»
  refine wpAny_bind (m := checkCount "sorted" 1 1 _) (wpAny_pure ?_)
  refine wpAny_bind (collect_tupT hl ?_ hz)
  refine wpAny_bind (wpAny_newList ?_ hz)
  have hsz : ((s.heap.push (seqObj "list" #[] 0)).update s.heap.objs.size (Obj.mapSeq (· ++ vs.toArray))).objs.size = s.heap.objs.size + 1 := by
    rw [Heap.size_update, size_push']
  have hoL : (((s.heap.push (seqObj "list" #[] 0)).update s.heap.objs.size (Obj.mapSeq (· ++ vs.toArray))).push (seqObj "list" vs.toArray 0)).get? (s.heap.objs.size + 1) = some (seqObj "list" vs.toArray 0) := by
    rw [← hsz]; exact Heap.get?_push_size _ rfl
  have kpT : ∀ b o, s.heap.get? b = some o → b ≠ s.heap.objs.size + 1 ∧ (((s.heap.push (seqObj "list" #[] 0)).update s.heap.objs.size (Obj.mapSeq (· ++ vs.toArray))).push (seqObj "list" vs.toArray 0)).get? b = some o := fun b o q => by
    have hb : b < s.heap.objs.size := Heap.lt_size q
    exact ⟨Nat.ne_of_lt (Nat.lt_succ_of_lt hb), Heap.get?_push_of_some _ ((Heap.get?_update_ne _ _ _ _ (Nat.ne_of_lt hb)).trans (Heap.get?_push_of_some _ q))⟩
  show wpAny _ _ _ _ _ { s with heap := ((s.heap.push (seqObj "list" #[] 0)).update s.heap.objs.size (Obj.mapSeq (· ++ vs.toArray))).push (seqObj "list" vs.toArray 0) }
  rw [hsz]
  refine wpAny_bind (wpAny_holding (wpAny_call_entry slot_list_sort ⟨_, hoL, rfl⟩ entry_list_sort (SrtO.list_sort_ord O hoL hz (fun h2 => hS h2 _ _ hoL kpT) fun out a1 a2 => ⟨_, rfl, ?_⟩) (args_list_sort _)))
  exact wpAny_pure ⟨_, rfl, h out a1 a2⟩
theorem sorted_pairsT {l : Addr} {vs : List Value} {k : Value → Int × Int} {Q : Value → Shared → Prop} (hl : s.heap.IsTuple l vs.toArray) (hz : vs.length ≤ sizeLine) (hp : ∀ v ∈ vs, Srt.IsPair s.heap v (k v).1 (k v).2)
    (h : ∀ (h' : Heap) (d : Addr) (out : List Value), SrtO.Srtd (fun v u => SrtO.lexB (k v) (k u)) out → SrtO.Stb (fun v u => SrtO.lexB (k v) (k u)) out vs → (∀ b o, s.heap.get? b = some o → h'.get? b = some o) → s.heap.objs.size ≤ d → (∃ n, h'.get? d = some (seqObj "list" out.toArray n)) → Q (.ref d) { s with heap := h' }) :
    wpAny (model prog w) A (call (.builtin "sorted") [.ref l]) Q E s := by
  refine sorted_ordT (SrtO.swo_lex k) hl hz (fun h2 hh a ha kk => ?_) fun out a1 a2 => ?_
  · refine SrtO.pairs_sortableO (s := { s with heap := hh }) (by omega) (fun v hm => (hp v hm).keeps fun b o e _ => (kk b o e).2) fun o e => ?_
    have e' : some o = some (seqObj "list" vs.toArray 0) := e.symm.trans ha
    cases e'
    intro c
    exact absurd (Value.type.inj c) (by decide)
  · exact h _ _ out a1 a2 (fun b o e => sortedAll_old e) (Nat.le_succ _) (sortedAll_at s.heap vs out.toArray)
end
def rSortPT (K : PySem.W.Frag) : List V → Hp → VK → Prop := fun vs H Q => ∃ (a : Addr) (xs : List V), vs = [V.ref a] ∧ SqT K H a xs ∧ (∀ x ∈ xs, ∃ i j, TupI K H x [i, j]) ∧
  ∀ (ys : List V) (p : Addr), ys.Perm xs → ys.Pairwise (fun x y => ∀ n m, TupI K H x n → TupI K H y m → leP (n.getD 0 0, n.getD 1 0) (m.getD 0 0, m.getD 1 0)) → H p = none → Q (.ref p) (upd H p (.lst ys))
theorem cr_sortPT : CallR X (.builtin "sorted") (rSortPT X.K) := by
  intro pins s σ H vs us Q I r h
  obtain ⟨a, xs, rfl, hs, hx, q⟩ := h
  obtain ⟨its, rv, hl, hz⟩ := I.tuple hs
  rw [Vals.ref1 r]
  obtain ⟨e1, e2⟩ := bkV_refs rv fun x m => by
    obtain ⟨i, j, ⟨t, e, _⟩⟩ := hx x m
    exact ⟨t, e⟩
  refine sorted_pairsT (k := fun u => ((TS.intsOf s.heap u).getD 0 0, (TS.intsOf s.heap u).getD 1 0)) (show s.heap.IsTuple a its.toArray from hl) (by rw [← rv.length]; exact hz) (fun v hv => ?_) fun h' d out h1 h2 kp hd hn => ?_
  · obtain ⟨t, rfl⟩ := e2 v hv
    have hm : V.ref t ∈ xs := by rw [e1]; exact List.mem_map.mpr ⟨_, hv, rfl⟩
    obtain ⟨i, j, ⟨t', e, ht⟩⟩ := hx _ hm
    cases e
    rw [(tupI_raw I ht).ints]
    obtain ⟨its2, r2, ⟨o, ho, hc, n, hd⟩, _⟩ := I.tuple ht
    obtain ⟨u1, u2, rfl, ri, rj⟩ := vals2 r2
    obtain ⟨t1, rfl⟩ := ri
    obtain ⟨t2, rfl⟩ := rj
    exact ⟨t, o, t1, t2, n, rfl, ho, hc, hd⟩
  · have h3 : ∀ u ∈ out, ∃ a, u = Value.ref a := fun u hu => e2 u (h2.perm.mem_iff.mp hu)
    obtain ⟨n, hn⟩ := hn
    have hp : (out.map bkV).Perm xs := by rw [e1]; exact h2.perm.map bkV
    refine ⟨.ref d, upd H d (.lst (out.map bkV)), I.laid (t' := s.toks) kp hd ⟨by rw [hp.length_eq]; exact hz, out, n, bkV_vals h3, hn⟩, rfl, q _ d hp ?_ (I.hok.fresh hd)⟩
    rw [List.pairwise_map]
    refine List.Pairwise.imp (fun {u v} huv n m hn hm => ?_) h1
    obtain ⟨t, et, ht⟩ := hn
    obtain ⟨t', et', ht'⟩ := hm
    have eu := bkV_ref et
    have ev := bkV_ref et'
    have i1 : TS.intsOf s.heap u = n := by
      rw [eu]
      exact (tupI_raw I ht).ints
    have i2 : TS.intsOf s.heap v = m := by
      rw [ev]
      exact (tupI_raw I ht').ints
    have := SrtO.lexB_no.mp huv
    rw [i1, i2] at this
    unfold leP
    simp only at this ⊢
    omega
theorem pair_sorted {rss : List (List Int)} {ps : List (Int × Int)} (r2 : rss.Perm (ps.map fun p => [p.1, p.2])) (pw : rss.Pairwise fun n m => leP (n.getD 0 0, n.getD 1 0) (m.getD 0 0, m.getD 1 0)) : rss = (sortP ps).map fun p => [p.1, p.2] := by
  have em : ∀ ns, ns ∈ rss → ns = [ns.getD 0 0, ns.getD 1 0] := fun ns hm => by
    obtain ⟨p, _, rfl⟩ := List.mem_map.mp (r2.mem_iff.mp hm)
    rfl
  have e1 : rss.map (fun ns => (ns.getD 0 0, ns.getD 1 0)) = sortP ps := by
    refine risingP_uniq ?_ (List.pairwise_map.mpr pw) (sortP_rising ps)
    have := r2.map fun ns => (ns.getD 0 0, ns.getD 1 0)
    rw [List.map_map] at this
    exact (this.trans (List.Perm.of_eq (List.map_id ps))).trans (sortP_perm ps).symm
  rw [← e1, List.map_map]
  conv => lhs; rw [← List.map_id rss]
  exact List.map_congr_left fun ns hm => em ns hm
theorem lcb_sorted : CallR X (.builtin "sorted") (lrL X.K sortedD) := by
  intro pins s σ H xs us Q I r hq
  obtain ⟨ds, h, Qd, rs, hr, ho, lk⟩ := hq
  unfold sortedD at ho
  split at ho
  · rename_i a
    obtain ⟨v, rfl, e⟩ := rs.one_of; cases e
    obtain ⟨ns, l, ho⟩ | ⟨nss, d, B, l, h64, hd, hb, ho⟩ | ⟨ps, l, ho⟩ | ⟨nss, d, l, hd, hb, ho⟩ := ho
    · obtain ⟨xs, t, q⟩ := hr.seq l
      have e := q.ints; subst e
      refine cr_sortedI pins s σ H _ us Q I r ⟨a, ns, rfl, t, fun ns' p h1 h2 n => ?_⟩
      have e : ns' = sortI ns := rising_uniq (h1.trans (sortI_perm ns).symm) h2 (sortI_rising ns)
      subst e
      exact lk.newL hr (Reps.of_ints _) ho p n
    · obtain ⟨xs, t, q⟩ := hr.seq l
      have hl := q.length
      rw [List.length_map] at hl
      refine cr_sortT (d := d) (B := B) hd pins s σ H _ us Q I r ⟨a, xs, rfl, t, by omega, fun x hx => ?_, fun ys p h1 h2 n => ?_⟩
      · obtain ⟨ns, m1, m2⟩ := q.mem_tup x hx
        exact ⟨ns, m2, hb ns m1⟩
      · obtain ⟨rss, r1, r2⟩ := perm_tups h1.symm nss q
        exact lk.newL hr r1 (ho rss r2 (pair_tups r1 h2)) p n
    · obtain ⟨xs, t, q⟩ := hr.seq l
      have eg : ∀ l : List (Int × Int), l.map pairD = (l.map fun p => [p.1, p.2]).map tupI := fun l => by rw [List.map_map]; rfl
      rw [eg] at q
      refine cr_sortPU pins s σ H _ us Q I r ⟨a, xs, rfl, t, fun x hx => ?_, fun ys p h1 h2 n => ?_⟩
      · obtain ⟨ns, m1, m2⟩ := q.mem_tup x hx
        obtain ⟨p, _, rfl⟩ := List.mem_map.mp m1
        exact ⟨_, _, m2⟩
      · obtain ⟨rss, r1, r2⟩ := perm_tups h1.symm _ q
        have e : rss = (sortP ps).map fun p => [p.1, p.2] := pair_sorted r2 (pair_tups r1 h2)
        rw [e, ← eg] at r1
        exact lk.newL hr r1 ho p n
    · obtain ⟨xs, t, q⟩ := hr.seq l
      refine cr_sortTL pins s σ H _ us Q I r ⟨a, xs, d, rfl, hd, t, fun x hx => ?_, fun ys p h1 h2 n => ?_⟩
      · obtain ⟨ns, m1, m2⟩ := q.mem_tup x hx
        exact ⟨ns, m2, hb ns m1⟩
      · obtain ⟨rss, r1, r2⟩ := perm_tups h1.symm nss q
        have pw := pair_tups r1 h2
        have e : rss = sortL nss := risingL_uniq (r2.trans (sortL_perm nss).symm) pw (sortL_rising nss)
        rw [e] at r1
        exact lk.newL hr r1 ho p n
  · rename_i ds
    obtain ⟨ns, rfl, ho⟩ | ⟨ps, rfl, ho⟩ := ho
    · obtain ⟨v, rfl, a, xs, rfl, t, q⟩ := rs.one_of
      have e := q.ints; subst e
      refine cr_sortedTI pins s σ H _ us Q I r ⟨a, ns, rfl, t.t, fun ns' p h1 h2 n => ?_⟩
      have e : ns' = sortI ns := rising_uniq (h1.trans (sortI_perm ns).symm) h2 (sortI_rising ns)
      subst e
      exact lk.newL hr (Reps.of_ints _) ho p n
    · obtain ⟨v, rfl, a, xs, rfl, t, q⟩ := rs.one_of
      have eg : ∀ l : List (Int × Int), l.map pairD = (l.map fun p => [p.1, p.2]).map tupI := fun l => by rw [List.map_map]; rfl
      rw [eg] at q
      refine cr_sortPT pins s σ H _ us Q I r ⟨a, xs, rfl, t.t, fun x hx => ?_, fun ys p h1 h2 n => ?_⟩
      · obtain ⟨ns, m1, m2⟩ := q.mem_tup x hx
        obtain ⟨p, _, rfl⟩ := List.mem_map.mp m1
        exact ⟨_, _, m2⟩
      · obtain ⟨rss, r1, r2⟩ := perm_tups h1.symm _ q
        have e : rss = (sortP ps).map fun p => [p.1, p.2] := pair_sorted r2 (pair_tups r1 h2)
        rw [e, ← eg] at r1
        exact lk.newL hr r1 ho p n
  · exact ho.elim
theorem lcb_tuple : CallR X (.type "tuple") (lrL X.K tupleD) := by
  intro pins s σ H xs us Q I r hq
  obtain ⟨ds, h, Qd, rs, hr, ho, lk⟩ := hq
  unfold tupleD at ho
  split at ho
  · rename_i ds
    obtain ⟨v, rfl, a, xs, rfl, t, q⟩ := rs.one_of
    exact tup_of_list pins s σ H _ us Q I r ⟨a, xs, rfl, .inr ⟨t.t, lk.same hr ho ⟨a, xs, rfl, t, q⟩⟩⟩
  · rename_i a
    obtain ⟨v, rfl, e⟩ := rs.one_of; cases e
    obtain ⟨ds, l, ho⟩ := ho
    obtain ⟨xs, t, q⟩ := hr.seq l
    exact tup_of_list pins s σ H _ us Q I r ⟨a, xs, rfl, .inl ⟨t, lk.newT hr q ho⟩⟩
  · exact ho.elim
theorem lcb_list : CallR X (.type "list") (lrL X.K listD) := by
  intro pins s σ H xs us Q I r hq
  obtain ⟨ds, h, Qd, rs, hr, ho, lk⟩ := hq
  unfold listD at ho
  split at ho
  · rename_i ds
    obtain ⟨v, rfl, a, xs, rfl, t, q⟩ := rs.one_of
    exact call_list_of pins s σ H _ us Q I r ⟨a, xs, rfl, .inr t.t, lk.newL hr q ho⟩
  · rename_i ds
    obtain ⟨v, rfl, a, xs, rfl, t, q⟩ := rs.one_of
    exact call_list_of pins s σ H _ us Q I r ⟨a, xs, rfl, .inl t.seq, lk.newL hr q ho⟩
  · rename_i a
    obtain ⟨v, rfl, e⟩ := rs.one_of; cases e
    obtain ⟨ds, l, ho⟩ := ho
    obtain ⟨xs, t, q⟩ := hr.seq l
    exact call_list_of pins s σ H _ us Q I r ⟨a, xs, rfl, .inl t, lk.newL hr q ho⟩
  · exact ho.elim
theorem lcb_int : CallR X (.type "int") (lrL X.K intD) := by
  intro pins s σ H xs us Q I r hq
  obtain ⟨ds, h, Qd, rs, hr, ho, lk⟩ := hq
  unfold intD at ho
  split at ho
  · rename_i i
    obtain ⟨v, rfl, e⟩ := rs.one_of; cases e
    exact call_int1 pins s σ H _ us Q I r (.inl ⟨i, rfl, lk.same hr ho rfl⟩)
  · rename_i b
    obtain ⟨v, rfl, e⟩ := rs.one_of; cases e
    exact call_int1 pins s σ H _ us Q I r (.inr ⟨b, rfl, lk.same hr ho rfl⟩)
  · exact ho.elim
theorem lcb_str (hg : X.A.guards = some []) (hu : X.A.units + 70 < cLine) : CallR X (.type "str") (lrL X.K strD) := by
  intro pins s σ H xs us Q I r hq
  obtain ⟨ds, h, Qd, rs, hr, ho, lk⟩ := hq
  unfold strD at ho
  split at ho
  · rename_i i
    obtain ⟨v, rfl, e⟩ := rs.one_of; cases e
    exact call_str_int pins s σ H _ us Q I r ⟨i, rfl, ho.1, lk.same hr ho.2 rfl⟩
  · rename_i b
    obtain ⟨v, rfl, e⟩ := rs.one_of; cases e
    obtain ⟨u, rfl, ru⟩ := vals1 r
    obtain rfl : u = Value.bool b := ru
    exact PySem.P.str_of_bool ⟨.str (if b = true then "True" else "False"), H, I.kept (t' := s.toks + 1) fun _ _ g => g, ⟨_, rfl⟩, lk.same hr ho rfl⟩
  · rename_i d
    obtain ⟨p, hp, h1, h2, h3, h4, ho⟩ := ho
    obtain ⟨v, rfl, rv⟩ := rs.one_of
    obtain ⟨u, rfl, ru⟩ := vals1 r
    have dp := hp.dp hr rv
    obtain ⟨a, xs, rfl, _, _⟩ := rv
    obtain rfl : u = Value.ref a := ru
    obtain ⟨as, rd⟩ := Dp.reads I p _ _ dp rfl
    exact str_of_reads rd h1 (PyData.noDict_hsm h2) hg (by omega) (fun _ _ e => e) (fun h' u tk k => ⟨.str p.shown, H, I.kept (t' := tk) k, ⟨u, rfl⟩, lk.same hr ho rfl⟩) h4
  · exact ho.elim
theorem lcb_repr (hg : X.A.guards = some []) (hu : X.A.units + 70 < cLine) : CallR X (.builtin "repr") (lrL X.K reprD) := by
  intro pins s σ H xs us Q I r hq
  obtain ⟨ds, h, Qd, rs, hr, ho, lk⟩ := hq
  unfold reprD at ho
  split at ho
  · rename_i d
    obtain ⟨p, hp, h1, h2, h3, h4, ho⟩ := ho
    obtain ⟨v, rfl, rv⟩ := rs.one_of
    obtain ⟨u, rfl, ru⟩ := vals1 r
    have dp := hp.dp hr rv
    obtain ⟨as, rd⟩ := Dp.reads I p v u dp ru
    have fin : ∀ (h' : Heap) (t : Tok) (tk : Nat), (∀ b o, s.heap.get? b = some o → h'.get? b = some o) → EP X pins σ Q (.str p.shown t) { heap := h', gens := s.gens, drawn := s.drawn, toks := tk, os := s.os } :=
      fun h' t tk k => ⟨.str p.shown, H, I.kept (t' := tk) k, ⟨t, rfl⟩, lk.same hr ho rfl⟩
    cases rd with
    | none => exact PySem.P.repr_of_none (fin s.heap _ _ fun _ _ e => e)
    | bool b => exact PySem.P.repr_of_bool (fin s.heap _ _ fun _ _ e => e)
    | int i t => exact PySem.P.repr_of_int (by simpa [PyData.showable] using h1) (fin s.heap _ _ fun _ _ e => e)
    | str x t => exact PySem.P.repr_of_str (fin s.heap _ _ fun _ _ e => e) h4
    | list q1 q2 q3 q4 => exact repr_of_reads' (.list q1 q2 q3 q4) h1 (PyData.noDict_hsm h2) hg (by omega) (fun _ _ e => e) (fun h' u tk k => fin h' u tk k) h4
    | tuple q1 q2 q3 q4 => exact repr_of_reads' (.tuple q1 q2 q3 q4) h1 (PyData.noDict_hsm h2) hg (by omega) (fun _ _ e => e) (fun h' u tk k => fin h' u tk k) h4
    | dict q1 q2 q3 q4 q5 => exact repr_of_reads' (.dict q1 q2 q3 q4 q5) h1 (PyData.noDict_hsm h2) hg (by omega) (fun _ _ e => e) (fun h' u tk k => fin h' u tk k) h4
  · exact ho.elim
theorem lcb (hc : X.calm = true) (hg : X.A.guards = some []) (hu : X.A.units + 70 < cLine) : ∀ b : Bi, CallR X b.val (lrL X.K b.d)
  | .len => lcb_len | .abs => lcb_abs | .max => lcb_max hc hu | .min => lcb_min hc hu | .sum => lcb_sum hc | .sorted => lcb_sorted | .all => lcb_all hc | .any => lcb_any hc
  | .tuple => lcb_tuple | .list => lcb_list | .int => lcb_int | .str => lcb_str hg hu | .repr => lcb_repr hg hu
/-- those that may be called in an except suite, too -/
def Bi.cl : Bi → Bool
  | .len => true | .abs => true | .sorted => true | .tuple => true | .list => true | .int => true | .str => true | .repr => true | _ => false
theorem lcbC (hg : X.A.guards = some []) (hu : X.A.units + 70 < cLine) : ∀ b : Bi, b.cl = true → CallR X b.val (lrL X.K b.d)
  | .len, _ => lcb_len | .abs, _ => lcb_abs | .sorted, _ => lcb_sorted
  | .tuple, _ => lcb_tuple | .list, _ => lcb_list | .int, _ => lcb_int | .str, _ => lcb_str hg hu | .repr, _ => lcb_repr hg hu
  | .max, h => by cases h
  | .min, h => by cases h
  | .sum, h => by cases h
  | .all, h => by cases h
  | .any, h => by cases h
end

/-! methods of lists -/
inductive Mt where
  | append | extend | pop | popAt | insert | reverse | index | remove | count
def Mt.nm : Mt → Str
  | .append => "append" | .extend => "extend" | .pop => "pop" | .popAt => "pop" | .insert => "insert" | .reverse => "reverse" | .index => "index" | .remove => "remove" | .count => "count"
def appendD : DM := fun x vs h Q => match x, vs with
  | .ref a, [y] => ∃ ds, h a = some (.lst ds) ∧ ds.length < sizeLine ∧ Q .non (aput h a (.lst (ds ++ [y])))
  | _, _ => False
def extendD : DM := fun x vs h Q => match x, vs with
  | .ref a, [.ref b] => ∃ ds, h a = some (.lst ds) ∧ ∃ es, h b = some (.lst es) ∧ ds.length + es.length ≤ sizeLine ∧ Q .non (aput h a (.lst (ds ++ es)))
  | .ref a, [.tup es] => ∃ ds, h a = some (.lst ds) ∧ ds.length + es.length ≤ sizeLine ∧ Q .non (aput h a (.lst (ds ++ es)))
  | _, _ => False
def popD : DM := fun x vs h Q => match x, vs with
  | .ref a, [] => ∃ ds, h a = some (.lst ds) ∧ ∃ d, ds[ds.length - 1]? = some d ∧ Q d (aput h a (.lst ds.dropLast))
  | _, _ => False
def popAtD : DM := fun x vs h Q => match x, vs with
  | .ref a, [.int i] => ∃ ds, h a = some (.lst ds) ∧ -(2 ^ 63) ≤ i ∧ i < 2 ^ 63 ∧ ∃ k, seqIndex? i ds.length = some k ∧ ∃ d, ds[k]? = some d ∧ Q d (aput h a (.lst (ds.eraseIdx k)))
  | _, _ => False
def insertD : DM := fun x vs h Q => match x, vs with
  | .ref a, [.int i, y] => ∃ ds, h a = some (.lst ds) ∧ ds.length < sizeLine ∧ 0 ≤ i ∧ i < 2 ^ 63 ∧ Q .non (aput h a (.lst (ds.take i.toNat ++ [y] ++ ds.drop i.toNat)))
  | _, _ => False
def reverseD : DM := fun x vs h Q => match x, vs with
  | .ref a, [] => ∃ ds, h a = some (.lst ds) ∧ Q .non (aput h a (.lst ds.reverse))
  | _, _ => False
def indexL : DM := fun x vs h Q => match x, vs with
  | .ref a, [y] => ∃ ds p ps j z, isL h a ds ∧ Dats h ds ps ∧ Dat h y p ∧ SeqAt.shaped (.list ps) = true ∧ SeqAt.shaped p = true ∧ ps[j]? = some z ∧ PyData.eqv z p = true ∧
      (∀ (m : Nat) (z' : PyData), m < j → ps[m]? = some z' → PyData.eqv z' p = false) ∧ Q (.int (j : Nat)) h
  | _, _ => False
def indexT : DM := fun x vs h Q => match x, vs with
  | .tup ds, [y] => ∃ p ps j z, Dats h ds ps ∧ Dat h y p ∧ SeqAt.shaped (.tuple ps) = true ∧ SeqAt.shaped p = true ∧ ps[j]? = some z ∧ PyData.eqv z p = true ∧
      (∀ (m : Nat) (z' : PyData), m < j → ps[m]? = some z' → PyData.eqv z' p = false) ∧ Q (.int (j : Nat)) h
  | _, _ => False
def indexD : DM := fun x vs h Q => match x with
  | .tup ds => indexT (.tup ds) vs h Q
  | x => indexL x vs h Q
def removeD : DM := fun x vs h Q => match x, vs with
  | .ref a, [.int k] => ∃ (ns : List Int) (j : Nat), h a = some (.lst (ns.map D.int)) ∧ ns[j]? = some k ∧ (∀ m : Nat, m < j → ns[m]? ≠ some k) ∧ Q .non (aput h a (.lst ((ns.eraseIdx j).map D.int)))
  | .ref a, [y] => ∃ ds p ps j z, h a = some (.lst ds) ∧ Dats h ds ps ∧ Dat h y p ∧ SeqAt.shaped (.list ps) = true ∧ SeqAt.shaped p = true ∧ ps[j]? = some z ∧ PyData.eqv z p = true ∧
      (∀ (m : Nat) (z' : PyData), m < j → ps[m]? = some z' → PyData.eqv z' p = false) ∧ Q .non (aput h a (.lst (ds.eraseIdx j)))
  | _, _ => False
def countD : DM := fun x vs h Q => match x, vs with
  | .ref a, [.int k] => ∃ (ns : List Int), isL h a (ns.map D.int) ∧ Q (.int (ns.count k : Nat)) h
  | .ref a, [y] => ∃ ds p ps, isL h a ds ∧ Dats h ds ps ∧ Dat h y p ∧ SeqAt.shaped (.list ps) = true ∧ SeqAt.shaped p = true ∧ Q (.int (ps.countP fun z => PyData.eqv z p : Nat)) h
  | _, _ => False
def Mt.d : Mt → DM
  | .append => appendD | .extend => extendD | .pop => popD | .popAt => popAtD | .insert => insertD | .reverse => reverseD | .index => indexD | .remove => removeD | .count => countD
/-- it is a list: its first argument's kind -/
def isLst (x : D) (h : AH) : Prop := ∃ a ds, x = .ref a ∧ isL h a ds
/-- whose method it may be: a list's, index a tuple's too -/
def rcvD (m : Mt) (x : D) (h : AH) : Prop := match m, x with
  | .index, .tup _ => True
  | _, x => isLst x h
section
variable {X : Cx}
theorem lmt_append : MtR X "list.append" (lrM X.K appendD) := by
  intro pins s σ H x vs v us Q I rx r hq
  obtain ⟨dx, ds, h, Qd, r1, rs, hr, ho, lk⟩ := hq
  unfold appendD at ho
  split at ho
  · rename_i a y
    obtain ⟨ds, e, hl, ho⟩ := ho
    cases r1
    obtain ⟨w, rfl, rw1⟩ := rs.one_of
    obtain ⟨xs, e1, q⟩ := hr.lst e
    exact mt_append pins s σ H _ _ v us Q I rx r ⟨a, xs, w, rfl, rfl, e1, by rw [q.length]; exact hl, lk.setL hr e (q.app (Reps.one rw1)) ho rfl⟩
  · exact ho.elim
theorem lmt_extend : MtR X "list.extend" (lrM X.K extendD) := by
  intro pins s σ H x vs v us Q I rx r hq
  obtain ⟨dx, ds, h, Qd, r1, rs, hr, ho, lk⟩ := hq
  unfold extendD at ho
  split at ho
  · rename_i a b
    obtain ⟨ds, e, es, f, hl, ho⟩ := ho
    cases r1
    obtain ⟨w, rfl, rw1⟩ := rs.one_of
    cases rw1
    obtain ⟨xs, e1, q⟩ := hr.lst e
    obtain ⟨ys, f1, q2⟩ := hr.lst f
    exact mt_extend pins s σ H _ _ v us Q I rx r ⟨a, b, xs, ys, rfl, rfl, e1, f1, by rw [q.length, q2.length]; exact hl, lk.setL hr e (q.app q2) ho rfl⟩
  · rename_i a es
    obtain ⟨ds, e, hl, ho⟩ := ho
    cases r1
    obtain ⟨w, rfl, rw1⟩ := rs.one_of
    obtain ⟨b, ys, rfl, t, q2⟩ := rw1
    obtain ⟨xs, e1, q⟩ := hr.lst e
    exact list_ext_tup pins s σ H _ _ v us Q I rx r ⟨a, b, xs, ys, rfl, rfl, e1, t.t, by rw [q.length, q2.length]; exact hl, lk.setL hr e (q.app q2) ho rfl⟩
  · exact ho.elim
theorem lmt_pop : MtR X "list.pop" (lrM X.K popD) := by
  intro pins s σ H x vs v us Q I rx r hq
  obtain ⟨dx, ds, h, Qd, r1, rs, hr, ho, lk⟩ := hq
  unfold popD at ho
  split at ho
  · rename_i a
    obtain ⟨ds, e, d, g, ho⟩ := ho
    cases r1
    obtain rfl : vs = [] := rs
    obtain ⟨xs, e1, q⟩ := hr.lst e
    obtain ⟨w, g1, rw1⟩ := q.get g
    refine mt_pop pins s σ H _ _ v us Q I rx r ⟨a, xs, w, rfl, rfl, e1, by rw [q.length]; exact g1, lk.setL hr e ?_ ho rw1⟩
    rw [List.dropLast_eq_take, List.dropLast_eq_take, q.length]
    exact q.take _
  · exact ho.elim
theorem lmt_popAt : MtR X "list.pop" (lrM X.K popAtD) := by
  intro pins s σ H x vs v us Q I rx r hq
  obtain ⟨dx, ds, h, Qd, r1, rs, hr, ho, lk⟩ := hq
  unfold popAtD at ho
  split at ho
  · rename_i a i
    obtain ⟨ds, e, b1, b2, k, hk, d, g, ho⟩ := ho
    cases r1
    obtain ⟨w, rfl, rw1⟩ := rs.one_of
    cases rw1
    obtain ⟨xs, e1, q⟩ := hr.lst e
    obtain ⟨w, g1, rw1⟩ := q.get g
    exact mt_popAt pins s σ H _ _ v us Q I rx r ⟨a, xs, i, k, w, rfl, rfl, e1, b1, b2, by rw [q.length]; exact hk, g1, lk.setL hr e (q.eraseIdx k) ho rw1⟩
  · exact ho.elim
theorem lmt_insert : MtR X "list.insert" (lrM X.K insertD) := by
  intro pins s σ H x vs v us Q I rx r hq
  obtain ⟨dx, ds, h, Qd, r1, rs, hr, ho, lk⟩ := hq
  unfold insertD at ho
  split at ho
  · rename_i a i y
    obtain ⟨ds, e, hl, b1, b2, ho⟩ := ho
    cases r1
    obtain ⟨w, u, rfl, rw1, rw2⟩ := rs.two_of
    cases rw1
    obtain ⟨xs, e1, q⟩ := hr.lst e
    exact mt_insert pins s σ H _ _ v us Q I rx r ⟨a, xs, i, u, rfl, rfl, e1, by rw [q.length]; exact hl, b1, b2, lk.setL hr e (((q.take _).app (Reps.one rw2)).app (q.drop _)) ho rfl⟩
  · exact ho.elim
theorem lmt_reverse : MtR X "list.reverse" (lrM X.K reverseD) := by
  intro pins s σ H x vs v us Q I rx r hq
  obtain ⟨dx, ds, h, Qd, r1, rs, hr, ho, lk⟩ := hq
  unfold reverseD at ho
  split at ho
  · rename_i a
    obtain ⟨ds, e, ho⟩ := ho
    cases r1
    obtain rfl : vs = [] := rs
    obtain ⟨xs, e1, q⟩ := hr.lst e
    exact mt_reverse pins s σ H _ _ v us Q I rx r ⟨a, xs, rfl, rfl, e1, lk.setL hr e q.reverse ho rfl⟩
  · exact ho.elim
theorem lmt_index (hu : X.A.units + 65 < cLine) : MtR X "list.index" (lrM X.K indexL) := by
  intro pins s σ H x vs v us Q I rx r hq
  obtain ⟨dx, ds, h, Qd, r1, rs, hr, ho, lk⟩ := hq
  unfold indexL at ho
  split at ho
  · rename_i a y
    obtain ⟨ds, p, ps, j, z, l, q1, q2, s1, s2, g, ev, nb, ho⟩ := ho
    cases r1
    obtain ⟨w, rfl, rw1⟩ := rs.one_of
    exact mt_indexD hu pins s σ H _ _ v us Q I rx r ⟨a, w, p, ps, j, z, rfl, rfl, (Dat.lst l q1).dp hr rfl, q2.dp hr rw1, s1, s2, g, ev, nb, lk.same hr ho rfl⟩
  · exact ho.elim
theorem lmt_tindex (hu : X.A.units + 65 < cLine) : MtR X "tuple.index" (lrM X.K indexT) := by
  intro pins s σ H x vs v us Q I rx r hq
  obtain ⟨dx, ds, h, Qd, r1, rs, hr, ho, lk⟩ := hq
  unfold indexT at ho
  split at ho
  · rename_i ds y
    obtain ⟨p, ps, j, z, q1, q2, s1, s2, g, ev, nb, ho⟩ := ho
    have dp := (Dat.tup q1).dp hr r1
    obtain ⟨a, xs, rfl, t, _⟩ := r1
    obtain ⟨w, rfl, rw1⟩ := rs.one_of
    exact tup_index hu pins s σ H _ _ v us Q I rx r ⟨a, w, p, ps, j, z, rfl, rfl, dp, q2.dp hr rw1, s1, s2, g, ev, nb, lk.same hr ho rfl⟩
  · exact ho.elim
def rRemD (K : PySem.W.Frag) : V → List V → Hp → VK → Prop := fun x xs H Q => ∃ (a : Addr) (vs : List V) (y : V) (d : PyData) (ds : List PyData) (j : Nat) (z : PyData), x = V.ref a ∧ xs = [y] ∧ H a = some (.lst vs) ∧ Dp K H (V.ref a) (.list ds) ∧ Dp K H y d ∧
  SeqAt.shaped (.list ds) = true ∧ SeqAt.shaped d = true ∧ ds[j]? = some z ∧ PyData.eqv z d = true ∧ (∀ (m : Nat) (z' : PyData), m < j → ds[m]? = some z' → PyData.eqv z' d = false) ∧ Q .non (upd H a (.lst (vs.eraseIdx j)))
theorem mt_removeD (hu : X.A.units + 65 < cLine) : MtR X "list.remove" (rRemD X.K) := by
  intro pins s σ H x xs v us Q I rx rxs h
  obtain ⟨a, vs, y, d, ds, j, z, rfl, rfl, hH, hl, hy, sl, sd, hz, hzj, hno, q⟩ := h
  cases rx
  cases rxs with
  | cons ry rt =>
    rename_i uy ut
    cases rt
    obtain ⟨bs, r1⟩ := Dp.reads I d y uy hy ry
    have hxs : PyData.canLayAll0 ds = true := SeqAt.canLay_of_shaped sl
    have hroom : X.A.units + 1 + min (PyData.depthAll ds) d.depth < cLine := room_in_shaped sd hu
    cases hl with
    | lst hs ha =>
      obtain ⟨zz, its, n, rv, hlen, ho⟩ := I.lstM hH
      have hsq : SqL X.K H a vs := .inl (.inl hH)
      have evs := I.list_inj hs hsq
      subst evs
      obtain ⟨as, h4⟩ := Dp.readsAll I ds _ its ha rv
      have hn : its.length = ds.length := SeqAt.ReadsAll.length ds its as h4
      have hmap : its.map (SeqAt.readOf s.heap) = ds := SeqAt.readsAll_map ds its as hxs h4
      have hvl := rv.length
      have hsl := sizeLine_eq
      obtain ⟨hjd, _⟩ := List.getElem?_eq_some_iff.mp hz
      have hjl : j < its.length := by omega
      have hj : j < its.toArray.size := by simpa using hjl
      have at_ : ∀ (m : Nat) (hm : m < its.toArray.size) (z' : PyData), ds[m]? = some z' → SeqAt.readOf s.heap its.toArray[m] = z' := by
        intro m hm z' hz'
        have hml : m < its.length := by simpa using hm
        rw [← hmap, List.getElem?_map, List.getElem?_eq_getElem hml] at hz'
        have e1 : SeqAt.readOf s.heap its[m] = z' := Option.some.inj (show some (SeqAt.readOf s.heap its[m]) = some z' from hz')
        simpa using e1
      refine call_meets PySem.F.slot_list_remove ⟨_, ho, rfl⟩ PySem.F.entry_list_remove (PySem.F.args_list_remove_2 _ _)
        (SeqAt.list_removeAt a its.toArray n _ _ uy (fun u => PyData.eqv (SeqAt.readOf s.heap u) d) j hj ?_ ?_ (by rw [List.size_toArray]; omega)) ⟨ho, SeqAt.items_eqAt (vs := its.toArray) (show ReadsAll s.heap its.toArray.toList ds as from h4) r1 hxs (SeqAt.canLay_of_shaped sd) hroom, ?_⟩
      · show PyData.eqv (SeqAt.readOf s.heap its.toArray[j]) d = true
        rw [at_ j hj z hz]
        exact hzj
      · intro m hm hmj
        have hmd : m < ds.length := by omega
        have hz' : ds[m]? = some ds[m] := List.getElem?_eq_getElem hmd
        show PyData.eqv (SeqAt.readOf s.heap its.toArray[m]) d = false
        rw [at_ m hm _ hz']
        exact hno m _ hmj hz'
      · refine ⟨.non, _, I.lset (its' := its.eraseIdx j) (t' := s.toks) hH ho ?_ (rv.eraseIdx j) ?_, rfl, q⟩
        · show its.toArray.eraseIdxIfInBounds j = (its.eraseIdx j).toArray
          rw [List.eraseIdxIfInBounds_toArray]
        · refine Nat.le_trans (List.length_eraseIdx_le _ j) ?_
          omega
theorem lmt_remove (hu : X.A.units + 65 < cLine) : MtR X "list.remove" (lrM X.K removeD) := by
  intro pins s σ H x vs v us Q I rx r hq
  obtain ⟨dx, ds, h, Qd, r1, rs, hr, ho, lk⟩ := hq
  unfold removeD at ho
  split at ho
  · rename_i a k
    obtain ⟨ns, j, e, g, nb, ho⟩ := ho
    cases r1
    obtain ⟨w, rfl, rw1⟩ := rs.one_of
    cases rw1
    obtain ⟨xs, e1, q⟩ := hr.lst e
    have e2 := q.ints; subst e2
    exact mt_remove pins s σ H _ _ v us Q I rx r ⟨a, ns, k, j, rfl, rfl, e1, g, nb, lk.setL hr e (Reps.of_ints _) ho rfl⟩
  · rename_i a y _
    obtain ⟨ds, p, ps, j, z, l, q1, q2, s1, s2, g, ev, nb, ho⟩ := ho
    cases r1
    obtain ⟨w, rfl, rw1⟩ := rs.one_of
    obtain ⟨xs, e1, q⟩ := hr.lst l
    exact mt_removeD hu pins s σ H _ _ v us Q I rx r ⟨a, xs, w, p, ps, j, z, rfl, rfl, e1, (Dat.lst l q1).dp hr rfl, q2.dp hr rw1, s1, s2, g, ev, nb, lk.setL hr l (q.eraseIdx j) ho rfl⟩
  · exact ho.elim
def rCntD (K : PySem.W.Frag) : V → List V → Hp → VK → Prop := fun x xs H Q => ∃ (a : Addr) (y : V) (d : PyData) (ds : List PyData), x = V.ref a ∧ xs = [y] ∧ Dp K H (V.ref a) (.list ds) ∧ Dp K H y d ∧
  SeqAt.shaped (.list ds) = true ∧ SeqAt.shaped d = true ∧ Q (.int (ds.countP fun z => PyData.eqv z d : Nat)) H
theorem mt_countD (hu : X.A.units + 65 < cLine) : MtR X "list.count" (rCntD X.K) := by
  intro pins s σ H x xs v us Q I rx rxs h
  obtain ⟨a, y, d, ds, rfl, rfl, hl, hy, sl, sd, q⟩ := h
  cases rx
  cases rxs with
  | cons ry rt =>
    rename_i uy ut
    cases rt
    obtain ⟨bs, r1⟩ := Dp.reads I d y uy hy ry
    have hxs : PyData.canLayAll0 ds = true := SeqAt.canLay_of_shaped sl
    have hroom : X.A.units + 1 + min (PyData.depthAll ds) d.depth < cLine := room_in_shaped sd hu
    cases hl with
    | lst hs ha =>
      obtain ⟨its, rv, ⟨⟨cls, dd, data, sl2⟩, n, ho, hc, hdn, hd⟩, hlen⟩ := I.list hs
      simp only at hc hd
      subst hc hd
      obtain ⟨as, h4⟩ := Dp.readsAll I ds _ its ha rv
      have hmap : its.map (SeqAt.readOf s.heap) = ds := SeqAt.readsAll_map ds its as hxs h4
      refine call_meets PySem.F.slot_list_count ⟨_, ho, rfl⟩ PySem.F.entry_list_count (PySem.F.args_list_count_2 _ _)
        (SeqAt.list_countAt a its.toArray n dd sl2 uy (fun u => PyData.eqv (SeqAt.readOf s.heap u) d)) ⟨ho, SeqAt.items_eqAt (vs := its.toArray) (show ReadsAll s.heap its.toArray.toList ds as from h4) r1 hxs (SeqAt.canLay_of_shaped sd) hroom, ?_⟩
      have ec : its.toArray.toList.countP (fun u => PyData.eqv (SeqAt.readOf s.heap u) d) = ds.countP fun z => PyData.eqv z d := by
        rw [← hmap, List.countP_map]; rfl
      refine ⟨.int (ds.countP fun z => PyData.eqv z d : Nat), H, I.tok _, ⟨s.toks, ?_⟩, q⟩
      show Value.int ((its.toArray.toList.countP (fun u => PyData.eqv (SeqAt.readOf s.heap u) d) : Nat) : Int) s.toks = Value.int _ s.toks
      rw [ec]
theorem lmt_count (hu : X.A.units + 65 < cLine) : MtR X "list.count" (lrM X.K countD) := by
  intro pins s σ H x vs v us Q I rx r hq
  obtain ⟨dx, ds, h, Qd, r1, rs, hr, ho, lk⟩ := hq
  unfold countD at ho
  split at ho
  · rename_i a k
    obtain ⟨ns, l, ho⟩ := ho
    cases r1
    obtain ⟨w, rfl, rw1⟩ := rs.one_of
    cases rw1
    obtain ⟨xs, e1, q⟩ := hr.seq l
    have e2 := q.ints; subst e2
    exact mt_lcount pins s σ H _ _ v us Q I rx r ⟨a, ns, k, rfl, rfl, e1, lk.same hr ho rfl⟩
  · rename_i a y _
    obtain ⟨ds, p, ps, l, q1, q2, s1, s2, ho⟩ := ho
    cases r1
    obtain ⟨w, rfl, rw1⟩ := rs.one_of
    exact mt_countD hu pins s σ H _ _ v us Q I rx r ⟨a, w, p, ps, rfl, rfl, (Dat.lst l q1).dp hr rfl, q2.dp hr rw1, s1, s2, lk.same hr ho rfl⟩
  · exact ho.elim
end
end MP
/-! MP4: a def's promise where no list is being shown (guards), its call, its body, the law's own call. -/
namespace MP
open PySem PySem.Spec PyProof.Rows L2

/-- as FnOk, for callers around which no guard stands -/
structure FnG (P : Program) (w : World) (K : PySem.W.Frag) (mg : Str → Option Value) (base : Heap) (k : Nat) (f : Addr) (fd : FuncData) (ps : List Str) (sp : Sp) : Prop where
  len : ∀ vs H Q E, sp vs H Q E → vs.length = ps.length
  run : ∀ (A : Around) (outer : List Env) (s : Shared) (H : Hp) (args : Args) (us : List Value) (vs : List V) (Q : VK) (E : XK),
    Room k A → A.guards = some [] → Env0 P w K mg base A outer s H → BindsTo s fd args (ps.zip us) → Vals vs us → sp vs H Q E →
      codeAny (model P w) A (.call (.ref f) args) (CR (L2.CX P w) outer P w H s Q E) s
theorem FnG.mono {P : Program} {w : World} {K : PySem.W.Frag} {mg : Str → Option Value} {base : Heap} {j k : Nat} {f : Addr} {fd : FuncData} {ps : List Str} {sp : Sp}
    (F : FnG P w K mg base j f fd ps sp) (hjk : j ≤ k) : FnG P w K mg base k f fd ps sp where
  len := F.len
  run := fun A outer s H args us vs Q E r => F.run A outer s H args us vs Q E (r.mono hjk)

section
variable {X : Cx} {k : Nat} {f : Addr} {fd : FuncData} {ps : List Str} {sp : Sp} {E : XK}
theorem run_fg {pins : List (Addr × Obj)} {σ : L2.St} {H : Hp} {s : Shared} {Q : VK} {us : List Value} {vs : List V} (F : FnG X.prog X.w X.K X.mg X.base k f fd ps sp) (hr : Room k X.A)
    (hg : X.A.guards = some []) (hb : Binds X.K fd ps []) (I : L2.Inv X pins σ H s) (hx : ∀ e s', L2.CX X.prog X.w X.stack H s E e s' → X.xe e s') (r : Vals vs us) (h : sp vs H Q E) :
    wpAny (model X.prog X.w) X.A (call (.ref f) us) (EP X pins σ Q) X.xe s := by
  have hl : us.length = ps.length := r.length.symm.trans (F.len vs H Q E h)
  have bd := hb s us I.kIn (by simpa using hl)
  rw [List.append_nil] at bd
  apply wpAny_call
  apply codeAny_mono (F.run X.A X.stack s H ⟨us, []⟩ us vs Q E hr hg I.env0 bd r h)
  intro res s' q
  match res, q with
  | .error e, q => exact hx e s' q
  | .ok (.ret u), q => exact I.after q
  | .ok .next, q => exact q.elim
  | .ok .brk, q => exact q.elim
  | .ok .cont, q => exact q.elim
end

/-- a def of the text, by its body's reading -/
theorem fun_okG {P : Program} {w : World} {K : PySem.W.Frag} {mg : Str → Option Value} {base : Heap} {x qual : Str} {st : Stmt} {f : Addr} {fd : FuncData} {N ps : List Str} {k : Nat} {sp : Sp}
    (F : Fun K x qual st f fd) (S : FnScope N ps (defScope st)) (len : ∀ vs H Q E, sp vs H Q E → vs.length = ps.length)
    (body : ∀ (cdv : Value) (A : Around) (outer : List Env) (s : Shared) (H : Hp) (vs : List V) (Q : VK) (E : XK), fd.code = cdv → A.guards = some [] →
      Room k (A.deeper (envOfC qual (defScope st) s.heap.objs.size f cdv)) → sp vs H Q E →
      ∃ t, PSs (cxOf (L2.CX P w) P w K mg base N qual (defScope st) f cdv A outer s H E) (defBody st) t ∧ t { nx := fun _ H' => Q .non H', rt := Q } (start N vs) H) :
    FnG P w K mg base (k + 1) f fd ps sp := by
  refine ⟨len, ?_⟩
  intro A outer s H args us vs Q E hr hg e0 hb rv hsp
  obtain ⟨oc, od, kV, doc, pm, an, cdv, ct, osl, e, lk, hcd⟩ := F.ex
  subst e
  have old := fun b o e => (e0.bs b o e).1
  have kin := e0.mod.kin.keeps old
  have nl := e0.mod.nolimit.keeps old
  have params : ∀ y ∈ ps.zip us, (defScope st).names.lookup y.1 = some .local ∨
      ((defScope st).names.lookup y.1 = some .cell ∧ ((cellsFrom (s.heap.objs.size + 1) (defScope st).names []).lookup y.1).isSome = true) := by
    rintro ⟨n, v⟩ hy
    cases S.par n (List.of_mem_zip hy).1 with
    | inl q => exact Or.inl q
    | inr q => exact Or.inr ⟨q, PySem.W.cellsFrom_some _ _ _ (Or.inl q)⟩
  apply codeAny_call_function hr.depth (kin _ _ lk) rfl S.co S.gen rfl (PySem.W.codeRec_of kin hcd)
  apply hb
  apply wpAny_newFunctionEnv_cells S.kind params
  intro env ee s1 x
  subst ee
  refine ⟨nl.keeps x.toInCall.keep, ?_⟩
  apply codeAny_func
  obtain ⟨t, ht, hq⟩ := body cdv A outer s H vs Q E rfl hg (hr.deeper _) hsp
  have I0 := inv_start (CX := L2.CX P w) (E := E) (f := f) S hr.hd e0 (len _ _ _ _ hsp) rv x
  apply wpAny_mono (ht.run [] s1 (start N vs) H _ I0 hq)
  · intro fl s' hs
    match fl, hs with
    | .ret u, ⟨v, σ', H', J, r, q⟩ => exact ⟨v, H', J.os, J.bare, J.base, J.hok, r, q⟩
    | .next, ⟨σ', H', J, q⟩ => exact ⟨.non, H', J.os, J.bare, J.base, J.hok, rfl, q⟩
    | .brk, ⟨σ', H', J, q⟩ => exact q.elim
    | .cont, ⟨σ', H', J, q⟩ => exact q.elim
  · exact fun _ _ z => z
/-- every parameter is given -/
theorem binds_len {K : PySem.W.Frag} {x qual : Str} {st : Stmt} {f : Addr} {fd : FuncData} {ps : List Str} (F : Fun K x qual st f fd)
    (h : ∀ (kV doc pm : Value) (an : Option Addr) (cdv ct : Value) (us : List Value), us.length = ps.length →
      bindArgs (PySem.W.fnOf x qual (defArgs st) (defBody st) (defScope st) .none kV doc pm an cdv ct) ⟨us, []⟩ = pure (ps.zip us)) : Binds K fd ps [] := F.binds h

/-! the law's call -/
/-- nothing is tracked but what is locked -/
def Locked (H : Hp) : Prop := ∀ b u, H b = some u → ∃ o v, u = .frz o v
theorem law_at {P : Program} {w : World} {K : PySem.W.Frag} {mg mb : Str → Option Value} {k : Nat} {fa a : Addr} {fd : FuncData} {x : Str} {sp : Sp} {s1 : Shared} {H : Hp}
    (KX : K.In s1.heap) (hns : s1.heap.Ns mainGlobals mg) (hb : s1.heap.Ns builtinsNs mb) (hbb : ∀ x : Str, x ≠ "__name__" → mb x = bootBuiltins x) (hlim : s1.heap.NoLimit) (hgen : s1.gens = #[])
    (hr : Room k callerA) (F : ∀ base : Heap, K.In base → base.Ns mainGlobals mg → FnG P w K mg base k fa fd [x] sp) (hbind : ∀ (s : Shared) (u : Value), BindsTo s fd ⟨[u], []⟩ [(x, u)])
    (ok : HOk P w H s1.heap) (lo : Locked H) (dn : ∀ b o es ep, s1.heap.get? b = some o → o.data = .dict es ep → H b = none) (kn : ∀ b o, K.lookup b = some o → H b = none)
    (q : sp [.ref a] H (fun v _ => v = .bl true) fun _ _ _ => False) :
    codeAny (model P w) callerA (.call (.ref fa) ⟨[.ref a], []⟩) (fun r s' => r = .ok (.ret (.bool true)) ∧ OldK s1.heap s'.heap ∧ s'.os = s1.os ∧ AllBare s'.gens) s1 := by
  have ns' : ∀ {b : Addr} {m : Str → Option Value}, s1.heap.Ns b m → (hidT s1.heap H).Ns b m := by
    rintro b m ⟨o, es, ep, e, d, r⟩
    exact ⟨o, es, ep, hidT_get e (dn b o es ep e d), d, r⟩
  have kb : K.In (hidT s1.heap H) := fun b o e => hidT_get (KX b o e) (kn b o e)
  have md : Mod K mg (hidT s1.heap H) := by
    refine ⟨kb, ns' hns, ⟨mb, ns' hb, hbb⟩, ?_⟩
    obtain ⟨mc, h1, h2⟩ := hlim
    exact ⟨mc, ns' h1, h2⟩
  have env : Env0 P w K mg (hidT s1.heap H) callerA [] s1 H :=
    { frames := rfl, mod := md, bs := fun b o e => of_hidT e, bsz := Nat.le_of_eq (hidT_size _ _), funs := trivial,
      frf := fun b hb => absurd (show b ∈ ([] : List Addr) from hb) (by simp), hok := ok, bare := .of_eq hgen }
  have body := (F _ kb (ns' hns)).run callerA [] s1 H ⟨[.ref a], []⟩ [.ref a] [.ref a] _ _ hr rfl env (hbind s1 (.ref a)) (.cons rfl .nil) q
  refine codeAny_mono body ?_
  intro r s' z
  match r, z with
  | .error e, ⟨_, _, _, _, _, _, _, _, _, _, _, _, z⟩ => exact z.elim
  | .ok .next, z => exact z.elim
  | .ok .brk, z => exact z.elim
  | .ok .cont, z => exact z.elim
  | .ok (.ret u), ⟨v, H', os, bare, un, ok', rv, qv⟩ =>
    obtain rfl : v = .bl true := qv
    obtain rfl : u = Value.bool true := rv
    refine ⟨rfl, OldK.of_keep ?_, os, bare⟩
    intro b o e
    cases hH : H b with
    | none => exact un.keep b o e hH (fun m => by cases (show b ∈ ([] : List Addr) from m)) (by simp)
    | some u =>
      obtain ⟨ob, v, rfl⟩ := lo b u hH
      have e1 := (ok b _ hH).1
      have e2 := (ok' b _ (un.frzs b ob v hH)).1
      rw [e1] at e; cases e
      exact e2
theorem law_callG {P : Program} {w : World} {K : PySem.W.Frag} {mg mb : Str → Option Value} {k : Nat} {fa a : Addr} {fd : FuncData} {x : Str} {sp : Sp} {s1 : Shared} {vs : List Value} {ns : List Int}
    (KX : K.In s1.heap) (hns : s1.heap.Ns mainGlobals mg) (hb : s1.heap.Ns builtinsNs mb) (hbb : ∀ x : Str, x ≠ "__name__" → mb x = bootBuiltins x) (hlim : s1.heap.NoLimit) (hgen : s1.gens = #[])
    (ha : s1.heap.get? a = some { cls := .type "list", data := .seq vs.toArray }) (hi : IntsAre vs ns) (hl : ns.length ≤ sizeLine) (hr : Room k callerA)
    (F : ∀ base : Heap, K.In base → base.Ns mainGlobals mg → FnG P w K mg base k fa fd [x] sp) (hbind : ∀ (s : Shared) (u : Value), BindsTo s fd ⟨[u], []⟩ [(x, u)])
    (hsp : ∀ H : Hp, (∀ b, b ≠ a → H b = none) → CL K H a (ns.map V.int) → sp [.ref a] H (fun v _ => v = .bl true) fun _ _ _ => False) :
    codeAny (model P w) callerA (.call (.ref fa) ⟨[.ref a], []⟩) (fun r s' => r = .ok (.ret (.bool true)) ∧ OldK s1.heap s'.heap ∧ s'.os = s1.os ∧ AllBare s'.gens) s1 := by
  have rv : Vals (ns.map V.int) vs := vals_of_ints hi
  have hsz : vs.length = ns.length := by have := rv.length; simpa using this.symm
  by_cases hk : K.lookup a = none
  · refine law_at (H := fun b => if b = a then some (.frz { cls := .type "list", data := .seq vs.toArray } (.lst (ns.map V.int))) else none) KX hns hb hbb hlim hgen hr F hbind ?_ ?_ ?_ ?_ (hsp _ (fun b z => if_neg z) (.inl ⟨_, if_pos rfl⟩))
    · intro b u z
      by_cases e : b = a
      · subst e
        obtain rfl := Option.some.inj ((if_pos rfl).symm.trans z)
        exact ⟨ha, by rw [List.length_map]; exact hl, vs, _, rv, ha⟩
      · exact nomatch (if_neg e).symm.trans z
    · intro b u z
      by_cases e : b = a
      · obtain rfl := Option.some.inj ((if_pos e).symm.trans z)
        exact ⟨_, _, rfl⟩
      · exact nomatch (if_neg e).symm.trans z
    · intro b o es ep e d
      refine if_neg fun z => ?_
      subst z
      rw [ha] at e; cases e
      exact nomatch (show Data.seq vs.toArray _ = Data.dict es ep from d)
    · intro b o e
      refine if_neg fun z => ?_
      subst z
      rw [hk] at e; cases e
  · obtain ⟨o, ho⟩ := Option.ne_none_iff_exists'.mp hk
    have e := KX a o ho
    rw [ha] at e; cases e
    refine law_at (H := fun _ => none) KX hns hb hbb hlim hgen hr F hbind (fun b u z => nomatch z) (fun b u z => nomatch z) (fun _ _ _ _ _ _ => rfl) (fun _ _ _ => rfl) (hsp _ (fun _ _ => rfl) (.inr ⟨_, vs.toArray, _, ho, rfl, rfl, rfl, ?_, by simpa using rv⟩))
    rw [List.size_toArray, hsz]; exact hl
/-- the row's end -/
theorem walkG {l : PySem.W.OpenLaw} {k : Nat} {q : Program} {loose : List Str} {XP : (Str → Option Value) → Heap → Prop} {YP : World → Heap → Prop} {d : DefRec} {K : Params → PySem.W.Frag} {sp : PySem.W.Frag → (Str → Option Value) → Sp} {x : Str}
    (hn : l.most = some 63) (hdf : d.params.defaults = []) (hr : Room k callerA) (hY : ∀ (w : World) (h : Heap), YP w h → (K w.params).In h)
    (F : ∀ (w : World) (mg : Str → Option Value) (fa : Addr) (h : Heap), (K w.params).In h → h.Ns mainGlobals mg → mg d.name = some (.ref fa) →
      ∃ fd : FuncData, (∀ (s : Shared) (u : Value), BindsTo s fd ⟨[u], []⟩ [(x, u)]) ∧
        ∀ base : Heap, (K w.params).In base → base.Ns mainGlobals mg → FnG l.prog w (K w.params) mg base k fa fd [x] (sp (K w.params) mg))
    (hsp : ∀ (K : PySem.W.Frag) (mg : Str → Option Value) (H : Hp) (a : Addr) (ns : List Int), ns.length ≤ 63 → (∀ b, b ≠ a → H b = none) → CL K H a (ns.map V.int) → sp K mg [.ref a] H (fun v _ => v = .bl true) fun _ _ _ => False) :
    PySem.W.WalkO q loose XP YP l.row.toRowW d [] (fun f vs => PySem.call f vs) := by
  apply Att.attach_call hn hdf
  intro w s0 s1 mg mb fa o pm cd doc a vs ns G Y ho hd hcd hmg hobj hints hlen hg
  obtain ⟨fd, hb, hF⟩ := F w mg fa _ (hY w _ Y) G.T.g hmg
  exact law_callG (hY w _ Y) G.T.g G.T.b G.T.builtins G.T.nolimit hg hobj hints (Nat.le_trans hlen (by decide)) hr hF hb fun H h1 h2 => hsp _ mg H a ns hlen h1 h2
end MP
/-! MXB: the law's own call where defs make lambdas: their tables of code objects are known (ts: name, code object, table) -/
namespace MP
open PySem PySem.Spec PyProof.Rows L2

abbrev TabL := List (Str × Addr × Addr)
/-- nothing is tracked but what is locked and these tables, all void -/
def LockedT (ts : TabL) (H : Hp) : Prop := ∀ b u, H b = some u → (∃ o v, u = .frz o v) ∨ ∃ t ∈ ts, b = t.2.2 ∧ u = .tbl #[]
/-- what is known of the tables at the heap h -/
structure TabsOk (K : PySem.W.Frag) (h : Heap) (ts : TabL) : Prop where
  tb : ∀ t ∈ ts, h.get? t.2.2 = some { cls := .none, data := .fields #[] }
  nk : ∀ t ∈ ts, K.lookup t.2.2 = none
  hd : ∀ t ∈ ts, PySem.W.CodeHd h t.2.1 t.2.2
  ti : ∀ t ∈ ts, PySem.W.tabIn K t.1 = some t.2
  un : ∀ t ∈ ts, ∀ t' ∈ ts, t.2.2 = t'.2.2 → t = t'
def BmOk (mg : Str → Option Value) (h : Heap) : Prop := ∃ (bm : Addr) (ob : Obj), mg "__builtins__" = some (.ref bm) ∧ bm ≠ builtinsNs ∧ h.get? bm = some ob ∧ ob.cls = .type "module" ∧ ob.dict = some builtinsNs ∧ ob.data = .plain
theorem law_atT {P : Program} {w : World} {K : PySem.W.Frag} {mg mb : Str → Option Value} {k : Nat} {fa a : Addr} {fd : FuncData} {x : Str} {sp : Sp} {s1 : Shared} {H : Hp} {ts : TabL}
    (KX : K.In s1.heap) (hns : s1.heap.Ns mainGlobals mg) (hb : s1.heap.Ns builtinsNs mb) (hbb : ∀ x : Str, x ≠ "__name__" → mb x = bootBuiltins x) (hlim : s1.heap.NoLimit) (hgen : s1.gens = #[])
    (tk : TabsOk K s1.heap ts) (hbm : BmOk mg s1.heap)
    (hr : Room k callerA) (F : ∀ base : Heap, K.In base → base.Ns mainGlobals mg → (∀ t ∈ ts, LamX.TabB base mg t.2.1 t.2.2) → FnG P w K mg base k fa fd [x] sp) (hbind : ∀ (s : Shared) (u : Value), BindsTo s fd ⟨[u], []⟩ [(x, u)])
    (ok : HOk P w H s1.heap) (lo : LockedT ts H) (ht : ∀ t ∈ ts, H t.2.2 = some (.tbl #[])) (sq : ∀ b u, H b = some u → (∃ o, s1.heap.get? b = some o ∧ ((∃ vs n, o.data = .seq vs n) ∨ o.data = .fields #[]))) (kn : ∀ b o, K.lookup b = some o → H b = none)
    (q : sp [.ref a] H (fun v _ => v = .bl true) fun _ _ _ => False) :
    codeAny (model P w) callerA (.call (.ref fa) ⟨[.ref a], []⟩) (fun r s' => r = .ok (.ret (.bool true)) ∧ OldK s1.heap s'.heap ∧ s'.os = s1.os ∧ AllBare s'.gens) s1 := by
  have noD : ∀ {b : Addr} {o : Obj}, s1.heap.get? b = some o → (∀ vs n, o.data ≠ .seq vs n) → o.data ≠ .fields #[] → H b = none := fun {b o} e h1 h2 => by
    cases z : H b with
    | none => rfl
    | some u =>
      obtain ⟨o2, e2, z2⟩ := sq b u z
      rw [e] at e2
      cases e2
      rcases z2 with ⟨vs, n, z2⟩ | z2
      · exact (h1 _ _ z2).elim
      · exact (h2 z2).elim
  have base_of : ∀ {b : Addr} {o : Obj}, s1.heap.get? b = some o → H b = none → (hidT s1.heap H).get? b = some o := fun e n => hidT_get e n
  have ns' : ∀ {b : Addr} {m : Str → Option Value}, s1.heap.Ns b m → (hidT s1.heap H).Ns b m := by
    rintro b m ⟨o, es, ep, e, d, r⟩
    exact ⟨o, es, ep, base_of e (noD e (fun vs n z => by rw [d] at z; cases z) fun z => by rw [d] at z; cases z), d, r⟩
  have kb : K.In (hidT s1.heap H) := fun b o e => hidT_get (KX b o e) (kn b o e)
  have md : Mod K mg (hidT s1.heap H) := by
    refine ⟨kb, ns' hns, ⟨mb, ns' hb, hbb⟩, ?_⟩
    obtain ⟨mc, h1, h2⟩ := hlim
    exact ⟨mc, ns' h1, h2⟩
  have env : Env0 P w K mg (hidT s1.heap H) callerA [] s1 H :=
    { frames := rfl, mod := md, bs := fun b o e => of_hidT e, bsz := Nat.le_of_eq (hidT_size _ _), funs := trivial,
      frf := fun b hb => absurd (show b ∈ ([] : List Addr) from hb) (by simp), hok := ok, bare := .of_eq hgen }
  have TB : ∀ t ∈ ts, LamX.TabB (hidT s1.heap H) mg t.2.1 t.2.2 := fun t hp => by
    have hTp := tk.tb t hp
    refine ⟨?_, ?_, fun z => ?_⟩
    · obtain ⟨o, us, file, tf, flags, tg, inF, text, tt, e1, r1, r2, r3, r4, r5, r6, r7, r8, hne⟩ := tk.hd t hp
      refine ⟨o, us, file, tf, flags, tg, inF, text, tt, base_of e1 (noD e1 (fun vs n z => by rw [r2] at z; cases z) fun z => ?_), r1, r2, r3, r4, r5, r6, r7, r8, hne⟩
      rw [r2] at z
      cases z
      simp at r3
    · obtain ⟨bm, ob, b1, b2, b3, b4, b5, b6⟩ := hbm
      refine ⟨bm, ob, b1, b2, fun z => ?_, fun z => ?_, base_of b3 (noD b3 (fun vs n z => by rw [b6] at z; cases z) fun z => by rw [b6] at z; cases z), b4, b5, b6⟩
      · obtain ⟨o, es, ep, e, hd, _⟩ := hns
        rw [z, e] at b3
        cases b3
        rw [hd] at b6
        cases b6
      · rw [z, hTp] at b3
        cases b3
        cases b6
    · obtain ⟨o, es, ep, e, hd, _⟩ := hns
      rw [z, hTp] at e
      cases e
      cases hd
  have body := (F _ kb (ns' hns) TB).run callerA [] s1 H ⟨[.ref a], []⟩ [.ref a] [.ref a] _ _ hr rfl env (hbind s1 (.ref a)) (.cons rfl .nil) q
  refine codeAny_mono body ?_
  intro r s' z
  match r, z with
  | .error e, ⟨_, _, _, _, _, _, _, _, _, _, _, _, z⟩ => exact z.elim
  | .ok .next, z => exact z.elim
  | .ok .brk, z => exact z.elim
  | .ok .cont, z => exact z.elim
  | .ok (.ret u), ⟨v, H', os, bare, un, ok', rv, qv⟩ =>
    obtain rfl : v = .bl true := qv
    obtain rfl : u = Value.bool true := rv
    have key : ∀ b o, (∀ t ∈ ts, b ≠ t.2.2) → s1.heap.get? b = some o → s'.heap.get? b = some o := by
      intro b o nb e
      cases hH : H b with
      | none => exact un.keep b o e hH (fun m => by cases (show b ∈ ([] : List Addr) from m)) (by simp)
      | some u =>
        rcases lo b u hH with ⟨ob, v, rfl⟩ | ⟨t, ht1, z, _⟩
        · have e1 := (ok b _ hH).1
          have e2 := (ok' b _ (un.frzs b ob v hH)).1
          rw [e1] at e; cases e
          exact e2
        · exact absurd z (nb t ht1)
    have grown : ∀ t ∈ ts, ∃ more : Array Value, s'.heap.get? t.2.2 = some { cls := .none, data := .fields more } := fun t hp => by
      obtain ⟨more, z⟩ := un.tbls t.2.2 #[] (ht t hp)
      exact ⟨_, ok' t.2.2 _ z⟩
    have cs : ∀ b : Addr, (∀ t ∈ ts, b ≠ t.2.2) ∨ ∃ t ∈ ts, b = t.2.2 := fun b => by
      by_cases z : ∃ t ∈ ts, b = t.2.2
      · exact .inr z
      · exact .inl fun t h1 h2 => z ⟨t, h1, h2⟩
    refine ⟨rfl, ⟨fun b o e => ?_, fun b o e => ?_⟩, os, bare⟩
    · rcases cs b with nb | ⟨t, hp, rfl⟩
      · exact .inl (key b o nb e)
      · obtain ⟨more, hm⟩ := grown t hp
        rw [tk.tb t hp] at e
        cases e
        exact .inr (.inl ⟨((tk.hd t hp).tab (tk.tb t hp)).isCodeTable, rfl, #[], more, rfl, by rw [Array.empty_append]; exact hm⟩)
    · rcases cs b with nb | ⟨t, hp, rfl⟩
      · exact ⟨o, key b o nb e⟩
      · obtain ⟨more, hm⟩ := grown t hp
        exact ⟨_, hm⟩
theorem law_callT {P : Program} {w : World} {K : PySem.W.Frag} {mg mb : Str → Option Value} {k : Nat} {fa a : Addr} {fd : FuncData} {x : Str} {sp : Sp} {s1 : Shared} {vs : List Value} {ns : List Int} {ts : TabL}
    (KX : K.In s1.heap) (hns : s1.heap.Ns mainGlobals mg) (hb : s1.heap.Ns builtinsNs mb) (hbb : ∀ x : Str, x ≠ "__name__" → mb x = bootBuiltins x) (hlim : s1.heap.NoLimit) (hgen : s1.gens = #[])
    (tk : TabsOk K s1.heap ts) (hbm : BmOk mg s1.heap)
    (ha : s1.heap.get? a = some { cls := .type "list", data := .seq vs.toArray }) (hi : IntsAre vs ns) (hl : ns.length ≤ sizeLine) (hr : Room k callerA)
    (F : ∀ base : Heap, K.In base → base.Ns mainGlobals mg → (∀ t ∈ ts, LamX.TabB base mg t.2.1 t.2.2) → FnG P w K mg base k fa fd [x] sp) (hbind : ∀ (s : Shared) (u : Value), BindsTo s fd ⟨[u], []⟩ [(x, u)])
    (hsp : ∀ H : Hp, (∀ t ∈ ts, H t.2.2 = some (.tbl #[])) → CL K H a (ns.map V.int) → sp [.ref a] H (fun v _ => v = .bl true) fun _ _ _ => False) :
    codeAny (model P w) callerA (.call (.ref fa) ⟨[.ref a], []⟩) (fun r s' => r = .ok (.ret (.bool true)) ∧ OldK s1.heap s'.heap ∧ s'.os = s1.os ∧ AllBare s'.gens) s1 := by
  have rv : Vals (ns.map V.int) vs := vals_of_ints hi
  have hsz : vs.length = ns.length := by have := rv.length; simpa using this.symm
  have aT : ∀ t ∈ ts, t.2.2 ≠ a := fun t hp z => by
    have := tk.tb t hp
    rw [z, ha] at this
    have z' : Data.seq vs.toArray _ = Data.fields #[] := congrArg Obj.data (Option.some.inj this)
    cases z'
  by_cases hk : K.lookup a = none
  · have hT : ∀ t ∈ ts, (if t.2.2 = a then some (HO.frz { cls := .type "list", data := .seq vs.toArray } (.lst (ns.map V.int))) else if t.2.2 ∈ ts.map (·.2.2) then some (.tbl #[]) else none) = some (.tbl #[]) := fun t hp => by
      rw [if_neg (aT t hp), if_pos (List.mem_map.mpr ⟨t, hp, rfl⟩)]
    refine law_atT (H := fun b => if b = a then some (.frz { cls := .type "list", data := .seq vs.toArray } (.lst (ns.map V.int))) else if b ∈ ts.map (·.2.2) then some (.tbl #[]) else none) KX hns hb hbb hlim hgen tk hbm hr F hbind ?_ ?_ hT ?_ ?_ (hsp _ hT (.inl ⟨_, if_pos rfl⟩))
    · intro b u z
      by_cases e : b = a
      · subst e
        obtain rfl := Option.some.inj ((if_pos rfl).symm.trans z)
        exact ⟨ha, by rw [List.length_map]; exact hl, vs, _, rv, ha⟩
      · have z := (if_neg e).symm.trans z
        by_cases e2 : b ∈ ts.map (·.2.2)
        · obtain rfl := Option.some.inj ((if_pos e2).symm.trans z)
          obtain ⟨t, hp, rfl⟩ := List.mem_map.mp e2
          exact tk.tb t hp
        · exact nomatch (if_neg e2).symm.trans z
    · intro b u z
      by_cases e : b = a
      · obtain rfl := Option.some.inj ((if_pos e).symm.trans z)
        exact .inl ⟨_, _, rfl⟩
      · have z := (if_neg e).symm.trans z
        by_cases e2 : b ∈ ts.map (·.2.2)
        · obtain rfl := Option.some.inj ((if_pos e2).symm.trans z)
          obtain ⟨t, hp, rfl⟩ := List.mem_map.mp e2
          exact .inr ⟨t, hp, rfl, rfl⟩
        · exact nomatch (if_neg e2).symm.trans z
    · intro b u z
      by_cases e : b = a
      · subst e
        exact ⟨_, ha, .inl ⟨_, _, rfl⟩⟩
      · have z := (if_neg e).symm.trans z
        by_cases e2 : b ∈ ts.map (·.2.2)
        · obtain ⟨t, hp, rfl⟩ := List.mem_map.mp e2
          exact ⟨_, tk.tb t hp, .inr rfl⟩
        · exact nomatch (if_neg e2).symm.trans z
    · intro b o e
      have n1 : b ≠ a := fun z => by rw [z, hk] at e; cases e
      have n2 : b ∉ ts.map (·.2.2) := fun z => by
        obtain ⟨t, hp, z⟩ := List.mem_map.mp z
        rw [← z, tk.nk t hp] at e
        cases e
      exact (if_neg n1).trans (if_neg n2)
  · obtain ⟨o, ho⟩ := Option.ne_none_iff_exists'.mp hk
    have e := KX a o ho
    rw [ha] at e; cases e
    have hT : ∀ t ∈ ts, (if t.2.2 ∈ ts.map (·.2.2) then some (HO.tbl #[]) else none) = some (.tbl #[]) := fun t hp => if_pos (List.mem_map.mpr ⟨t, hp, rfl⟩)
    have of : ∀ {b : Addr} {u : HO}, (if b ∈ ts.map (·.2.2) then some (HO.tbl #[]) else none) = some u → u = .tbl #[] ∧ ∃ t ∈ ts, b = t.2.2 := fun {b u} z => by
      by_cases e2 : b ∈ ts.map (·.2.2)
      · obtain rfl := Option.some.inj ((if_pos e2).symm.trans z)
        obtain ⟨t, hp, e3⟩ := List.mem_map.mp e2
        exact ⟨rfl, t, hp, e3.symm⟩
      · exact nomatch (if_neg e2).symm.trans z
    refine law_atT (H := fun b => if b ∈ ts.map (·.2.2) then some (.tbl #[]) else none) KX hns hb hbb hlim hgen tk hbm hr F hbind ?_ ?_ hT ?_ ?_ (hsp _ hT (.inr ⟨_, vs.toArray, _, ho, rfl, rfl, rfl, ?_, by simpa using rv⟩))
    · intro b u z
      obtain ⟨rfl, t, hp, rfl⟩ := of z
      exact tk.tb t hp
    · intro b u z
      obtain ⟨rfl, t, hp, rfl⟩ := of z
      exact .inr ⟨t, hp, rfl, rfl⟩
    · intro b u z
      obtain ⟨rfl, t, hp, rfl⟩ := of z
      exact ⟨_, tk.tb t hp, .inr rfl⟩
    · intro b o e
      refine if_neg fun z => ?_
      obtain ⟨t, hp, z⟩ := List.mem_map.mp z
      rw [← z, tk.nk t hp] at e
      cases e
    · rw [List.size_toArray, hsz]; exact hl
/-- the row's end, with tables -/
theorem walkGT {l : PySem.W.OpenLaw} {k : Nat} {q : Program} {loose : List Str} {XP : (Str → Option Value) → Heap → Prop} {YP : World → Heap → Prop} {d : DefRec} {K : Params → PySem.W.Frag} {sp : PySem.W.Frag → (Str → Option Value) → Sp} {x : Str}
    (hn : l.most = some 63) (hdf : d.params.defaults = []) (hr : Room k callerA) (hY : ∀ (w : World) (h : Heap), YP w h → (K w.params).In h)
    (F : ∀ (w : World) (mg : Str → Option Value) (fa : Addr) (h : Heap), (K w.params).In h → h.Ns mainGlobals mg → mg d.name = some (.ref fa) →
      (∀ (x : Str) (d : DefRec) (c P : Addr), (recsOf q).find? (fun e => e.name == x) = some d → PySem.W.tabIn (K w.params) x = some (c, P) → PySem.W.CodeHd h c P ∧ h.get? P = some { cls := .none, data := .fields #[] }) →
      ∃ (ts : TabL) (fd : FuncData), TabsOk (K w.params) h ts ∧ (∀ (s : Shared) (u : Value), BindsTo s fd ⟨[u], []⟩ [(x, u)]) ∧
        (∀ base : Heap, (K w.params).In base → base.Ns mainGlobals mg → (∀ t ∈ ts, LamX.TabB base mg t.2.1 t.2.2) → FnG l.prog w (K w.params) mg base k fa fd [x] (sp (K w.params) mg)) ∧
        ∀ (H : Hp) (a : Addr) (ns : List Int), ns.length ≤ 63 → (∀ t ∈ ts, H t.2.2 = some (.tbl #[])) → CL (K w.params) H a (ns.map V.int) → sp (K w.params) mg [.ref a] H (fun v _ => v = .bl true) fun _ _ _ => False) :
    PySem.W.WalkO q loose XP YP l.row.toRowW d [] (fun f vs => PySem.call f vs) := by
  apply Att.attach_call hn hdf
  intro w s0 s1 mg mb fa o pm cd doc a vs ns G Y ho hd hcd hmg hobj hints hlen hg
  have KX := hY w _ Y
  obtain ⟨ts, fd, tk, hb, hF, hsp⟩ := F w mg fa _ KX G.T.g hmg fun x d c P h1 h2 => PySem.W.tab_of G.T KX h1 h2
  exact law_callT KX G.T.g G.T.b G.T.builtins G.T.nolimit hg tk G.T.bmain hobj hints (Nat.le_trans hlen (by decide)) hr hF hb fun H h1 h2 => hsp H a ns hlen h1 h2
end MP
/-! MP5: the small syntax, what each piece asks (wp). -/
namespace MP
open PySem PySem.Spec PyProof.Rows L2

/-- the built-in types that isinstance is asked for -/
inductive Ty where | int | bool | str | tuple | list | dict
inductive TK where | non | bl | int | str | tup | lst | dct
def Ty.nm : Ty → String
  | .int => "int" | .bool => "bool" | .str => "str" | .tuple => "tuple" | .list => "list" | .dict => "dict"
def TK.nm : TK → String
  | .non => "NoneType" | .bl => "bool" | .int => "int" | .str => "str" | .tup => "tuple" | .lst => "list" | .dct => "dict"
def isiB : TK → Ty → Bool
  | .bl, .bool => true | .bl, .int => true | .int, .int => true | .str, .str => true | .tup, .tuple => true | .lst, .list => true | .dct, .dict => true
  | _, _ => false
def tyD (x : D) (h : AH) (Q : TK → Prop) : Prop := match x with
  | .non => Q .non | .bl _ => Q .bl | .int _ => Q .int | .str _ => Q .str | .tup _ => Q .tup | .pr _ => Q .tup | .cl _ => Q .lst | .exn .. => False | .err .. => False
  | .ref a => (∃ ds, isL h a ds ∧ Q .lst) ∨ ∃ kvs, h a = some (.dct kvs) ∧ Q .dct
inductive KB where
  | mn | mx | st
  deriving DecidableEq
def KB.nm : KB → Str
  | .mn => "min" | .mx => "max" | .st => "sorted"
def KB.id : KB → String
  | .mn => "min" | .mx => "max" | .st => "sorted"
theorem KB.boot : ∀ o : KB, bootBuiltins o.nm = some (.builtin o.id) := by
  intro o; cases o <;> decide +kernel
/-- the thing d at the place n is u -/
def ixL (h : AH) : D → Int → D → Prop
  | .tup ds, n, u => 0 ≤ n ∧ ds[n.toNat]? = some u
  | .ref a, n, u => 0 ≤ n ∧ ∃ ds, isL h a ds ∧ ds[n.toNat]? = some u
  | _, _, _ => False
def keyL (h : AH) (d : D) (ko : Option Int) (n m : Int) : Prop := match ko with
  | none => ixL h d n (.int m)
  | some k => ∃ u, ixL h d n u ∧ ixL h u k (.int m)
/-- min, max: the first such item; sorted: stable -/
def kbEnd (o : KB) (kf : Int → Int) (ns : List Int) (h : AH) (Q : AK) : Prop := match o with
  | .mn => ns ≠ [] ∧ ∀ (i : Nat) (n : Int), ns[i]? = some n → (∀ (j : Nat) (k : Int), ns[j]? = some k → kf n ≤ kf k ∧ (j < i → kf n < kf k)) → Q (.int n) h
  | .mx => ns ≠ [] ∧ ∀ (i : Nat) (n : Int), ns[i]? = some n → (∀ (j : Nat) (k : Int), ns[j]? = some k → kf k ≤ kf n ∧ (j < i → kf k < kf n)) → Q (.int n) h
  | .st => ∀ (ms : List Int) (p : Addr), ms.Perm ns → ms.Pairwise (fun x y => kf x ≤ kf y) → (∀ z, ms.filter (fun x => kf x == z) = ns.filter (fun x => kf x == z)) → h p = none → Q (.ref p) (aput h p (.lst (ms.map D.int)))
def kbD (lam : Option Str) (o : KB) (ko : Option Int) (dc : Option (Option D)) (x : D) (h : AH) (Q : AK) : Prop := match x with
  | .ref a => ∃ (nm : Str) (P : Addr) (d : D) (ns : List Int) (kf : Int → Int), lam = some nm ∧ h P = some (.tbl nm) ∧ dc = some (some d) ∧ isL h a (ns.map D.int) ∧ (∀ n, n ∈ ns → keyL h d ko n (kf n)) ∧ kbEnd o kf ns h Q
  | _ => False
mutual
inductive E where
  | v (i : Nat) | k (c : D) | g (x : Str) | tup (es : Es) | lst (es : Es) | bin (o : BinO) (a b : E) | neg (a : E)
  | cmp (o : CmpO) (a b : E) | cmp2 (o p : CmpO) (a b c : E) | and_ (a b : E) | or_ (a b : E) | not_ (a : E) | ite (t : T) (a b : E)
  | ix (a i : E) | sl (a : E) (lo hi : Eo) | call (f : Str) (es : Es) | bi (b : Bi) (es : Es) | mt (m : Mt) (o : E) (es : Es)
  | lc (own : List (Str × Nat)) (tg : Tg) (it : It) (c : To) (e : E) | rng (tup : Bool) (lo : Eo) (hi : E) | dct (ks : List Key) (es : Es) | isi (t : Ty) (e : E) | lset (e : E) | sset (e : E) | xis (one : Bool) (cs : List Str) (e : E) | xf (e : E) (f : Str) | rev (e : E) | up (e : E) | get2 (e k x : E) | kb (o : KB) (e : E) (i : Nat) (ko : Option Int)
inductive Es where
  | nil | cons (e : E) (es : Es)
inductive Eo where
  | no | yes (e : E)
inductive T where
  | e (e : E) | cmp (o : CmpO) (a b : E) | cmp2 (o p : CmpO) (a b c : E) | and_ (a b : T) | or_ (a b : T) | not_ (a : T)
inductive To where
  | no | yes (t : T)
inductive It where
  | e (tm : Bool) (a : E) | rng (lo : Eo) (hi : E) | zip (ta tb : Bool) (a b : E) | enum (tm : Bool) (a : E) | dn (a b : E) | rv (a : E)
inductive Tg where
  | n (i : Nat) | tup (ts : Tgs) | sub (o i : E) | sls (o a c : E)
inductive Tgs where
  | nil | cons (t : Tg) (ts : Tgs)
end
mutual
inductive S where
  | set (t : Tg) (e : E) | par (is : List Nat) (es : Es) | ex (e : E) | ret (e : E) | retN | iff (t : T) (a b : Ss) | for_ (t : Tg) (it : It) (b : Ss) | whl (t : T) (b : Ss)
  | pass | brk | cont | dead | raise_ (c : Str) (es : Es) | tryX (nm : Option Nat) (c : Str) (b u : Ss) | tryK (i j : Nat) (c : Str) (b u : Ss)
inductive Ss where
  | nil | cons (s : S) (ss : Ss)
end

def Tgs.len : Tgs → Nat
  | .nil => 0
  | .cons _ ts => ts.len + 1
/-- what the defs promise: how many arguments, the promise -/
structure Ct where
  fn : Str → Option (Nat × ASp)
  gc : Str → Option D := fun _ => none
  xc : Str → Option (List Str) := fun _ => none
  xi : Str → Str → Option Bool := fun _ _ => none
  cx : Option (Addr × Str × Addr) := none
  lam : Option Str := none
def noX : AXK := fun _ _ => False
/-- is an error of the class c taken by one of these -/
def xiAny (xi : Str → Str → Option Bool) (c : Str) : List Str → Option Bool
  | [] => some false
  | y :: r => match xi c y, xiAny xi c r with
    | some b, some b2 => some (b || b2)
    | _, _ => none
def xisD (G : Ct) (cs : List Str) (x : D) (h : AH) (Q : AK) : Prop := match x, G.cx with
  | .exn a dd _ _, some (a', c, dd') => a = a' ∧ dd = dd' ∧ (match xiAny G.xi c cs with
    | some b => Q (.bl b) h
    | none => False)
  | .err c _ _ _ _, none => (match xiAny G.xi c cs with
    | some b => Q (.bl b) h
    | none => False)
  | _, _ => False
def xfD (G : Ct) (f : Str) (x : D) (h : AH) (Q : AK) : Prop := match x, G.cx with
  | .exn a dd ks ds, some (a', c, dd') => a = a' ∧ dd = dd' ∧ (∃ fs, G.xc c = some fs ∧ f ∈ fs) ∧ (match (ks.zip ds).lookup f with
    | some d => Q d h
    | none => False)
  | .err c _ _ ks ds, none => (∃ fs, G.xc c = some fs ∧ f ∈ fs) ∧ (match (ks.zip ds).lookup f with
    | some d => Q d h
    | none => False)
  | _, _ => False
def truD (x : D) (h : AH) (k : Bool → Prop) : Prop := match x with
  | .non => k false
  | .bl b => k b
  | .int i => k (i != 0)
  | .str s => s.length ≤ sizeLine ∧ k ((s.length : Int) != 0)
  | .tup ds => k (!ds.isEmpty)
  | .pr _ => False
  | .cl ds => k (!ds.isEmpty)
  | .exn .. => False
  | .err .. => False
  | .ref a => ∃ ds, isL h a ds ∧ k (!ds.isEmpty)
def adel (h : AH) (a : Addr) : AH := fun b => if b = a then none else h b
def rngD (a b : Int) : List D := (List.range (b - a).toNat).map fun i => D.int (a + (i : Nat))
def in62 (i : Int) : Prop := -(2 ^ 62) ≤ i ∧ i < 2 ^ 62
/-- each once, as first met -/
def dedI (ns : List Int) : List Int := ns.foldl (fun l x => if (l.any fun y => y == x) = true then l else l ++ [x]) []
abbrev AI := AS → AH → (List D → AH → (AH → Prop) → Prop) → AXK → Prop
def seqI (tm : Bool) (x : D) (h : AH) (Q : List D → AH → (AH → Prop) → Prop) : Prop := match x with
  | .tup ds => Q ds h fun _ => True
  | .cl ds => Q ds h fun _ => True
  | .ref a => match tm with
    | true => ∃ ds, h a = some (.lst ds) ∧ Q ds (adel h a) fun _ => True
    | false => ∃ ds, isL h a ds ∧ Q ds h fun h2 => isL h2 a ds
  | _ => False
def zipD : List D → List D → List D
  | x :: xs, y :: ys => .pr [x, y] :: zipD xs ys
  | _, _ => []
def zipI (ta tb : Bool) (x y : D) (h : AH) (Q : List D → AH → (AH → Prop) → Prop) : Prop := match x, y with
  | .tup ds, .tup es => Q (zipD ds es) h fun _ => True
  | .ref a, .ref b => seqI ta (.ref a) h fun ds h1 g1 => seqI tb (.ref b) h1 fun es h2 g2 => Q (zipD ds es) h2 fun h3 => g1 h3 ∧ g2 h3
  | _, _ => False
def enumD (n : Nat) : List D → List D
  | [] => []
  | x :: xs => .pr [.int n, x] :: enumD (n + 1) xs
/-- a range that goes down by one -/
def dnD (i j : Int) : List D := (List.range (i - j).toNat).map fun k => D.int (i - (k : Nat))
def enumI (tm : Bool) (x : D) (h : AH) (Q : List D → AH → (AH → Prop) → Prop) : Prop := match x with
  | .tup ds => Q (enumD 0 ds) h fun _ => True
  | .ref a => seqI tm (.ref a) h fun ds h2 g => Q (enumD 0 ds) h2 g
  | _ => False
def wipeA (s : AS) : List Nat → AS
  | [] => s
  | v :: vs => (wipeA s vs).set v none
abbrev AG := D → AS → AH → (AS → AH → Prop) → Prop
abbrev AGs := List D → AS → AH → (AS → AH → Prop) → Prop
def setSub (o i v : D) (h : AH) (Q : AH → Prop) : Prop := match o, i with
  | .ref a, .int k => (∃ ds, h a = some (.lst ds) ∧ ∃ j, ixN ds.length k = some j ∧ Q (aput h a (.lst (ds.set j v)))) ∨
      ∃ kvs, h a = some (.dct kvs) ∧ kvs.length < sizeLine ∧ Q (aput h a (.dct (setK kvs (.inl k) v)))
  | .ref a, .str k => ∃ kvs, h a = some (.dct kvs) ∧ kvs.length < sizeLine ∧ Q (aput h a (.dct (setK kvs (.inr k) v)))
  | _, _ => False
/-- a text turned about -/
def revS (z : Str) : Str := ⟨z.cps.toList.reverse.toArray⟩
def upD (x : D) (h : AH) (Q : AK) : Prop := match x with
  | .str a => a.length ≤ 5592405 ∧ Q (.str (Txt.upper a)) h
  | _ => False
def isDct (d : D) (h : AH) : Prop := ∃ a kvs, d = .ref a ∧ h a = some (.dct kvs)
def get2D (d y z : D) (h : AH) (Q : AK) : Prop := match d with
  | .ref a => ∃ kvs k, h a = some (.dct kvs) ∧ dkey y = some k ∧ Q ((getK kvs k).getD z) h
  | _ => False
def revD (x : D) (h : AH) (Q : AK) : Prop := match x with
  | .str z => z.length ≤ sizeLine ∧ Q (.str (revS z)) h
  | .tup ds => Q (.tup ds.reverse) h
  | .cl ds => ∀ p, h p = none → Q (.ref p) (aput h p (.lst ds.reverse))
  | .ref a => ∃ ds, isL h a ds ∧ ∀ p, h p = none → Q (.ref p) (aput h p (.lst ds.reverse))
  | _ => False
def setSl (o y z v : D) (h : AH) (Q : AH → Prop) : Prop := match o, y, z, v with
  | .ref a, .int i, .int j, .ref b => ∃ ds es, h a = some (.lst ds) ∧ h b = some (.lst es) ∧ a ≠ b ∧ 0 ≤ i ∧ i ≤ j ∧ j ≤ ds.length ∧ ds.length + es.length ≤ sizeLine ∧ Q (aput h a (.lst (ds.take i.toNat ++ es ++ ds.drop j.toNat)))
  | _, _, _, _ => False
/-- a comprehension, by its parts -/
def lcW (vs : List Nat) (wi : AI) (wt : AG) (wc : AT) (we : AE) : AE := fun s h Q X => wi s h (fun ds h1 grd => ∃ I : Nat → List D → AH → Prop, I 0 [] h1 ∧ ∀ i acc h2, I i acc h2 → grd h2 ∧
  (i = ds.length → ∀ p, h2 p = none → Q (.ref p) (aput h2 p (.lst acc))) ∧
  ∀ d, ds[i]? = some d → wt d (wipeA s vs) h2 (fun s3 h3 => wc s3 h3 (fun b h4 => if b = true then we s3 h4 (fun y h5 => acc.length < sizeLine ∧ ∃ h6, Sub h6 h5 ∧ I (i + 1) (acc ++ [y]) h6) noX
    else ∃ h6, Sub h6 h4 ∧ I (i + 1) acc h6) noX)) X
def callW (G : Ct) (f : Str) (wa : AA) : AE := fun s h Q X => match G.fn f with
  | some (n, c) => wa s h (fun ds h1 => ds.length = n ∧ c ds h1 Q X) X
  | none => False

mutual
def wpE (G : Ct) : E → AE
  | .v i => fun s h Q _ => match s[i]? with
    | some (some d) => Q d h
    | _ => False
  | .k c => fun _ h Q _ => Q c h
  | .g x => fun _ h Q _ => match G.gc x with
    | some c => Q c h
    | none => False
  | .tup es => fun s h Q X => wpEs G es s h (fun ds h1 => ds.length ≤ sizeLine ∧ Q (.tup ds) h1) X
  | .lst es => fun s h Q X => wpEs G es s h (fun ds h1 => ds.length ≤ sizeLine ∧ ∀ p, h1 p = none → Q (.ref p) (aput h1 p (.lst ds))) X
  | .bin o a b => fun s h Q X => wpE G a s h (fun x h1 => wpE G b s h1 (fun y h2 => o.d x y h2 Q) X) X
  | .neg a => fun s h Q X => wpE G a s h (fun x h1 => match x with
    | .int i => Q (.int (-i)) h1
    | _ => False) X
  | .cmp o a b => fun s h Q X => wpE G a s h (fun x h1 => wpE G b s h1 (fun y h2 => o.d x y h2 Q) X) X
  | .cmp2 o p a b c => fun s h Q X => wpE G a s h (fun x h1 => wpE G b s h1 (fun y h2 => o.d x y h2 fun z h3 => match z with
    | .bl true => wpE G c s h3 (fun u h4 => p.d y u h4 Q) X
    | .bl false => Q (.bl false) h3
    | _ => False) X) X
  | .and_ a b => fun s h Q X => wpE G a s h (fun x h1 => match x with
    | .bl true => wpE G b s h1 Q X
    | .bl false => Q (.bl false) h1
    | _ => False) X
  | .or_ a b => fun s h Q X => wpE G a s h (fun x h1 => match x with
    | .bl true => Q (.bl true) h1
    | .bl false => wpE G b s h1 Q X
    | _ => False) X
  | .not_ a => fun s h Q X => wpE G a s h (fun x h1 => truD x h1 fun b => Q (.bl (!b)) h1) X
  | .ite t a b => fun s h Q X => wpT G t s h (fun k h1 => if k = true then wpE G a s h1 Q X else wpE G b s h1 Q X) X
  | .ix a i => fun s h Q X => wpE G a s h (fun x h1 => wpE G i s h1 (fun y h2 => ixD x y h2 Q) X) X
  | .sl a lo hi => fun s h Q X => wpE G a s h (fun x h1 => wpEo G lo s h1 (fun l h2 => wpEo G hi s h2 (fun u h3 => slD x l u h3 Q) X) X) X
  | .call f es => callW G f (wpEs G es)
  | .bi b es => fun s h Q X => wpEs G es s h (fun ds h1 => b.d ds h1 Q) X
  | .mt m o es => fun s h Q X => wpE G o s h (fun x h1 => rcvD m x h1 ∧ wpEs G es s h1 (fun ds h2 => m.d x ds h2 Q) X) X
  | .lc own tg it c e => lcW (own.map (·.2)) (wpI G it) (wpG G tg) (wpTo G c) (wpE G e)
  | .rng tp lo hi => fun s h Q X => wpEo G lo s h (fun l h1 => wpE G hi s h1 (fun y h2 => match y with
    | .int n => in62 (l.getD 0) ∧ in62 n ∧ n - l.getD 0 ≤ 1000000 ∧ (match tp with
      | true => Q (.tup (rngD (l.getD 0) n)) h2
      | false => ∀ p, h2 p = none → Q (.ref p) (aput h2 p (.lst (rngD (l.getD 0) n))))
    | _ => False) X) X
  | .dct ks es => fun s h Q X => ∀ p, h p = none → wpEs G es s (aput h p (.dct [])) (fun ds h2 => ds.length = ks.length ∧ h2 p = some (.dct []) ∧ Q (.ref p) (aput h2 p (.dct (ks.zip ds)))) X
  | .isi t e => fun s h Q X => wpE G e s h (fun x h1 => tyD x h1 fun k => Q (.bl (isiB k t)) h1) X
  | .rev e => fun s h Q X => wpE G e s h (fun x h1 => revD x h1 Q) X
  | .up e => fun s h Q X => wpE G e s h (fun x h1 => upD x h1 Q) X
  | .get2 e k z => fun s h Q X => wpE G e s h (fun d h1 => isDct d h1 ∧ wpE G k s h1 (fun y h2 => wpE G z s h2 (fun u h3 => get2D d y u h3 Q) X) X) X
  | .kb o e i ko => fun s h Q X => wpE G e s h (fun x h1 => kbD G.lam o ko s[i]? x h1 Q) X
  | .lset e => fun s h Q X => wpE G e s h (fun x h1 => match x with
    | .ref a => ∃ ns : List Int, isL h1 a (ns.map D.int) ∧ ns.length ≤ 4000 ∧ Q (.int (dedI ns).length) h1
    | _ => False) X
  | .sset e => fun s h Q X => wpE G e s h (fun x h1 => match x with
    | .tup ds => ∃ ns : List Int, ds = ns.map D.int ∧ ns.length < 64 ∧ ∀ (ms : List Int) (p : Addr), ms.Pairwise (· < ·) → (∀ k, k ∈ ms ↔ k ∈ ns) → h1 p = none → Q (.ref p) (aput h1 p (.lst (ms.map D.int)))
    | .ref b => ∃ ns : List Int, isL h1 b (ns.map D.int) ∧ ns.length ≤ 4000 ∧ ∀ (ms : List Int) (p : Addr), ms.Pairwise (· < ·) → (∀ k, k ∈ ms ↔ k ∈ ns) → h1 p = none → Q (.ref p) (aput h1 p (.lst (ms.map D.int)))
    | _ => False) X
  | .xis _ cs e => fun s h Q X => wpE G e s h (fun x h1 => xisD G cs x h1 Q) X
  | .xf e f => fun s h Q X => wpE G e s h (fun x h1 => xfD G f x h1 Q) X
def wpEs (G : Ct) : Es → AA
  | .nil => fun _ h Q _ => Q [] h
  | .cons e es => fun s h Q X => wpE G e s h (fun x h1 => wpEs G es s h1 (fun xs h2 => Q (x :: xs) h2) X) X
def wpEo (G : Ct) : Eo → AS → AH → (Option Int → AH → Prop) → AXK → Prop
  | .no => fun _ h Q _ => Q none h
  | .yes e => fun s h Q X => wpE G e s h (fun x h1 => match x with
    | .int i => Q (some i) h1
    | _ => False) X
def wpT (G : Ct) : T → AT
  | .e e => fun s h Q X => wpE G e s h (fun x h1 => truD x h1 fun b => Q b h1) X
  | .cmp o a b => fun s h Q X => wpE G a s h (fun x h1 => wpE G b s h1 (fun y h2 => o.d x y h2 fun z h3 => match z with
    | .bl k => Q k h3
    | _ => False) X) X
  | .cmp2 o p a b c => fun s h Q X => wpE G a s h (fun x h1 => wpE G b s h1 (fun y h2 => o.d x y h2 fun z h3 => match z with
    | .bl true => wpE G c s h3 (fun u h4 => p.d y u h4 fun z h5 => match z with
      | .bl k => Q k h5
      | _ => False) X
    | .bl false => Q false h3
    | _ => False) X) X
  | .and_ a b => fun s h Q X => wpT G a s h (fun k h1 => if k = true then wpT G b s h1 Q X else Q false h1) X
  | .or_ a b => fun s h Q X => wpT G a s h (fun k h1 => if k = true then Q true h1 else wpT G b s h1 Q X) X
  | .not_ a => fun s h Q X => wpT G a s h (fun k h1 => Q (!k) h1) X
def wpTo (G : Ct) : To → AT
  | .no => fun _ h Q _ => Q true h
  | .yes t => wpT G t
def wpI (G : Ct) : It → AI
  | .e tm a => fun s h Q X => wpE G a s h (fun x h1 => seqI tm x h1 Q) X
  | .rng lo hi => fun s h Q X => wpEo G lo s h (fun l h1 => wpE G hi s h1 (fun y h2 => match y with
    | .int n => in62 (l.getD 0) ∧ in62 n ∧ Q (rngD (l.getD 0) n) h2 fun _ => True
    | _ => False) X) X
  | .zip ta tb a b => fun s h Q X => wpE G a s h (fun x h1 => wpE G b s h1 (fun y h2 => zipI ta tb x y h2 Q) X) X
  | .enum tm a => fun s h Q X => wpE G a s h (fun x h1 => enumI tm x h1 Q) X
  | .rv a => fun s h Q X => wpE G a s h (fun x h1 => match x with
    | .int n => in62 n ∧ Q (dnD ((n.toNat : Int) - 1) (-1)) h1 fun _ => True
    | _ => False) X
  | .dn a b => fun s h Q X => wpE G a s h (fun x h1 => wpE G b s h1 (fun y h2 => match x, y with
    | .int i, .int j => in62 i ∧ in62 j ∧ Q (dnD i j) h2 fun _ => True
    | _, _ => False) X) X
def wpG (G : Ct) : Tg → AG
  | .n i => fun d s h Q => Q (s.set i (some d)) h
  | .tup ts => fun d s h Q => match d with
    | .tup ds => ds.length = ts.len ∧ wpGs G ts ds s h Q
    | .pr ds => ds.length = ts.len ∧ wpGs G ts ds s h Q
    | .ref a => ∃ ds, isL h a ds ∧ ds.length = ts.len ∧ wpGs G ts ds s h Q
    | _ => False
  | .sub o i => fun d s h Q => wpE G o s h (fun x h1 => wpE G i s h1 (fun y h2 => setSub x y d h2 fun h3 => Q s h3) noX) noX
  | .sls o a c => fun d s h Q => wpE G o s h (fun x h1 => wpE G a s h1 (fun y h2 => wpE G c s h2 (fun z h3 => setSl x y z d h3 fun h4 => Q s h4) noX) noX) noX
def wpGs (G : Ct) : Tgs → AGs
  | .nil => fun ds s h Q => match ds with
    | [] => Q s h
    | _ => False
  | .cons t ts => fun ds s h Q => match ds with
    | d :: r => wpG G t d s h fun s1 h1 => wpGs G ts r s1 h1 Q
    | [] => False
end
def parQ (is : List Nat) (ds : List D) (s : AS) (Q : AS → Prop) : Prop := match is, ds with
  | [i, j], [d1, d2] => Q ((s.set i (some d1)).set j (some d2))
  | [i, j, l], [d1, d2, d3] => Q (((s.set i (some d1)).set j (some d2)).set l (some d3))
  | _, _ => False
/-- a loop over items -/
def forW (wi : AI) (wt : AG) (wb : AW) : AW := fun R s h => wi s h (fun ds h1 grd => ∃ I : Nat → AS → AH → Prop, I 0 s h1 ∧ ∀ i s2 h2, I i s2 h2 → grd h2 ∧
  (i = ds.length → R.nx s2 h2) ∧ ∀ d, ds[i]? = some d → wt d s2 h2 (fun s3 h3 =>
    wb { R with nx := fun s4 h4 => ∃ s5 h5, SSub s5 s4 ∧ Sub h5 h4 ∧ I (i + 1) s5 h5, ct := fun s4 h4 => ∃ s5 h5, SSub s5 s4 ∧ Sub h5 h4 ∧ I (i + 1) s5 h5, bk := R.nx } s3 h3)) fun x h1 => R.ex x s h1
def whlW (wc : AT) (wb : AW) : AW := fun R s h => ∃ I : Nat → AS → AH → Prop, (∃ m, I m s h) ∧ ∀ m s2 h2, I m s2 h2 → wc s2 h2 (fun k h3 => if k = true then
    wb { R with nx := fun s4 h4 => ∃ m' s5 h5, m' < m ∧ SSub s5 s4 ∧ Sub h5 h4 ∧ I m' s5 h5, ct := fun s4 h4 => ∃ m' s5 h5, m' < m ∧ SSub s5 s4 ∧ Sub h5 h4 ∧ I m' s5 h5, bk := R.nx } s2 h3
  else R.nx s2 h3) fun x h3 => R.ex x s2 h3
mutual
def wpS (G : Ct) : S → AW
  | .set t e => fun R s h => wpE G e s h (fun d h1 => wpG G t d s h1 R.nx) fun x h1 => R.ex x s h1
  | .par is es => fun R s h => wpEs G es s h (fun ds h1 => parQ is ds s fun s1 => R.nx s1 h1) fun x h1 => R.ex x s h1
  | .ex e => fun R s h => wpE G e s h (fun _ h1 => R.nx s h1) fun x h1 => R.ex x s h1
  | .ret e => fun R s h => wpE G e s h R.rt fun x h1 => R.ex x s h1
  | .retN => fun R _ h => R.rt .non h
  | .iff t a b => fun R s h => wpT G t s h (fun k h1 => if k = true then wpB G a R s h1 else wpB G b R s h1) fun x h1 => R.ex x s h1
  | .for_ t it b => forW (wpI G it) (wpG G t) (wpB G b)
  | .whl t b => whlW (wpT G t) (wpB G b)
  | .pass => fun R s h => R.nx s h
  | .brk => fun R s h => R.bk s h
  | .cont => fun R s h => R.ct s h
  | .dead => fun _ _ _ => False
  | .raise_ c es => fun R s h => match G.xc c with
    | none => False
    | some fs => wpEs G es s h (fun ds h1 => ds.length = fs.length ∧ R.ex ⟨c, (fs.zip ds).reverse⟩ s h1) fun x h1 => R.ex x s h1
  | .tryX nm c b u => fun R s h => (∃ c0 b0, G.xi c0 c = some b0) ∧ wpB G b { R with ex := fun x s1 h1 => ∃ k, G.xi x.cls c = some k ∧ (match k with
      | false => R.ex x s1 h1
      | true => ∀ a dd, (match nm with
        | some i => wpB { G with cx := some (a, x.cls, dd) } u { R with nx := fun s2 h2 => R.nx (s2.set i none) h2, bk := fun s2 h2 => R.bk (s2.set i none) h2, ct := fun s2 h2 => R.ct (s2.set i none) h2, ex := fun _ _ _ => False } (s1.set i (some (.exn a dd (x.fs.map (·.1)) (x.fs.map (·.2))))) h1
        | none => wpB G u { R with ex := fun _ _ _ => False } s1 h1)) } s h
  | .tryK i j c b _ => fun R s h => (∃ c0 b0, G.xi c0 c = some b0) ∧ wpB G b { R with ex := fun x s1 h1 => ∃ k, G.xi x.cls c = some k ∧ (match k with
      | false => R.ex x s1 h1
      | true => ∀ a dd, R.nx ((s1.set j (some (.err x.cls a dd (x.fs.map (·.1)) (x.fs.map (·.2))))).set i none) h1) } s h
def wpB (G : Ct) : Ss → AW
  | .nil => fun R s h => R.nx s h
  | .cons a b => fun R s h => wpS G a { R with nx := fun s1 h1 => wpB G b R s1 h1 } s h
end
/-- a def keeps its promise -/
def Meets (G : Ct) (slots : Nat) (b : Ss) (n : Nat) (c : ASp) : Prop := ∀ ds h Q X, ds.length = n → c ds h Q X →
  wpB G b { nx := fun _ h1 => ∃ h2, Sub h2 h1 ∧ Q .non h2, rt := fun d h1 => ∃ h2, Sub h2 h1 ∧ Q d h2, ex := fun x _ h1 => ∃ h2, Sub h2 h1 ∧ X x h2 } (ds.map some ++ List.replicate (slots - ds.length) none) h
end MP
/-! MP6: each piece of syntax keeps what its wp asks. -/
namespace MP
open PySem PySem.Spec PyProof.Rows L2

def XL (K : PySem.W.Frag) (mg : Str → Option Value) (W : WX) (h : AH) (H : Hp) (Ed : AXK) (σ : L2.St) : Prop :=
  ∀ xn h' cls d H', Ed xn h' → XRep K mg H' cls d xn → HRep K H' h' → Ext h H h' H' → W cls d σ H'
section
variable {K : PySem.W.Frag} {mg : Str → Option Value} {W : WX} {h h1 h2 : AH} {H H1 H2 : Hp} {Ed : AXK} {σ : L2.St} {Qd : AK} {Q : VK}
theorem XL.step (x : XL K mg W h H Ed σ) (e : Ext h H h1 H1) : XL K mg W h1 H1 Ed σ := fun xn h' cls d H' a b c f => x xn h' cls d H' a b c (e.trans f)
theorem Lnk.step (x : Lnk K h H Qd Q) (e : Ext h H h1 H1) : Lnk K h1 H1 Qd Q := fun dv h' v H' a b c f => x dv h' v H' a b c (e.trans f)
theorem XL.no : XL K mg W h H noX σ := fun _ _ _ _ _ a => a.elim
end

section
variable {X : Cx} {W : WX} {a b c : Expr} {wa wb wc : AE} {pos : Pos} {es : List Expr} {ws : AA} {x : Str}
theorem me_var {i : Nat} (hN : X.N[i]? = some x) (hv : Vis X.env.scope x) (hd : (x == ("__debug__" : Str)) = false) (hcd : (x == ("__classdict__" : Str)) = false) :
    ME X W (.Name x pos) (fun s h Q _ => match s[i]? with | some (some d) => Q d h | _ => False) := by
  refine (pe_var hN hv hd hcd).imp ?_
  rintro σ H Q ⟨s, h, Qd, Ed, rs, rh, hw, lx, lq⟩
  cases e : s[i]? with
  | none => simp only [e] at hw
  | some o =>
    cases o with
    | none => simp only [e] at hw
    | some d =>
      simp only [e] at hw
      obtain ⟨v, e1, r1⟩ := rs.2 i d e
      exact ⟨v, e1, Lnk.same lq rh hw r1⟩
theorem me_con {e : Expr} {v : V} {d : D} (hp : PE X e (L2.tC v)) (r : ∀ H, Rep X.K H d v) : ME X W e (fun _ h Q _ => Q d h) := by
  refine hp.imp ?_
  rintro σ H Q ⟨s, h, Qd, Ed, rs, rh, hw, lx, lq⟩
  exact Lnk.same lq rh hw (r H)
theorem me_bin {op : Operator} {o : D2} (ho : OpR X (binaryOp op) (lr2 X.K o)) (ha : ME X W a wa) (hb : ME X W b wb) :
    ME X W (.BinOp a op b pos) (fun s h Q E => wa s h (fun x h1 => wb s h1 (fun y h2 => o x y h2 Q) E) E) := by
  refine (pe_op ho ha hb).imp ?_
  rintro σ H Q ⟨s, h, Qd, Ed, rs, rh, hw, lx, lq⟩
  exact ⟨s, h, _, Ed, rs, rh, hw, lx, fun dx h1 x H1 q1 r1 rh1 e1 => ⟨s, h1, _, Ed, rs.ext rh e1, rh1, q1, XL.step lx e1, fun dy h2 y H2 q2 r2 rh2 e2 =>
    ⟨dx, dy, h2, Qd, Rep.ext rh1 e2 _ _ r1, r2, rh2, q2, (Lnk.step lq e1).step e2⟩⟩⟩
theorem me_neg (ha : ME X W a wa) : ME X W (.UnaryOp .USub a pos) (fun s h Q E => wa s h (fun x h1 => match x with
    | .int i => Q (.int (-i)) h1
    | _ => False) E) := by
  refine (pe_un un_neg ha).imp ?_
  rintro σ H Q ⟨s, h, Qd, Ed, rs, rh, hw, lx, lq⟩
  refine ⟨s, h, _, Ed, rs, rh, hw, lx, fun dx h1 x H1 q1 r1 rh1 e1 => ?_⟩
  cases dx <;> first | exact q1.elim | skip
  cases r1
  exact ⟨_, rfl, (Lnk.step lq e1).same rh1 q1 rfl⟩
theorem me_cmp {op : CmpOp} {o : D2} (ho : OpR X (compareOp op) (lr2 X.K o)) (ha : ME X W a wa) (hb : ME X W b wb) (hm : behindInMarks op b = false) :
    ME X W (.Compare a [op] [b] pos) (fun s h Q E => wa s h (fun x h1 => wb s h1 (fun y h2 => o x y h2 Q) E) E) := by
  refine (pe_cmpR ho ha hb hm).imp ?_
  rintro σ H Q ⟨s, h, Qd, Ed, rs, rh, hw, lx, lq⟩
  exact ⟨s, h, _, Ed, rs, rh, hw, lx, fun dx h1 x H1 q1 r1 rh1 e1 => ⟨s, h1, _, Ed, rs.ext rh e1, rh1, q1, XL.step lx e1, fun dy h2 y H2 q2 r2 rh2 e2 =>
    ⟨dx, dy, h2, Qd, Rep.ext rh1 e2 _ _ r1, r2, rh2, q2, (Lnk.step lq e1).step e2⟩⟩⟩
theorem mt_cmp {op : CmpOp} {o : D2} (ho : OpR X (compareOp op) (lr2 X.K o)) (ha : ME X W a wa) (hb : ME X W b wb) (hm : behindInMarks op b = false) :
    MT X W (.Compare a [op] [b] pos) (fun s h Q E => wa s h (fun x h1 => wb s h1 (fun y h2 => o x y h2 fun z h3 => match z with
    | .bl k => Q k h3
    | _ => False) E) E) := by
  refine (pt_cmpR ho ha hb hm).imp ?_
  rintro σ H Q ⟨s, h, Qd, Ed, rs, rh, hw, lx, lq⟩
  refine ⟨s, h, _, Ed, rs, rh, hw, lx, fun dx h1 x H1 q1 r1 rh1 e1 => ⟨s, h1, _, Ed, rs.ext rh e1, rh1, q1, XL.step lx e1, fun dy h2 y H2 q2 r2 rh2 e2 =>
    ⟨dx, dy, h2, _, Rep.ext rh1 e2 _ _ r1, r2, rh2, q2, fun dz h3 z H3 q3 r3 rh3 e3 => ?_⟩⟩⟩
  cases dz <;> first | exact q3.elim | skip
  cases r3
  exact ⟨_, rfl, lq _ _ _ q3 rh3 ((e1.trans e2).trans e3)⟩
/-- a chain's end: the first's answer, then the second -/
theorem chain_go {op op' : CmpOp} {o o' : D2} (ho : OpR X (compareOp op) (lr2 X.K o)) (ho' : OpR X (compareOp op') (lr2 X.K o')) (ha : ME X W a wa) (hb : ME X W b wb) (hc : ME X W c wc) :
    ∀ (σ : L2.St) (H : Hp) (Q : VK), liftE X.K X.mg W (fun s h Q E => wa s h (fun x h1 => wb s h1 (fun y h2 => o x y h2 fun z h3 => match z with
    | .bl true => wc s h3 (fun u h4 => o' y u h4 Q) E
    | .bl false => Q (.bl false) h3
    | _ => False) E) E) σ H Q → L2.tChain (lr2 X.K o) (lr2 X.K o') (liftE X.K X.mg W wa) (liftE X.K X.mg W wb) (liftE X.K X.mg W wc) σ H Q := by
  rintro σ H Q ⟨s, h, Qd, Ed, rs, rh, hw, lx, lq⟩
  refine ⟨s, h, _, Ed, rs, rh, hw, lx, fun dx h1 x H1 q1 r1 rh1 e1 => ⟨s, h1, _, Ed, rs.ext rh e1, rh1, q1, XL.step lx e1, fun dy h2 y H2 q2 r2 rh2 e2 =>
    ⟨dx, dy, h2, _, Rep.ext rh1 e2 _ _ r1, r2, rh2, q2, fun dz h3 z H3 q3 r3 rh3 e3 => ?_⟩⟩⟩
  have e13 := (e1.trans e2).trans e3
  match dz, q3, r3 with
  | .bl true, q3, r3 =>
    cases r3
    refine ⟨true, rfl, ?_⟩
    rw [if_pos rfl]
    exact ⟨s, h3, _, Ed, rs.ext rh e13, rh3, q3, XL.step lx e13, fun du h4 u H4 q4 r4 rh4 e4 => ⟨dy, du, h4, Qd, Rep.ext rh3 e4 _ _ (Rep.ext rh2 e3 _ _ r2), r4, rh4, q4, (Lnk.step lq e13).step e4⟩⟩
  | .bl false, q3, r3 =>
    cases r3
    refine ⟨false, rfl, ?_⟩
    rw [if_neg Bool.false_ne_true]
    exact (Lnk.step lq e13).same rh3 q3 rfl
theorem me_cmp2 {op op' : CmpOp} {o o' : D2} (ho : OpR X (compareOp op) (lr2 X.K o)) (ho' : OpR X (compareOp op') (lr2 X.K o')) (ha : ME X W a wa) (hb : ME X W b wb) (hc : ME X W c wc)
    (hm : PE X (.Compare a [op, op'] [b, c] pos) (L2.tChain (lr2 X.K o) (lr2 X.K o') (liftE X.K X.mg W wa) (liftE X.K X.mg W wb) (liftE X.K X.mg W wc))) :
    ME X W (.Compare a [op, op'] [b, c] pos) (fun s h Q E => wa s h (fun x h1 => wb s h1 (fun y h2 => o x y h2 fun z h3 => match z with
    | .bl true => wc s h3 (fun u h4 => o' y u h4 Q) E
    | .bl false => Q (.bl false) h3
    | _ => False) E) E) := hm.imp (chain_go ho ho' ha hb hc)
theorem me_and1 {op : BoolOp} (ha : ME X W a wa) : ME X W (.BoolOp op [a] pos) wa := pe_one ha
theorem me_and {r : List Expr} (ha : ME X W a wa) (hb : ME X W (.BoolOp .And (b :: r) pos) wb) : ME X W (.BoolOp .And (a :: b :: r) pos) (fun s h Q E => wa s h (fun x h1 => match x with
    | .bl true => wb s h1 Q E
    | .bl false => Q (.bl false) h1
    | _ => False) E) := by
  refine (pe_and ha hb).imp ?_
  rintro σ H Q ⟨s, h, Qd, Ed, rs, rh, hw, lx, lq⟩
  refine ⟨s, h, _, Ed, rs, rh, hw, lx, fun dx h1 x H1 q1 r1 rh1 e1 => ?_⟩
  match dx, q1, r1 with
  | .bl true, q1, r1 =>
    cases r1
    refine ⟨true, rfl, ?_⟩
    rw [if_pos rfl]
    exact ⟨s, h1, Qd, Ed, rs.ext rh e1, rh1, q1, XL.step lx e1, Lnk.step lq e1⟩
  | .bl false, q1, r1 =>
    cases r1
    refine ⟨false, rfl, ?_⟩
    rw [if_neg Bool.false_ne_true]
    exact (Lnk.step lq e1).same rh1 q1 rfl
theorem me_or {r : List Expr} (ha : ME X W a wa) (hb : ME X W (.BoolOp .Or (b :: r) pos) wb) : ME X W (.BoolOp .Or (a :: b :: r) pos) (fun s h Q E => wa s h (fun x h1 => match x with
    | .bl true => Q (.bl true) h1
    | .bl false => wb s h1 Q E
    | _ => False) E) := by
  refine (pe_or ha hb).imp ?_
  rintro σ H Q ⟨s, h, Qd, Ed, rs, rh, hw, lx, lq⟩
  refine ⟨s, h, _, Ed, rs, rh, hw, lx, fun dx h1 x H1 q1 r1 rh1 e1 => ?_⟩
  match dx, q1, r1 with
  | .bl false, q1, r1 =>
    cases r1
    refine ⟨false, rfl, ?_⟩
    rw [if_neg Bool.false_ne_true]
    exact ⟨s, h1, Qd, Ed, rs.ext rh e1, rh1, q1, XL.step lx e1, Lnk.step lq e1⟩
  | .bl true, q1, r1 =>
    cases r1
    refine ⟨true, rfl, ?_⟩
    rw [if_pos rfl]
    exact (Lnk.step lq e1).same rh1 q1 rfl
theorem me_ite {t : Expr} {wt : AT} (ht : MT X W t wt) (ha : ME X W a wa) (hb : ME X W b wb) : ME X W (.IfExp t a b pos) (fun s h Q E => wt s h (fun k h1 => if k = true then wa s h1 Q E else wb s h1 Q E) E) := by
  refine (pe_ifExp ht ha hb).imp ?_
  rintro σ H Q ⟨s, h, Qd, Ed, rs, rh, hw, lx, lq⟩
  refine ⟨s, h, _, Ed, rs, rh, hw, lx, fun k h1 H1 q1 rh1 e1 => ?_⟩
  cases k with
  | true => exact ⟨s, h1, Qd, Ed, rs.ext rh e1, rh1, q1, XL.step lx e1, Lnk.step lq e1⟩
  | false => exact ⟨s, h1, Qd, Ed, rs.ext rh e1, rh1, q1, XL.step lx e1, Lnk.step lq e1⟩
theorem me_ix (hu : X.A.units + 1 < cLine) (ha : ME X W a wa) (hb : ME X W b wb) (hs : PlainIx b) : ME X W (.Subscript a b pos) (fun s h Q E => wa s h (fun x h1 => wb s h1 (fun y h2 => ixD x y h2 Q) E) E) := by
  refine (pe_ix (lix hu) ha hb hs).imp ?_
  rintro σ H Q ⟨s, h, Qd, Ed, rs, rh, hw, lx, lq⟩
  exact ⟨s, h, _, Ed, rs, rh, hw, lx, fun dx h1 x H1 q1 r1 rh1 e1 => ⟨s, h1, _, Ed, rs.ext rh e1, rh1, q1, XL.step lx e1, fun dy h2 y H2 q2 r2 rh2 e2 =>
    ⟨dx, dy, h2, Qd, Rep.ext rh1 e2 _ _ r1, r2, rh2, q2, (Lnk.step lq e1).step e2⟩⟩⟩
/-- a slice's part -/
abbrev AO1 := AS → AH → (Option Int → AH → Prop) → AXK → Prop
def liftO (K : PySem.W.Frag) (mg : Str → Option Value) (W : WX) (w : AO1) : TO := fun σ H Q => ∃ (s : AS) (h : AH) (Qd : Option Int → AH → Prop) (Ed : AXK), SRep K H s σ ∧ HRep K H h ∧ w s h Qd Ed ∧
  XL K mg W h H Ed σ ∧ (∀ o h' H', Qd o h' → HRep K H' h' → Ext h H h' H' → Q o H')
abbrev MO (X : Cx) (W : WX) (e : Option Expr) (w : AO1) : Prop := PO X e (liftO X.K X.mg W w)
theorem mo_no : MO X W none (fun _ h Q _ => Q none h) := ⟨fun pins s σ H Q I ⟨s1, h, Qd, Ed, rs, rh, hw, lx, lq⟩ => po_none.run pins s σ H Q I (lq _ _ _ hw rh Ext.refl)⟩
theorem mo_yes (ha : ME X W a wa) : MO X W (some a) (fun s h Q E => wa s h (fun x h1 => match x with
    | .int i => Q (some i) h1
    | _ => False) E) := ⟨fun pins s σ H Q I ⟨s1, h, Qd, Ed, rs, rh, hw, lx, lq⟩ => (po_some ha).run pins s σ H Q I ⟨s1, h, _, Ed, rs, rh, hw, lx, fun dx h1 x H1 q1 r1 rh1 e1 => by
  cases dx <;> first | exact q1.elim | skip
  cases r1
  exact ⟨_, rfl, lq _ _ _ q1 rh1 e1⟩⟩⟩
theorem me_sl {lo hi : Option Expr} {wl wh : AO1} {p2 : Pos} (ha : ME X W a wa) (hl : MO X W lo wl) (hh : MO X W hi wh) :
    ME X W (.Subscript a (.Slice lo hi none p2) pos) (fun s h Q E => wa s h (fun x h1 => wl s h1 (fun l h2 => wh s h2 (fun u h3 => slD x l u h3 Q) E) E) E) := by
  refine (pe_slice lsl ha hl hh).imp ?_
  rintro σ H Q ⟨s, h, Qd, Ed, rs, rh, hw, lx, lq⟩
  exact ⟨s, h, _, Ed, rs, rh, hw, lx, fun dx h1 x H1 q1 r1 rh1 e1 => ⟨s, h1, _, Ed, rs.ext rh e1, rh1, q1, XL.step lx e1, fun l h2 H2 q2 rh2 e2 =>
    ⟨s, h2, _, Ed, (rs.ext rh e1).ext rh1 e2, rh2, q2, (XL.step lx e1).step e2, fun u h3 H3 q3 rh3 e3 =>
      ⟨dx, h3, Qd, Rep.ext rh2 e3 _ _ (Rep.ext rh1 e2 _ _ r1), rh3, q3, ((Lnk.step lq e1).step e2).step e3⟩⟩⟩⟩
/-! tests -/
theorem tru_sound {K : PySem.W.Frag} {H : Hp} {h : AH} {x : D} {v : V} {k : Bool → Prop} (r : Rep K H x v) (rh : HRep K H h) (t : truD x h k) : ∃ b, TruV K v H b ∧ k b := by
  cases x with
  | non => cases r; exact ⟨false, rfl, t⟩
  | bl b => cases r; exact ⟨b, rfl, t⟩
  | int b => cases r; exact ⟨_, rfl, t⟩
  | str b => cases r; exact ⟨_, ⟨t.1, rfl⟩, t.2⟩
  | tup ds =>
    obtain ⟨a, xs, rfl, st, q⟩ := r
    refine ⟨!ds.isEmpty, .inr (.inl ⟨xs, st.t, ?_⟩), t⟩
    have := q.length
    cases ds <;> cases xs <;> simp_all
  | pr ds => exact t.elim
  | cl ds =>
    obtain ⟨a, xs, rfl, st, q⟩ := r
    refine ⟨!ds.isEmpty, .inl ⟨xs, st.seq, ?_⟩, t⟩
    have := q.length
    cases ds <;> cases xs <;> simp_all
  | exn a b c d => exact t.elim
  | err a b c d e => exact t.elim
  | ref a =>
    cases r
    obtain ⟨ds, l, t⟩ := t
    obtain ⟨xs, st, q⟩ := rh.seq l
    refine ⟨!ds.isEmpty, .inl ⟨xs, st, ?_⟩, t⟩
    have := q.length
    cases ds <;> cases xs <;> simp_all
theorem mt_e (ha : ME X W a wa) (he : ∀ whole, isTrue a X.env whole = (do let v ← whole; standAt a.pos; holding [v] (truthy v))) : MT X W a (fun s h Q E => wa s h (fun x h1 => truD x h1 fun b => Q b h1) E) := by
  refine (pt_truth ha he).imp ?_
  rintro σ H Q ⟨s, h, Qd, Ed, rs, rh, hw, lx, lq⟩
  refine ⟨s, h, _, Ed, rs, rh, hw, lx, fun dx h1 x H1 q1 r1 rh1 e1 => ?_⟩
  obtain ⟨k, t, q⟩ := tru_sound r1 rh1 q1
  exact ⟨k, t, lq _ _ _ q rh1 e1⟩
theorem mt_cmp2 {op op' : CmpOp} {o o' : D2} (ho : OpR X (compareOp op) (lr2 X.K o)) (ho' : OpR X (compareOp op') (lr2 X.K o')) (ha : ME X W a wa) (hb : ME X W b wb) (hc : ME X W c wc)
    (hm : PT X (.Compare a [op, op'] [b, c] pos) (L2.tTest (L2.tChain (lr2 X.K o) (lr2 X.K o') (liftE X.K X.mg W wa) (liftE X.K X.mg W wb) (liftE X.K X.mg W wc)))) :
    MT X W (.Compare a [op, op'] [b, c] pos) (fun s h Q E => wa s h (fun x h1 => wb s h1 (fun y h2 => o x y h2 fun z h3 => match z with
    | .bl true => wc s h3 (fun u h4 => o' y u h4 fun z h5 => match z with
      | .bl k => Q k h5
      | _ => False) E
    | .bl false => Q false h3
    | _ => False) E) E) := by
  refine hm.imp ?_
  rintro σ H Q ⟨s, h, Qd, Ed, rs, rh, hw, lx, lq⟩
  refine chain_go ho ho' ha hb hc σ H _ ⟨s, h, (fun z h5 => match z with
      | .bl k => Qd k h5
      | _ => False), Ed, rs, rh, ?_, lx, ?_⟩
  · exact hw
  · intro dv h' v H' q r rh' e
    cases dv <;> first | exact q.elim | skip
    cases r
    exact ⟨_, rfl, lq _ _ _ q rh' e⟩
abbrev MW (X : Cx) (W : WX) (e : Expr) (w : AT) : Prop := PW X e (liftT X.K X.mg W w)
variable {wt wu : AT}
theorem mw_and1 (ha : MT X W a wt) : MW X W (.BoolOp .And [a] pos) wt := pw_and1 ha
theorem mw_or1 (ha : MT X W a wt) : MW X W (.BoolOp .Or [a] pos) wt := pw_or1 ha
theorem mw_and {r : List Expr} (ha : MT X W a wt) (hb : MW X W (.BoolOp .And (b :: r) pos) wu) : MW X W (.BoolOp .And (a :: b :: r) pos) (fun s h Q E => wt s h (fun k h1 => if k = true then wu s h1 Q E else Q false h1) E) := by
  refine (pw_and ha hb).imp ?_
  rintro σ H Q ⟨s, h, Qd, Ed, rs, rh, hw, lx, lq⟩
  refine ⟨s, h, _, Ed, rs, rh, hw, lx, fun k h1 H1 q1 rh1 e1 => ?_⟩
  cases k with
  | true => exact ⟨s, h1, Qd, Ed, rs.ext rh e1, rh1, q1, XL.step lx e1, fun b h' H' q r e => lq b h' H' q r (e1.trans e)⟩
  | false => exact lq _ _ _ q1 rh1 e1
theorem mw_or {r : List Expr} (ha : MT X W a wt) (hb : MW X W (.BoolOp .Or (b :: r) pos) wu) : MW X W (.BoolOp .Or (a :: b :: r) pos) (fun s h Q E => wt s h (fun k h1 => if k = true then Q true h1 else wu s h1 Q E) E) := by
  refine (pw_or ha hb).imp ?_
  rintro σ H Q ⟨s, h, Qd, Ed, rs, rh, hw, lx, lq⟩
  refine ⟨s, h, _, Ed, rs, rh, hw, lx, fun k h1 H1 q1 rh1 e1 => ?_⟩
  cases k with
  | false => exact ⟨s, h1, Qd, Ed, rs.ext rh e1, rh1, q1, XL.step lx e1, fun b h' H' q r e => lq b h' H' q r (e1.trans e)⟩
  | true => exact lq _ _ _ q1 rh1 e1
theorem mt_not (ha : MT X W a wt) : MT X W (.UnaryOp .Not a pos) (fun s h Q E => wt s h (fun k h1 => Q (!k) h1) E) := by
  refine (pt_not ha).imp ?_
  rintro σ H Q ⟨s, h, Qd, Ed, rs, rh, hw, lx, lq⟩
  exact ⟨s, h, _, Ed, rs, rh, hw, lx, fun k h1 H1 q1 rh1 e1 => lq _ _ _ q1 rh1 e1⟩
/-- not, as a value -/
theorem me_not (ha : ME X W a wa) : ME X W (.UnaryOp .Not a pos) (fun s h Q E => wa s h (fun x h1 => truD x h1 fun b => Q (.bl (!b)) h1) E) := by
  refine (pe_notT ha).imp ?_
  rintro σ H Q ⟨s, h, Qd, Ed, rs, rh, hw, lx, lq⟩
  refine ⟨s, h, _, Ed, rs, rh, hw, lx, fun dx h1 x H1 q1 r1 rh1 e1 => ?_⟩
  obtain ⟨k, t, q⟩ := tru_sound r1 rh1 q1
  exact ⟨k, t, (Lnk.step lq e1).same rh1 q rfl⟩
/-! argument lists, displays -/
theorem ma_nil : MA X W [] (fun _ h Q _ => Q [] h) := by
  refine pa_nil.imp ?_
  rintro σ H Q ⟨s, h, Qd, Ed, rs, rh, hw, lx, lq⟩
  exact lq _ _ _ _ hw rfl rh Ext.refl
theorem ma_cons (ha : ME X W a wa) (hr : MA X W es ws) (hs : starEach (a :: es) X.env = (false, eval a X.env) :: starEach es X.env) : MA X W (a :: es) (fun s h Q E => wa s h (fun x h1 => ws s h1 (fun xs h2 => Q (x :: xs) h2) E) E) := by
  refine (pa_cons ha hr hs).imp ?_
  rintro σ H Q ⟨s, h, Qd, Ed, rs, rh, hw, lx, lq⟩
  exact ⟨s, h, _, Ed, rs, rh, hw, lx, fun dx h1 x H1 q1 r1 rh1 e1 => ⟨s, h1, _, Ed, rs.ext rh e1, rh1, q1, XL.step lx e1, fun ds h2 xs H2 q2 r2 rh2 e2 =>
    lq _ _ _ _ q2 ⟨x, xs, rfl, Rep.ext rh1 e2 _ _ r1, r2⟩ rh2 (e1.trans e2)⟩⟩
theorem me_tup {k : Nat} (h : MA X W es ws) : ME X W (.Tuple es k pos) (fun s h Q E => ws s h (fun ds h1 => ds.length ≤ sizeLine ∧ Q (.tup ds) h1) E) := by
  refine (tup_display h).imp ?_
  rintro σ H Q ⟨s, h, Qd, Ed, rs, rh, hw, lx, lq⟩
  exact ⟨s, h, _, Ed, rs, rh, hw, lx, fun ds h1 vs H1 q1 r1 rh1 e1 => ⟨by rw [r1.length]; exact q1.1, (Lnk.step lq e1).newT rh1 r1 q1.2⟩⟩
theorem me_lst (h : MA X W es ws) : ME X W (.List es pos) (fun s h Q E => ws s h (fun ds h1 => ds.length ≤ sizeLine ∧ ∀ p, h1 p = none → Q (.ref p) (aput h1 p (.lst ds))) E) := by
  refine (pe_lst h).imp ?_
  rintro σ H Q ⟨s, h, Qd, Ed, rs, rh, hw, lx, lq⟩
  exact ⟨s, h, _, Ed, rs, rh, hw, lx, fun ds h1 vs H1 q1 r1 rh1 e1 => ⟨by rw [r1.length]; exact q1.1, (Lnk.step lq e1).newL rh1 r1 q1.2⟩⟩
theorem me_bi {b : Bi} {e : Expr} {p : Pos} (hc : CallR X b.val (lrL X.K b.d)) (hg : Gl X b.nm) (hm : X.mg b.nm = none) (ha : MA X W (e :: es) ws) (hdb : (b.nm == ("__debug__" : Str)) = false)
    (hs : starEach (e :: es) X.env = (false, eval e X.env) :: starEach es X.env) (hpl : (backTo pos (starEach es X.env)).any (·.1) = false) :
    ME X W (.Call (.Name b.nm p) (e :: es) [] pos) (fun s h Q E => ws s h (fun ds h1 => b.d ds h1 Q) E) := by
  have go : ∀ (σ : L2.St) (H : Hp) (Q : VK), liftE X.K X.mg W (fun s h Q E => ws s h (fun ds h1 => b.d ds h1 Q) E) σ H Q → L2.tCB (lrL X.K b.d) (liftA X.K X.mg W ws) σ H Q := by
    rintro σ H Q ⟨s, h, Qd, Ed, rs, rh, hw, lx, lq⟩
    exact ⟨s, h, _, Ed, rs, rh, hw, lx, fun ds h1 vs H1 q1 r1 rh1 e1 => ⟨ds, h1, Qd, r1, rh1, q1, Lnk.step lq e1⟩⟩
  have hn : b.nm ≠ "__name__" := by cases b <;> decide
  have hv := b.boot
  cases hb : b.val with
  | builtin id =>
    rw [hb] at hc hv
    exact (pe_callB hc hg hm hv ha hn hdb hs hpl).imp go
  | type id =>
    rw [hb] at hc hv
    exact (pe_callTy hc hg hm hv ha hn hdb hs hpl).imp go
  | _ => cases b <;> cases hb
/-! dict displays -/
theorem mergeK_nodup : ∀ (kvs acc : List (Key × V)), (kvs.map (·.1)).Nodup → (∀ k, k ∈ kvs.map (·.1) → (acc.any fun kv => decide (kv.1 = k)) = false) → mergeK acc kvs = acc ++ kvs
  | [], acc, _, _ => (List.append_nil acc).symm
  | p :: r, acc, h1, h2 => by
    rw [List.map_cons] at h1 h2
    obtain ⟨n1, n2⟩ := List.nodup_cons.mp h1
    have e : putK acc p.1 p.2 = acc ++ [p] := by
      unfold putK
      rw [if_neg (by rw [h2 p.1 (List.mem_cons_self ..)]; exact Bool.false_ne_true)]
    show mergeK (putK acc p.1 p.2) r = _
    rw [e, mergeK_nodup r _ n2 fun k hk => ?_, List.append_assoc]; rfl
    rw [List.any_append, h2 k (List.mem_cons_of_mem _ hk), Bool.false_or, List.any_cons, List.any_nil, Bool.or_false]
    exact decide_eq_false fun z => n1 (by rw [z]; exact hk)
/-- the keys and values of a display -/
structure MPs (X : Cx) (W : WX) (pos : Pos) (ks : List (Option Expr)) (vs : List Expr) (keys : List Key) (w : AA) : Prop where
  ok : ∃ trs, PPs X pos ks vs trs ∧ ∀ σ H (Q : List (V × V) → Hp → Prop), liftA X.K X.mg W w σ H (fun xs H' => xs.length = keys.length ∧ Q ((keys.zip xs).map fun kv => (kV kv.1, kv.2)) H') → tPairs trs σ H Q
theorem mps_nil : MPs X W pos [] [] [] (fun _ h Q _ => Q [] h) := ⟨[], pps_nil, fun σ H Q ⟨s, h, Qd, Ed, rs, rh, hw, lx, lq⟩ => (lq _ _ _ _ hw rfl rh Ext.refl).2⟩
/-- a constant that is a key -/
def kConst : Key → Const
  | .inl i => .int i
  | .inr x => .str x
theorem pe_key {k : Key} {j : Nat} {p : Pos} : PE X (.Constant (kConst k) j p) (tC (kV k)) := by
  cases k with
  | inl i => exact pe_int
  | inr x => exact pe_str
theorem mps_cons {k : Key} {j : Nat} {p : Pos} {ks : List (Option Expr)} {vs : List Expr} {keys : List Key} (ha : ME X W a wa) (hr : MPs X W pos ks vs keys ws) :
    MPs X W pos (some (.Constant (kConst k) j p) :: ks) (a :: vs) (k :: keys) (fun s h Q E => wa s h (fun x h1 => ws s h1 (fun xs h2 => Q (x :: xs) h2) E) E) := by
  obtain ⟨trs, h1, h2⟩ := hr.ok
  refine ⟨(tC (kV k), liftE X.K X.mg W wa) :: trs, pps_cons pe_key ha h1, ?_⟩
  rintro σ H Q ⟨s, h, Qd, Ed, rs, rh, hw, lx, lq⟩
  refine ⟨s, h, _, Ed, rs, rh, hw, lx, fun dx h3 x H1 q1 r1 rh1 e1 => ?_⟩
  refine h2 σ H1 _ ⟨s, h3, _, Ed, rs.ext rh e1, rh1, q1, XL.step lx e1, fun ds h4 xs H2 q2 r2 rh2 e2 => ?_⟩
  obtain ⟨n1, n2⟩ := lq _ _ _ _ q2 ⟨x, xs, rfl, Rep.ext rh1 e2 _ _ r1, r2⟩ rh2 (e1.trans e2)
  exact ⟨by simpa using n1, n2⟩
theorem me_dct0 : ME X W (.Dict [] [] pos) (fun s h Q E => ∀ p, h p = none → (0 = 0 ∧ (aput h p (.dct [])) p = some (.dct []) ∧ Q (.ref p) (aput (aput h p (.dct [])) p (.dct [])))) := by
  refine pe_dnewK.imp ?_
  rintro σ H Q ⟨s, h, Qd, Ed, rs, rh, hw, lx, lq⟩ p hp
  have hq := (hw p (rh.fresh hp)).2.2
  have e : aput (aput h p (.dct [])) p (.dct []) = aput h p (.dct []) := by funext b; unfold aput; split <;> rfl
  rw [e] at hq
  exact lq _ _ _ _ hq rfl (rh.put hp ⟨[], upd_same, rfl, rfl⟩) (ext_put hp)
theorem me_dct {ks : List (Option Expr)} {vs : List Expr} {keys : List Key} (h : MPs X W pos ks vs keys ws) (hn : keys.Nodup) (hall : ks.all (·.isSome) = true) (hl : ks.length = vs.length) (h0 : ks ≠ []) (h15 : ks.length ≤ 15) (hk : keys.length = ks.length) :
    ME X W (.Dict ks vs pos) (fun s h Q E => ∀ p, h p = none → ws s (aput h p (.dct [])) (fun ds h2 => ds.length = keys.length ∧ h2 p = some (.dct []) ∧ Q (.ref p) (aput h2 p (.dct (keys.zip ds)))) E) := by
  obtain ⟨trs, h1, h2⟩ := h.ok
  refine (pe_disp h1 hall hl h0 h15).imp ?_
  rintro σ H Q ⟨s, h, Qd, Ed, rs, rh, hw, lx, lq⟩ p hp
  have hpn := rh.fresh hp
  have rh0 : HRep X.K (upd H p (.dK [])) (aput h p (.dct [])) := rh.put hp ⟨[], upd_same, rfl, rfl⟩
  have e0 : Ext h H (aput h p (.dct [])) (upd H p (.dK [])) := ext_put hp
  refine h2 σ _ _ ⟨s, aput h p (.dct []), _, Ed, rs.ext rh e0, rh0, hw p hpn, XL.step lx e0, fun ds h3 xs H2 q2 r2 rh2 e2 => ?_⟩
  obtain ⟨hlen, hd, hq⟩ := q2
  have hx : xs.length = keys.length := r2.length.trans hlen
  obtain ⟨us, e3, q3⟩ := rh2.dct hd
  have e4 := q3.nil_of
  subst e4
  refine ⟨hx, e3, keys.zip xs, rfl, ?_, ?_⟩
  · rw [List.length_zip]; omega
  · have hkx : (keys.zip xs).map (·.1) = keys := List.map_fst_zip (by omega)
    rw [mergeK_nodup _ _ (by rw [hkx]; exact hn) (fun _ _ => rfl), List.nil_append]
    have ew : Ext h3 H2 (aput h3 p (.dct (keys.zip ds))) (upd H2 p (.dK (keys.zip xs))) := ext_write hd
    refine lq _ _ _ _ hq rfl (rh2.write hd ⟨_, upd_same, ?_, ?_⟩) ((e0.trans e2).trans ew)
    · rw [hkx, List.map_fst_zip (by omega)]
    · rw [List.map_snd_zip (by omega), List.map_snd_zip (by omega)]
      exact Reps.ext rh2 ew _ _ r2
/-! isinstance -/
theorem kit_all : ∀ (a : TK) (t : Ty), kitB a.nm t.nm = some (isiB a t) := by
  intro a t
  cases a <;> cases t <;> decide +kernel
theorem tyD_rep {K : PySem.W.Frag} {H : Hp} {h : AH} {d : D} {v : V} {Q : TK → Prop} (r : Rep K H d v) (rh : HRep K H h) (q : tyD d h Q) : ∃ k : TK, TyX K H v (.type k.nm) ∧ Q k := by
  cases d with
  | non => cases r; exact ⟨.non, .base .non, q⟩
  | bl b => cases r; exact ⟨.bl, .base (.bl b), q⟩
  | int b => cases r; exact ⟨.int, .base (.int b), q⟩
  | str b => cases r; exact ⟨.str, .base (.str b), q⟩
  | tup ds =>
    obtain ⟨a, xs, rfl, ⟨o, t, _⟩, _⟩ := r
    exact ⟨.tup, .fTuple t, q⟩
  | pr ds =>
    obtain ⟨a, xs, rfl, t, _⟩ := r
    refine ⟨.tup, ?_, q⟩
    rcases t with (t | ⟨o, t⟩) | ⟨o, its, n, t1, t2, t3⟩
    · exact .base (.tup t)
    · exact .fTuple t
    · exact .kTuple t1 t2
  | cl ds =>
    obtain ⟨a, xs, rfl, t, _⟩ := r
    refine ⟨.lst, ?_, q⟩
    rcases t.seq with (t | ⟨o, t⟩) | ⟨o, its, n, t1, t2, t3⟩
    · exact .base (.lst t)
    · exact .base (.frz t)
    · exact .kList t1 t2
  | exn a b c d => exact q.elim
  | err a b c d e => exact q.elim
  | ref a =>
    cases r
    rcases q with ⟨ds, l, q⟩ | ⟨kvs, l, q⟩
    · obtain ⟨xs, t, _⟩ := rh.seq l
      refine ⟨.lst, ?_, q⟩
      rcases t with (t | ⟨o, t⟩) | ⟨o, its, n, t1, t2, t3⟩
      · exact .base (.lst t)
      · exact .base (.frz t)
      · exact .kList t1 t2
    · obtain ⟨us, t, _⟩ := rh.dct l
      exact ⟨.dct, .base (.dK t), q⟩
def Ty.s (t : Ty) : Str := Str.ofString t.nm
theorem Ty.boot : ∀ t : Ty, bootBuiltins t.s = some (.type t.nm) := by
  intro t; cases t <;> decide +kernel
theorem me_isi {t : Ty} {p p2 : Pos} (ha : ME X W a wa) (hg : Gl X "isinstance") (hm : X.mg "isinstance" = none) (hg2 : Gl X t.s) (hm2 : X.mg t.s = none)
    (hs : starEach [a, .Name t.s p2] X.env = (false, eval a X.env) :: starEach [.Name t.s p2] X.env) :
    ME X W (.Call (.Name "isinstance" p) [a, .Name t.s p2] [] pos) (fun s h Q E => wa s h (fun x h1 => tyD x h1 fun k => Q (.bl (isiB k t)) h1) E) := by
  have hT : PE X (.Name t.s p2) (tC (.ty t.nm)) := pe_bltn hg2 hm2 t.boot rfl (by cases t <;> decide) (by cases t <;> decide)
  refine (pe_callB call_isi hg hm PyProof.Rows.boot_isinstance (pa_cons ha (pa_cons hT pa_nil rfl) hs) (by decide) (by decide) hs rfl).imp ?_
  rintro σ H Q ⟨s, h, Qd, Ed, rs, rh, hw, lx, lq⟩
  refine ⟨s, h, _, Ed, rs, rh, hw, lx, fun dx h1 x H1 q1 r1 rh1 e1 => ?_⟩
  obtain ⟨k, ty, q⟩ := tyD_rep r1 rh1 q1
  exact ⟨x, _, _, _, _, rfl, .ty t.nm, ty, kit_ty (kit_all k t), lq _ _ _ _ q rfl rh1 e1⟩
/-! len(set(xs)) -/
theorem firstMet_ded (ns : List Int) : PyProof.Rows.firstMet (fun i => ns.getD i 0) ns.length = dedI ns := by
  unfold PyProof.Rows.firstMet
  have e : (List.range ns.length).map (fun i => ns.getD i 0) = ns := by
    refine List.ext_getElem (by simp) fun i h1 h2 => ?_
    rw [List.getElem_map, List.getElem_range, List.getD_eq_getElem?_getD, List.getElem?_eq_getElem h2]; rfl
  rw [e]; rfl
theorem ded_len : ∀ (ns acc : List Int), (ns.foldl (fun l x => if (l.any fun y => y == x) = true then l else l ++ [x]) acc).length ≤ acc.length + ns.length
  | [], acc => Nat.le_refl _
  | n :: ns, acc => by
    rw [List.foldl_cons]
    refine Nat.le_trans (ded_len ns _) ?_
    split
    · rw [List.length_cons]; omega
    · rw [List.length_append]; simp only [List.length_cons, List.length_nil]; omega
def tLenSetU (K : PySem.W.Frag) (ta : TE) : TE := fun σ H Q => ta σ H fun x H1 => ∃ (l : Addr) (ns : List Int), x = .ref l ∧ SqL K H1 l (ns.map V.int) ∧ ns.length ≤ 4000 ∧ Q (.int ((dedI ns).length : Nat)) H1
theorem pe_lenSetU {ta : TE} {p p2 q : Pos} (hg : Gl X "len") (hm : X.mg "len" = none) (hg2 : Gl X "set") (hm2 : X.mg "set" = none) (ha : PE X a ta) (hc : X.calm = true)
    (na : starEach [a] X.env = (false, eval a X.env) :: starEach [] X.env) : PE X (.Call (.Name "len" p) [.Call (.Name "set" p2) [a] [] q] [] pos) (tLenSetU X.K ta) := by
  refine ⟨fun pins s σ H Q I h => ?_⟩
  refine Call_ (ld_blt I hg hm boot_len ?_)
  refine PyProof.Rows.callWith_builtin1 (PyProof.Rows.args_cons ?_ rfl) rfl rfl
  refine Call_ (ld_blt I hg2 hm2 boot_set ?_)
  refine PyProof.Rows.callWith_type1 (PyProof.Rows.args_cons (thn (ha.run pins s σ H _ I h) fun v s1 ⟨x, H1, I1, r1, q1⟩ => PyProof.Rows.args_nil ?_) na) na rfl
  obtain ⟨l, ns, rfl, hq, hl, q1⟩ := q1
  cases r1
  obtain ⟨its, r, pl, hz⟩ := I1.list hq
  have hlen : its.toArray.size = ns.length := by rw [List.size_toArray, ← r.length, List.length_map]
  refine call_set_list (I1.ok.hd hc) pl.isList (by simpa using RZ.intsAre_vals r) (by rw [hlen]; unfold scanBound; omega) fun h' tk hS hk => ?_
  refine PyProof.Rows.args_nil ?_
  rw [hlen, firstMet_ded] at hS
  obtain ⟨o, es, ep, t, ho, hex, hd, _, _, _, hf, hn⟩ := hS
  have I2 : L2.Inv X pins σ H1 { s1 with heap := h', toks := tk } := I1.kept fun b o e => hk b o (Heap.lt_size e) e
  have dl : (dedI ns).length ≤ ns.length := by have := ded_len ns []; simpa [dedI] using this
  exact call_len_set ho hex hd hf (by rw [hn] <;> omega) ⟨.int (dedI ns).length, H1, I2.tok _, ⟨_, by rw [hn]⟩, q1⟩
theorem me_lset {p p2 q : Pos} (ha : ME X W a wa) (hg : Gl X "len") (hm : X.mg "len" = none) (hg2 : Gl X "set") (hm2 : X.mg "set" = none) (hc : X.calm = true)
    (na : starEach [a] X.env = (false, eval a X.env) :: starEach [] X.env) :
    ME X W (.Call (.Name "len" p) [.Call (.Name "set" p2) [a] [] q] [] pos) (fun s h Q E => wa s h (fun x h1 => match x with
      | .ref b => ∃ ns : List Int, isL h1 b (ns.map D.int) ∧ ns.length ≤ 4000 ∧ Q (.int (dedI ns).length) h1
      | _ => False) E) := by
  refine (pe_lenSetU hg hm hg2 hm2 ha hc na).imp ?_
  rintro σ H Q ⟨s, h, Qd, Ed, rs, rh, hw, lx, lq⟩
  refine ⟨s, h, _, Ed, rs, rh, hw, lx, fun dx h1 x H1 q1 r1 rh1 e1 => ?_⟩
  cases dx <;> first | exact q1.elim | skip
  rename_i b
  cases r1
  obtain ⟨ns, l, hl, q2⟩ := q1
  obtain ⟨xs, t, q⟩ := rh1.seq l
  have e := q.ints; subst e
  exact ⟨b, ns, rfl, t, hl, lq _ _ _ _ q2 rfl rh1 e1⟩
/-! sorted(set(t)) of a tuple of ints -/
def tSortSetU (K : PySem.W.Frag) (ta : TE) : TE := fun σ H Q => ta σ H fun x H1 => ∃ (l : Addr) (ns : List Int), x = .ref l ∧ (SqT K H1 l (ns.map V.int) ∧ ns.length < 64 ∨ SqL K H1 l (ns.map V.int) ∧ ns.length ≤ 4000) ∧
  ∀ (ms : List Int) (p : Addr), ms.Pairwise (· < ·) → (∀ k, k ∈ ms ↔ k ∈ ns) → H1 p = none → Q (.ref p) (upd H1 p (.lst (ms.map V.int)))
theorem pe_sortSetU {ta : TE} {p p2 q : Pos} (hg : Gl X "sorted") (hm : X.mg "sorted" = none) (hg2 : Gl X "set") (hm2 : X.mg "set" = none) (ha : PE X a ta) (hc : X.calm = true)
    (na : starEach [a] X.env = (false, eval a X.env) :: starEach [] X.env) : PE X (.Call (.Name "sorted" p) [.Call (.Name "set" p2) [a] [] q] [] pos) (tSortSetU X.K ta) := by
  refine ⟨fun pins s σ H Q I h => ?_⟩
  refine Call_ (ld_blt I hg hm PyProof.Rows.boot_sorted ?_)
  refine PyProof.Rows.callWith_builtin1 (PyProof.Rows.args_cons ?_ rfl) rfl rfl
  refine Call_ (ld_blt I hg2 hm2 boot_set ?_)
  refine PyProof.Rows.callWith_type1 (PyProof.Rows.args_cons (thn (ha.run pins s σ H _ I h) fun v s1 ⟨x, H1, I1, r1, q1⟩ => PyProof.Rows.args_nil ?_) na) na rfl
  obtain ⟨l, ns, rfl, hq, q1⟩ := q1
  cases r1
  have go : ∀ (h' : Heap) (tk c : Nat), SetR X.w h' s1.heap.objs.size (fun j => decide (j ∈ ns)) c → c ≤ 4000 → (∀ b o, s1.heap.get? b = some o → h'.get? b = some o) →
      wpAny (model X.prog X.w) X.A (call (.builtin "sorted") [.ref s1.heap.objs.size]) (EP X pins σ Q) X.xe { s1 with heap := h', toks := tk } := by
    intro h' tk c R hcl hk
    have I2 : L2.Inv X pins σ H1 { s1 with heap := h', toks := tk } := I1.kept hk
    refine sorted_setAny R (I2.ok.hd hc) fun s' p out c2 ms k g o hp hg hi hs hmem hl2 => ?_
    have hlen : (ms.map V.int).length ≤ sizeLine := by rw [List.length_map, hl2, sizeLine_eq]; omega
    have hn : H1 p = none := I2.hok.fresh hp
    have J : L2.Inv X pins σ (upd H1 p (.lst (ms.map V.int))) { ({ s1 with heap := h', toks := tk } : Shared) with heap := s'.heap, gens := s'.gens, drawn := s'.drawn, toks := s'.toks } :=
      I2.call (ch := []) (Un.laid k hp hn) (I2.hok.laid k hp ⟨hlen, out.toList, c2, vals_of_ints hi, hg⟩) (by rw [g]; exact I2.bare) (fun _ z => nomatch z)
    have e : s' = { ({ s1 with heap := h', toks := tk } : Shared) with heap := s'.heap, gens := s'.gens, drawn := s'.drawn, toks := s'.toks } := by
      cases s'
      cases s1
      cases o
      rfl
    rw [e]
    exact ⟨.ref p, _, J, rfl, q1 ms p hs (fun k => by rw [hmem k, decide_eq_true_iff]) hn⟩
  rcases hq with ⟨hq, hl⟩ | ⟨hq, hl⟩
  · obtain ⟨its, rv, pl, hz⟩ := I1.tuple hq
    refine call_set_tupI ns (I1.ok.hd hc) (show s1.heap.IsTuple l its.toArray from pl) (show IntsAre its.toArray.toList ns from rv.ints) (by unfold scanBound; omega) fun h' tk c R hcl hk => ?_
    refine PyProof.Rows.args_nil ?_
    exact go h' tk c R (by omega) hk
  · obtain ⟨its, rv, pl, hz⟩ := I1.list hq
    refine set_listI ns (I1.ok.hd hc) pl.isList (show IntsAre its.toArray.toList ns from rv.ints) (by unfold scanBound; omega) fun h' tk c R hcl hk => ?_
    refine PyProof.Rows.args_nil ?_
    exact go h' tk c R (by omega) hk
theorem me_sset {p p2 q : Pos} (ha : ME X W a wa) (hg : Gl X "sorted") (hm : X.mg "sorted" = none) (hg2 : Gl X "set") (hm2 : X.mg "set" = none) (hc : X.calm = true)
    (na : starEach [a] X.env = (false, eval a X.env) :: starEach [] X.env) :
    ME X W (.Call (.Name "sorted" p) [.Call (.Name "set" p2) [a] [] q] [] pos) (fun s h Q E => wa s h (fun x h1 => match x with
      | .tup ds => ∃ ns : List Int, ds = ns.map D.int ∧ ns.length < 64 ∧ ∀ (ms : List Int) (p : Addr), ms.Pairwise (· < ·) → (∀ k, k ∈ ms ↔ k ∈ ns) → h1 p = none → Q (.ref p) (aput h1 p (.lst (ms.map D.int)))
      | .ref b => ∃ ns : List Int, isL h1 b (ns.map D.int) ∧ ns.length ≤ 4000 ∧ ∀ (ms : List Int) (p : Addr), ms.Pairwise (· < ·) → (∀ k, k ∈ ms ↔ k ∈ ns) → h1 p = none → Q (.ref p) (aput h1 p (.lst (ms.map D.int)))
      | _ => False) E) := by
  refine (pe_sortSetU hg hm hg2 hm2 ha hc na).imp ?_
  rintro σ H Q ⟨s, h, Qd, Ed, rs, rh, hw, lx, lq⟩
  refine ⟨s, h, _, Ed, rs, rh, hw, lx, fun dx h1 x H1 q1 r1 rh1 e1 => ?_⟩
  cases dx <;> first | exact q1.elim | skip
  · obtain ⟨ns, rfl, hl, q2⟩ := q1
    obtain ⟨a, xs, rfl, t, q⟩ := r1
    have e := q.ints; subst e
    exact ⟨a, ns, rfl, .inl ⟨t.t, hl⟩, fun ms p hs hm n => (Lnk.step lq e1).newL rh1 (Reps.of_ints _) (fun p n => q2 ms p hs hm n) p n⟩
  · rename_i b
    cases r1
    obtain ⟨ns, l, hl, q2⟩ := q1
    obtain ⟨xs, t, q⟩ := rh1.seq l
    have e := q.ints; subst e
    exact ⟨b, ns, rfl, .inr ⟨t, hl⟩, fun ms p hs hm n => (Lnk.step lq e1).newL rh1 (Reps.of_ints _) (fun p n => q2 ms p hs hm n) p n⟩
end
end MP
/-! MP7: calls, ranges, targets, iterations, comprehensions, statements. -/
namespace MP
open PySem PySem.Spec PyProof.Rows L2

def Mt.id : Mt → String
  | .append => "list.append" | .extend => "list.extend" | .pop => "list.pop" | .popAt => "list.pop" | .insert => "list.insert" | .reverse => "list.reverse" | .index => "list.index" | .remove => "list.remove" | .count => "list.count"
def Mt.args : Mt → Bool
  | .pop => false | .reverse => false | _ => true
theorem Mt.slot (m : Mt) : Slot "list" m.nm m.id := by
  cases m
  · exact PySem.F.slot_list_append
  · exact PySem.F.slot_list_extend
  · exact PySem.F.slot_list_pop
  · exact PySem.F.slot_list_pop
  · exact PySem.F.slot_list_insert
  · exact PySem.F.slot_list_reverse
  · exact PySem.F.slot_list_index
  · exact PySem.F.slot_list_remove
  · exact PySem.F.slot_list_count
theorem Mt.ty (m : Mt) : typeOf (.builtin m.id) = pure (.type "method_descriptor") := by
  cases m
  · exact PySem.F.type_list_append
  · exact PySem.F.type_list_extend
  · exact PySem.F.type_list_pop
  · exact PySem.F.type_list_pop
  · exact PySem.F.type_list_insert
  · exact PySem.F.type_list_reverse
  · exact PySem.F.type_list_index
  · exact PySem.F.type_list_remove
  · exact PySem.F.type_list_count
section
variable {X : Cx} {W : WX} {a b c e : Expr} {wa wb wc : AE} {pos : Pos} {es : List Expr} {ws : AA} {x : Str}
def Mt.dl : Mt → DM
  | .index => indexL
  | m => m.d
theorem Mt.ok (hu : X.A.units + 70 < cLine) : ∀ m : Mt, MtR X m.id (lrM X.K m.dl)
  | .append => lmt_append | .extend => lmt_extend | .pop => lmt_pop | .popAt => lmt_popAt | .insert => lmt_insert | .reverse => lmt_reverse | .index => lmt_index (by omega) | .remove => lmt_remove (by omega) | .count => lmt_count (by omega)
theorem lst_ty {K : PySem.W.Frag} {H : Hp} {h : AH} {d : D} {v : V} (i : isLst d h) (r : Rep K H d v) (rh : HRep K H h) : tyV K "list" v H := by
  obtain ⟨a, ds, rfl, l⟩ := i
  cases r
  obtain ⟨xs, q, _⟩ := rh.seq l
  exact .inl ⟨rfl, _, q⟩
theorem rcv_cases {m : Mt} {d : D} {h : AH} (i : rcvD m d h) : (isLst d h ∧ ∀ vs h2 Q, m.d d vs h2 Q → m.dl d vs h2 Q) ∨ (m = .index ∧ ∃ ds, d = .tup ds) := by
  unfold rcvD at i
  split at i
  · exact .inr ⟨rfl, _, rfl⟩
  · refine .inl ⟨i, fun vs h2 Q q => ?_⟩
    cases m <;> first | exact q | skip
    obtain ⟨a, ds, rfl, _⟩ := i
    exact q
theorem me_mt {m : Mt} {ap : Pos} (hu : X.A.units + 70 < cLine) (ho : ME X W a wa) (ha : MA X W (e :: es) ws) (hb : attributeBase a m.nm X.env (eval a X.env) = eval a X.env)
    (hk : (((((backTo pos (starEach (e :: es) X.env)).all fun x => !x.fst) && (backToKw pos (keywordEach [] X.env)).all fun x => x.fst.isSome) && decide (((e :: es).length + ([] : List Keyword).length + if ([] : List Keyword).isEmpty = true then 0 else 1) < 30)) = true))
    (hl : (ap.endLine == pos.line) = true) (hs : starEach (e :: es) X.env = (false, eval e X.env) :: starEach es X.env) (hpl : (backTo pos (starEach es X.env)).any (·.1) = false) :
    ME X W (.Call (.Attribute a m.nm ap) (e :: es) [] pos) (fun s h Q E => wa s h (fun x h1 => rcvD m x h1 ∧ ws s h1 (fun ds h2 => m.d x ds h2 Q) E) E) := by
  constructor
  rintro pins s σ H Q I ⟨s0, h, Qd, Ed, rs, rh, hw, lx, lq⟩
  have first := ho.run pins s σ H (fun x H1 => ∃ dx h1, Rep X.K H1 dx x ∧ HRep X.K H1 h1 ∧ Ext h H h1 H1 ∧ rcvD m dx h1 ∧ ws s0 h1 (fun ds h2 => m.d dx ds h2 Qd) Ed) I
    ⟨s0, h, _, Ed, rs, rh, hw, lx, fun dx h1 x H1 q1 r1 rh1 e1 => ⟨dx, h1, r1, rh1, e1, q1⟩⟩
  refine wpAny_Call_method_late hb hk hl rfl (thn first fun v st z => ?_)
  obtain ⟨x, H1, I1, rv, dx, h1, r1, rh1, e1, rc, q1⟩ := z
  have args : ∀ (f : DM), (∀ ds h2 Q, m.d dx ds h2 Q → f dx ds h2 Q) → wpAny (model X.prog X.w) X.A (spliced (backTo pos (starEach (e :: es) X.env))) (AP X pins σ fun vs H2 => lrM X.K f x vs H2 Q) X.xe st := fun f hf =>
    ha.run pos pins st σ H1 (fun vs H2 => lrM X.K f x vs H2 Q) I1 ⟨s0, h1, _, Ed, rs.ext rh e1, rh1, q1, XL.step lx e1, fun ds h2 vs H2 q2 r2 rh2 e2 => ⟨dx, ds, h2, Qd, Rep.ext rh1 e2 _ _ r1, r2, rh2, hf _ _ _ q2, (Lnk.step lq e1).step e2⟩⟩
  rcases rcv_cases rc with ⟨l, f⟩ | ⟨rfl, ds, rfl⟩
  · obtain ⟨k1, k2⟩ := tyV_is I1 rv (lst_ty l r1 rh1)
    refine ⟨"list", m.id, PySem.F.plainAttrs_list, m.slot, m.ty, k1, k2, ?_⟩
    have hA := args m.dl f
    rw [hs] at hA ⊢
    refine Calls.callWith_builtin (by show (false || (backTo pos (starEach es X.env)).any (·.1)) = false; rw [hpl] <;> rfl) (Calls.evalArgs_plain ?_)
    exact thn hA fun us s2 z => m.ok hu pins s2 σ z.choose_spec.choose x _ v us Q z.choose_spec.choose_spec.1 rv z.choose_spec.choose_spec.2.1 z.choose_spec.choose_spec.2.2
  · obtain ⟨a0, ys, rfl, nd, _⟩ := id r1
    cases rv
    obtain ⟨k1, k2⟩ := nd.is I1
    refine ⟨"tuple", "tuple.index", PySem.F.plainAttrs_tuple, PySem.F.slot_tuple_index, PySem.F.type_tuple_index, k1, k2, ?_⟩
    have hA := args indexT fun _ _ _ q => q
    rw [hs] at hA ⊢
    refine Calls.callWith_builtin (by show (false || (backTo pos (starEach es X.env)).any (·.1)) = false; rw [hpl] <;> rfl) (Calls.evalArgs_plain ?_)
    exact thn hA fun us s2 z => lmt_tindex (by omega) pins s2 σ z.choose_spec.choose (.ref a0) _ _ us Q z.choose_spec.choose_spec.1 rfl z.choose_spec.choose_spec.2.1 z.choose_spec.choose_spec.2.2
theorem me_mt0 {m : Mt} {ap : Pos} (hu : X.A.units + 70 < cLine) (ho : ME X W a wa) (hb : attributeBase a m.nm X.env (eval a X.env) = eval a X.env) (hl : (ap.endLine == pos.line) = true) :
    ME X W (.Call (.Attribute a m.nm ap) [] [] pos) (fun s h Q E => wa s h (fun x h1 => rcvD m x h1 ∧ m.d x [] h1 Q) E) := by
  refine (pe_bm0 PySem.F.plainAttrs_list m.slot m.ty (m.ok hu) ho hb hl).imp ?_
  rintro σ H Q ⟨s, h, Qd, Ed, rs, rh, hw, lx, lq⟩
  refine ⟨s, h, _, Ed, rs, rh, hw, lx, fun dx h1 x H1 q1 r1 rh1 e1 => ?_⟩
  rcases rcv_cases q1.1 with ⟨l, f⟩ | ⟨rfl, ds, rfl⟩
  · exact ⟨lst_ty l r1 rh1, dx, [], h1, Qd, r1, rfl, rh1, f _ _ _ q1.2, Lnk.step lq e1⟩
  · exact q1.2.elim
/-! a def's call -/
def spOf (K : PySem.W.Frag) (mg : Str → Option Value) (n : Nat) (c : ASp) : Sp := fun vs H Q E => ∃ ds h Qd Ed, Reps K H ds vs ∧ HRep K H h ∧ ds.length = n ∧ c ds h Qd Ed ∧ Lnk K h H Qd Q ∧
  (∀ xn h' cls d H', Ed xn h' → XRep K mg H' cls d xn → HRep K H' h' → Ext h H h' H' → E cls d H')
structure Def (X : Cx) (k : Nat) (f : Str) (n : Nat) (c : ASp) : Prop where
  ok : ∃ (a : Addr) (fd : FuncData) (ps : List Str), X.mg f = some (.ref a) ∧ PySem.W.keepIn X.K (.ref a) = true ∧ Binds X.K fd ps [] ∧ FnG X.prog X.w X.K X.mg X.base k a fd ps (spOf X.K X.mg n c)
theorem me_call {k : Nat} {G : Ct} {f : Str} {p : Pos} (hf : ∀ n c, G.fn f = some (n, c) → Def X k f n c) (hr : Room k X.A) (hgd : X.A.guards = some []) (tk : Takes X W) (hg : Gl X f) (ha : MA X W (e :: es) ws)
    (hdb : (f == ("__debug__" : Str)) = false) (hs : starEach (e :: es) X.env = (false, eval e X.env) :: starEach es X.env) (hpl : (backTo pos (starEach es X.env)).any (·.1) = false) :
    ME X W (.Call (.Name f p) (e :: es) [] pos) (callW G f ws) := by
  refine ⟨fun pins s σ H Q I h => ?_⟩
  obtain ⟨s1, h1, Qd, Ed, rs, rh, hw, lx, lq⟩ := h
  unfold callW at hw
  cases hG : G.fn f with
  | none =>
    simp only [hG] at hw
  | some nc =>
    obtain ⟨n, cc⟩ := nc
    simp only [hG] at hw
    obtain ⟨fa, fd, ps, hm, hk, hb, F⟩ := (hf n cc hG).ok
    refine wpAny_Call_Name_kw (ld_glob I hg hm ?_ hdb)
    have args := ha.run pos pins s σ H (fun vs H2 => spOf X.K X.mg n cc vs H2 Q fun cls d H' => W cls d σ H') I ⟨s1, h1, _, Ed, rs, rh, hw, lx, fun ds h2 vs H2 q2 r2 rh2 e2 => ⟨ds, h2, Qd, Ed, r2, rh2, q2.1, q2.2, Lnk.step lq e2, XL.step lx e2⟩⟩
    refine PySem.W.callWith_K (h₀ := X.base) I.ok.mod.kin hk (thn args fun us s2 ⟨vs, H2, I2, r, q⟩ => ⟨I2.kIn, ?_⟩) hs hpl
    exact run_fg F hr hgd hb I2 (fun e s' z => tk _ _ (XE.of_call I2 (fun _ _ _ w => w) z)) r q
theorem me_call0 {k : Nat} {G : Ct} {f : Str} {p : Pos} (hf : ∀ n c, G.fn f = some (n, c) → Def X k f n c) (hr : Room k X.A) (hgd : X.A.guards = some []) (tk : Takes X W) (hg : Gl X f) (hdb : (f == ("__debug__" : Str)) = false) :
    ME X W (.Call (.Name f p) [] [] pos) (callW G f (fun _ h Q _ => Q [] h)) := by
  refine ⟨fun pins s σ H Q I h => ?_⟩
  obtain ⟨s1, h1, Qd, Ed, rs, rh, hw, lx, lq⟩ := h
  unfold callW at hw
  cases hG : G.fn f with
  | none =>
    simp only [hG] at hw
  | some nc =>
    obtain ⟨n, cc⟩ := nc
    simp only [hG] at hw
    obtain ⟨fa, fd, ps, hm, hk, hb, F⟩ := (hf n cc hG).ok
    refine wpAny_Call_Name_kw (ld_glob I hg hm ?_ hdb)
    refine PySem.W.callWith_K0 I.kIn hk ?_
    exact run_fg (us := []) F hr hgd hb I (fun e s' z => tk _ _ (XE.of_call I (fun _ _ _ w => w) z)) .nil ⟨[], h1, Qd, Ed, rfl, rh, hw.1, hw.2, lq, lx⟩
end
end MP
/-! MP8: ranges, targets, iterations, comprehensions, statements. -/
namespace MP
open PySem PySem.Spec PyProof.Rows L2

theorem rng_reps {K : PySem.W.Frag} {H : Hp} (a b : Int) : Reps K H (rngD a b) (rgV a b) := by
  have e1 : rngD a b = ((List.range (b - a).toNat).map fun i => a + (i : Nat)).map D.int := by unfold rngD; rw [List.map_map]; rfl
  have e2 : rgV a b = ((List.range (b - a).toNat).map fun i => a + (i : Nat)).map V.int := by unfold rgV; rw [List.map_map]; rfl
  rw [e1, e2]
  exact Reps.of_ints _
def rgN : Bool → Str
  | true => "tuple"
  | false => "list"
def rgQ (tp : Bool) (l n : Int) (H : Hp) (Q : VK) : Prop := match tp with
  | true => NewT H Q (rgV l n)
  | false => ∀ p, H p = none → Q (.ref p) (upd H p (.lst (rgV l n)))
section
variable {X : Cx} {W : WX} {a b c e : Expr} {wa wb wc : AE} {pos p p2 pos2 : Pos} {es : List Expr} {ws : AA} {x : Str}
theorem rg_ok {a n : Int} (h1 : in62 a) (h2 : in62 n) (h3 : n - a ≤ 1000000) : RgOk a n := ⟨h1.1, h1.2, h2.1, h2.2, by omega⟩
def rngW (tp : Bool) (wl : AO1) (wa : AE) : AE := fun s h Q X => wl s h (fun l h1 => wa s h1 (fun y h2 => match y with
    | .int n => in62 (l.getD 0) ∧ in62 n ∧ n - l.getD 0 ≤ 1000000 ∧ (match tp with
      | true => Q (.tup (rngD (l.getD 0) n)) h2
      | false => ∀ p, h2 p = none → Q (.ref p) (aput h2 p (.lst (rngD (l.getD 0) n))))
    | _ => False) X) X
theorem rng_go (tp : Bool) {K : PySem.W.Frag} {H : Hp} {h : AH} {Qd : AK} {Q : VK} (lk : Lnk K h H Qd Q) (rh : HRep K H h) {l n : Int} (q : match tp with
      | true => Qd (.tup (rngD l n)) h
      | false => ∀ p, h p = none → Qd (.ref p) (aput h p (.lst (rngD l n)))) : rgQ tp l n H Q := by
  cases tp
  · exact lk.newL rh (rng_reps _ _) q
  · exact lk.newT rh (rng_reps _ _) q
theorem me_rng1 (tp : Bool) (hc : X.calm = true) (hg : Gl X (rgN tp)) (hm : X.mg (rgN tp) = none) (hg2 : Gl X "range") (hm2 : X.mg "range" = none) (ha : ME X W a wa)
    (na : starEach [a] X.env = (false, eval a X.env) :: starEach [] X.env) :
    ME X W (.Call (.Name (rgN tp) p) [.Call (.Name "range" p2) [a] [] pos2] [] pos) (rngW tp (fun _ h Q _ => Q none h) wa) := by
  cases tp
  · refine (pe_listRg hc hg hm (prg_1 hg2 hm2 ha na) rfl).imp ?_
    rintro σ H Q ⟨s, h, Qd, Ed, rs, rh, hw, lx, lq⟩
    refine ⟨s, h, _, Ed, rs, rh, hw, lx, fun dx h1 x H1 q1 r1 rh1 e1 => ?_⟩
    cases dx <;> first | exact q1.elim | skip
    cases r1
    exact ⟨_, rfl, rg_ok q1.1 q1.2.1 q1.2.2.1, rng_go false (Lnk.step lq e1) rh1 q1.2.2.2⟩
  · refine (tup_range hc hg hm (prg_1 hg2 hm2 ha na) rfl).imp ?_
    rintro σ H Q ⟨s, h, Qd, Ed, rs, rh, hw, lx, lq⟩
    refine ⟨s, h, _, Ed, rs, rh, hw, lx, fun dx h1 x H1 q1 r1 rh1 e1 => ?_⟩
    cases dx <;> first | exact q1.elim | skip
    cases r1
    exact ⟨_, rfl, rg_ok q1.1 q1.2.1 q1.2.2.1, rng_go true (Lnk.step lq e1) rh1 q1.2.2.2⟩
theorem me_rng2 (tp : Bool) (hc : X.calm = true) (hg : Gl X (rgN tp)) (hm : X.mg (rgN tp) = none) (hg2 : Gl X "range") (hm2 : X.mg "range" = none) (ha : ME X W a wa) (hb : ME X W b wb)
    (na : starEach [a, b] X.env = (false, eval a X.env) :: starEach [b] X.env) (nb : starEach [b] X.env = (false, eval b X.env) :: starEach [] X.env) (hp : (backTo pos2 (starEach [b] X.env)).any (·.1) = false) :
    ME X W (.Call (.Name (rgN tp) p) [.Call (.Name "range" p2) [a, b] [] pos2] [] pos) (rngW tp (fun s h Q E => wa s h (fun x h1 => match x with
    | .int i => Q (some i) h1
    | _ => False) E) wb) := by
  have go : ∀ {σ : L2.St} {H : Hp} {Q : VK} {tq : Int → Int → Hp → Prop}, liftE X.K X.mg W (rngW tp (fun s h Q E => wa s h (fun x h1 => match x with
    | .int i => Q (some i) h1
    | _ => False) E) wb) σ H Q → (∀ l n H2, RgOk l n → rgQ tp l n H2 Q → tq l n H2) → L2.tRg2 (liftE X.K X.mg W wa) (liftE X.K X.mg W wb) σ H tq := by
    rintro σ H Q tq ⟨s, h, Qd, Ed, rs, rh, hw, lx, lq⟩ hq
    refine ⟨s, h, _, Ed, rs, rh, hw, lx, fun dx h1 x H1 q1 r1 rh1 e1 => ?_⟩
    cases dx <;> first | exact q1.elim | skip
    cases r1
    refine ⟨s, h1, _, Ed, rs.ext rh e1, rh1, q1, XL.step lx e1, fun dy h2 y H2 q2 r2 rh2 e2 => ?_⟩
    cases dy <;> first | exact q2.elim | skip
    cases r2
    exact ⟨_, _, rfl, rfl, hq _ _ _ (rg_ok q2.1 q2.2.1 q2.2.2.1) (rng_go tp ((Lnk.step lq e1).step e2) rh2 q2.2.2.2)⟩
  cases tp
  · exact (pe_listRg hc hg hm (prg_2 hg2 hm2 ha hb na nb hp) rfl).imp fun σ H Q h => go h fun l n H2 a b => ⟨a, b⟩
  · exact (tup_range hc hg hm (prg_2 hg2 hm2 ha hb na nb hp) rfl).imp fun σ H Q h => go h fun l n H2 a b => ⟨a, b⟩

/-! targets -/
def Off (vs : List Nat) (σ σ' : L2.St) : Prop := σ'.length = σ.length ∧ ∀ i, i ∉ vs → σ'[i]? = σ[i]?
def liftG (K : PySem.W.Frag) (mg : Str → Option Value) (vs : List Nat) (w : AG) : TG := fun v σ H Q => ∃ (s : AS) (h : AH) (d : D) (Kd : AS → AH → Prop), SRep K H s σ ∧ HRep K H h ∧ Rep K H d v ∧ w d s h Kd ∧
  ∀ s' h' σ' H', Kd s' h' → SRep K H' s' σ' → HRep K H' h' → Ext h H h' H' → Off vs σ σ' → Q σ' H'
def liftGs (K : PySem.W.Frag) (mg : Str → Option Value) (vs : List Nat) (w : AGs) : TGs := fun us σ H Q => ∃ (s : AS) (h : AH) (ds : List D) (Kd : AS → AH → Prop), SRep K H s σ ∧ HRep K H h ∧ Reps K H ds us ∧ w ds s h Kd ∧
  ∀ s' h' σ' H', Kd s' h' → SRep K H' s' σ' → HRep K H' h' → Ext h H h' H' → Off vs σ σ' → Q σ' H'
abbrev MG (X : Cx) (vs : List Nat) (e : Expr) (w : AG) : Prop := PG X e (liftG X.K X.mg vs w)
abbrev MGs (X : Cx) (vs : List Nat) (e : List Expr) (w : AGs) : Prop := PGs X e (liftGs X.K X.mg vs w)
theorem _root_.L2.PG.imp {X : Cx} {e : Expr} {t t' : TG} (q : PG X e t) (i : ∀ v σ H Q, t' v σ H Q → t v σ H Q) : PG X e t' := ⟨fun pins s σ H v u Q I r h => q.run pins s σ H v u Q I r (i _ _ _ _ h)⟩
theorem _root_.L2.PGs.imp {X : Cx} {e : List Expr} {t t' : TGs} (q : PGs X e t) (i : ∀ v σ H Q, t' v σ H Q → t v σ H Q) : PGs X e t' := ⟨fun pins s σ H v u Q I r h => q.run pins s σ H v u Q I r (i _ _ _ _ h)⟩
theorem Off.refl {vs : List Nat} {σ : L2.St} : Off vs σ σ := ⟨rfl, fun _ _ => rfl⟩
theorem Off.trans {vs us : List Nat} {σ σ1 σ2 : L2.St} (x : Off vs σ σ1) (y : Off us σ1 σ2) : Off (vs ++ us) σ σ2 :=
  ⟨y.1.trans x.1, fun i hi => by simp only [List.mem_append, not_or] at hi; exact (y.2 i hi.2).trans (x.2 i hi.1)⟩
theorem SRep.set {K : PySem.W.Frag} {H : Hp} {s : AS} {σ : L2.St} (r : SRep K H s σ) (i : Nat) {d : D} {v : V} (q : Rep K H d v) : SRep K H (s.set i (some d)) (σ.set i (some v)) := by
  refine ⟨by rw [List.length_set, List.length_set]; exact r.1, fun j d' e => ?_⟩
  rw [List.getElem?_set] at e ⊢
  by_cases hj : i = j
  · rw [if_pos hj] at e ⊢
    split at e
    · rename_i hl
      rw [if_pos (by rw [r.1]; exact hl)]
      cases e
      exact ⟨v, rfl, q⟩
    · cases e
  · rw [if_neg hj] at e ⊢
    exact r.2 j d' e
theorem SRep.setN {K : PySem.W.Frag} {H : Hp} {s : AS} {σ : L2.St} (r : SRep K H s σ) (i : Nat) : SRep K H (s.set i none) (σ.set i none) := by
  refine ⟨by rw [List.length_set, List.length_set]; exact r.1, fun j d' e => ?_⟩
  rw [List.getElem?_set] at e ⊢
  by_cases hj : i = j
  · rw [if_pos hj] at e
    split at e <;> cases e
  · rw [if_neg hj] at e ⊢
    exact r.2 j d' e
theorem mg_n {i : Nat} (hN : X.N.Nodup) (hi : X.N[i]? = some x) (hx : Loc X.env.scope x) (hf : X.fn x = true ∨ X.env.scope.names.lookup x = some .local) : MG X [i] (.Name x pos) (fun d s h Q => Q (s.set i (some d)) h) := by
  refine (pg_name hN hi hx hf).imp ?_
  rintro v σ H Q ⟨s, h, d, Kd, rs, rh, rd, hw, lk⟩
  refine lk _ _ _ _ hw (rs.set i rd) rh Ext.refl ⟨by rw [List.length_set], fun j hj => ?_⟩
  rw [List.getElem?_set_ne (fun z => hj (by simp [z]))]
theorem mgs_nil : MGs X [] [] (fun ds s h Q => match ds with
    | [] => Q s h
    | _ => False) := by
  refine pgs_nil.imp ?_
  rintro v σ H Q ⟨s, h, ds, Kd, rs, rh, rd, hw, lk⟩
  cases ds with
  | nil => exact ⟨rd, lk _ _ _ _ hw rs rh Ext.refl Off.refl⟩
  | cons d r => exact hw.elim
theorem mgs_cons {vs us : List Nat} {w : AG} {wr : AGs} (h1 : MG X vs a w) (h2 : MGs X us es wr) (hs : (assignEach (a :: es) X.env).map (·.2) = assign a X.env :: (assignEach es X.env).map (·.2)) :
    MGs X (vs ++ us) (a :: es) (fun ds s h Q => match ds with
    | d :: r => w d s h fun s1 h1 => wr r s1 h1 Q
    | [] => False) := by
  refine (pgs_cons h1 h2 hs).imp ?_
  rintro v σ H Q ⟨s, h, ds, Kd, rs, rh, rd, hw, lk⟩
  cases ds with
  | nil => exact hw.elim
  | cons d r =>
    obtain ⟨y, ys, rfl, q1, q2⟩ := rd
    exact ⟨y, ys, rfl, s, h, d, _, rs, rh, q1, hw, fun s1 h1 σ1 H1 k1 rs1 rh1 e1 o1 => ⟨s1, h1, r, Kd, rs1, rh1, Reps.ext rh e1 _ _ q2, k1, fun s2 h2 σ2 H2 k2 rs2 rh2 e2 o2 => lk _ _ _ _ k2 rs2 rh2 (e1.trans e2) (o1.trans o2)⟩⟩
theorem pg_or {t u : TG} (p : PG X a t) (q : PG X a u) : PG X a (fun v σ H Q => t v σ H Q ∨ u v σ H Q) := ⟨fun pins s σ H v w Q I r h => h.elim (p.run pins s σ H v w Q I r) (q.run pins s σ H v w Q I r)⟩
theorem mg_tup {vs : List Nat} {w : AGs} {k n : Nat} (hc : X.calm = true) (h : MGs X vs es w) (hn : (assignEach es X.env).length = n) (hst : (assignEach es X.env).findIdx? (·.1) = none) :
    MG X vs (.Tuple es k pos) (fun d s h Q => match d with
    | .tup ds => ds.length = n ∧ w ds s h Q
    | .pr ds => ds.length = n ∧ w ds s h Q
    | .ref a => ∃ ds, isL h a ds ∧ ds.length = n ∧ w ds s h Q
    | _ => False) := by
  refine (pg_or (pg_tup hc h hn hst) (pg_lst hc h hn hst)).imp ?_
  rintro v σ H Q ⟨s, h, d, Kd, rs, rh, rd, hw, lk⟩
  cases d <;> first | exact hw.elim | skip
  · obtain ⟨a, xs, rfl, st, q⟩ := rd
    exact .inl ⟨a, xs, rfl, st.t, by rw [q.length]; exact hw.1, s, h, _, Kd, rs, rh, q, hw.2, lk⟩
  · obtain ⟨a, xs, rfl, st, q⟩ := rd
    exact .inl ⟨a, xs, rfl, st, by rw [q.length]; exact hw.1, s, h, _, Kd, rs, rh, q, hw.2, lk⟩
  · cases rd
    obtain ⟨ds, l, hl, hw⟩ := hw
    obtain ⟨xs, st, q⟩ := rh.seq l
    exact .inr ⟨_, xs, rfl, st, by rw [q.length]; exact hl, s, h, _, Kd, rs, rh, q, hw, lk⟩
theorem set_any (hu : X.A.units + 1 < cLine) : PSet X (fun o i v H Q => rSetL o i v H Q ∨ rSetD o i v H Q) := by
  intro pins s σ H o i v ov iv u Q I ro ri rv h
  rcases h with h | h
  · exact set_list pins s σ H o i v ov iv u Q I ro ri rv h
  · exact set_dict hu pins s σ H o i v ov iv u Q I ro ri rv h
theorem mg_sub (hu : X.A.units + 1 < cLine) (ha : ME X (fun _ _ _ _ => False) a wa) (hb : ME X (fun _ _ _ _ => False) b wb)
    (hq : ∀ v, assign (.Subscript a b pos) X.env v = (do
      let ov ← holding [v] (eval a X.env)
      let iv ← holding [v, ov] (eval b X.env)
      standAt pos
      holding [v, ov, iv] (setItem ov iv v)
      release [v, ov, iv] [])) : MG X [] (.Subscript a b pos) (fun d s h Q => wa s h (fun x h1 => wb s h1 (fun y h2 => setSub x y d h2 fun h3 => Q s h3) noX) noX) := by
  refine (pg_sub ha hb (set_any hu) hq).imp ?_
  rintro v σ H Q ⟨s, h, d, Kd, rs, rh, rd, hw, lk⟩
  refine ⟨s, h, _, noX, rs, rh, hw, fun _ _ _ _ _ z => z.elim, fun dx h1 x H1 q1 r1 rh1 e1 => ⟨s, h1, _, noX, rs.ext rh e1, rh1, q1, fun _ _ _ _ _ z => z.elim, fun dy h2 y H2 q2 r2 rh2 e2 => ?_⟩⟩
  have r1' := Rep.ext rh1 e2 _ _ r1
  have rd' := Rep.ext rh1 e2 _ _ (Rep.ext rh e1 _ _ rd)
  cases dx <;> first | exact q2.elim | skip
  cases dy <;> first | exact q2.elim | skip
  · rename_i l k
    cases r1'; cases r2
    have e12 := e1.trans e2
    obtain ⟨ds, e, j, hj, q⟩ | ⟨kvs, e, hz, q⟩ := q2
    · obtain ⟨xs, f, rx⟩ := rh2.lst e
      have e3 : Ext h2 H2 (aput h2 l (.lst (ds.set j d))) (upd H2 l (.lst (xs.set j v))) := ext_write e
      exact .inl ⟨l, xs, k, j, rfl, rfl, f, by rw [rx.length]; exact hj, lk _ _ _ _ q ((rs.ext rh e12).ext rh2 e3) (rh2.setL e (rx.set j rd')) (e12.trans e3) Off.refl⟩
    · obtain ⟨us, f, rx⟩ := rh2.dct e
      have e3 : Ext h2 H2 (aput h2 l (.dct (setK kvs (.inl k) d))) (upd H2 l (.dK (putK us (.inl k) v))) := ext_write e
      refine .inr ⟨l, _, rfl, .inl ⟨us, .inl k, f, rfl, by rw [rx.len]; exact hz, rfl⟩, lk _ _ _ _ q ((rs.ext rh e12).ext rh2 e3) (rh2.write e ⟨_, upd_same, ?_⟩) (e12.trans e3) Off.refl⟩
      exact (rx.set rd').ext rh2 e3
  · rename_i l k
    cases r1'; cases r2
    have e12 := e1.trans e2
    obtain ⟨kvs, e, hz, q⟩ := q2
    obtain ⟨us, f, rx⟩ := rh2.dct e
    have e3 : Ext h2 H2 (aput h2 l (.dct (setK kvs (.inr k) d))) (upd H2 l (.dK (putK us (.inr k) v))) := ext_write e
    refine .inr ⟨l, _, rfl, .inl ⟨us, .inr k, f, rfl, by rw [rx.len]; exact hz, rfl⟩, lk _ _ _ _ q ((rs.ext rh e12).ext rh2 e3) (rh2.write e ⟨_, upd_same, ?_⟩) (e12.trans e3) Off.refl⟩
    exact (rx.set rd').ext rh2 e3
end
end MP
/-! MP9: what a loop walks, loops, comprehensions, statements. -/
namespace MP
open PySem PySem.Spec PyProof.Rows L2 RZ

/-- J walks the items ds from (h1, H1) on, while grd holds -/
def ItOk (K : PySem.W.Frag) (ds : List D) (grd : AH → Prop) (J : L2.It) (h1 : AH) (H1 : Hp) : Prop :=
  ∀ h2 H2, HRep K H2 h2 → Ext h1 H1 h2 H2 → grd h2 → J.stop ds.length H2 ∧ ∀ i d, ds[i]? = some d → J.go i H2 ∧ ∀ x H3, J.yld i H2 x H3 → Rep K H3 d x ∧ HRep K H3 h2 ∧ Ext h2 H2 h2 H3
def liftI (K : PySem.W.Frag) (mg : Str → Option Value) (W : WX) (w : AI) : TI := fun σ H R => ∃ (s : AS) (h : AH) (Qd : List D → AH → (AH → Prop) → Prop) (Ed : AXK), SRep K H s σ ∧ HRep K H h ∧ w s h Qd Ed ∧ XL K mg W h H Ed σ ∧
  ∀ ds h1 grd J H1, Qd ds h1 grd → HRep K H1 h1 → Ext h H h1 H1 → ItOk K ds grd J h1 H1 → R J H1
abbrev MI (X : Cx) (W : WX) (tg iter : Expr) (w : AI) : Prop := PI X tg iter (liftI X.K X.mg W w)
section
variable {X : Cx} {W : WX} {a b c e tg : Expr} {wa wb wc : AE} {pos p p2 pos2 : Pos} {es : List Expr} {ws : AA} {x : Str}
variable {K : PySem.W.Frag} {H H1 H2 : Hp} {h h1 h2 : AH}
theorem seqL_ext (r : HRep K H1 h1) (x : Ext h1 H1 h2 H2) {a : Addr} {xs : List V} (n : h1 a = none) (q : H1 a = some (.lst xs)) : H2 a = some (.lst xs) := (x a _ q n).1
theorem itok_tup {ds : List D} {a : Addr} {xs : List V} (r : HRep K H1 h1) (t : SqT K H1 a xs) (q : Reps K H1 ds xs) : ItOk K ds (fun _ => True) (Itt K a) h1 H1 := by
  intro h2 H2 r2 e2 _
  have t2 := seqT_ext r e2 t
  have q2 := Reps.ext r e2 _ _ q
  refine ⟨⟨xs, t2, by rw [q.length]; exact Nat.le_refl _⟩, fun i d hd => ?_⟩
  obtain ⟨x, gx, rx⟩ := q2.get hd
  refine ⟨⟨xs, x, t2, gx⟩, fun y H3 hy => ?_⟩
  obtain ⟨rfl, hy⟩ := hy
  have := hy xs t2
  rw [gx] at this; cases this
  exact ⟨rx, r2, Ext.refl⟩
theorem itok_lst {ds : List D} {grd : AH → Prop} {a : Addr} (hs : ∀ h2 H2, HRep K H2 h2 → Ext h1 H1 h2 H2 → grd h2 → ∃ xs, SqL K H2 a xs ∧ Reps K H2 ds xs) : ItOk K ds grd (Itl K a) h1 H1 := by
  intro h2 H2 r2 e2 g2
  obtain ⟨xs, t2, q2⟩ := hs h2 H2 r2 e2 g2
  refine ⟨⟨xs, t2, by rw [q2.length]; exact Nat.le_refl _⟩, fun i d hd => ?_⟩
  obtain ⟨x, gx, rx⟩ := q2.get hd
  refine ⟨⟨xs, x, t2, gx⟩, fun y H3 hy => ?_⟩
  obtain ⟨rfl, hy⟩ := hy
  have := hy xs t2
  rw [gx] at this; cases this
  exact ⟨rx, r2, Ext.refl⟩
theorem adel_same {a : Addr} : adel h a a = none := if_pos rfl
theorem adel_sub {a : Addr} : Sub (adel h a) h := fun b o e => by
  unfold adel at e
  split at e
  · cases e
  · exact e
theorem adel_aput {a : Addr} {o : AO} (n : h a = none) : adel (aput h a o) a = h := by
  funext b
  unfold adel
  by_cases hb : b = a
  · rw [if_pos hb, hb, n]
  · rw [if_neg hb, aput_ne hb]
/-- the list's items where a list is walked: what stays of it -/
theorem seqI_ref {tm : Bool} {a : Addr} {Q : List D → AH → (AH → Prop) → Prop} (r : HRep K H1 h1) (q : seqI tm (.ref a) h1 Q) :
    ∃ ds hx grd, Q ds hx grd ∧ HRep K H1 hx ∧ Sub hx h1 ∧ (∃ xs, SqL K H1 a xs) ∧ ∀ h2 H2, HRep K H2 h2 → Ext hx H1 h2 H2 → grd h2 → ∃ xs, SqL K H2 a xs ∧ Reps K H2 ds xs := by
  cases tm with
  | true =>
    obtain ⟨ds, e, q⟩ := q
    obtain ⟨xs, e1, rx⟩ := r.lst e
    have rd : HRep K H1 (adel h1 a) := r.sub adel_sub
    refine ⟨ds, _, _, q, rd, adel_sub, ⟨xs, .inl (.inl e1)⟩, fun h2 H2 r2 e2 _ => ⟨xs, .inl (.inl ?_), Reps.ext rd e2 _ _ rx⟩⟩
    exact (e2 a _ e1 adel_same).1
  | false =>
    obtain ⟨ds, e, q⟩ := q
    obtain ⟨xs, e1, rx⟩ := r.seq e
    refine ⟨ds, _, _, q, r, Sub.refl, ⟨xs, e1⟩, fun h2 H2 r2 e2 g => ?_⟩
    exact r2.seq g
theorem pie_list {pins : List (Addr × Obj)} {σ : L2.St} {s1 : Shared} {R : L2.It → Hp → Prop} {E : Value → Shared → Prop} {a : Addr} {xs : List V} (I : L2.Inv X pins σ H1 s1) (hq : SqL X.K H1 a xs) (q : R (Itl X.K a) H1) :
    wpAny (model X.prog X.w) X.A (pyIter (.ref a)) (PIE X pins σ tg R) E s1 := by
  obtain ⟨its, rv, pl, hz⟩ := I.list hq
  apply wpAny_pyIter_list pl.isList
  have Ik := I.kept (h' := s1.heap.push { cls := .type "list_iterator", data := .fields #[.ref a, rawInt 0] }) (t' := s1.toks) fun b o z => Heap.get?_push_of_some _ z
  refine ⟨_, [s1.heap.objs.size], _, _, H1, rfl, I.kept (t' := s1.toks) (fun b o z => Heap.get?_push_of_some _ z), turn_list a s1.heap.objs.size, ⟨_, Heap.get?_push_size _ rfl, rfl, rfl⟩, ?_, q⟩
  intro b hb
  obtain rfl : b = s1.heap.objs.size := by simpa using hb
  exact I.fpOk (Nat.le_refl _) I.fresh
theorem pie_tup {pins : List (Addr × Obj)} {σ : L2.St} {s1 : Shared} {R : L2.It → Hp → Prop} {E : Value → Shared → Prop} {a : Addr} {xs : List V} (I : L2.Inv X pins σ H1 s1) (hq : SqT X.K H1 a xs) (q : R (Itt X.K a) H1) :
    wpAny (model X.prog X.w) X.A (pyIter (.ref a)) (PIE X pins σ tg R) E s1 := by
  obtain ⟨its, rv, pl, hz⟩ := I.tuple hq
  apply wpAny_pyIter_tuple (show s1.heap.IsTuple a its.toArray from pl)
  refine ⟨_, [s1.heap.objs.size], _, _, H1, rfl, I.kept (t' := s1.toks) (fun b o z => Heap.get?_push_of_some _ z), turn_tuple a s1.heap.objs.size, ⟨_, Heap.get?_push_size _ rfl, rfl, rfl⟩, ?_, q⟩
  intro b hb
  obtain rfl : b = s1.heap.objs.size := by simpa using hb
  exact I.fpOk (Nat.le_refl _) I.fresh
theorem mi_e {tm : Bool} (ha : ME X W a wa) : MI X W tg a (fun s h Q E => wa s h (fun x h1 => seqI tm x h1 Q) E) := by
  refine ⟨fun pins s σ H R I hq => ?_⟩
  obtain ⟨s0, h, Qd, Ed, rs, rh, hw, lx, lq⟩ := hq
  let Q : VK := fun x H1 => (∃ a xs, x = .ref a ∧ SqL X.K H1 a xs ∧ R (Itl X.K a) H1) ∨ (∃ a xs, x = .ref a ∧ SqT X.K H1 a xs ∧ R (Itt X.K a) H1)
  refine thn (ha.run pins s σ H Q I ⟨s0, h, _, Ed, rs, rh, hw, lx, fun dx h1 x H1 q1 r1 rh1 e1 => ?_⟩) fun v s1 ⟨x, H1, I1, r1, q1⟩ => ?_
  · cases dx <;> first | exact q1.elim | skip
    · obtain ⟨a, xs, rfl, t, q⟩ := r1
      exact .inr ⟨a, xs, rfl, t.t, lq _ _ _ _ _ q1 rh1 e1 (itok_tup rh1 t.t q)⟩
    · cases r1
      obtain ⟨ds, hx, grd, q, rx, sx, ⟨xs, hL⟩, st⟩ := seqI_ref rh1 q1
      exact .inl ⟨_, xs, rfl, hL, lq _ _ _ _ _ q rx (e1.sub sx) (itok_lst st)⟩
    · obtain ⟨a, xs, rfl, t, q⟩ := r1
      refine .inl ⟨a, xs, rfl, t.seq, lq _ _ _ _ _ q1 rh1 e1 (itok_lst fun h2 H2 r2 e2 _ => ⟨xs, (cl_ext rh1 e2 t).seq, Reps.ext rh1 e2 _ _ q⟩)⟩
  · rcases q1 with ⟨a, xs, rfl, hL, q⟩ | ⟨a, xs, rfl, hL, q⟩
    · cases r1
      exact pie_list I1 hL q
    · cases r1
      exact pie_tup I1 hL q
theorem itok_rng (l n : Int) : ItOk K (rngD l n) (fun _ => True) (Itr l (n - l).toNat) h1 H1 := by
  intro h2 H2 r2 e2 _
  have hl : (rngD l n).length = (n - l).toNat := by unfold rngD; rw [List.length_map, List.length_range]
  refine ⟨by rw [hl]; exact Nat.le_refl _, fun i d hd => ?_⟩
  have hi : i < (n - l).toNat := by rw [← hl]; exact (List.getElem?_eq_some_iff.mp hd).1
  refine ⟨hi, fun y H3 hy => ?_⟩
  obtain ⟨rfl, rfl⟩ := hy
  have e : d = D.int (l + (i : Nat)) := by
    unfold rngD at hd
    rw [List.getElem?_map, List.getElem?_range hi] at hd
    exact (Option.some.inj hd).symm
  subst e
  exact ⟨rfl, r2, Ext.refl⟩
def rngI (wl : AO1) (wa : AE) : AI := fun s h Q X => wl s h (fun l h1 => wa s h1 (fun y h2 => match y with
    | .int n => in62 (l.getD 0) ∧ in62 n ∧ Q (rngD (l.getD 0) n) h2 fun _ => True
    | _ => False) X) X
theorem mi_rng1 (hg : Gl X "range") (hm : X.mg "range" = none) (ha : ME X W a wa) (hs : starEach [a] X.env = (false, eval a X.env) :: starEach [] X.env) : MI X W tg (.Call (.Name "range" p) [a] [] pos) (rngI (fun _ h Q _ => Q none h) wa) := by
  have r0 := pi_range1 (tg := tg) (p := p) (pos := pos) hg hm (pa_cons ha pa_nil hs) hs
  refine ⟨fun pins s σ H R I hq => r0.run pins s σ H R I ?_⟩
  obtain ⟨s0, h, Qd, Ed, rs, rh, hw, lx, lq⟩ := hq
  refine ⟨s0, h, _, Ed, rs, rh, hw, lx, fun dx h1 x H1 q1 r1 rh1 e1 => ?_⟩
  cases dx <;> first | exact q1.elim | skip
  cases r1
  obtain ⟨b1, b2, q⟩ := q1
  refine ⟨_, rfl, b2.1, b2.2, lq _ _ _ _ _ q rh1 e1 ?_⟩
  have := itok_rng (K := X.K) (h1 := h1) (H1 := H1) 0 (by assumption)
  simpa using this
theorem mi_rng2 (hg : Gl X "range") (hm : X.mg "range" = none) (ha : ME X W a wa) (hb : ME X W b wb) (hs : starEach [a, b] X.env = (false, eval a X.env) :: starEach [b] X.env) (hs2 : starEach [b] X.env = (false, eval b X.env) :: starEach [] X.env) :
    MI X W tg (.Call (.Name "range" p) [a, b] [] pos) (rngI (fun s h Q E => wa s h (fun x h1 => match x with
    | .int i => Q (some i) h1
    | _ => False) E) wb) := by
  have r0 := pi_range2 (tg := tg) (p := p) (pos := pos) hg hm (pa_cons ha (pa_cons hb pa_nil hs2) hs) (hs.trans (congrArg _ hs2)) hs2
  refine ⟨fun pins s σ H R I hq => r0.run pins s σ H R I ?_⟩
  obtain ⟨s0, h, Qd, Ed, rs, rh, hw, lx, lq⟩ := hq
  refine ⟨s0, h, _, Ed, rs, rh, hw, lx, fun dx h1 x H1 q1 r1 rh1 e1 => ?_⟩
  cases dx <;> first | exact q1.elim | skip
  cases r1
  refine ⟨s0, h1, _, Ed, rs.ext rh e1, rh1, q1, XL.step lx e1, fun dy h2 y H2 q2 r2 rh2 e2 => ?_⟩
  cases dy <;> first | exact q2.elim | skip
  cases r2
  obtain ⟨b1, b2, q⟩ := q2
  exact ⟨_, _, rfl, ⟨b1.1, b1.2, b2.1, b2.2⟩, lq _ _ _ _ _ q rh2 (e1.trans e2) (itok_rng _ _)⟩
/-! zip, enumerate -/
theorem zipD_get : ∀ {ds es : List D} {i : Nat} {d : D}, (zipD ds es)[i]? = some d → ∃ x y, d = .pr [x, y] ∧ ds[i]? = some x ∧ es[i]? = some y
  | [], _, _, _, h => by simp [zipD] at h
  | _ :: _, [], _, _, h => by simp [zipD] at h
  | x :: ds, y :: es, 0, d, h => ⟨x, y, by simpa [zipD] using h.symm, rfl, rfl⟩
  | x :: ds, y :: es, i + 1, d, h => by
    obtain ⟨u, v, e, h1, h2⟩ := zipD_get (ds := ds) (es := es) (i := i) (by simpa [zipD] using h)
    exact ⟨u, v, e, by simpa using h1, by simpa using h2⟩
theorem zipD_len : ∀ (ds es : List D), (zipD ds es).length = min ds.length es.length
  | [], es => by simp [zipD]
  | _ :: _, [] => by simp [zipD]
  | x :: ds, y :: es => by simp [zipD, zipD_len ds es]
theorem rep_pair {H : Hp} {h : AH} {T : Addr} {x y : V} {d1 d2 : D} (r : HRep K H h) (n : H T = none) (r1 : Rep K H d1 x) (r2 : Rep K H d2 y) : Rep K (upd H T (.tup [x, y])) (.pr [d1, d2]) (.ref T) :=
  rep_newP r n ⟨x, [y], rfl, r1, Reps.one r2⟩
theorem itok_zipT {ds es : List D} {a b : Addr} {xs ys : List V} (r : HRep K H1 h1) (t : SqT K H1 a xs) (q : Reps K H1 ds xs) (t' : SqT K H1 b ys) (q' : Reps K H1 es ys) : ItOk K (zipD ds es) (fun _ => True) (ItzT K a b) h1 H1 := by
  intro h2 H2 r2 e2 _
  have ta := seqT_ext r e2 t
  have tb := seqT_ext r e2 t'
  have qa := Reps.ext r e2 _ _ q
  have qb := Reps.ext r e2 _ _ q'
  refine ⟨⟨xs, ys, ta, tb, ?_⟩, fun i d hd => ?_⟩
  · rw [zipD_len, qa.length, qb.length]; omega
  obtain ⟨dx, dy, rfl, g1, g2⟩ := zipD_get hd
  obtain ⟨x, gx, rx⟩ := qa.get g1
  obtain ⟨y, gy, ry⟩ := qb.get g2
  refine ⟨⟨xs, ys, x, y, ta, tb, gx, gy⟩, fun z H3 hz => ?_⟩
  obtain ⟨T, x', y', rfl, nT, rfl, f1, f2⟩ := hz
  have e1 := (f1 xs ta).symm.trans gx; cases e1
  have e1 := (f2 ys tb).symm.trans gy; cases e1
  exact ⟨rep_pair r2 nT rx ry, r2.new nT, ext_new nT⟩
theorem itok_zipL {ds es : List D} {grd : AH → Prop} {a b : Addr} (hs : ∀ h2 H2, HRep K H2 h2 → Ext h1 H1 h2 H2 → grd h2 → (∃ xs, SqL K H2 a xs ∧ Reps K H2 ds xs) ∧ ∃ ys, SqL K H2 b ys ∧ Reps K H2 es ys) : ItOk K (zipD ds es) grd (Itz K a b) h1 H1 := by
  intro h2 H2 r2 e2 g2
  obtain ⟨⟨xs, ta, qa⟩, ys, tb, qb⟩ := hs h2 H2 r2 e2 g2
  refine ⟨⟨xs, ys, ta, tb, ?_⟩, fun i d hd => ?_⟩
  · rw [zipD_len, qa.length, qb.length]; omega
  obtain ⟨dx, dy, rfl, g1, g2⟩ := zipD_get hd
  obtain ⟨x, gx, rx⟩ := qa.get g1
  obtain ⟨y, gy, ry⟩ := qb.get g2
  refine ⟨⟨xs, ys, x, y, ta, tb, gx, gy⟩, fun z H3 hz => ?_⟩
  obtain ⟨T, x', y', rfl, nT, rfl, f1, f2⟩ := hz
  have e1 := (f1 xs ta).symm.trans gx; cases e1
  have e1 := (f2 ys tb).symm.trans gy; cases e1
  exact ⟨rep_pair r2 nT rx ry, r2.new nT, ext_new nT⟩
theorem mi_zip {ta tb : Bool} {elts : List Expr} {kk : Nat} {tpos : Pos} (hg : Gl X "zip") (hm : X.mg "zip" = none) (ha : ME X W a wa) (hb : ME X W b wb) (hs : starEach [a, b] X.env = (false, eval a X.env) :: starEach [b] X.env) (hs2 : starEach [b] X.env = (false, eval b X.env) :: starEach [] X.env)
    (hz : PI X (.Tuple elts kk tpos) (.Call (.Name "zip" p) [a, b] [] pos) (iZipA X.K (tCons (liftE X.K X.mg W wa) (tCons (liftE X.K X.mg W wb) tNil)))) :
    MI X W (.Tuple elts kk tpos) (.Call (.Name "zip" p) [a, b] [] pos) (fun s h Q E => wa s h (fun x h1 => wb s h1 (fun y h2 => zipI ta tb x y h2 Q) E) E) := by
  refine ⟨fun pins s σ H R I hq => hz.run pins s σ H R I ?_⟩
  obtain ⟨s0, h, Qd, Ed, rs, rh, hw, lx, lq⟩ := hq
  refine ⟨s0, h, _, Ed, rs, rh, hw, lx, fun dx h1 x H1 q1 r1 rh1 e1 => ⟨s0, h1, _, Ed, rs.ext rh e1, rh1, q1, XL.step lx e1, fun dy h2 y H2 q2 r2 rh2 e2 => ?_⟩⟩
  have r1' := Rep.ext rh1 e2 _ _ r1
  cases dx <;> first | exact q2.elim | skip
  · cases dy <;> first | exact q2.elim | skip
    obtain ⟨a, xs, rfl, t, q⟩ := r1'
    obtain ⟨b, ys, rfl, t', q'⟩ := r2
    exact ⟨a, b, xs, ys, rfl, .inr ⟨t.t, t'.t, lq _ _ _ _ _ q2 rh2 (e1.trans e2) (itok_zipT rh2 t.t q t'.t q')⟩⟩
  · cases dy <;> first | exact q2.elim | skip
    cases r1'; cases r2
    have q2' : seqI ta (.ref _) h2 fun ds h1 g1 => seqI tb (.ref _) h1 fun es h2 g2 => Qd (zipD ds es) h2 fun h3 => g1 h3 ∧ g2 h3 := q2
    obtain ⟨ds, hx, grd, q, rx, sx, ⟨xs, hL⟩, st⟩ := seqI_ref rh2 q2'
    obtain ⟨es, hy, grd2, q', ry, sy, ⟨ys, hL2⟩, st2⟩ := seqI_ref rx q
    refine ⟨_, _, xs, ys, rfl, .inl ⟨hL, hL2, lq _ _ _ _ _ q' ry ((e1.trans e2).sub (sy.trans sx)) (itok_zipL fun h3 H3 r3 e3 g => ⟨st h3 H3 r3 ?_ g.1, st2 h3 H3 r3 e3 g.2⟩)⟩⟩
    exact fun b o z n => e3 b o z (sy.none n)
/-! loops -/
theorem SRep.ssub {s s1 : AS} {σ : L2.St} (r : SRep K H s σ) (y : SSub s1 s) : SRep K H s1 σ := r.sub y
theorem ms_for {vs : List Nat} {body : List Stmt} {wi : AI} {wt : AG} {wb : AW} (hp : PassesOwn (model X.prog X.w) X.A X.env X.xe) (hc : X.calm = true) (hi : MI X W tg e wi) (hg : MG X vs tg wt) (hb : MB X W body wb)
    (hs : ∀ x, foldedSetIterable e X.env x = pure x) : MS X W (.For tg e body [] pos) (forW wi wt wb) := by
  refine (ps_for hp hc hi hg hb hs).imp ?_
  rintro R σ H ⟨s, h, Dd, rs, rh, hw, lx, lr, ln, lb, lc⟩
  refine ⟨s, h, _, _, rs, rh, hw, fun xn h' cls d H' q1 q2 q3 q4 => lx xn s h' cls d σ H' q1 q2 (rs.ext rh q4) q3 q4, fun ds h1 grd J H1 q1 rh1 e1 hJ => ?_⟩
  obtain ⟨I, i0, step⟩ := q1
  refine ⟨fun i m σ' H' => i + m = ds.length ∧ ∃ s' h', SRep X.K H' s' σ' ∧ HRep X.K H' h' ∧ Ext h1 H1 h' H' ∧ I i s' h', ⟨ds.length, by omega, s, h1, rs.ext rh e1, rh1, Ext.refl, i0⟩, ?_⟩
  rintro i m σ' H' ⟨him, s', h', rs', rh', e', hI⟩
  obtain ⟨hgrd, hend, hstep⟩ := step i s' h' hI
  obtain ⟨jstop, jgo⟩ := hJ h' H' rh' e' hgrd
  by_cases hid : i = ds.length
  · subst hid
    exact .inl ⟨jstop, ln _ _ _ _ (hend rfl) rs' rh' (e1.trans e')⟩
  · have hlt : i < ds.length := by omega
    obtain ⟨go, yl⟩ := jgo i _ (List.getElem?_eq_getElem hlt)
    refine .inr ⟨go, fun σ2 H2 => ∃ s2 h2, SRep X.K H2 s2 σ2 ∧ HRep X.K H2 h2 ∧ Ext h1 H1 h2 H2 ∧ I (i + 1) s2 h2, fun σ2 H2 ⟨s2, h2, a1, a2, a3, a4⟩ => ⟨m - 1, by omega, by omega, s2, h2, a1, a2, a3, a4⟩, fun x H2 hy => ?_⟩
    obtain ⟨rx, rh2, e2⟩ := yl x H2 hy
    refine ⟨s', h', _, _, rs'.ext rh' e2, rh2, rx, hstep _ (List.getElem?_eq_getElem hlt), fun s3 h3 σ3 H3 q3 rs3 rh3 e3 _ => ?_⟩
    have ea : Ext h1 H1 h3 H3 := (e'.trans e2).trans e3
    refine ⟨s3, h3, _, rs3, rh3, q3, ?_, ?_, ?_, ?_, ?_⟩
    · exact fun xn s4 h4 cls d σ4 H4 z1 z2 z3 z4 z5 => lx xn s4 h4 cls d σ4 H4 z1 z2 z3 z4 ((e1.trans ea).trans z5)
    · exact fun dv h4 v H4 z1 z2 z3 z4 => lr dv h4 v H4 z1 z2 z3 ((e1.trans ea).trans z4)
    · rintro s4 h4 σ4 H4 ⟨s5, h5, z1, z2, z3⟩ r4 rh4 e4
      exact ⟨s5, h5, r4.ssub z1, rh4.sub z2, (ea.trans e4).sub z2, z3⟩
    · exact fun s4 h4 σ4 H4 z1 z2 z3 z4 => ln s4 h4 σ4 H4 z1 z2 z3 ((e1.trans ea).trans z4)
    · rintro s4 h4 σ4 H4 ⟨s5, h5, z1, z2, z3⟩ r4 rh4 e4
      exact ⟨s5, h5, r4.ssub z1, rh4.sub z2, (ea.trans e4).sub z2, z3⟩
theorem ms_whl {body : List Stmt} {wc : AT} {wb : AW} (hp : PassesOwn (model X.prog X.w) X.A X.env X.xe) (hc : MT X W c wc) (hb : MB X W body wb) : MS X W (.While c body [] pos) (whlW wc wb) := by
  refine (ps_while hp hc hb).imp ?_
  rintro R σ H ⟨s, h, Dd, rs, rh, hw, lx, lr, ln, lb, lc⟩
  obtain ⟨I, ⟨m0, i0⟩, step⟩ := hw
  refine ⟨fun m σ' H' => ∃ s' h', SRep X.K H' s' σ' ∧ HRep X.K H' h' ∧ Ext h H h' H' ∧ I m s' h', ⟨m0, s, h, rs, rh, Ext.refl, i0⟩, ?_⟩
  rintro m σ' H' ⟨s', h', rs', rh', e', hI⟩
  refine ⟨s', h', _, _, rs', rh', step m s' h' hI, fun xn h3 cls d H3 z1 z2 z3 z4 => lx xn s' h3 cls d σ' H3 z1 z2 (rs'.ext rh' z4) z3 (e'.trans z4), fun k h3 H3 q3 rh3 e3 => ?_⟩
  have rs3 := rs'.ext rh' e3
  have ea := e'.trans e3
  cases k with
  | false => exact ln _ _ _ _ q3 rs3 rh3 ea
  | true =>
    refine ⟨fun σ2 H2 => ∃ m', m' < m ∧ ∃ s2 h2, SRep X.K H2 s2 σ2 ∧ HRep X.K H2 h2 ∧ Ext h H h2 H2 ∧ I m' s2 h2, fun σ2 H2 z => z, s', h3, _, rs3, rh3, q3, ?_, ?_, ?_, ?_, ?_⟩
    · exact fun xn s4 h4 cls d σ4 H4 z1 z2 z3 z4 z5 => lx xn s4 h4 cls d σ4 H4 z1 z2 z3 z4 (ea.trans z5)
    · exact fun dv h4 v H4 z1 z2 z3 z4 => lr dv h4 v H4 z1 z2 z3 (ea.trans z4)
    · rintro s4 h4 σ4 H4 ⟨m', s5, h5, z0, z1, z2, z3⟩ r4 rh4 e4
      exact ⟨m', z0, s5, h5, r4.ssub z1, rh4.sub z2, (ea.trans e4).sub z2, z3⟩
    · exact fun s4 h4 σ4 H4 z1 z2 z3 z4 => ln s4 h4 σ4 H4 z1 z2 z3 (ea.trans z4)
    · rintro s4 h4 σ4 H4 ⟨m', s5, h5, z0, z1, z2, z3⟩ r4 rh4 e4
      exact ⟨m', z0, s5, h5, r4.ssub z1, rh4.sub z2, (ea.trans e4).sub z2, z3⟩
/-! comprehensions -/
theorem wipe_get : ∀ {vs : List Nat} {σ : L2.St} {i : Nat}, (wipe σ vs)[i]? = if i ∈ vs then (σ[i]?).map fun _ => none else σ[i]?
  | [], σ, i => by rw [if_neg (by simp)]; rfl
  | v :: vs, σ, i => by
    show ((wipe σ vs).set v none)[i]? = _
    by_cases e : v = i
    · subst e
      rw [if_pos (by simp)]
      by_cases hl : v < σ.length
      · rw [List.getElem?_set_self (by rw [wipe_length]; exact hl), List.getElem?_eq_getElem hl]; rfl
      · rw [List.getElem?_eq_none (by rw [List.length_set, wipe_length]; omega), List.getElem?_eq_none (by omega)]; rfl
    · rw [List.getElem?_set_ne e, wipe_get]
      have : (i ∈ v :: vs) ↔ i ∈ vs := by simp [Ne.symm e]
      simp only [this]
theorem wipe_off {vs us : List Nat} {σ σ2 : L2.St} (o : Off us (wipe σ vs) σ2) (hu : ∀ i ∈ us, i ∈ vs) : wipe σ2 vs = wipe σ vs := by
  apply List.ext_getElem?
  intro i
  rw [wipe_get, wipe_get]
  have hl : σ2.length = σ.length := o.1.trans (wipe_length σ vs)
  by_cases hi : i ∈ vs
  · rw [if_pos hi, if_pos hi]
    by_cases h1 : i < σ.length
    · rw [List.getElem?_eq_getElem h1, List.getElem?_eq_getElem (by omega)]; rfl
    · rw [List.getElem?_eq_none (by omega), List.getElem?_eq_none (by omega)]
  · rw [if_neg hi, if_neg hi, o.2 i (fun z => hi (hu i z)), wipe_get, if_neg hi]
theorem SRep.wipe {s : AS} {σ : L2.St} (r : SRep K H s σ) : ∀ vs : List Nat, SRep K H (wipeA s vs) (L2.wipe σ vs)
  | [] => r
  | v :: vs => (SRep.wipe r vs).setN v
mutual
theorem rep_hid {D0 : Addr} {xs ys : List V} (e : H1 D0 = some (.lst xs)) : ∀ (d : D) (v : V), Rep K H1 d v → Rep K (upd H1 D0 (.lst ys)) d v
  | .non, v, q => q
  | .bl b, v, q => q
  | .int i, v, q => q
  | .str s, v, q => q
  | .ref b, v, q => q
  | .tup ds, v, ⟨b, zs, ev, ⟨ob, t, nd⟩, q⟩ => ⟨b, zs, ev, ⟨ob, by
      rw [upd_ne (fun z => by rw [z, e] at t; cases t)]; exact t, nd⟩, reps_hid e ds zs q⟩
  | .pr ds, v, ⟨b, zs, ev, t, q⟩ => ⟨b, zs, ev, (by
      rcases t with (t | ⟨ob, t⟩) | t
      · refine .inl (.inl ?_)
        rw [upd_ne (fun z => by rw [z, e] at t; cases t)]; exact t
      · refine .inl (.inr ⟨ob, ?_⟩)
        rw [upd_ne (fun z => by rw [z, e] at t; cases t)]; exact t
      · exact .inr t), reps_hid e ds zs q⟩
  | .cl ds, v, ⟨b, zs, ev, t, q⟩ => ⟨b, zs, ev, (by
      rcases t with ⟨ob, t⟩ | t
      · refine .inl ⟨ob, ?_⟩
        rw [upd_ne (fun z => by rw [z, e] at t; cases t)]; exact t
      · exact .inr t), reps_hid e ds zs q⟩
  | .exn a dd ks ds, v, ⟨ev, ws, t, u, q⟩ => ⟨ev, ws, by rw [upd_ne (fun z => by rw [z, e] at t; cases t)]; exact t, u, reps_hid e ds _ q⟩
  | .err c a dd ks ds, v, ⟨ev, ⟨C, m, k⟩, ws, t, u, q⟩ => ⟨ev, ⟨C, m, by rw [upd_ne (fun z => by rw [z, e] at k; unfold EK at k; cases k)]; exact k⟩, ws, by rw [upd_ne (fun z => by rw [z, e] at t; cases t)]; exact t, u, reps_hid e ds _ q⟩
theorem reps_hid {D0 : Addr} {xs ys : List V} (e : H1 D0 = some (.lst xs)) : ∀ (ds : List D) (vs : List V), Reps K H1 ds vs → Reps K (upd H1 D0 (.lst ys)) ds vs
  | [], _, q => q
  | d :: ds, _, ⟨y, zs, ev, q1, q2⟩ => ⟨y, zs, ev, rep_hid e d y q1, reps_hid e ds zs q2⟩
end
theorem hrep_hid {D0 : Addr} {xs ys : List V} (r : HRep K H1 h1) (n : h1 D0 = none) (e : H1 D0 = some (.lst xs)) : HRep K (upd H1 D0 (.lst ys)) h1 := fun b o eb => by
  have hb : b ≠ D0 := fun z => by rw [z, n] at eb; cases eb
  have q := r b o eb
  cases o with
  | lst ds => obtain ⟨zs, e1, q⟩ := q; exact ⟨zs, by rw [upd_ne hb]; exact e1, reps_hid e _ _ q⟩
  | dct kvs => obtain ⟨ws, e1, q1, q2⟩ := q; exact ⟨ws, by rw [upd_ne hb]; exact e1, q1, reps_hid e _ _ q2⟩
  | tbl y => exact TabT.mono q (fun u z => by rw [upd_ne hb]; exact z) fun c q z => by rw [upd_ne (fun w => by rw [w, e] at z; cases z)]; exact z
abbrev MTs (X : Cx) (W : WX) (ifs : List Expr) (w : AT) : Prop := PTs X ifs (liftT X.K X.mg W w)
theorem _root_.L2.PTs.imp {X : Cx} {e : List Expr} {t t' : TT} (p : PTs X e t) (i : ∀ σ H Q, t' σ H Q → t σ H Q) : PTs X e t' := ⟨fun pins s σ H Q I h => p.run pins s σ H Q I (i _ _ _ h)⟩
theorem mts_no : MTs X W [] (fun _ h Q _ => Q true h) := by
  refine pts_nil.imp ?_
  rintro σ H Q ⟨s, h, Qd, Ed, rs, rh, hw, lx, lq⟩
  exact lq _ _ _ hw rh Ext.refl
abbrev W0 : WX := fun _ _ _ _ => False
/-- what a comprehension's reading asks -/
theorem lc_go {vs us : List Nat} {wi : AI} {wt : AG} {wc : AT} {we : AE} (hu : ∀ i ∈ us, i ∈ vs) (mg : Str → Option Value) : ∀ (σ : L2.St) (H : Hp) (Q : VK), liftE K mg W (lcW vs wi wt wc we) σ H Q →
    tLc (liftI K mg W wi) (liftG K mg us wt) (liftT K mg W0 wc) (liftE K mg W0 we) vs σ H Q := by
  rintro σ H Q ⟨s, h, Qd, Ed, rs, rh, hw, lx, lq⟩
  refine ⟨s, h, _, Ed, rs, rh, hw, lx, fun ds h1 grd J H1 q1 rh1 e1 hJ => ?_⟩
  obtain ⟨I, i0, step⟩ := q1
  intro D0 nD
  -- the list that is being made stands at D0, hidden
  refine ⟨fun i m H' => i + m = ds.length ∧ ∃ h' acc av, HRep K H' h' ∧ Ext h1 H1 h' H' ∧ h' D0 = none ∧ H' D0 = some (.lst av) ∧ Reps K H' acc av ∧ I i acc h',
    ⟨ds.length, by omega, h1, [], [], rh1.new nD, ext_new nD, rh1.fresh nD, upd_same, rfl, i0⟩, ?_⟩
  rintro i m H' ⟨him, h', acc, av, rh', e', n', eD, ra, hI⟩
  obtain ⟨hgrd, hend, hstep⟩ := step i acc h' hI
  obtain ⟨jstop, jgo⟩ := hJ h' H' rh' e' hgrd
  by_cases hid : i = ds.length
  · subst hid
    refine .inl ⟨jstop, ?_⟩
    have q := hend rfl D0 n'
    refine lq _ _ _ _ q rfl ?_ ?_
    · intro b o eb
      by_cases hb : b = D0
      · subst hb
        rw [aput_same] at eb; cases eb
        exact ⟨av, eD, ra⟩
      · rw [aput_ne hb] at eb
        exact rh' b o eb
    · intro b o eb nb
      obtain ⟨e2, n2⟩ := (e1.trans e') b o eb nb
      have hb : b ≠ D0 := fun z => by
        have := (e1 b o eb nb).1
        rw [z, nD] at this; cases this
      exact ⟨e2, by rw [aput_ne hb]; exact n2⟩
  · have hlt : i < ds.length := by omega
    obtain ⟨go, yl⟩ := jgo i _ (List.getElem?_eq_getElem hlt)
    refine .inr ⟨go, fun H2 => ∃ h2 acc2 av2, HRep K H2 h2 ∧ Ext h1 H1 h2 H2 ∧ h2 D0 = none ∧ H2 D0 = some (.lst av2) ∧ Reps K H2 acc2 av2 ∧ I (i + 1) acc2 h2, fun H2 ⟨h2, a2, v2, z⟩ => ⟨m - 1, by omega, by omega, h2, a2, v2, z⟩, fun x H2 hy => ?_⟩
    obtain ⟨rx, rh2, e2⟩ := yl x H2 hy
    have e02 := (e1.trans e').trans e2
    have rs2 := (rs.ext rh e02)
    refine ⟨wipeA s vs, h', _, _, rs2.wipe vs, rh2, rx, hstep _ (List.getElem?_eq_getElem hlt), fun s3 h3 σ3 H3 q3 rs3 rh3 e3 of => ⟨wipe_off of hu, s3, h3, _, noX, rs3, rh3, q3, fun _ _ _ _ _ z => z.elim, fun b h4 H4 q4 rh4 e4 => ?_⟩⟩
    have e24 := e3.trans e4
    have eD4 : H4 D0 = some (.lst av) ∧ h4 D0 = none := (e2.trans e24) D0 _ eD n'
    have ra4 : Reps K H4 acc av := Reps.ext rh' (e2.trans e24) _ _ ra
    have ea4 : Ext h1 H1 h4 H4 := (e'.trans e2).trans e24
    cases b with
    | false =>
      obtain ⟨h6, z1, z2⟩ := q4
      exact ⟨h6, acc, av, rh4.sub z1, ea4.sub z1, z1.none eD4.2, eD4.1, ra4, z2⟩
    | true =>
      refine ⟨s3, h4, _, noX, rs3.ext rh3 e4, rh4, q4, fun _ _ _ _ _ z => z.elim, fun dy h5 y H5 q5 r5 rh5 e5 => ?_⟩
      obtain ⟨hz, h6, z1, z2⟩ := q5
      obtain ⟨eD5, n5⟩ := e5 D0 _ eD4.1 eD4.2
      have ra5 := Reps.ext rh4 e5 _ _ ra4
      refine ⟨av, eD5, by rw [ra5.length]; exact hz, h6, acc ++ [dy], av ++ [y], (hrep_hid rh5 n5 eD5).sub z1, ?_, z1.none n5, upd_same, reps_hid eD5 _ _ (ra5.app (Reps.one r5)), z2⟩
      intro b o eb nb
      obtain ⟨g1, g2⟩ := (ea4.trans e5) b o eb nb
      have hb : b ≠ D0 := fun z => by rw [z, nD] at eb; cases eb
      exact ⟨by rw [upd_ne hb]; exact g1, z1.none g2⟩
theorem me_lc {elt : Expr} {ifs : List Expr} {scope : Scope} {own : List (Str × Nat)} {us : List Nat} {wi : AI} {wt : AG} {wu : AT} {we : AE} (hc : X.calm = true) (hN : X.N.Nodup) (hi : MI X W tg e wi) (ok : BlkOk X.N X.env.scope scope own)
    (hu : ∀ i ∈ us, i ∈ own.map (·.2))
    (hg : ∀ (s : Shared) (H : Hp) (C : Addr) (cl : List (Str × Addr)) (fp : List Addr), MG (X.blk s H scope (compEnvC scope cl C X.env) fp) us tg wt)
    (ht : ∀ (s : Shared) (H : Hp) (C : Addr) (cl : List (Str × Addr)) (fp : List Addr), MTs (X.blk s H scope (compEnvC scope cl C X.env) fp) W0 ifs wu)
    (he : ∀ (s : Shared) (H : Hp) (C : Addr) (cl : List (Str × Addr)) (fp : List Addr), ME (X.blk s H scope (compEnvC scope cl C X.env) fp) W0 elt we)
    (hs : ∀ x, foldedSetIterable e X.env x = pure x) : ME X W (.ListComp elt [⟨tg, e, ifs, 0⟩] scope pos) (lcW (own.map (·.2)) wi wt wu we) :=
  (pe_lc hc hN hi ok hg ht he hs).imp (lc_go hu X.mg)
/-! statements -/
theorem ms_set {vs : List Nat} {wt : AG} (he : ME X W e wa) (hg : MG X vs tg wt) (hs : swapsWithSole [tg] e pos.line X.env = pure false) (hw : swappedStores [tg] e X.env = pure none) (h1 : (assignEach [tg] X.env).map (·.2) = [assign tg X.env]) :
    MS X W (.Assign [tg] e pos) (fun R s h => wa s h (fun d h1 => wt d s h1 R.nx) fun x h1 => R.ex x s h1) := by
  refine (ps_asg he hg hs hw h1).imp ?_
  rintro R σ H ⟨s, h, Dd, rs, rh, hw, lx, lr, ln, lb, lc⟩
  refine ⟨s, h, _, _, rs, rh, hw, fun xn h' cls d H' q1 q2 q3 q4 => lx xn s h' cls d σ H' q1 q2 (rs.ext rh q4) q3 q4, fun dv h1 v H1 q1 r1 rh1 e1 => ?_⟩
  exact ⟨s, h1, dv, _, rs.ext rh e1, rh1, r1, q1, fun s2 h2 σ2 H2 q2 rs2 rh2 e2 _ => ln _ _ _ _ q2 rs2 rh2 (e1.trans e2)⟩
theorem ms_setLc {i : Nat} {y : Str} {py spos : Pos} {elt : Expr} {ifs : List Expr} {scope : Scope} {own : List (Str × Nat)} {us : List Nat} {wi : AI} {wt : AG} {wu : AT} {we : AE} (hc : X.calm = true) (hN : X.N.Nodup) (hy : X.N[i]? = some y) (hyl : X.env.scope.names.lookup y = some .local)
    (hsw : swapsWith (.ListComp elt [⟨tg, e, ifs, 0⟩] scope pos) (some (.Name y py)) spos.line X.env = pure true) (hi : MI X W tg e wi) (ok : BlkOk X.N X.env.scope scope own) (hu : ∀ i ∈ us, i ∈ own.map (·.2))
    (hg : ∀ (s : Shared) (H : Hp) (C : Addr) (cl : List (Str × Addr)) (fp : List Addr), MG (X.blk s H scope (compEnvC scope cl C X.env) fp) us tg wt)
    (ht : ∀ (s : Shared) (H : Hp) (C : Addr) (cl : List (Str × Addr)) (fp : List Addr), MTs (X.blk s H scope (compEnvC scope cl C X.env) fp) W0 ifs wu)
    (he : ∀ (s : Shared) (H : Hp) (C : Addr) (cl : List (Str × Addr)) (fp : List Addr), ME (X.blk s H scope (compEnvC scope cl C X.env) fp) W0 elt we)
    (hs : ∀ x, foldedSetIterable e X.env x = pure x) : MS X W (.Assign [.Name y py] (.ListComp elt [⟨tg, e, ifs, 0⟩] scope pos) spos) (fun R s h => lcW (own.map (·.2)) wi wt wu we s h (fun d h1 => R.nx (s.set i (some d)) h1) fun x h1 => R.ex x s h1) := by
  refine (ps_setLc (g := liftG X.K X.mg us wt) (tt := liftT X.K X.mg W0 wu) (te := liftE X.K X.mg W0 we) hc hN hy hyl hsw hi ok hg ht he hs).imp ?_
  rintro R σ H ⟨s, h, Dd, rs, rh, hw, lx, lr, ln, lb, lc⟩
  refine lc_go hu X.mg σ H _ ⟨s, h, _, _, rs, rh, hw, fun xn h' cls d H' q1 q2 q3 q4 => lx xn s h' cls d σ H' q1 q2 (rs.ext rh q4) q3 q4, fun dv h1 v H1 q1 r1 rh1 e1 => ?_⟩
  exact ln _ _ _ _ q1 ((rs.ext rh e1).set i r1) rh1 e1
theorem ms_ex (he : ME X W e wa) (hs : swapsWith e none pos.line X.env = pure false) : MS X W (.Expr e pos) (fun R s h => wa s h (fun _ h1 => R.nx s h1) fun x h1 => R.ex x s h1) := by
  refine (ps_expr he hs).imp ?_
  rintro R σ H ⟨s, h, Dd, rs, rh, hw, lx, lr, ln, lb, lc⟩
  exact ⟨s, h, _, _, rs, rh, hw, fun xn h' cls d H' q1 q2 q3 q4 => lx xn s h' cls d σ H' q1 q2 (rs.ext rh q4) q3 q4, fun dv h1 v H1 q1 r1 rh1 e1 => ln _ _ _ _ q1 (rs.ext rh e1) rh1 e1⟩
theorem ms_ret (he : ME X W e wa) : MS X W (.Return (some e) pos) (fun R s h => wa s h R.rt fun x h1 => R.ex x s h1) := by
  refine (ps_ret he).imp ?_
  rintro R σ H ⟨s, h, Dd, rs, rh, hw, lx, lr, ln, lb, lc⟩
  exact ⟨s, h, _, _, rs, rh, hw, fun xn h' cls d H' q1 q2 q3 q4 => lx xn s h' cls d σ H' q1 q2 (rs.ext rh q4) q3 q4, fun dv h1 v H1 q1 r1 rh1 e1 => lr _ _ _ _ q1 r1 rh1 e1⟩
theorem ms_retN : MS X W (.Return none pos) (fun R _ h => R.rt .non h) := by
  refine ps_retN.imp ?_
  rintro R σ H ⟨s, h, Dd, rs, rh, hw, lx, lr, ln, lb, lc⟩
  exact lr _ _ _ _ hw rfl rh Ext.refl
theorem ms_pass : MS X W (.Pass pos) (fun R s h => R.nx s h) := by
  refine ps_pass.imp ?_
  rintro R σ H ⟨s, h, Dd, rs, rh, hw, lx, lr, ln, lb, lc⟩
  exact ln _ _ _ _ hw rs rh Ext.refl
theorem ms_brk : MS X W (.Break pos) (fun R s h => R.bk s h) := by
  refine ps_break.imp ?_
  rintro R σ H ⟨s, h, Dd, rs, rh, hw, lx, lr, ln, lb, lc⟩
  exact lb _ _ _ _ hw rs rh Ext.refl
theorem ms_cont : MS X W (.Continue pos) (fun R s h => R.ct s h) := by
  refine ps_continue.imp ?_
  rintro R σ H ⟨s, h, Dd, rs, rh, hw, lx, lr, ln, lb, lc⟩
  exact lc _ _ _ _ hw rs rh Ext.refl
theorem ms_iff {t : Expr} {wt : AT} {wx wy : AW} {l r : List Stmt} (ht : MT X W t wt) (ha : MB X W l wx) (hb : MB X W r wy) : MS X W (.If t l r pos) (fun R s h => wt s h (fun k h1 => if k = true then wx R s h1 else wy R s h1) fun x h1 => R.ex x s h1) := by
  refine (ps_if ht ha hb).imp ?_
  rintro R σ H ⟨s, h, Dd, rs, rh, hw, lx, lr, ln, lb, lc⟩
  refine ⟨s, h, _, _, rs, rh, hw, fun xn h' cls d H' q1 q2 q3 q4 => lx xn s h' cls d σ H' q1 q2 (rs.ext rh q4) q3 q4, fun k h1 H1 q1 rh1 e1 => ?_⟩
  have go : ∀ {w : AW}, w Dd s h1 → liftS X.K X.mg W w R σ H1 := fun {w} q => ⟨s, h1, Dd, rs.ext rh e1, rh1, q,
    fun xn s4 h4 cls d σ4 H4 z1 z2 z3 z4 z5 => lx xn s4 h4 cls d σ4 H4 z1 z2 z3 z4 (e1.trans z5), fun dv h4 v H4 z1 z2 z3 z4 => lr dv h4 v H4 z1 z2 z3 (e1.trans z4),
    fun s4 h4 σ4 H4 z1 z2 z3 z4 => ln s4 h4 σ4 H4 z1 z2 z3 (e1.trans z4), fun s4 h4 σ4 H4 z1 z2 z3 z4 => lb s4 h4 σ4 H4 z1 z2 z3 (e1.trans z4), fun s4 h4 σ4 H4 z1 z2 z3 z4 => lc s4 h4 σ4 H4 z1 z2 z3 (e1.trans z4)⟩
  cases k with
  | true => exact go q1
  | false => exact go q1
theorem mb_nil : MB X W [] (fun R s h => R.nx s h) := by
  refine pss_nil.imp ?_
  rintro R σ H ⟨s, h, Dd, rs, rh, hw, lx, lr, ln, lb, lc⟩
  exact ln _ _ _ _ hw rs rh Ext.refl
theorem mb_cons {st : Stmt} {r : List Stmt} {wx wy : AW} (ha : MS X W st wx) (hb : MB X W r wy) : MB X W (st :: r) (fun R s h => wx { R with nx := fun s1 h1 => wy R s1 h1 } s h) := by
  refine (pss_cons ha hb).imp ?_
  rintro R σ H ⟨s, h, Dd, rs, rh, hw, lx, lr, ln, lb, lc⟩
  exact ⟨s, h, _, rs, rh, hw, lx, lr, fun s1 h1 σ1 H1 q1 rs1 rh1 e1 => ⟨s1, h1, Dd, rs1, rh1, q1,
    fun xn s4 h4 cls d σ4 H4 z1 z2 z3 z4 z5 => lx xn s4 h4 cls d σ4 H4 z1 z2 z3 z4 (e1.trans z5), fun dv h4 v H4 z1 z2 z3 z4 => lr dv h4 v H4 z1 z2 z3 (e1.trans z4),
    fun s4 h4 σ4 H4 z1 z2 z3 z4 => ln s4 h4 σ4 H4 z1 z2 z3 (e1.trans z4), fun s4 h4 σ4 H4 z1 z2 z3 z4 => lb s4 h4 σ4 H4 z1 z2 z3 (e1.trans z4), fun s4 h4 σ4 H4 z1 z2 z3 z4 => lc s4 h4 σ4 H4 z1 z2 z3 (e1.trans z4)⟩, lb, lc⟩
/-- a, b = e1, e2 (two, three) stored from the right -/
theorem Reps.three_of {d1 d2 d3 : D} {vs : List V} (r : Reps K H [d1, d2, d3] vs) : ∃ u v w, vs = [u, v, w] ∧ Rep K H d1 u ∧ Rep K H d2 v ∧ Rep K H d3 w := by
  obtain ⟨x, xs, e1, q1, q2⟩ := r
  obtain ⟨v, w, e2, q3, q4⟩ := Reps.two_of q2
  rw [e2] at e1
  exact ⟨x, v, w, e1, q1, q3, q4⟩
theorem parQ2 {i j : Nat} {s : AS} {Q : AS → Prop} : ∀ {ds : List D}, parQ [i, j] ds s Q → ∃ d1 d2, ds = [d1, d2] ∧ Q ((s.set i (some d1)).set j (some d2))
  | [d1, d2], q => ⟨d1, d2, rfl, q⟩
  | [], q => q.elim
  | [_], q => q.elim
  | _ :: _ :: _ :: _, q => q.elim
theorem parQ3 {i j l : Nat} {s : AS} {Q : AS → Prop} : ∀ {ds : List D}, parQ [i, j, l] ds s Q → ∃ d1 d2 d3, ds = [d1, d2, d3] ∧ Q (((s.set i (some d1)).set j (some d2)).set l (some d3))
  | [d1, d2, d3], q => ⟨d1, d2, d3, rfl, q⟩
  | [], q => q.elim
  | [_], q => q.elim
  | [_, _], q => q.elim
  | _ :: _ :: _ :: _ :: _, q => q.elim
theorem ms_par2 {i j : Nat} {x y : Str} {px py pt : Pos} {kt k2 pt2} (hc : X.calm = true) (hN : X.N.Nodup) (hi : X.N[i]? = some x) (hj : X.N[j]? = some y) (hij : i ≠ j)
    (hx : X.env.scope.names.lookup x = some .local) (hy : X.env.scope.names.lookup y = some .local) (ha : MA X W [a, b] ws)
    (hw : swappedStores [.Tuple [.Name x px, .Name y py] kt pt] (.Tuple [a, b] k2 pt2) X.env = pure (some [x, y])) (hs : swapsWithSole [.Tuple [.Name x px, .Name y py] kt pt] (.Tuple [a, b] k2 pt2) pos.line X.env = pure false) :
    MS X W (.Assign [.Tuple [.Name x px, .Name y py] kt pt] (.Tuple [a, b] k2 pt2) pos) (fun R s h => ws s h (fun ds h1 => parQ [i, j] ds s fun s1 => R.nx s1 h1) fun x h1 => R.ex x s h1) := by
  refine (ps_par hc hN hi hj hij hx hy ha hw hs).imp ?_
  rintro R σ H ⟨s, h, Dd, rs, rh, hw, lx, lr, ln, lb, lc⟩
  refine ⟨s, h, _, _, rs, rh, hw, fun xn h' cls d H' q1 q2 q3 q4 => lx xn s h' cls d σ H' q1 q2 (rs.ext rh q4) q3 q4, fun ds h1 vs H1 q1 r1 rh1 e1 => ?_⟩
  obtain ⟨d1, d2, rfl, q1⟩ := parQ2 q1
  obtain ⟨u, v, rfl, r2, r3⟩ := Reps.two_of r1
  exact ⟨u, v, rfl, ln _ _ _ _ q1 (((rs.ext rh e1).set i r2).set j r3) rh1 e1⟩
theorem ms_par3 {i j l : Nat} {x y z : Str} {px py pz pt : Pos} {kt k2 pt2} (hc : X.calm = true) (hN : X.N.Nodup) (hi : X.N[i]? = some x) (hj : X.N[j]? = some y) (hl : X.N[l]? = some z) (hij : i ≠ j) (hil : i ≠ l) (hjl : j ≠ l)
    (hx : X.env.scope.names.lookup x = some .local) (hy : X.env.scope.names.lookup y = some .local) (hz : X.env.scope.names.lookup z = some .local) (ha : MA X W [a, b, c] ws)
    (hw : swappedStores [.Tuple [.Name x px, .Name y py, .Name z pz] kt pt] (.Tuple [a, b, c] k2 pt2) X.env = pure (some [x, y, z])) (hs : swapsWithSole [.Tuple [.Name x px, .Name y py, .Name z pz] kt pt] (.Tuple [a, b, c] k2 pt2) pos.line X.env = pure false) :
    MS X W (.Assign [.Tuple [.Name x px, .Name y py, .Name z pz] kt pt] (.Tuple [a, b, c] k2 pt2) pos) (fun R s h => ws s h (fun ds h1 => parQ [i, j, l] ds s fun s1 => R.nx s1 h1) fun x h1 => R.ex x s h1) := by
  refine (ps_par3 hc hN hi hj hl hij hil hjl hx hy hz ha hw hs).imp ?_
  rintro R σ H ⟨s, h, Dd, rs, rh, hw, lx, lr, ln, lb, lc⟩
  refine ⟨s, h, _, _, rs, rh, hw, fun xn h' cls d H' q1 q2 q3 q4 => lx xn s h' cls d σ H' q1 q2 (rs.ext rh q4) q3 q4, fun ds h1 vs H1 q1 r1 rh1 e1 => ?_⟩
  obtain ⟨d1, d2, d3, rfl, q1⟩ := parQ3 q1
  obtain ⟨u, v, w, rfl, r2, r3, r4⟩ := Reps.three_of r1
  exact ⟨u, v, w, rfl, ln _ _ _ _ q1 ((((rs.ext rh e1).set i r2).set j r3).set l r4) rh1 e1⟩
theorem ms_dead {st : Stmt} : MS X W st (fun _ _ _ => False) := ⟨fun pins s σ H R I ⟨_, _, _, _, _, z, _⟩ => z.elim⟩
end
end MP
/-! MX5: x[::-1] of lists and tuples; xs[a:c] = ys of another list -/
namespace MP
open PySem PySem.Spec PyProof.Rows L2
section
variable {prog : Program} {w : World} {A : Around} {E : Value → Shared → Prop} {s : Shared}
theorem adjust_rev (n : Nat) : Builtin.Slice.sliceAdjust none none (-1) (n : Int) = ((n : Int) - 1, -1) := rfl
theorem places_rev (n : Nat) : Builtin.Slice.slicePlaces ((n : Int) - 1) (-1) (-1) = n := by
  unfold Builtin.Slice.slicePlaces
  have h1 : ¬ ((-1 : Int) > 0) := by omega
  have h2 : (- -1 : Int) = 1 := by decide
  simp only [h1, if_false, h2, Int.ediv_one]
  split <;> omega
theorem pick_rev (xs : Array Value) : ((List.range xs.size).filterMap fun (m : Nat) => xs[(((xs.size : Nat) : Int) - 1 + (m : Int) * -1).toNat]?).toArray = xs.toList.reverse.toArray := by
  congr 1
  have e : ∀ m, m ∈ List.range xs.size → xs[(((xs.size : Nat) : Int) - 1 + (m : Int) * -1).toNat]? = xs[xs.size - 1 - m]? := by
    intro m hm
    have := List.mem_range.mp hm
    rw [show (((xs.size : Nat) : Int) - 1 + (m : Int) * -1).toNat = xs.size - 1 - m by omega]
  have fc : ∀ l : List Nat, (∀ m, m ∈ l → xs[(((xs.size : Nat) : Int) - 1 + (m : Int) * -1).toNat]? = xs[xs.size - 1 - m]?) → (l.filterMap fun (m : Nat) => xs[(((xs.size : Nat) : Int) - 1 + (m : Int) * -1).toNat]?) = l.filterMap fun m => xs[xs.size - 1 - m]? := by
    intro l
    induction l with
    | nil => exact fun _ => rfl
    | cons y r ih => exact fun h => by rw [List.filterMap_cons, List.filterMap_cons, h y (List.mem_cons_self ..), ih fun m hm => h m (List.mem_cons_of_mem _ hm)]
  rw [fc _ e]
  have e2 : ((List.range xs.size).filterMap fun m => xs[xs.size - 1 - m]?) = ((List.range xs.size).map fun k => xs.size - 1 - k).filterMap (xs[·]?) := by rw [List.filterMap_map]; rfl
  rw [e2, PySem.W.krv_range, List.filterMap_reverse, PySem.W.krv_all]
theorem getItem_tuple_rev {t sl : Addr} {items : Array Value} {vs : Value} {Q : Value → Shared → Prop} (ht : IsTup s.heap t items) (hs : s.heap.IsSliceOf sl .none .none vs) (ps : IsPart vs (some (-1)))
    (h : Q (.ref s.heap.objs.size) { s with heap := s.heap.push { cls := .type "tuple", data := .seq items.toList.reverse.toArray } })
    (hsz : items.size ≤ sizeLine) : wpAny (model prog w) A (getItem (.ref t) (.ref sl)) Q E s := by
  have htake : sizeOk (.seq items.toList.reverse.toArray) := by
    show items.toList.reverse.toArray.size ≤ sizeLine
    rw [List.size_toArray, List.length_reverse, Array.length_toList]
    exact hsz
  obtain ⟨os, hos, hcs, hds⟩ := id hs
  have hTs : s.TypeIs (.ref sl) "slice" := ⟨os, hos, hcs⟩
  unfold getItem
  try with_reducible refine wpAny_holding ?_
  first | refine wpAny_bind (wpAny_pure ?_) | skip
  refine wpAny_bind (wpAny_sequenceKey ht.typeIs (by decide) ?_)
  refine wpAny_bind (wpAny_callSpecial?_slot (name := Str.ofString "__getitem__") ht.typeIs PyProof.Rows.slot_tuple_getitem
    (wpAny_call_entry PyProof.Rows.slot_tuple_getitem ht.typeIs entry_tuple_getitem ?_ (args_tuple_getitem _ _)))
  show wpAny _ _ (Builtin.Tuple.tupleItemsOf (.ref t) >>= _) _ _ s
  refine wpAny_bind (tupleItemsOf_ ht ?_)
  refine wpAny_bind (wpAny_typeOf hTs ?_)
  rw [if_pos (by decide)]
  refine wpAny_bind ?_
  unfold Builtin.Slice.sliceApplied Builtin.Slice.sliceFields
  refine wpAny_bind (wpAny_bind (wpAny_field hos hds (x := .none) rfl (wpAny_bind (wpAny_field hos hds (x := .none) rfl (wpAny_bind (wpAny_field hos hds (x := vs) rfl (wpAny_pure ?_)))))))
  refine wpAny_bind (HT.slicePart_ ps ?_)
  show wpAny _ _ (if ((-1 : Int) == 0) = true then _ else _) _ _ s
  rw [if_neg (by decide)]
  refine wpAny_bind (HT.slicePart_ .none (wpAny_bind (HT.slicePart_ .none (wpAny_bind (wpAny_pure ?_)))))
  show wpAny _ _ (match Builtin.Slice.sliceAdjust none none (-1) ((items.size : Nat) : Int) with | (lo, hi) => pure (lo, (-1 : Int), Builtin.Slice.slicePlaces lo hi (-1))) _ _ s
  rw [adjust_rev]
  show wpAny _ _ (pure (((items.size : Nat) : Int) - 1, (-1 : Int), Builtin.Slice.slicePlaces (((items.size : Nat) : Int) - 1) (-1) (-1))) _ _ s
  rw [places_rev]
  refine wpAny_pure ?_
  have hno : ¬ (((((items.size : Nat) : Int) - 1) == 0 && (-1 : Int) == 1 && items.size == items.size) = true) := by
    intro q
    rw [Bool.and_eq_true, Bool.and_eq_true] at q
    exact absurd q.1.2 (by decide)
  show wpAny _ _ (if ((((items.size : Nat) : Int) - 1) == 0 && (-1 : Int) == 1 && items.size == items.size) = true then _ else _) _ _ s
  rw [if_neg hno, pick_rev]
  first
    | exact wpAny_bind (m := Builtin.Tuple.tupleExact _) (wpAny_newObj_type (wpAny_pure ⟨_, rfl, wpAny_pure h⟩) htake)
    | exact wpAny_bind (m := Builtin.Tuple.tupleExact _) (wpAny_newObj_type (wpAny_bind (wpAny_pure (wpAny_pure ⟨_, rfl, wpAny_pure h⟩))) htake)
    | exact wpAny_bind (wpAny_bind (m := Builtin.Tuple.tupleExact _) (wpAny_newObj_type (wpAny_pure (wpAny_pure ⟨_, rfl, wpAny_pure h⟩)) htake))
    | exact wpAny_bind (wpAny_bind (m := Builtin.Tuple.tupleExact _) (wpAny_newObj_type (wpAny_pure ⟨_, rfl, wpAny_pure h⟩) htake))
end
section
variable {X : Cx} {W : WX} {a : Expr} {wa : AE} {pos : Pos}
/-! xs[a:c] = ys -/
def rSlS (o i j v : V) (H : Hp) (Q : Hp → Prop) : Prop := ∃ (a b : Addr) (xs ys : List V) (m n : Int), o = .ref a ∧ i = .int m ∧ j = .int n ∧ v = .ref b ∧ H a = some (.lst xs) ∧ H b = some (.lst ys) ∧ a ≠ b ∧ 0 ≤ m ∧ m ≤ n ∧ n ≤ xs.length ∧ xs.length + ys.length ≤ sizeLine ∧
  Q (upd H a (.lst (xs.take m.toNat ++ ys ++ xs.drop n.toNat)))
theorem pg_sls {o i j : Expr} {to ti tj : TE} {p2 : Pos} (ho : PE X o to) (hi : PE X i ti) (hj : PE X j tj) : PG X (.Subscript o (.Slice (some i) (some j) none p2) pos)
    (fun v σ H Q => to σ H fun x H1 => ti σ H1 fun y H2 => tj σ H2 fun z H3 => rSlS x y z v H3 fun H4 => Q σ H4) := by
  constructor
  intro pn st sg H0 v u Qv J rv hw
  have e : assign (.Subscript o (.Slice (some i) (some j) none p2) pos) X.env u = (do
      let ov ← holding [u] (eval o X.env)
      let iv ← holding [u, ov] (eval (.Slice (some i) (some j) none p2) X.env)
      standAt pos
      holding [u, ov, iv] (setItem ov iv u)
      release [iv, u, ov] []) := rfl
  rw [e]
  refine wpAny_bind (wpAny_holding (thn (ho.run pn st sg H0 _ J hw) fun ov s1 ⟨x, H1, J1, r1, q1⟩ => ?_))
  refine wpAny_bind (wpAny_holding (wpAny_Slice ?_))
  rw [evalPart_some]
  refine thn (hi.run pn s1 sg H1 _ J1 q1) fun vl s2 ⟨y, H2, J2, r2, q2⟩ => ?_
  rw [evalPart_some]
  refine thn (hj.run pn s2 sg H2 _ J2 q2) fun vu s3 ⟨z, H3, J3, r3, q3⟩ => ?_
  rw [evalPart_none]
  refine wpAny_pure ?_
  have J4 : Inv X pn sg H3 { s3 with heap := s3.heap.push { cls := .type "slice", data := .fields #[vl, vu, .none] } } := J3.kept (t' := s3.toks) fun _ _ g => Heap.get?_push_of_some _ g
  obtain ⟨a, b, xs, ys, m, n, rfl, rfl, rfl, rfl, hA, hB, ne, h0, h1, h2, h3, q⟩ := q3
  cases r1; cases rv
  refine wpAny_bind (wpAny_standAt (wpAny_bind (wpAny_holding (set_slice J4 hA hB ne (Heap.IsSliceOf.new ..) r2 r3 h0 h1 h2 h3 fun s5 J5 => ?_))))
  exact wpAny_release ⟨sg, _, J5, q⟩
theorem mg_sls {b c : Expr} {wb wc : AE} {p2 : Pos} (ha : ME X (fun _ _ _ _ => False) a wa) (hb : ME X (fun _ _ _ _ => False) b wb) (hc : ME X (fun _ _ _ _ => False) c wc) :
    MG X [] (.Subscript a (.Slice (some b) (some c) none p2) pos) (fun d s h Q => wa s h (fun x h1 => wb s h1 (fun y h2 => wc s h2 (fun z h3 => setSl x y z d h3 fun h4 => Q s h4) noX) noX) noX) := by
  refine (pg_sls ha hb hc).imp ?_
  rintro v σ H Q ⟨s, h, d, Kd, rs, rh, rd, hw, lk⟩
  refine ⟨s, h, _, noX, rs, rh, hw, fun _ _ _ _ _ z => z.elim, fun dx h1 x H1 q1 r1 rh1 e1 => ⟨s, h1, _, noX, rs.ext rh e1, rh1, q1, fun _ _ _ _ _ z => z.elim, fun dy h2 y H2 q2 r2 rh2 e2 =>
    ⟨s, h2, _, noX, (rs.ext rh e1).ext rh1 e2, rh2, q2, fun _ _ _ _ _ z => z.elim, fun dz h3 z H3 q3 r3 rh3 e3 => ?_⟩⟩⟩
  have r1' := Rep.ext rh2 e3 _ _ (Rep.ext rh1 e2 _ _ r1)
  have r2' := Rep.ext rh2 e3 _ _ r2
  have rd' := Rep.ext rh2 e3 _ _ (Rep.ext rh1 e2 _ _ (Rep.ext rh e1 _ _ rd))
  cases dx <;> first | exact q3.elim | skip
  cases dy <;> first | exact q3.elim | skip
  cases dz <;> first | exact q3.elim | skip
  cases d <;> first | exact q3.elim | skip
  rename_i la ii jj lb
  cases r1'; cases r2'; cases r3; cases rd'
  obtain ⟨ds, es, ea, eb, ne, h0, h1', h2', h3', q⟩ := q3
  obtain ⟨xs, f, rx⟩ := rh3.lst ea
  obtain ⟨ys, g, ry⟩ := rh3.lst eb
  have e123 := (e1.trans e2).trans e3
  refine ⟨_, _, xs, ys, _, _, rfl, rfl, rfl, rfl, f, g, ne, h0, h1', by rw [rx.length]; exact h2', by rw [rx.length, ry.length]; exact h3', ?_⟩
  have e4 : Ext h3 H3 (aput h3 la (.lst (ds.take ii.toNat ++ es ++ ds.drop jj.toNat))) (upd H3 la (.lst (xs.take ii.toNat ++ ys ++ xs.drop jj.toNat))) := ext_write ea
  exact lk _ _ _ _ q ((rs.ext rh e123).ext rh3 e4) (rh3.setL ea (((rx.take _).app ry).app (rx.drop _))) (e123.trans e4) Off.refl
end
end MP
/-! MX7: a lambda of one parameter as a key: its call, all objects of the heap kept; the heap over a frame as Fr and News tell it -/
namespace MP
open PySem PySem.Spec PyProof.Rows L2

/-! all of a heap but the frame L, told by Fr and News -/
/-- the heap's objects behind L, as far as n -/
def behindL (h : Heap) (L : Addr) : List (Addr × Obj) := (List.range h.objs.size).filterMap fun b => if L < b then (h.get? b).map fun o => (b, o) else none
theorem mem_behindL {h : Heap} {L b : Addr} {o : Obj} : (b, o) ∈ behindL h L ↔ L < b ∧ h.get? b = some o := by
  unfold behindL
  rw [List.mem_filterMap]
  constructor
  · rintro ⟨c, _, e⟩
    by_cases q : L < c
    · rw [if_pos q] at e
      cases z : h.get? c with
      | none => rw [z] at e; cases e
      | some u =>
        rw [z] at e
        cases e
        exact ⟨q, z⟩
    · rw [if_neg q] at e
      cases e
  · rintro ⟨q, e⟩
    exact ⟨b, List.mem_range.mpr (Heap.lt_size e), by rw [if_pos q, e]; rfl⟩
def aheadL (h : Heap) (L : Addr) : Heap := { h with objs := h.objs.extract 0 L }
theorem ext_same {xs : Array Obj} {L b : Nat} (hb : b < L) (hs : b < xs.size) : (xs.extract 0 L)[b]? = xs[b]? := by
  rw [Array.getElem?_extract, if_pos (by omega)]
  simp
theorem aheadL_get {h : Heap} {L b : Addr} {o : Obj} (hb : b < L) (e : h.get? b = some o) : (aheadL h L).get? b = some o := by
  have hs : b < h.objs.size := Heap.lt_size e
  unfold aheadL Heap.get? at *
  have this : (h.objs.extract 0 L)[b]? = h.objs[b]? := ext_same hb hs
  show (match (h.objs.extract 0 L)[b]? with | some ⟨_, _, .freed, _⟩ => none | o => o) = some o
  rw [this]
  exact e
theorem aheadL_size {h : Heap} {L : Addr} : (aheadL h L).objs.size = Nat.min L h.objs.size := by unfold aheadL; simp
theorem of_aheadL {h : Heap} {L b : Addr} {o : Obj} (e : (aheadL h L).get? b = some o) : b < L ∧ h.get? b = some o := by
  have hlt := Heap.lt_size e
  rw [aheadL_size] at hlt
  have hb : b < L := Nat.lt_of_lt_of_le hlt (Nat.min_le_left _ _)
  have hs : b < h.objs.size := Nat.lt_of_lt_of_le hlt (Nat.min_le_right _ _)
  refine ⟨hb, ?_⟩
  unfold aheadL Heap.get? at e
  have this : (h.objs.extract 0 L)[b]? = h.objs[b]? := ext_same hb hs
  change (match (h.objs.extract 0 L)[b]? with | some ⟨_, _, .freed, _⟩ => none | o => o) = some o at e
  rw [this] at e
  exact e
theorem fr_all {h : Heap} {L : Addr} {m : Str → Option Value} (hn : h.Ns L m) : Fr (aheadL h L) L h m ∧ News (aheadL h L) L h (behindL h L) := by
  refine ⟨⟨hn, fun b o e => (of_aheadL e).2, ?_⟩, ?_⟩
  · rw [aheadL_size]
    exact Nat.min_le_left _ _
  · rintro ⟨b, o⟩ hp
    obtain ⟨q, e⟩ := mem_behindL.mp hp
    refine ⟨e, Nat.ne_of_gt q, ?_⟩
    cases z : (aheadL h L).get? b with
    | none => rfl
    | some u => exact absurd (of_aheadL z).1 (Nat.lt_asymm q)
theorem of_fr {h h' : Heap} {L : Addr} {m : Str → Option Value} {news : List (Addr × Obj)} (F : Fr (aheadL h L) L h' m) (N : News (aheadL h L) L h' (behindL h L ++ news)) : ∀ b o, b ≠ L → h.get? b = some o → h'.get? b = some o := by
  intro b o hb e
  rcases Nat.lt_or_ge b L with q | q
  · exact F.keep b o (aheadL_get q e)
  · exact (N (b, o) (List.mem_append_left _ (mem_behindL.mpr ⟨Nat.lt_of_le_of_ne q (Ne.symm hb), e⟩))).1

/-! the call of a lambda of one parameter -/
section
variable {prog : Program} {w : World} {A : Around} {s : Shared} {f c' : Addr} {q : Str} {params : Arguments} {body : Expr} {scope : Scope} {clos : List (Str × Addr)} {pm ctv : Value} {y : Str} {v : Value} {Q : Value → Shared → Prop} {E : Value → Shared → Prop}
theorem lam_call1 (hroom : A.depth < recursionLimit) (hlim : s.heap.NoLimit) (ho : s.heap.get? f = some (PySem.W.kla_obj "<lambda>" q params body scope clos pm c' ctv)) (hcd : s.heap.CodeRec (.ref c') q)
    (hk : scope.kind = .function) (hco : scope.isCoroutine = false) (hgen : scope.isGenerator = false) (hcell : ∀ x ∈ scope.names, x.2 ≠ .cell)
    (hbind : bindArgs (PySem.W.kla_fn "<lambda>" q params body scope clos pm (.ref c') ctv) ⟨[v], []⟩ = pure [(y, v)]) (hy : scope.names.lookup y = some .local)
    (hbody : ∀ (h1 : Heap) (L : Addr) (tk : Nat), h1.Ns L (fun x => [(y, v)].reverse.lookup x) → (∀ b o, s.heap.get? b = some o → h1.get? b = some o) →
      wpAny (model prog w) (A.deeper (PySem.W.envX q scope L f (.ref c') clos)) (eval body (PySem.W.envX q scope L f (.ref c') clos)) Q (fun _ _ => False) { s with heap := h1, toks := tk }) :
    wpAny (model prog w) A (call (.ref f) [v]) Q E s := by
  refine wpAny_call (PySem.W.kla_callFunE hroom ho rfl hco hgen rfl hcd ?_)
  rw [hbind]
  refine wpAny_pure (wpAny_newFunctionEnv hcell (fun x hx => by rw [List.mem_singleton.mp hx]; exact hy) (fun h1 hns hsb => ⟨hlim.fresh _ hsb, ?_⟩) hk)
  have kp : ∀ b o, s.heap.get? b = some o → h1.get? b = some o := fun b o e => hsb.extBut b o (Nat.ne_of_lt (Heap.lt_size e)) (Heap.get?_push_of_some _ e)
  exact PySem.W.kla_codeExpr (wpAny_mono (hbody h1 _ _ hns kp) (fun _ _ x => x) fun _ _ x => x.elim)
end
end MP
/-! MX8: items read in a lambda's body; what is known behind a built-in that calls it -/
namespace MP
open PySem PySem.Spec PyProof.Rows L2

/-- in the heap hp, the thing u at the place n is w -/
def ItemAt (hp : Heap) (u : Value) (n : Int) (w : Value) : Prop := ∃ a its, u = .ref a ∧ (hp.IsList a its ∨ IsTup hp a its) ∧ 0 ≤ n ∧ n < its.size ∧ its.size ≤ sizeLine ∧ its[n.toNat]? = some w
theorem ItemAt.move {hp h' : Heap} {L : Addr} {m : Str → Option Value} {u w : Value} {n : Int} (i : ItemAt hp u n w) (hn : hp.Ns L m) (k : ∀ b o, b ≠ L → hp.get? b = some o → h'.get? b = some o) : ItemAt h' u n w := by
  obtain ⟨a, its, e, hl, h0, h1, h2, h3⟩ := i
  have ne : ∀ o : Obj, hp.get? a = some o → (∃ n, o.data = .seq its n) → a ≠ L := by
    rintro o ho ⟨n, hd⟩ z
    obtain ⟨o2, es, ep, ho2, hd2, _⟩ := hn
    rw [z, ho2] at ho
    cases ho
    rw [hd2] at hd
    cases hd
  refine ⟨a, its, e, ?_, h0, h1, h2, h3⟩
  rcases hl with ⟨o, ho, hc, hd⟩ | ⟨o, ho, hc, hd⟩
  · exact .inl ⟨o, k a o (ne o ho hd) ho, hc, hd⟩
  · exact .inr ⟨o, k a o (ne o ho hd) ho, hc, hd⟩
theorem ItemAt.keeps {hp h' : Heap} {u w : Value} {n : Int} (i : ItemAt hp u n w) (k : ∀ b o, hp.get? b = some o → h'.get? b = some o) : ItemAt h' u n w := by
  obtain ⟨a, its, e, hl, h⟩ := i
  refine ⟨a, its, e, ?_, h⟩
  rcases hl with ⟨o, ho, hc⟩ | ⟨o, ho, hc⟩
  · exact .inl ⟨o, k a o ho, hc⟩
  · exact .inr ⟨o, k a o ho, hc⟩
section
variable {prog : Program} {w : World} {A : Around} {s : Shared} {Q : Value → Shared → Prop} {E : Value → Shared → Prop}
theorem item_tail {value slice : Expr} {u x : Value} {n : Int} {t : Tok} (i : ItemAt s.heap u n x) (h : Q x s) (hs : subscripted slice false u (.int n t) = operate [u, .int n t] (getItem u (.int n t))) :
    wpAny (model prog w) A (subscriptTail value slice u (.int n t)) Q E s := by
  obtain ⟨a, its, rfl, hl, h0, h1, h2, h3⟩ := i
  have hn := line63
  rcases hl with hl | ht
  · exact item_listR hl h0 (by omega) h3 h hs
  · refine subscriptTail_builtinR (x := x) ht.typeIs PyProof.Rows.slot_tuple_getitem.lookup (PyProof.Rows.getItem_tuple (j := n.toNat) (Q := fun r s' => r = x ∧ Q r s') ht (by omega) (by omega) ?_ h3 ⟨rfl, h⟩) hs
    rw [seqIndex_of h0 (by omega)]
/-- z[y], z caught, y the parameter -/
theorem body_one {q : Str} {scope : Scope} {L f c' c : Addr} {clos : List (Str × Addr)} {y z : Str} {p1 p2 p3 : Pos} {u x : Value} {n : Int} {t : Tok} (hk : scope.kind = .function) (hz : scope.names.lookup z = some .free) (hy : scope.names.lookup y = some .local)
    (hc : clos.lookup z = some c) (hcell : s.heap.IsCell c (some u)) (hn : s.heap.Ns L (fun x => [(y, Value.int n t)].reverse.lookup x)) (i : ItemAt s.heap u n x) (h : Q x s)
    (d1 : (z == ("__debug__" : Str)) = false) (d2 : (z == ("__classdict__" : Str)) = false) (d3 : (y == ("__debug__" : Str)) = false) :
    wpAny (model prog w) A (eval (.Subscript (.Name z p1) (.Name y p2) p3) (PySem.W.envX q scope L f (.ref c') clos)) Q E s := by
  refine Subscript_ (wpAny_Name (wpAny_loadName_free hk hz hc hcell ?_ d2) d1)
  refine wpAny_Name (wpAny_loadName_local (v := .int n t) hk hy hn ?_ (item_tail i h (by with_unfolding_all rfl))) d3
  show ([(y, Value.int n t)].reverse.lookup y) = some (.int n t)
  simp
/-- z[y][k] -/
theorem body_two {q : Str} {scope : Scope} {L f c' c : Addr} {clos : List (Str × Addr)} {y z : Str} {p1 p2 p3 p4 p5 : Pos} {u x x2 : Value} {n k : Int} {j : Nat} {t : Tok} (hk : scope.kind = .function) (hz : scope.names.lookup z = some .free) (hy : scope.names.lookup y = some .local)
    (hc : clos.lookup z = some c) (hcell : s.heap.IsCell c (some u)) (hn : s.heap.Ns L (fun x => [(y, Value.int n t)].reverse.lookup x)) (i : ItemAt s.heap u n x) (i2 : ItemAt s.heap x k x2) (h : Q x2 { s with toks := s.toks + 1 })
    (d1 : (z == ("__debug__" : Str)) = false) (d2 : (z == ("__classdict__" : Str)) = false) (d3 : (y == ("__debug__" : Str)) = false) :
    wpAny (model prog w) A (eval (.Subscript (.Subscript (.Name z p1) (.Name y p2) p3) (.Constant (.int k) j p4) p5) (PySem.W.envX q scope L f (.ref c') clos)) Q E s := by
  refine Subscript_ (body_one hk hz hy hc hcell hn i ?_ d1 d2 d3)
  exact wpAny_Constant_int (item_tail (s := { s with toks := s.toks + 1 }) i2 h (by with_unfolding_all rfl))
end
/-! the state behind a built-in, by what Fr and News tell -/
section
variable {X : Cx} {pins : List (Addr × Obj)} {σ : L2.St} {H H' : Hp} {s : Shared} {h' : Heap} {m : Str → Option Value} {own : List (Addr × Obj)} {t' : Nat}
theorem ns_one {h : Heap} {L : Addr} {m m' : Str → Option Value} (a : h.Ns L m) (b : h.Ns L m') : m = m' := by
  obtain ⟨o, es, ep, ho, hd, _, r⟩ := a
  obtain ⟨o2, es2, ep2, ho2, hd2, _, r2⟩ := b
  rw [ho] at ho2
  cases ho2
  rw [hd] at hd2
  cases hd2
  funext x
  rw [← r x, ← r2 x]
theorem obj_of {P : Program} {w : World} {H : Hp} {h : Heap} {a : Addr} {u : HO} (x : ObjOk P w H h a u) : ∃ o, h.get? a = some o := by
  cases u with
  | lst xs => obtain ⟨_, _, _, _, e⟩ := x; exact ⟨_, e⟩
  | tup xs => obtain ⟨_, _, _, o, e, _⟩ := x; exact ⟨_, e⟩
  | dK kvs => obtain ⟨_, _, _, _, o, _, _, e, _⟩ := x; exact ⟨_, e⟩
  | dT kvs => obtain ⟨_, _, _, _, o, _, _, e, _⟩ := x; exact ⟨_, e⟩
  | set S n => obtain ⟨o, _, _, _, e, _⟩ := x; exact ⟨_, e⟩
  | ins C dx fs => obtain ⟨_, _, _, e, _⟩ := x; exact ⟨_, e⟩
  | own y => obtain ⟨_, e⟩ := x; exact ⟨_, e⟩
  | xd fs => obtain ⟨_, ⟨_, _, _, e, _⟩, _⟩ := x; exact ⟨_, e⟩
  | rng lo hi => obtain ⟨_, _, _, e⟩ := x; exact ⟨_, e⟩
  | frz ob u => obtain ⟨e, _⟩ := x; exact ⟨_, e⟩
  | tbl ps => exact ⟨_, show h.get? a = some _ from x⟩
  | met f y => exact ⟨_, show h.get? a = some _ from x⟩
  | ext φ => obtain ⟨_, ⟨o, e⟩, _⟩ := x; exact ⟨o, e⟩
theorem inv_fr (I : Inv X pins σ H s) (hm : s.heap.Ns X.env.locals m) (F : Fr (aheadL s.heap X.env.locals) X.env.locals h' m) (N : News (aheadL s.heap X.env.locals) X.env.locals h' (behindL s.heap X.env.locals ++ own))
    (hH : ∀ b u, H b = some u → H' b = some u) (hf : ∀ b o, s.heap.get? b = some o → H b = none → H' b = none) (hn : ∀ b u, H' b = some u → H b = some u ∨ ObjOk X.prog X.w H' h' b u) :
    Inv X pins σ H' { s with heap := h', toks := t' } := by
  have k := of_fr F N
  refine I.step (g' := s.gens) (d' := s.drawn) (ch := []) (fun b hb => absurd hb (by simp)) (fun b o hb _ _ e _ => k b o hb e) (fun b o hb _ _ e _ => ⟨o.slots, k b o hb e⟩)
    (fun b o _ e n => hf b o e n) (fun b o _ e => ?_) (fun b xs e => hH b _ e) (fun b o u e => hH b _ e) (fun b qs e => ⟨#[], by rw [hH b _ e]; simp⟩) (fun m2 hn2 => ?_) (fun b u e => ?_) I.bare
  · by_cases hb : b = X.env.locals
    · obtain ⟨oL, _, _, e2, _⟩ := F.ns
      exact ⟨oL, by rw [hb]; exact e2⟩
    · exact ⟨o, k b o hb e⟩
  · rw [← ns_one hm hn2]
    exact F.ns
  · rcases hn b u e with q | q
    · have hb : b ≠ X.env.locals := fun z => by rw [z, I.free] at q; cases q
      refine (I.hok b u q).stay (fun d v hd r => k d v ?_ r) (fun d r => hH d _ r) fun d xs r => hH d _ r
      rcases hd with z | z
      · rw [z]; exact hb
      · intro z2
        rw [z2, I.free] at z
        cases z
    · exact q
theorem inv_frSame (I : Inv X pins σ H s) (hm : s.heap.Ns X.env.locals m) (F : Fr (aheadL s.heap X.env.locals) X.env.locals h' m) (N : News (aheadL s.heap X.env.locals) X.env.locals h' (behindL s.heap X.env.locals)) :
    Inv X pins σ H { s with heap := h', toks := t' } := inv_fr (own := []) I hm F (by rw [List.append_nil]; exact N) (fun _ _ e => e) (fun _ _ _ e => e) fun _ _ e => .inl e
/-- a new list, D above all that was -/
theorem inv_frNew {D : Addr} {its : List Value} {c : Nat} {xs : List V} (I : Inv X pins σ H s) (hm : s.heap.Ns X.env.locals m) (F : Fr (aheadL s.heap X.env.locals) X.env.locals h' m)
    (N : News (aheadL s.heap X.env.locals) X.env.locals h' ((D, seqObj "list" its.toArray c) :: behindL s.heap X.env.locals)) (hD : ∀ q ∈ behindL s.heap X.env.locals, q.1 < D) (r : Vals xs its) (hz : xs.length ≤ sizeLine) :
    H D = none ∧ Inv X pins σ (upd H D (.lst xs)) { s with heap := h', toks := t' } := by
  have N0 : News (aheadL s.heap X.env.locals) X.env.locals h' (behindL s.heap X.env.locals ++ [(D, seqObj "list" its.toArray c)]) := fun p hp => by
    refine N p ?_
    rcases List.mem_append.mp hp with z | z
    · exact List.mem_cons_of_mem _ z
    · rw [List.mem_singleton.mp z]; exact List.mem_cons_self
  have nD := N (D, seqObj "list" its.toArray c) List.mem_cons_self
  have none_ : s.heap.get? D = none := by
    cases z : s.heap.get? D with
    | none => rfl
    | some o =>
      exfalso
      have neL : D ≠ X.env.locals := nD.2.1
      rcases Nat.lt_or_ge D X.env.locals with q | q
      · have := aheadL_get q z
        rw [nD.2.2] at this
        cases this
      · exact Nat.lt_irrefl _ (hD (D, o) (mem_behindL.mpr ⟨Nat.lt_of_le_of_ne q (Ne.symm neL), z⟩))
  have hN : H D = none := by
    cases z : H D with
    | none => rfl
    | some u =>
      obtain ⟨o, e⟩ := obj_of (I.hok D u z)
      rw [none_] at e
      cases e
  refine ⟨hN, inv_fr I hm F N0 (fun b u e => by rw [upd_ne (ne_of_none e hN)]; exact e) (fun b o e n => ?_) fun b u e => ?_⟩
  · rw [upd_ne (fun z => by rw [z, none_] at e; cases e)]
    exact n
  · by_cases hb : b = D
    · rw [hb, upd_same] at e
      cases e
      rw [hb]
      exact .inr ⟨hz, its, c, r, nD.1⟩
    · rw [upd_ne hb] at e
      exact .inl e
end
end MP
/-! MX9: min, max and sorted with a lambda of one parameter as their key -/
namespace MP
open PySem PySem.Spec PyProof.Rows L2

/-- the lambda's body: z[y], or z[y][k] -/
def bodyOk (body : Expr) (z y : Str) : Option Int → Prop
  | none => ∃ p1 p2 p3, body = .Subscript (.Name z p1) (.Name y p2) p3
  | some k => ∃ p1 p2 p3 j p4 p5, body = .Subscript (.Subscript (.Name z p1) (.Name y p2) p3) (.Constant (.int k) j p4) p5
/-- what it reads there -/
def keyAt (hp : Heap) (u : Value) (ko : Option Int) (n m : Int) : Prop := match ko with
  | none => ∃ t, ItemAt hp u n (.int m t)
  | some k => ∃ x t, ItemAt hp u n x ∧ ItemAt hp x k (.int m t)
theorem keyAt.move {hp h' : Heap} {L : Addr} {m0 : Str → Option Value} {u : Value} {ko : Option Int} {n m : Int} (i : keyAt hp u ko n m) (hn : hp.Ns L m0) (k : ∀ b o, b ≠ L → hp.get? b = some o → h'.get? b = some o) : keyAt h' u ko n m := by
  cases ko with
  | none => obtain ⟨t, i⟩ := i; exact ⟨t, i.move hn k⟩
  | some j => obtain ⟨x, t, i, i2⟩ := i; exact ⟨x, t, i.move hn k, i2.move hn k⟩
theorem keyAt.keeps {hp h' : Heap} {u : Value} {ko : Option Int} {n m : Int} (i : keyAt hp u ko n m) (k : ∀ b o, hp.get? b = some o → h'.get? b = some o) : keyAt h' u ko n m := by
  cases ko with
  | none => obtain ⟨t, i⟩ := i; exact ⟨t, i.keeps k⟩
  | some j => obtain ⟨x, t, i, i2⟩ := i; exact ⟨x, t, i.keeps k, i2.keeps k⟩
/-- the lambda's names: a parameter y, the caught z -/
structure LamN (scope : Scope) (y z : Str) : Prop where
  kind : scope.kind = .function
  co : scope.isCoroutine = false
  gen : scope.isGenerator = false
  cell : ∀ x ∈ scope.names, x.2 ≠ .cell
  par : scope.names.lookup y = some .local
  cap : scope.names.lookup z = some .free
  d1 : (z == ("__debug__" : Str)) = false
  d2 : (z == ("__classdict__" : Str)) = false
  d3 : (y == ("__debug__" : Str)) = false
/-- params: y alone -/
def lamPar (y : Str) (p : Pos) : Arguments := ⟨[], [⟨y, none, p⟩], none, [], [], none, []⟩
theorem lamPar_bind {y q : Str} {p : Pos} {body : Expr} {scope : Scope} {cl : List (Str × Addr)} {pm cv ctv v : Value} : bindArgs (PySem.W.kla_fn "<lambda>" q (lamPar y p) body scope cl pm cv ctv) ⟨[v], []⟩ = pure [(y, v)] := by
  have e : seqItems? Value.none = pure none := rfl
  unfold bindArgs lamPar
  simp [List.zip, e]
section
variable {X : Cx} {pins : List (Addr × Obj)} {σ : L2.St} {H : Hp} {s : Shared}
theorem key_turn {A : Around} {f c' c : Addr} {q y z : Str} {pp : Pos} {body : Expr} {scope : Scope} {clos : List (Str × Addr)} {pm ctv u : Value} {ko : Option Int} {n k : Int} {t : Tok} {m : Str → Option Value} {h : Heap} {tk : Nat} {own : List (Addr × Obj)}
    (I : Inv X pins σ H s) (hm : s.heap.Ns X.env.locals m) (hroom : A.depth < recursionLimit) (ho : s.heap.get? f = some (PySem.W.kla_obj "<lambda>" q (lamPar y pp) body scope clos pm c' ctv)) (hcd : s.heap.CodeRec (.ref c') q) (N : LamN scope y z) (hb : bodyOk body z y ko)
    (hc : clos.lookup z = some c) (hcell : s.heap.IsCell c (some u)) (hk : keyAt s.heap u ko n k)
    (F : Fr (aheadL s.heap X.env.locals) X.env.locals h m) (W : News (aheadL s.heap X.env.locals) X.env.locals h (behindL s.heap X.env.locals ++ own)) :
    wpAny (model X.prog X.w) A (call (.ref f) [.int n t]) (KskEnd (aheadL s.heap X.env.locals) X.env.locals m (behindL s.heap X.env.locals ++ own) k { s with heap := h, toks := tk }) (fun _ _ => False) { s with heap := h, toks := tk } := by
  have mv := of_fr F W
  have ne : ∀ {b : Addr} {o : Obj}, s.heap.get? b = some o → (∀ es ep, o.data ≠ .dict es ep) → b ≠ X.env.locals := fun {b o} e hd z => by
    obtain ⟨o2, es, ep, ho2, hd2, _⟩ := hm
    rw [z, ho2] at e
    cases e
    exact hd _ _ hd2
  have lim : h.NoLimit := I.ok.mod.nolimit.keeps fun b o e => by
    have e1 := I.ok.bs b o e
    exact mv b o (Nat.ne_of_lt (Nat.lt_of_lt_of_le (Heap.lt_size e1.1) I.ok.above)) (I.bk b o e)
  obtain ⟨c2, oc, vs, tq, e2, hoc, hdc, hvc⟩ := hcd
  have hcd' : h.CodeRec (.ref c') q := ⟨c2, oc, vs, tq, e2, mv _ _ (ne hoc fun es ep z => by rw [hdc] at z; cases z) hoc, hdc, hvc⟩
  obtain ⟨ob, hob, hbd⟩ := hcell
  have hcell' : h.IsCell c (some u) := ⟨ob, mv _ _ (ne hob fun es ep z => by rw [hbd] at z; cases z) hob, hbd⟩
  have hk' := hk.move hm mv
  refine lam_call1 (s := { s with heap := h, toks := tk }) hroom lim (mv _ _ (ne ho fun es ep z => by cases z) ho) hcd' N.kind N.co N.gen N.cell lamPar_bind N.par fun h1 L tk1 hns kp => ?_
  have hk1 := hk'.keeps kp
  obtain ⟨ob2, hob2, hbd2⟩ := hcell'
  have hcell1 : h1.IsCell c (some u) := ⟨ob2, kp _ _ hob2, hbd2⟩
  cases ko with
  | none =>
    obtain ⟨p1, p2, p3, rfl⟩ := hb
    obtain ⟨t2, i⟩ := hk1
    exact body_one (s := { s with heap := h1, toks := tk1 }) N.kind N.cap N.par hc hcell1 hns i ⟨h1, tk1, t2, rfl, rfl, F.kept kp, W.grown kp⟩ N.d1 N.d2 N.d3
  | some j =>
    obtain ⟨p1, p2, p3, j2, p4, p5, rfl⟩ := hb
    obtain ⟨x, t2, i, i2⟩ := hk1
    exact body_two (s := { s with heap := h1, toks := tk1 }) N.kind N.cap N.par hc hcell1 hns i i2 ⟨h1, tk1 + 1, t2, rfl, rfl, F.kept kp, W.grown kp⟩ N.d1 N.d2 N.d3
/-- the lambda is made; all but its table stays as it was -/
theorem lam_make1 {c P : Addr} {params : Arguments} {body : Expr} {scope : Scope} {pos : Pos} {E : Value → Shared → Prop} {Q : Value → Shared → Prop} (I : Inv X pins σ H s) (TB : LamX.TabB X.base X.mg c P) (hcode : X.env.code = .ref c)
    (hT : LamX.TabS H P (X.env.qual ++ "<lambda>")) (hdef : defaultsOf params X.env = ([], [])) (hfree : ∀ y ∈ scope.names, y.2 = .free → ∃ c, X.env.cells.lookup y.1 = some c)
    (h : ∀ (f c' : Addr) (pm ctv : Value) (H1 : Hp) (s' : Shared), Inv X pins σ H1 s' → (∀ b o, b ≠ P → H b = some o → H1 b = some o) → LamX.TabS H1 P (X.env.qual ++ "<lambda>") →
      s'.heap.get? f = some (PySem.W.kla_obj "<lambda>" (X.env.qual ++ "<lambda>") params body scope (cloFrom X.env.cells scope.names []) pm c' ctv) → s'.heap.CodeRec (.ref c') (X.env.qual ++ "<lambda>") → Q (.ref f) s') :
    wpAny (model X.prog X.w) X.A (eval (.Lambda params body scope pos) X.env) Q E s := by
  obtain ⟨ps, hP, ht, ha⟩ := hT
  have rec_of : ∀ {H1 : Hp} {s' : Shared} {c' : Addr}, Inv X pins σ H1 s' → H1 c' = some (LamX.CodeO c' (X.env.qual ++ "<lambda>")) → s'.heap.CodeRec (.ref c') (X.env.qual ++ "<lambda>") := fun {H1 s' c'} J e => by
    obtain ⟨⟨oc, vs, t, e1, e2, e3⟩, _⟩ := J.hok c' _ e
    exact ⟨c', oc, vs, t, rfl, e1, e2, e3⟩
  refine PySem.W.kla_eval hdef ?_
  have bP : s.heap.BuiltinsAt X.mg P := TB.bm.keeps I.bk
  have hP' : s.heap.get? P = some { cls := .none, data := .fields ps } := I.hok P _ hP
  cases hc : codeAmong pos ps.toList with
  | none =>
    refine PySem.W.kla_makeFunction (mg := X.mg) (c := c) (P := P) (ps := ps) (closure_ok hfree) I.ok.glob (I.mod.glob.keeps I.bk) hcode (TB.code.keeps I.bk) hP' ht hc TB.gP bP fun c' ctv h' tk hx hge hlt hrec htb => ?_
    obtain ⟨c2, oc, vs, t, e2, hoc, hd, hv⟩ := hrec
    cases e2
    have nC : H c' = none := I.hok.fresh hge
    have I1 := LamX.inv_table (t' := tk) (more := #[rawInt pos.line, rawInt pos.col, .ref c']) (h' := h'.push (PySem.W.kla_obj "<lambda>" (X.env.qual ++ "<lambda>") params body scope (cloFrom X.env.cells scope.names []) ((X.mg "__name__").getD .none) c' ctv)) I hP
      (fun b o hb e => Heap.get?_push_of_some _ (hx b o hb e)) (Heap.get?_push_of_some _ htb) hge ⟨oc, vs, t, Heap.get?_push_of_some _ hoc, hd, hv⟩
    have hE : ∀ b o, b ≠ P → H b = some o → upd (upd H P (.tbl (ps ++ #[rawInt pos.line, rawInt pos.col, .ref c']))) c' (LamX.CodeO c' (X.env.qual ++ "<lambda>")) b = some o := fun b o nb e => by
      rw [upd_ne (ne_of_none e nC), upd_ne nb]
      exact e
    have eL : (ps ++ #[rawInt pos.line, rawInt pos.col, .ref c']).toList = ps.toList ++ [rawInt pos.line, rawInt pos.col, .ref c'] := by simp
    have codeP : ∀ {b : Addr} {q : Str}, H b = some (LamX.CodeO b q) → b ≠ P := fun {b q} e z => by
      rw [z, hP] at e
      exact LamX.codeO_ne ps (Option.some.inj e).symm
    refine h h'.objs.size c' ((X.mg "__name__").getD .none) ctv _ _ I1 hE ⟨_, by rw [upd_ne (ne_of_none hP nC), upd_same], by rw [eL]; exact PySem.TriplesOk_snoc _ _ _ _ ht, fun p' cv hcv => ?_⟩ (Heap.get?_push_size _ rfl) (rec_of I1 upd_same)
    rw [eL] at hcv
    rcases LamX.among_app _ ht hcv with z | z
    · obtain ⟨c0, e1, e2⟩ := ha p' cv z
      exact ⟨c0, e1, hE _ _ (codeP e2) e2⟩
    · exact ⟨c', z, upd_same⟩
  | some cv =>
    obtain ⟨c', e, hco⟩ := ha pos cv hc
    subst e
    refine PySem.W.kla_makeFunctionHit (mg := X.mg) (c := c) (P := P) (ps := ps) (closure_ok hfree) I.ok.glob (I.mod.glob.keeps I.bk) hcode (TB.code.keeps I.bk) hP' ht hc bP fun ctv h' tk hx hsz => ?_
    have I1 : Inv X pins σ H { s with heap := h'.push (PySem.W.kla_obj "<lambda>" (X.env.qual ++ "<lambda>") params body scope (cloFrom X.env.cells scope.names []) ((X.mg "__name__").getD .none) c' ctv), toks := tk } := I.kept fun b o e => Heap.get?_push_of_some _ (hx b o e)
    exact h h'.objs.size c' ((X.mg "__name__").getD .none) ctv H _ I1 (fun _ _ _ e => e) ⟨ps, hP, ht, ha⟩ (Heap.get?_push_size _ rfl) (rec_of I1 hco)
end
end MP
/-! MXA: min, max, sorted with a lambda as key, over the abstract heap -/
namespace MP
open PySem PySem.Spec PyProof.Rows L2

/-- what is known of the def's own table -/
structure LamF (X : Cx) (x : Str) : Prop where
  ok : ∃ c P, X.env.code = .ref c ∧ PySem.W.tabIn X.K x = some (c, P) ∧ LamX.TabB X.base X.mg c P
  q : X.env.qual ++ "<lambda>" = lamQ x
section
variable {X : Cx} {pins : List (Addr × Obj)} {σ : L2.St} {H : Hp} {s : Shared} {h : AH}
theorem ixL_item (I : Inv X pins σ H s) (rh : HRep X.K H h) {d u : D} {v : V} {val : Value} {n : Int} (rd : Rep X.K H d v) (rv : RelV v val) (i : ixL h d n u) : ∃ w x, ItemAt s.heap val n x ∧ Rep X.K H u w ∧ RelV w x := by
  cases d <;> first | exact i.elim | skip
  · obtain ⟨a, xs, rfl, t, q⟩ := rd
    cases rv
    obtain ⟨i0, i⟩ := i
    obtain ⟨its, r, ht, hz⟩ := I.tuple t.t
    obtain ⟨w, ew, rw'⟩ := q.get i
    obtain ⟨x, ex, rx⟩ := r.get ew
    have hl := r.length
    have hi := (List.getElem?_eq_some_iff.mp ew).1
    exact ⟨w, x, ⟨a, its.toArray, rfl, .inr ht, i0, by rw [List.size_toArray]; omega, by rw [List.size_toArray]; omega, by simpa using ex⟩, rw', rx⟩
  · cases rd
    cases rv
    obtain ⟨i0, ds, l, i⟩ := i
    obtain ⟨xs, sq, q⟩ := rh.seq l
    obtain ⟨its, r, ht, hz⟩ := I.list sq
    obtain ⟨w, ew, rw'⟩ := q.get i
    obtain ⟨x, ex, rx⟩ := r.get ew
    have hl := r.length
    have hi := (List.getElem?_eq_some_iff.mp ew).1
    exact ⟨w, x, ⟨_, its.toArray, rfl, .inl ht.isList, i0, by rw [List.size_toArray]; omega, by rw [List.size_toArray]; omega, by simpa using ex⟩, rw', rx⟩
theorem keyL_at (I : Inv X pins σ H s) (rh : HRep X.K H h) {d : D} {v : V} {val : Value} {ko : Option Int} {n m : Int} (rd : Rep X.K H d v) (rv : RelV v val) (i : keyL h d ko n m) : keyAt s.heap val ko n m := by
  cases ko with
  | none =>
    obtain ⟨w, x, j, rw', rx⟩ := ixL_item I rh rd rv i
    cases rw'
    obtain ⟨t, rfl⟩ := rx
    exact ⟨t, j⟩
  | some k =>
    obtain ⟨u, i1, i2⟩ := i
    obtain ⟨w, x, j, rw', rx⟩ := ixL_item I rh rd rv i1
    obtain ⟨w2, x2, j2, rw2, rx2⟩ := ixL_item I rh rw' rx i2
    cases rw2
    obtain ⟨t, rfl⟩ := rx2
    exact ⟨x, t, j, j2⟩
theorem ints_vals : ∀ {ns : List Int} {its : List Value}, Vals (ns.map V.int) its → IntsAre its ns
  | [], _, r => by cases r; exact .nil
  | n :: ns, _, r => by
    cases r with
    | cons r1 r2 =>
      obtain ⟨t, rfl⟩ := r1
      exact .cons n t (ints_vals r2)
/-- the table's steps: all else stays -/
theorem tab_step {K : PySem.W.Frag} {H H2 : Hp} {h : AH} {P : Addr} {nm : Str} (rh : HRep K H h) (e : h P = some (.tbl nm)) (k : ∀ b o, b ≠ P → H b = some o → H2 b = some o) (t : LamX.TabS H2 P (lamQ nm)) : Ext h H h H2 ∧ HRep K H2 h := by
  have x : Ext h H h H2 := fun a o e1 n => ⟨k a o (fun z => by rw [z, e] at n; cases n) e1, n⟩
  refine ⟨x, fun a o ea => ?_⟩
  by_cases z : a = P
  · rw [z, e] at ea
    cases ea
    rw [z]
    exact ⟨(rh P _ e).1, t⟩
  · exact (rh a o ea).ext rh x fun u e1 => k a u z e1
end
section
variable {X : Cx} {W : WX} {e : Expr} {ws : AA} {p pos lp kp pp : Pos} {body : Expr} {scope : Scope} {y z : Str} {ko : Option Int} {i : Nat} {lam : Option Str}
theorem me_kb {o : KB} (ha : MA X W [e] ws) (hg : Gl X o.nm) (hm : X.mg o.nm = none) (hd : X.A.handled = none) (hroom : X.A.depth < recursionLimit) (hN : X.N[i]? = some z) (hz : X.env.scope.names.lookup z = some .cell) (hL : ∀ x, lam = some x → LamF X x)
    (N : LamN scope y z) (hfree : ∀ x ∈ scope.names, x.2 = .free → x.1 = z) (hb : bodyOk body z y ko)
    (hs : starEach [e] X.env = (false, eval e X.env) :: starEach [] X.env) (hpl : (backTo pos (starEach [e] X.env)).any (·.1) = false) :
    ME X W (.Call (.Name o.nm p) [e] [⟨some "key", .Lambda (lamPar y pp) body scope lp, kp⟩] pos) (fun s h Q E => ws s h (fun ds h1 => match ds with
      | [x] => kbD lam o ko s[i]? x h1 Q
      | _ => False) E) := by
  refine ⟨fun pins s σ H Q I hw => ?_⟩
  obtain ⟨s0, h0, Qd, Ed, rs, rh, hw, lx, lq⟩ := hw
  refine wpAny_Call_Name_kw (ld_blt I hg hm o.boot ?_ (by cases o <;> decide) (by cases o <;> decide))
  refine PyProof.Rows.callWith_kw (thn (ha.run pos pins s σ H (fun vs H1 => ∃ ds h1, Reps X.K H1 ds vs ∧ HRep X.K H1 h1 ∧ Ext h0 H h1 H1 ∧ (match ds with
      | [x] => kbD lam o ko s0[i]? x h1 Qd
      | _ => False)) I ⟨s0, h0, _, Ed, rs, rh, hw, lx, fun ds h1 vs H1 q1 r1 rh1 e1 => ⟨ds, h1, r1, rh1, e1, q1⟩⟩) fun us s1 ⟨vs, H1, I1, r1, ds, h1, r2, rh1, e1, q⟩ => ?_) ?_ hpl
  case refine_2 => show (starEach [e] X.env).map _ = _; rw [hs]; rfl
  match ds, q, r2 with
  | [.ref l], q, r2 =>
    obtain ⟨nm, P, dc, ns, kf, hlam, hP, hdc, hls, hkey, q⟩ := q
    obtain ⟨u1, _, rfl, ru, rfl⟩ := r2
    cases ru
    obtain ⟨ul, rfl, rl⟩ := r1.one
    cases rl
    have LF := hL nm hlam
    obtain ⟨c, P0, hcode, htab, TB⟩ := LF.ok
    obtain ⟨⟨c1, ht1⟩, hT⟩ := rh1 P _ hP
    rw [htab] at ht1
    cases ht1
    obtain ⟨v, ev, rv⟩ := rs.2 i dc hdc
    have hfree' : ∀ x ∈ scope.names, x.2 = .free → ∃ c, X.env.cells.lookup x.1 = some c := fun x hx e => by
      rw [hfree x hx e]
      exact I.ok.has z (.inl hz)
    show wpAny _ _ (evalAll [do let v ← eval (.Lambda (lamPar y pp) body scope lp) X.env; standAt pos; pure v]) _ _ s1
    refine wpAny_evalAll_cons (wpAny_bind (lam_make1 I1 TB hcode (by rw [LF.q]; exact hT) rfl hfree' fun f c' pm ctv H2 s2 I2 k2 T2 ho hcd => wpAny_bind (wpAny_standAt (wpAny_pure (wpAny_evalAll_nil ?_)))))
    rw [LF.q] at T2
    obtain ⟨e2, rh2⟩ := tab_step rh1 hP k2 T2
    have rv2 := Rep.ext rh1 e2 _ _ (Rep.ext rh e1 _ _ rv)
    obtain ⟨m, hn, hl⟩ := I2.loc
    obtain ⟨u, ru, lk⟩ := hl i z v hN ev (.inr (.inl hz))
    obtain ⟨cz, hcz, hcell⟩ : ∃ cz, X.env.cells.lookup z = some cz ∧ s2.heap.IsCell cz (some u) := by
      rcases lk with ⟨k1, _⟩ | ⟨_, k2⟩
      · have k1 : X.env.scope.names.lookup z = some .local := k1
        rw [hz] at k1
        cases k1
      · exact k2
    have hclo : (cloFrom X.env.cells scope.names []).lookup z = some cz := by
      have hy : (z, NameKind.free) ∈ scope.names := PySem.mem_of_lookup N.cap
      obtain ⟨c3, h3⟩ := mem_lookup (cloFrom_has (cells := X.env.cells) (acc := []) hy)
      rcases cloFrom_mem (PySem.mem_of_lookup h3) with k | ⟨_, k⟩
      · cases k
      · rw [h3, k, hcz]; rfl
    have hka : ∀ n, n ∈ ns → keyAt s2.heap u ko n (kf n) := fun n hn => keyL_at I2 rh2 rv2 ru (hkey n hn)
    obtain ⟨F, Nw⟩ := fr_all hn
    have lq2 : Lnk X.K h1 H2 Qd Q := (Lnk.step lq e1).step e2
    obtain ⟨xs, sq, qx⟩ := rh2.seq hls
    rw [qx.ints] at sq
    obtain ⟨its, r, pl, hsz⟩ := I2.list sq
    have hi := ints_vals r
    have hlen := hi.length
    have isl : ∀ h', Fr (aheadL s2.heap X.env.locals) X.env.locals h' m → News (aheadL s2.heap X.env.locals) X.env.locals h' (behindL s2.heap X.env.locals) → h'.IsList l its.toArray := fun h' F' N' => by
      obtain ⟨ob, e3, hc3, n3, hd3⟩ := pl.isList
      refine ⟨ob, of_fr (news := []) F' (by rw [List.append_nil]; exact N') l ob (fun z => ?_) e3, hc3, n3, hd3⟩
      obtain ⟨o2, es, ep, ho2, hd2, _⟩ := hn
      rw [z, ho2] at e3
      cases e3
      rw [hd2] at hd3
      cases hd3
    have turn : ∀ (A : Around), A.depth < recursionLimit → ∀ (n : Int) (t : Tok) (h : Heap) (tk : Nat) (own : List (Addr × Obj)), n ∈ ns → Fr (aheadL s2.heap X.env.locals) X.env.locals h m → News (aheadL s2.heap X.env.locals) X.env.locals h (behindL s2.heap X.env.locals ++ own) →
        wpAny (model X.prog X.w) A (call (.ref f) [.int n t]) (KskEnd (aheadL s2.heap X.env.locals) X.env.locals m (behindL s2.heap X.env.locals ++ own) (kf n) { s2 with heap := h, toks := tk }) (fun _ _ => False) { s2 with heap := h, toks := tk } :=
      fun A hA n t h tk own hnn F' N' => key_turn I2 hn hA ho hcd N hb hclo hcell (hka n hnn) F' N'
    have done : ∀ (n : Int) (t : Tok) (h' : Heap) (tk : Nat), Fr (aheadL s2.heap X.env.locals) X.env.locals h' m → News (aheadL s2.heap X.env.locals) X.env.locals h' (behindL s2.heap X.env.locals) → Qd (.int n) h1 → EP X pins σ Q (.int n t) { s2 with heap := h', toks := tk } :=
      fun n t h' tk F' N' q => ⟨.int n, H2, inv_frSame I2 hn F' N', ⟨t, rfl⟩, Lnk.same lq2 rh2 q rfl⟩
    have item : ∀ (j : Nat) (v : Value), its[j]? = some v → ∃ n t, v = .int n t ∧ ns[j]? = some n := fun j v hv => by
      have hj : j < ns.length := by rw [← hlen]; exact (List.getElem?_eq_some_iff.mp hv).1
      obtain ⟨t, ht⟩ := hi.get j _ (List.getElem?_eq_getElem hj)
      rw [hv] at ht
      exact ⟨_, t, Option.some.inj ht, List.getElem?_eq_getElem hj⟩
    have gd : ∀ (j : Nat) (n : Int), ns[j]? = some n → ns.getD j 0 = n := fun j n e => by simp [List.getD, e]
    cases o with
    | mn =>
      obtain ⟨q0, q⟩ := q
      show wpAny _ _ (call (.builtin "min") [.ref l] [(Str.ofString "key", .ref f)]) _ _ s2
      refine kmk_min (fun j => kf (ns.getD j 0)) hd F Nw isl (by rw [hlen]; exact List.length_pos_iff.mpr q0) (fun j v hv h tk own F' N' => ?_) fun j v h' tk hv hbest F' N' => ?_
      · obtain ⟨n, t, rfl, hn2⟩ := item j v hv
        rw [gd j n hn2]
        exact turn X.A.in1 hroom n t h tk own (List.mem_of_getElem? hn2) F' N'
      · obtain ⟨n, t, rfl, hn2⟩ := item j v hv
        refine done n t h' tk F' N' (q j n hn2 fun k nk hk => ?_)
        have := hbest k (by rw [hlen]; exact (List.getElem?_eq_some_iff.mp hk).1)
        rw [gd j n hn2, gd k nk hk] at this
        exact this
    | mx =>
      obtain ⟨q0, q⟩ := q
      show wpAny _ _ (call (.builtin "max") [.ref l] [(Str.ofString "key", .ref f)]) _ _ s2
      refine kmk_max (fun j => kf (ns.getD j 0)) hd F Nw isl (by rw [hlen]; exact List.length_pos_iff.mpr q0) (fun j v hv h tk own F' N' => ?_) fun j v h' tk hv hbest F' N' => ?_
      · obtain ⟨n, t, rfl, hn2⟩ := item j v hv
        rw [gd j n hn2]
        exact turn X.A.in1 hroom n t h tk own (List.mem_of_getElem? hn2) F' N'
      · obtain ⟨n, t, rfl, hn2⟩ := item j v hv
        refine done n t h' tk F' N' (q j n hn2 fun k nk hk => ?_)
        have := hbest k (by rw [hlen]; exact (List.getElem?_eq_some_iff.mp hk).1)
        rw [gd j n hn2, gd k nk hk] at this
        exact this
    | st =>
      show wpAny _ _ (call (.builtin "sorted") [.ref l] [(Str.ofString "key", .ref f)]) _ _ s2
      refine ksk_letterSt (b := false) (f := .ref f) kf F Nw pl.isList hi (by rw [List.length_map] at hsz; exact hsz) (ksk_s1 _ _) (fun x => ksk_l1 _ _) (fun x => ksk_t1 _ _) (fun n t h tk own hnn F' N' => turn X.A.in1.in1 hroom n t h tk own hnn F' N') fun D vs' ns' c4 h' tk F' N' l1 hi' hl' hp hs' _ hfl => ?_
      obtain ⟨nD, J⟩ := inv_frNew (xs := ns'.map V.int) (t' := tk) I2 hn F' N' l1 (vals_of_ints hi') (by rw [List.length_map] at hsz ⊢; rw [hl']; exact hsz)
      exact ⟨.ref D, _, J, rfl, Lnk.newL lq2 rh2 (Reps.of_ints ns') (fun p hp2 => q ns' p hp hs' hfl hp2) D nD⟩
  | [], q, _ => exact q.elim
  | [.non], q, _ => exact q.elim
  | [.bl _], q, _ => exact q.elim
  | [.int _], q, _ => exact q.elim
  | [.str _], q, _ => exact q.elim
  | [.tup _], q, _ => exact q.elim
  | [.pr _], q, _ => exact q.elim
  | [.cl _], q, _ => exact q.elim
  | [.exn _ _ _ _], q, _ => exact q.elim
  | [.err _ _ _ _ _], q, _ => exact q.elim
  | _ :: _ :: _, q, _ => exact q.elim
end
end MP
/-! MXD: x[::-1] of lists, tuples and texts; s.upper(); d.get(k, x) -/
namespace MP
open PySem PySem.Spec PyProof.Rows L2
theorem rev_txt (z : Str) (u : Tok) : Txt.sliceBy z none none (-1, u) = revS z := by
  have e : (Txt.sliceBy z none none (-1, u)).cps.toList = z.cps.toList.reverse := by
    rw [step_rev_list]
    have zl : z.length = z.cps.toList.length := by rw [Array.length_toList]; rfl
    refine List.ext_getElem (by rw [List.length_map, List.length_range, List.length_reverse, zl]) fun i h1 h2 => ?_
    rw [List.getElem_map, List.getElem_range, List.getElem_reverse]
    have hi : i < z.cps.size := by rw [List.length_reverse, Array.length_toList] at h2; exact h2
    rw [Array.getD_eq_getD_getElem?, Array.getElem?_eq_getElem (by show z.cps.size - 1 - i < z.cps.size; omega)]
    rfl
  have f : Txt.sliceBy z none none (-1, u) = ⟨(Txt.sliceBy z none none (-1, u)).cps.toList.toArray⟩ := rfl
  rw [f, e]; rfl
section
variable {X : Cx} {W : WX} {a : Expr} {wa : AE} {pos : Pos}
def tRevB (K : PySem.W.Frag) (te : TE) : TE := fun σ H Q => te σ H fun x H1 => (∃ a xs, x = .ref a ∧ ((SqL K H1 a xs ∧ ∀ p, H1 p = none → Q (.ref p) (upd H1 p (.lst xs.reverse))) ∨ (SqT K H1 a xs ∧ NewT H1 Q xs.reverse))) ∨
  ∃ z, x = .str z ∧ z.length ≤ sizeLine ∧ Q (.str (revS z)) H1
theorem pe_revAll {e : Expr} {te : TE} {k : Nat} {p1 p2 p3 : Pos} (he : PE X e te) : PE X (.Subscript e (.Slice none none (some (.UnaryOp .USub (.Constant (.int 1) k p1) p2)) p3) pos) (tRevB X.K te) := by
  constructor
  intro pn st sg H0 Qv J hw
  have step : PO X (some (.UnaryOp .USub (.Constant (.int 1) k p1) p2)) (tPart (tUn (rU fun i => .int (-i)) (tC (.int 1)))) := po_some (pe_un un_neg pe_int)
  refine Subscript_ (thn (he.run pn st sg H0 _ J hw) fun v st1 ⟨x, H1, J1, r1, z⟩ => ?_)
  rcases z with ⟨l, xs, rfl, z⟩ | ⟨z, rfl, hz, z2⟩
  rotate_left
  · obtain ⟨tk, rfl⟩ : ∃ tk, v = Value.str z tk := r1
    refine wpAny_Slice ?_
    rw [evalPart_none]
    refine wpAny_pure (wpAny_pure ?_)
    rw [evalPart_some]
    refine thn ((pe_un un_neg pe_int).run pn st1 sg H1 (fun x H4 => x = .int (-1) ∧ H4 = H1) J1 ⟨1, rfl, rfl, rfl⟩) fun vs st4 ⟨o, H4, J4, part, eo, eh⟩ => ?_
    subst eo eh
    obtain ⟨t2, rfl⟩ : ∃ t2, vs = Value.int (-1) t2 := part
    obtain ⟨m, hn, _⟩ := J4.loc
    obtain ⟨F, Nw⟩ := fr_all hn
    show wpAny (model X.prog X.w) X.A (subscriptTail e (.Slice none none (some (.UnaryOp .USub (.Constant (.int 1) k p1) p2)) p3) (.str z tk) (.ref st4.heap.objs.size)) (EP X pn sg Qv) X.xe { st4 with heap := st4.heap.push { cls := .type "slice", data := .fields #[.none, .none, .int (-1) t2] } }
    refine slice_strK_nn F Nw (by decide) (fun h' t' c F' N' => ?_) (by with_unfolding_all rfl) (by intro r; cases e <;> rfl) hz
    rw [rev_txt]
    exact ⟨.str (revS z), H4, inv_frSame J4 hn F' N', ⟨t', rfl⟩, z2⟩
  cases r1
  refine wpAny_Slice ?_
  rw [evalPart_none]
  refine wpAny_pure ?_
  refine wpAny_pure (thn (step.run pn st1 sg H1 (fun o H4 => o = some (-1) ∧ H4 = H1) J1 ⟨1, rfl, -1, rfl, rfl, rfl⟩) fun vs st4 ⟨o, H4, J4, part, eo, eh⟩ => ?_)
  subst eo eh
  have J5 : Inv X pn sg H4 { st4 with heap := st4.heap.push { cls := .type "slice", data := .fields #[.none, .none, vs] } } := J4.kept (t' := st4.toks) fun _ _ g => Heap.get?_push_of_some _ g
  show wpAny (model X.prog X.w) X.A (subscriptTail e (.Slice none none (some (.UnaryOp .USub (.Constant (.int 1) k p1) p2)) p3) (.ref l) (.ref st4.heap.objs.size)) (EP X pn sg Qv) X.xe { st4 with heap := st4.heap.push { cls := .type "slice", data := .fields #[.none, .none, vs] } }
  rcases z with ⟨sq, z⟩ | ⟨sq, z⟩
  · obtain ⟨its, r, ht, hz⟩ := J5.list sq
    have ln : its.toArray.size = xs.length := by rw [List.size_toArray]; exact r.length.symm
    refine tail_any (ops := [.ref l, .ref st4.heap.objs.size]) ht.isList.typeIs (PySem.slot_list_getitem.lookup) ?_ (by with_unfolding_all rfl)
    refine wpAny_getItem_list_slice ht.isList (Heap.IsSliceOf.new _ .none .none vs) .none .none part (by decide) ?_ (by rw [ln]; exact hz)
    rw [PySem.W.krv_pick]
    exact ⟨.ref _, _, J5.laid (t' := st4.toks) (o := .lst xs.reverse) (fun _ _ g => Heap.get?_push_of_some _ g) (Nat.le_refl _) ⟨by rw [List.length_reverse]; exact hz, _, 0, r.reverse, Heap.get?_push_size _ rfl⟩, rfl, z _ (J5.hok.fresh (Nat.le_refl _))⟩
  · obtain ⟨its, r, ht, hz⟩ := J5.tuple sq
    have ln : its.toArray.size = xs.length := by rw [List.size_toArray]; exact r.length.symm
    refine tail_any (ops := [.ref l, .ref st4.heap.objs.size]) ht.typeIs PyProof.Rows.slot_tuple_getitem.lookup ?_ (by with_unfolding_all rfl)
    refine getItem_tuple_rev ht (Heap.IsSliceOf.new _ .none .none vs) part ?_ (by rw [ln]; exact hz)
    obtain ⟨ob, nd, fr, J6⟩ := laidN (ys := xs.reverse) J5 (by rw [List.length_reverse]; exact hz) r.reverse
    exact ⟨.ref _, _, J6, rfl, z _ ob fr nd⟩
theorem me_rev {k : Nat} {p1 p2 p3 : Pos} (ha : ME X W a wa) : ME X W (.Subscript a (.Slice none none (some (.UnaryOp .USub (.Constant (.int 1) k p1) p2)) p3) pos) (fun s h Q E => wa s h (fun x h1 => revD x h1 Q) E) := by
  refine (pe_revAll ha).imp ?_
  rintro σ H Q ⟨s, h, Qd, Ed, rs, rh, hw, lx, lq⟩
  refine ⟨s, h, _, Ed, rs, rh, hw, lx, fun dx h1 x H1 q1 r1 rh1 e1 => ?_⟩
  cases dx <;> first | exact q1.elim | skip
  · cases r1
    exact .inr ⟨_, rfl, q1.1, (Lnk.step lq e1).same rh1 q1.2 rfl⟩
  · obtain ⟨b, xs, rfl, t, q⟩ := r1
    exact .inl ⟨b, xs, rfl, .inr ⟨t.t, (Lnk.step lq e1).newT rh1 q.reverse q1⟩⟩
  · cases r1
    obtain ⟨ds, l, q1⟩ := q1
    obtain ⟨xs, t, q⟩ := rh1.seq l
    exact .inl ⟨_, xs, rfl, .inl ⟨t, (Lnk.step lq e1).newL rh1 q.reverse q1⟩⟩
  · obtain ⟨b, xs, rfl, t, q⟩ := r1
    exact .inl ⟨b, xs, rfl, .inl ⟨t.seq, (Lnk.step lq e1).newL rh1 q.reverse q1⟩⟩
theorem me_up {ap : Pos} (ha : ME X W a wa) (hb : attributeBase a "upper" X.env (eval a X.env) = eval a X.env) (hl : (ap.endLine == pos.line) = true) :
    ME X W (.Call (.Attribute a "upper" ap) [] [] pos) (fun s h Q E => wa s h (fun x h1 => upD x h1 Q) E) := by
  refine (pe_upper ha hb hl).imp ?_
  rintro σ H Q ⟨s, h, Qd, Ed, rs, rh, hw, lx, lq⟩
  refine ⟨s, h, _, Ed, rs, rh, hw, lx, fun dx h1 x H1 q1 r1 rh1 e1 => ?_⟩
  cases dx <;> first | exact q1.elim | skip
  cases r1
  exact ⟨⟨_, rfl⟩, _, rfl, rfl, q1.1, (Lnk.step lq e1).same rh1 q1.2 rfl⟩
theorem me_get2 {b c : Expr} {wb wc : AE} {ap : Pos} (hu : X.A.units + 70 < cLine) (ha : ME X W a wa) (hb : ME X W b wb) (hc : ME X W c wc) (m : M2 X a "get" ap b c pos) :
    ME X W (.Call (.Attribute a "get" ap) [b, c] [] pos) (fun s h Q E => wa s h (fun d h1 => isDct d h1 ∧ wb s h1 (fun y h2 => wc s h2 (fun z h3 => get2D d y z h3 Q) E) E) E) := by
  refine (pe_dget2 (by omega) ha hb hc m).imp ?_
  rintro σ H Q ⟨s, h, Qd, Ed, rs, rh, hw, lx, lq⟩
  refine ⟨s, h, _, Ed, rs, rh, hw, lx, fun dx h1 x H1 q1 r1 rh1 e1 => ?_⟩
  obtain ⟨⟨la, kvs, rfl, l⟩, q1⟩ := q1
  cases r1
  obtain ⟨ws, e2, _⟩ := rh1.dct l
  refine ⟨la, rfl, .inl ⟨_, .inl e2⟩, s, h1, _, Ed, rs.ext rh e1, rh1, q1, XL.step lx e1, fun dy h2 y H2 q2 r2 rh2 e3 => ?_⟩
  refine ⟨s, h2, _, Ed, (rs.ext rh e1).ext rh1 e3, rh2, q2, XL.step (XL.step lx e1) e3, fun dz h3 z H3 q3 r3 rh3 e4 => ?_⟩
  obtain ⟨kvs3, k, l3, dk, q3⟩ := q3
  obtain ⟨ws3, e5, kr⟩ := rh3.dct l3
  have ry := dkey_rep dk (Rep.ext rh2 e4 _ _ r2)
  subst ry
  refine ⟨_, .inl ⟨ws3, k, .inl e5, rfl, rfl⟩, ?_⟩
  have lk := Lnk.step (Lnk.step (Lnk.step lq e1) e3) e4
  obtain ⟨g1, g2⟩ := kr.get (k := k)
  cases hg : getK kvs3 k with
  | none =>
    rw [hg] at g2 q3
    cases hv : valV ws3 k with
    | none => exact lk.same rh3 q3 r3
    | some v => rw [hv] at g2; cases g2
  | some d =>
    rw [hg] at q3
    obtain ⟨v, hv, rv⟩ := g1 d hg
    rw [hv]
    exact lk.same rh3 q3 rv
end
end MP
/-! MP10: the checker: a piece of the given tree is what the small syntax says. -/
namespace MP
open PySem PySem.Spec PyProof.Rows L2 RZ

/-! views of the given tree -/
def vName : Expr → Option Str
  | .Name x _ => some x
  | _ => none
def vConst : Expr → Option Const
  | .Constant c _ _ => some c
  | _ => none
def vTup : Expr → Option (List Expr)
  | .Tuple es _ _ => some es
  | _ => none
def vLst : Expr → Option (List Expr)
  | .List es _ => some es
  | _ => none
def vBin : Expr → Option (Expr × Operator × Expr)
  | .BinOp a o b _ => some (a, o, b)
  | _ => none
def vUn : Expr → Option (UnaryOp × Expr)
  | .UnaryOp o a _ => some (o, a)
  | _ => none
def vCmp : Expr → Option (Expr × List CmpOp × List Expr)
  | .Compare a os bs _ => some (a, os, bs)
  | _ => none
def vBool : Expr → Option (BoolOp × List Expr × Pos)
  | .BoolOp o es p => some (o, es, p)
  | _ => none
def vIf : Expr → Option (Expr × Expr × Expr)
  | .IfExp t a b _ => some (t, a, b)
  | _ => none
def vSub : Expr → Option (Expr × Expr)
  | .Subscript a b _ => some (a, b)
  | _ => none
def vSl : Expr → Option (Option Expr × Option Expr)
  | .Slice l u none _ => some (l, u)
  | _ => none
def vRv : Expr → Bool
  | .Slice none none (some (.UnaryOp .USub (.Constant (.int i) _ _) _)) _ => i == 1
  | _ => false
theorem vRv_eq {e : Expr} (h : vRv e = true) : ∃ k p1 p2 p3, e = .Slice none none (some (.UnaryOp .USub (.Constant (.int 1) k p1) p2)) p3 := by
  unfold vRv at h
  split at h
  · obtain rfl := eq_of_beq h
    exact ⟨_, _, _, _, rfl⟩
  · cases h
def vCall : Expr → Option (Str × List Expr)
  | .Call (.Name f _) es [] _ => some (f, es)
  | _ => none
def vMt : Expr → Option (Expr × Str × Pos × List Expr × Pos)
  | .Call (.Attribute o nm ap) es [] cp => some (o, nm, ap, es, cp)
  | _ => none
def vLc : Expr → Option (Expr × Expr × Expr × List Expr × Scope × Pos)
  | .ListComp e [⟨tg, it, ifs, 0⟩] sc p => some (e, tg, it, ifs, sc, p)
  | _ => none
def vDict : Expr → Option (List (Option Expr) × List Expr)
  | .Dict ks vs _ => some (ks, vs)
  | _ => none
theorem vDict_eq {e : Expr} {a b} (h : vDict e = some (a, b)) : ∃ p, e = .Dict a b p := by
  unfold vDict at h; split at h <;> first | (cases h; exact ⟨_, rfl⟩) | cases h
theorem vName_eq {e : Expr} {x} (h : vName e = some x) : ∃ p, e = .Name x p := by
  unfold vName at h; split at h <;> first | (cases h; exact ⟨_, rfl⟩) | cases h
theorem vConst_eq {e : Expr} {x} (h : vConst e = some x) : ∃ k p, e = .Constant x k p := by
  unfold vConst at h; split at h <;> first | (cases h; exact ⟨_, _, rfl⟩) | cases h
theorem vTup_eq {e : Expr} {x} (h : vTup e = some x) : ∃ k p, e = .Tuple x k p := by
  unfold vTup at h; split at h <;> first | (cases h; exact ⟨_, _, rfl⟩) | cases h
theorem vLst_eq {e : Expr} {x} (h : vLst e = some x) : ∃ p, e = .List x p := by
  unfold vLst at h; split at h <;> first | (cases h; exact ⟨_, rfl⟩) | cases h
theorem vBin_eq {e : Expr} {a o b} (h : vBin e = some (a, o, b)) : ∃ p, e = .BinOp a o b p := by
  unfold vBin at h; split at h <;> first | (cases h; exact ⟨_, rfl⟩) | cases h
theorem vUn_eq {e : Expr} {o a} (h : vUn e = some (o, a)) : ∃ p, e = .UnaryOp o a p := by
  unfold vUn at h; split at h <;> first | (cases h; exact ⟨_, rfl⟩) | cases h
theorem vCmp_eq {e : Expr} {a o b} (h : vCmp e = some (a, o, b)) : ∃ p, e = .Compare a o b p := by
  unfold vCmp at h; split at h <;> first | (cases h; exact ⟨_, rfl⟩) | cases h
theorem vBool_eq {e : Expr} {o a p} (h : vBool e = some (o, a, p)) : e = .BoolOp o a p := by
  unfold vBool at h; split at h <;> first | (cases h; rfl) | cases h
theorem vIf_eq {e : Expr} {a o b} (h : vIf e = some (a, o, b)) : ∃ p, e = .IfExp a o b p := by
  unfold vIf at h; split at h <;> first | (cases h; exact ⟨_, rfl⟩) | cases h
theorem vSub_eq {e : Expr} {a b} (h : vSub e = some (a, b)) : ∃ p, e = .Subscript a b p := by
  unfold vSub at h; split at h <;> first | (cases h; exact ⟨_, rfl⟩) | cases h
theorem vSl_eq {e : Expr} {a b} (h : vSl e = some (a, b)) : ∃ p, e = .Slice a b none p := by
  unfold vSl at h; split at h <;> first | (cases h; exact ⟨_, rfl⟩) | cases h
theorem vCall_eq {e : Expr} {a b} (h : vCall e = some (a, b)) : ∃ p p2, e = .Call (.Name a p) b [] p2 := by
  unfold vCall at h; split at h <;> first | (cases h; exact ⟨_, _, rfl⟩) | cases h
theorem vMt_eq {e : Expr} {o nm ap es cp} (h : vMt e = some (o, nm, ap, es, cp)) : e = .Call (.Attribute o nm ap) es [] cp := by
  unfold vMt at h; split at h <;> first | (cases h; rfl) | cases h
theorem vLc_eq {e : Expr} {a tg it ifs sc p} (h : vLc e = some (a, tg, it, ifs, sc, p)) : e = .ListComp a [⟨tg, it, ifs, 0⟩] sc p := by
  unfold vLc at h; split at h <;> first | (cases h; rfl) | cases h

/-- min(a, key=lambda y: body) -/
def vKb : Expr → Option (Str × Expr × Str × Expr × Scope)
  | .Call (.Name f _) [a] [⟨some k, .Lambda ⟨[], [⟨y, none, _⟩], none, [], [], none, []⟩ body scope _, _⟩] _ => if k == "key" then some (f, a, y, body, scope) else none
  | _ => none
theorem vKb_eq {e : Expr} {f : Str} {a : Expr} {y : Str} {body : Expr} {scope : Scope} (h : vKb e = some (f, a, y, body, scope)) : ∃ p pos lp kp pp, e = .Call (.Name f p) [a] [⟨some "key", .Lambda (lamPar y pp) body scope lp, kp⟩] pos := by
  unfold vKb at h
  split at h
  · rename_i k _ _ _ _ _ _ _ _
    split at h
    · rename_i hk
      obtain rfl := eq_of_beq hk
      cases h
      exact ⟨_, _, _, _, _, rfl⟩
    · cases h
  · cases h
def vBody0 (b : Expr) : Option (Str × Str) := match vSub b with
  | some (u, v) => (match vName u, vName v with
    | some z, some y => some (z, y)
    | _, _ => none)
  | none => none
def vBody (ko : Option Int) (b : Expr) : Option (Str × Str) := match ko with
  | none => vBody0 b
  | some k => match vSub b with
    | some (u, v) => (match vConst v with
      | some (.int j) => if j = k then vBody0 u else none
      | _ => none)
    | none => none
theorem vBody0_eq {b : Expr} {z y : Str} (h : vBody0 b = some (z, y)) : ∃ p1 p2 p3, b = .Subscript (.Name z p1) (.Name y p2) p3 := by
  unfold vBody0 at h
  split at h
  · rename_i u v hv
    obtain ⟨p, rfl⟩ := vSub_eq hv
    split at h
    · rename_i z2 y2 h1 h2
      obtain ⟨p1, rfl⟩ := vName_eq h1
      obtain ⟨p2, rfl⟩ := vName_eq h2
      cases h
      exact ⟨_, _, _, rfl⟩
    · cases h
  · cases h
theorem vBody_ok {ko : Option Int} {b : Expr} {z y : Str} (h : vBody ko b = some (z, y)) : bodyOk b z y ko := by
  cases ko with
  | none => exact vBody0_eq h
  | some k =>
    unfold vBody at h
    simp only at h
    split at h
    · rename_i u v hv
      obtain ⟨p, rfl⟩ := vSub_eq hv
      split at h
      · rename_i j hc
        obtain ⟨j2, p2, rfl⟩ := vConst_eq hc
        split at h
        · rename_i hj
          subst hj
          obtain ⟨p3, p4, p5, rfl⟩ := vBody0_eq h
          exact ⟨_, _, _, _, _, _, rfl⟩
        · cases h
      · cases h
    · cases h

/-- the keys of a display are these constants -/
def chkKs : List Key → List (Option Expr) → Bool
  | [], [] => true
  | k :: r, some e :: q => (match k, vConst e with
    | .inl i, some (.int j) => i == j
    | .inr s, some (.str t) => s == t
    | _, _ => false) && chkKs r q
  | _, _ => false
theorem chkKs_cons {k : Key} {r : List Key} {q : List (Option Expr)} (h : chkKs (k :: r) q = true) : ∃ j p q', q = some (.Constant (kConst k) j p) :: q' ∧ chkKs r q' = true := by
  cases q with
  | nil => cases h
  | cons e q =>
    cases e with
    | none => cases h
    | some e =>
      unfold chkKs at h
      rw [Bool.and_eq_true] at h
      obtain ⟨h1, h2⟩ := h
      split at h1
      · rename_i i j hv
        obtain ⟨k, p, rfl⟩ := vConst_eq hv
        obtain rfl : i = j := by simpa using h1
        exact ⟨k, p, q, rfl, h2⟩
      · rename_i i j hv
        obtain ⟨k, p, rfl⟩ := vConst_eq hv
        obtain rfl : i = j := by simpa using h1
        exact ⟨k, p, q, rfl, h2⟩
      · cases h1
theorem chkKs_all : ∀ {r : List Key} {q : List (Option Expr)}, chkKs r q = true → q.all (·.isSome) = true ∧ r.length = q.length
  | [], [], _ => ⟨rfl, rfl⟩
  | [], _ :: _, h => by cases h
  | k :: r, q, h => by
    obtain ⟨j, p, q', rfl, h2⟩ := chkKs_cons h
    obtain ⟨a, b⟩ := chkKs_all h2
    exact ⟨by rw [List.all_cons, a]; rfl, by rw [List.length_cons, List.length_cons, b]⟩
/-! small facts of the tree that the rules ask -/
def nstar : Expr → Bool
  | .Starred _ _ => false
  | _ => true
theorem star_cons {e : Expr} {es : List Expr} {env : Env} (h : nstar e = true) : starEach (e :: es) env = (false, eval e env) :: starEach es env := by
  cases e <;> first | rfl | cases h
theorem assign_cons {e : Expr} {es : List Expr} {env : Env} (h : nstar e = true) : assignEach (e :: es) env = (false, assign e env) :: assignEach es env := by
  cases e <;> first | rfl | cases h
theorem star_any {pos : Pos} {env : Env} : ∀ {es : List Expr}, es.all nstar = true → (backTo pos (starEach es env)).any (·.1) = false
  | [], _ => rfl
  | e :: es, h => by
    rw [List.all_cons, Bool.and_eq_true] at h
    rw [star_cons h.1]
    show (false || (backTo pos (starEach es env)).any (·.1)) = false
    rw [star_any h.2]; rfl
theorem star_all {pos : Pos} {env : Env} : ∀ {es : List Expr}, es.all nstar = true → ((backTo pos (starEach es env)).all fun x => !x.fst) = true
  | [], _ => rfl
  | e :: es, h => by
    rw [List.all_cons, Bool.and_eq_true] at h
    rw [star_cons h.1]
    show (true && (backTo pos (starEach es env)).all fun x => !x.fst) = true
    rw [star_all h.2]; rfl
def nslice : Expr → Bool
  | .Slice _ _ _ _ => false
  | _ => true
theorem plain_ix {e : Expr} (h : nslice e = true) : PlainIx e := by
  intro o i
  cases e <;> first | rfl | cases h
theorem assign_sub {a b : Expr} {pos : Pos} {env : Env} (h : nslice b = true) : ∀ v, assign (.Subscript a b pos) env v = (do
      let ov ← holding [v] (eval a env)
      let iv ← holding [v, ov] (eval b env)
      standAt pos
      holding [v, ov, iv] (setItem ov iv v)
      release [v, ov, iv] []) := by
  intro v
  cases b <;> first | rfl | cases h
def ncall0 : Expr → Bool
  | .Call _ [] _ _ => false
  | _ => true
theorem attr_base {e : Expr} {nm : Str} {env : Env} {t : Sem Value} (h : ncall0 e = true) : attributeBase e nm env t = t := by
  unfold attributeBase
  split
  · cases h
  · rfl
def plainT : Expr → Bool
  | .UnaryOp .Not _ _ => false
  | .BoolOp _ _ _ => false
  | .IfExp _ _ _ _ => false
  | .Compare _ _ _ _ => false
  | _ => true
theorem plain_t {e : Expr} {env : Env} (h : plainT e = true) : ∀ whole, isTrue e env whole = (do let v ← whole; standAt e.pos; holding [v] (truthy v)) := by
  intro whole
  cases e <;> first | rfl | cases h | skip
  rename_i o a p
  cases o <;> first | rfl | cases h
def nset : Expr → Bool
  | .Set _ _ _ => false
  | _ => true
theorem n_set {e : Expr} {env : Env} (h : nset e = true) : ∀ x, foldedSetIterable e env x = pure x := by
  intro x
  cases e <;> first | rfl | cases h
def ncomp : Expr → Bool
  | .ListComp _ _ _ _ => false
  | .SetComp _ _ _ _ => false
  | .DictComp _ _ _ _ _ => false
  | _ => true
theorem n_swap {e : Expr} {t : Option Expr} {l : Nat} {env : Env} (h : ncomp e = true) : swapsWith e t l env = pure false := by
  cases e <;> first | rfl | cases h
theorem n_swap2 {e t : Expr} {l : Nat} {env : Env} (h : vName t = none) : swapsWith e (some t) l env = pure false := by
  unfold swapsWith
  split
  · cases t <;> first | rfl | cases h
  · rfl
/-- a comprehension's result goes at once to the name -/
def swB (sc scope : Scope) (y : Str) (l1 l2 : Nat) : Bool := (sc.names.lookup y == some .local) && (l1 == l2) && !(scope.names.any fun (n, k) => n == y && (k == .local || k == .cell))
theorem sw_val {elt : Expr} {gs : List Comprehension} {scope : Scope} {pos py : Pos} {y : Str} {l : Nat} {env : Env} (hk : env.scope.kind = .function) :
    swapsWith (.ListComp elt gs scope pos) (some (.Name y py)) l env = pure (swB env.scope scope y py.line pos.line) := by
  have hb : env.blockKind = .function := by unfold Env.blockKind; rw [hk]; rfl
  unfold swapsWith swB
  simp only [hb, Env.kindOf, Expr.pos]
  rfl
/-- which names two or three targets are stored to -/
def isStar : Expr → Bool
  | .Starred .. => true
  | _ => false
def nameOn (kd : Str → Option NameKind) (line : Nat) : Expr → Option Str
  | .Name id pos => if kd id == some .local && pos.line == line then some id else none
  | _ => none
def swNames (kd : Str → Option NameKind) (ts vs : List Expr) : Option (List Str) :=
  if (!(ts.length == 2 || ts.length == 3) || vs.length != ts.length) = true then none else
  if vs.any isStar = true then none else
  if ((ts.filterMap (nameOn kd ((ts.head?.map (·.pos.line)).getD 0))).length != ts.length || (ts.filterMap (nameOn kd ((ts.head?.map (·.pos.line)).getD 0))).eraseDups.length != (ts.filterMap (nameOn kd ((ts.head?.map (·.pos.line)).getD 0))).length) = true then none else
  if vs.all (foldedForSure 8) = true then none else
  some (ts.filterMap (nameOn kd ((ts.head?.map (·.pos.line)).getD 0)))
theorem sw_names {ts vs : List Expr} {env : Env} {k1 k2 : Nat} {p1 p2 : Pos} (hk : env.scope.kind = .function) (h : vs.all (constantsAlone 8) = false ∨ swNames env.kindOf ts vs = none) :
    swappedStores [.Tuple ts k1 p1] (.Tuple vs k2 p2) env = pure (swNames env.kindOf ts vs) := by
  have hb : (env.blockKind != .function) = false := by unfold Env.blockKind; rw [hk]; rfl
  have e0 : swappedStores [.Tuple ts k1 p1] (.Tuple vs k2 p2) env = (
    if (!(ts.length == 2 || ts.length == 3) || vs.length != ts.length || env.blockKind != .function) = true then pure none else
    if vs.any isStar = true then pure none else
    if ((ts.filterMap (nameOn env.kindOf ((ts.head?.map (·.pos.line)).getD 0))).length != ts.length || (ts.filterMap (nameOn env.kindOf ((ts.head?.map (·.pos.line)).getD 0))).eraseDups.length != (ts.filterMap (nameOn env.kindOf ((ts.head?.map (·.pos.line)).getD 0))).length) = true then pure none else
    if vs.all (foldedForSure 8) = true then pure none else
    if vs.all (constantsAlone 8) = true then (do unsupported "assign.tuple-of-constant-expressions:order-of-the-stores"; pure (some (ts.filterMap (nameOn env.kindOf ((ts.head?.map (·.pos.line)).getD 0))))) else
    pure (some (ts.filterMap (nameOn env.kindOf ((ts.head?.map (·.pos.line)).getD 0))))) := by rfl
  rw [e0, hb, Bool.or_false]
  clear e0
  revert h
  unfold swNames
  by_cases c1 : (!(ts.length == 2 || ts.length == 3) || vs.length != ts.length) = true
  · rw [if_pos c1, if_pos c1]; intro _; rfl
  rw [if_neg c1, if_neg c1]
  by_cases c2 : vs.any isStar = true
  · rw [if_pos c2, if_pos c2]; intro _; rfl
  rw [if_neg c2, if_neg c2]
  generalize ts.filterMap (nameOn env.kindOf ((ts.head?.map (·.pos.line)).getD 0)) = names
  by_cases c3 : (names.length != ts.length || names.eraseDups.length != names.length) = true
  · rw [if_pos c3, if_pos c3]; intro _; rfl
  rw [if_neg c3, if_neg c3]
  by_cases c4 : vs.all (foldedForSure 8) = true
  · rw [if_pos c4, if_pos c4]; intro _; rfl
  rw [if_neg c4, if_neg c4]
  intro h
  have h5 : vs.all (constantsAlone 8) = false := by
    rcases h with h | h
    · exact h
    · cases h
  rw [if_neg (by rw [h5]; exact Bool.false_ne_true)]
theorem sw_none {t e : Expr} {env : Env} (h : vTup e = none) : swappedStores [t] e env = pure none := by
  cases e <;> first | cases h | skip
  all_goals (unfold swappedStores; cases t <;> rfl)

/-! the checker -/
def kindB (sc : Scope) (x : Str) (k : NameKind) : Bool := sc.names.lookup x == some k
def visB (sc : Scope) (x : Str) : Bool := kindB sc x .local || kindB sc x .cell || kindB sc x .free
def locB (sc : Scope) (fn : Str → Bool) (x : Str) : Bool := kindB sc x .local || (kindB sc x .cell && fn x)
def conB : D → Const → Bool
  | .non, .none => true
  | .bl b, .bool c => b == c
  | .int i, .int j => i == j
  | .str s, .str t => s == t
  | _, _ => false
def Tg.slots : Tg → List Nat
  | .n i => [i]
  | .tup ts => slotsS ts
  | .sub _ _ => []
  | .sls _ _ _ => []
where slotsS : Tgs → List Nat
  | .nil => []
  | .cons t ts => Tg.slots t ++ slotsS ts
end MP
/-! MP11: the checker and its soundness. -/
namespace MP
open PySem PySem.Spec PyProof.Rows L2 RZ

def dbg (x : Str) : Bool := !(x == ("__debug__" : Str)) && !(x == ("__classdict__" : Str))
def glB (sc : Scope) (x : Str) : Bool := kindB sc x .globalImplicit && !(x == ("__debug__" : Str))
def vAttr : Expr → Option (Expr × Str)
  | .Attribute a f _ => some (a, f)
  | _ => none
theorem vAttr_eq {e : Expr} {a f} (h : vAttr e = some (a, f)) : ∃ p, e = .Attribute a f p := by
  unfold vAttr at h; split at h <;> first | (cases h; exact ⟨_, rfl⟩) | cases h
/-- the names of these classes -/
def chkCs (sc : Scope) : List Str → List Expr → Bool
  | [], [] => true
  | c :: cs, p :: ps => (match vName p with
    | some y => y == c && glB sc y
    | none => false) && chkCs sc cs ps
  | _, _ => false
/-- minus one -/
def chkM1 (u : Expr) : Bool := match vUn u with
  | some (op, v) => op == .USub && (match vConst v with
    | some k => conB (.int 1) k
    | none => false)
  | none => false
/-- a lambda's names: the parameter y, the caught z, globals -/
def lamB (scope : Scope) (y z : Str) : Bool := (match scope.kind with | .function => true | _ => false) && !scope.isCoroutine && !scope.isGenerator && scope.names.all (fun x => match x.2 with | .cell => false | .free => x.1 == z | _ => true) &&
  kindB scope y .local && kindB scope z .free && dbg z && !(y == ("__debug__" : Str))
theorem lamB_ok {scope : Scope} {y z : Str} (h : lamB scope y z = true) : LamN scope y z ∧ ∀ x ∈ scope.names, x.2 = .free → x.1 = z := by
  simp only [lamB, dbg, Bool.and_eq_true, Bool.not_eq_true'] at h
  obtain ⟨⟨⟨⟨⟨⟨⟨h1, h2⟩, h3⟩, h4⟩, h5⟩, h6⟩, h7, h8⟩, h9⟩ := h
  refine ⟨⟨?_, h2, h3, fun x hx e => ?_, by simpa [kindB] using h5, by simpa [kindB] using h6, h7, h8, h9⟩, fun x hx e => ?_⟩
  · split at h1
    · assumption
    · cases h1
  · have := List.all_eq_true.mp h4 x hx
    rw [e] at this
    cases this
  · have := List.all_eq_true.mp h4 x hx
    rw [e] at this
    exact eq_of_beq this
section
/-! ho: within an except suite -/
variable (ho : Bool)
mutual
def chkE (N : List Str) : E → Scope → (Str → Bool) → Expr → Bool
  | .v i, sc, _, p => match vName p with
    | some x => N[i]? == some x && visB sc x && dbg x
    | none => false
  | .k c, _, _, p => match vConst p with
    | some k => conB c k
    | none => false
  | .g x, sc, _, p => match vName p with
    | some y => x == y && glB sc y
    | none => false
  | .tup es, sc, fn, p => match vTup p with
    | some ps => chkEs N es sc fn ps
    | none => false
  | .lst es, sc, fn, p => match vLst p with
    | some ps => chkEs N es sc fn ps
    | none => false
  | .bin o a b, sc, fn, p => match vBin p with
    | some (x, op, y) => op == o.op && chkE N a sc fn x && chkE N b sc fn y
    | none => false
  | .neg a, sc, fn, p => match vUn p with
    | some (op, x) => op == .USub && chkE N a sc fn x
    | none => false
  | .cmp o a b, sc, fn, p => match vCmp p with
    | some (x, [op], [y]) => op == o.op && chkE N a sc fn x && chkE N b sc fn y && !behindInMarks op y
    | _ => false
  | .cmp2 o q a b c, sc, fn, p => match vCmp p with
    | some (x, [op, oq], [y, z]) => op == o.op && oq == q.op && chkE N a sc fn x && chkE N b sc fn y && chkE N c sc fn z && !behindInMarks oq z
    | _ => false
  | .and_ a b, sc, fn, p => match vBool p with
    | some (op, x :: y :: r, ps) => op == .And && chkE N a sc fn x && chkE N b sc fn (match r with | [] => y | _ => .BoolOp .And (y :: r) ps)
    | _ => false
  | .or_ a b, sc, fn, p => match vBool p with
    | some (op, x :: y :: r, ps) => op == .Or && chkE N a sc fn x && chkE N b sc fn (match r with | [] => y | _ => .BoolOp .Or (y :: r) ps)
    | _ => false
  | .not_ a, sc, fn, p => match vUn p with
    | some (op, x) => op == .Not && chkE N a sc fn x
    | none => false
  | .ite t a b, sc, fn, p => match vIf p with
    | some (x, y, z) => chkT N t sc fn x && chkE N a sc fn y && chkE N b sc fn z
    | none => false
  | .ix a i, sc, fn, p => match vSub p with
    | some (x, y) => nslice y && chkE N a sc fn x && chkE N i sc fn y
    | none => false
  | .sl a lo hi, sc, fn, p => match vSub p with
    | some (x, y) => (match vSl y with
      | some (l, u) => chkE N a sc fn x && chkEo N lo sc fn l && chkEo N hi sc fn u
      | none => false)
    | none => false
  | .rev a, sc, fn, p => match vSub p with
    | some (x, y) => vRv y && chkE N a sc fn x
    | none => false
  | .up a, sc, fn, p => match vMt p with
    | some (x, nm, ap, ps, cp) => nm == "upper" && ncall0 x && (ap.endLine == cp.line) && ps.isEmpty && chkE N a sc fn x
    | none => false
  | .get2 a k d, sc, fn, p => match vMt p with
    | some (x, nm, ap, ps, cp) => nm == "get" && ncall0 x && (ap.endLine == cp.line) && chkE N a sc fn x && (match ps with
      | [q, r] => nstar q && nstar r && chkE N k sc fn q && chkE N d sc fn r
      | _ => false)
    | none => false
  | .kb o e i ko, sc, fn, p => !ho && match vKb p with
    | some (x, a, y, body, scope) => x == o.nm && glB sc x && nstar a && chkE N e sc fn a && (match vBody ko body with
      | some (z, y2) => y2 == y && N[i]? == some z && kindB sc z .cell && lamB scope y z
      | none => false)
    | none => false
  | .call f es, sc, fn, p => !ho && match vCall p with
    | some (x, ps) => x == f && glB sc x && chkEs N es sc fn ps
    | none => false
  | .bi b es, sc, fn, p => (!ho || b.cl) && match vCall p with
    | some (x, ps) => x == b.nm && glB sc x && !ps.isEmpty && chkEs N es sc fn ps
    | none => false
  | .mt m o es, sc, fn, p => match vMt p with
    | some (x, nm, ap, ps, cp) => nm == m.nm && ncall0 x && (ap.endLine == cp.line) && decide (ps.length < 20) && chkE N o sc fn x && chkEs N es sc fn ps
    | none => false
  | .lc own tg it c e, sc, fn, p => !ho && match vLc p with
    | some (el, tx, ix, ifs, scope, _) => blkC N sc scope own && tg.slots.all (fun i => (own.map (·.2)).contains i) && nset ix && chkI N it sc fn tx ix &&
        chkG N tg (relS scope sc) (fun x => scope.names.lookup x == some .cell) tx && chkTo N c (relS scope sc) (fun x => scope.names.lookup x == some .cell) ifs && chkE N e (relS scope sc) (fun x => scope.names.lookup x == some .cell) el
    | none => false
  | .rng tp lo hi, sc, fn, p => !ho && match vCall p with
    | some (x, [q]) => (match vCall q with
      | some (y, ps) => x == rgN tp && glB sc x && y == "range" && glB sc y && nstar q && (match lo, ps with
        | .no, [a] => nstar a && chkE N hi sc fn a
        | .yes l, [a, b] => nstar a && nstar b && chkE N l sc fn a && chkE N hi sc fn b
        | _, _ => false)
      | none => false)
    | _ => false
  | .dct keys es, sc, fn, p => match vDict p with
    | some (ks, vs) => chkKs keys ks && decide keys.Nodup && decide (keys.length ≤ 15) && (ks.length == vs.length) && chkEs N es sc fn vs
    | none => false
  | .isi t e, sc, fn, p => match vCall p with
    | some (x, [a, b]) => x == "isinstance" && glB sc x && nstar a && chkE N e sc fn a && (match vName b with
      | some y => y == t.s && glB sc y
      | none => false)
    | _ => false
  | .lset e, sc, fn, p => !ho && match vCall p with
    | some (x, [b]) => x == "len" && glB sc x && (match vCall b with
      | some (y, [a]) => y == "set" && glB sc y && nstar a && chkE N e sc fn a
      | _ => false)
    | _ => false
  | .sset e, sc, fn, p => !ho && match vCall p with
    | some (x, [b]) => x == "sorted" && glB sc x && (match vCall b with
      | some (y, [a]) => y == "set" && glB sc y && nstar a && chkE N e sc fn a
      | _ => false)
    | _ => false
  | .xis one cs e, sc, fn, p => match vCall p with
    | some (x, [a, b]) => x == "isinstance" && glB sc x && nstar a && chkE N e sc fn a && (match one, cs with
      | true, [c] => (match vName b with
        | some y => y == c && glB sc y
        | none => false)
      | false, cs => (match vTup b with
        | some ps => chkCs sc cs ps && !cs.isEmpty && decide (cs.length ≤ 100)
        | none => false)
      | _, _ => false)
    | _ => false
  | .xf e f, sc, fn, p => match vAttr p with
    | some (a, g) => g == f && ncall0 a && chkE N e sc fn a
    | none => false
def chkEs (N : List Str) : Es → Scope → (Str → Bool) → List Expr → Bool
  | .nil, _, _, [] => true
  | .cons e es, sc, fn, p :: ps => nstar p && chkE N e sc fn p && chkEs N es sc fn ps
  | _, _, _, _ => false
def chkEo (N : List Str) : Eo → Scope → (Str → Bool) → Option Expr → Bool
  | .no, _, _, none => true
  | .yes e, sc, fn, some p => chkE N e sc fn p
  | _, _, _, _ => false
def chkT (N : List Str) : T → Scope → (Str → Bool) → Expr → Bool
  | .e e, sc, fn, p => plainT p && chkE N e sc fn p
  | .cmp o a b, sc, fn, p => match vCmp p with
    | some (x, [op], [y]) => op == o.op && chkE N a sc fn x && chkE N b sc fn y && !behindInMarks op y
    | _ => false
  | .cmp2 o q a b c, sc, fn, p => match vCmp p with
    | some (x, [op, oq], [y, z]) => op == o.op && oq == q.op && chkE N a sc fn x && chkE N b sc fn y && chkE N c sc fn z && !behindInMarks oq z
    | _ => false
  | .and_ a b, sc, fn, p => match vBool p with
    | some (op, x :: y :: r, ps) => op == .And && chkT N a sc fn x && (match r with | [] => chkT N b sc fn y | _ => chkT N b sc fn (.BoolOp .And (y :: r) ps))
    | _ => false
  | .or_ a b, sc, fn, p => match vBool p with
    | some (op, x :: y :: r, ps) => op == .Or && chkT N a sc fn x && (match r with | [] => chkT N b sc fn y | _ => chkT N b sc fn (.BoolOp .Or (y :: r) ps))
    | _ => false
  | .not_ a, sc, fn, p => match vUn p with
    | some (op, x) => op == .Not && chkT N a sc fn x
    | none => false
def chkTo (N : List Str) : To → Scope → (Str → Bool) → List Expr → Bool
  | .no, _, _, [] => true
  | .yes t, sc, fn, [p] => chkT N t sc fn p
  | _, _, _, _ => false
def chkI (N : List Str) : It → Scope → (Str → Bool) → Expr → Expr → Bool
  | .e _ a, sc, fn, _, p => chkE N a sc fn p
  | .rng lo hi, sc, fn, _, q => match vCall q with
      | some (y, ps) => y == "range" && glB sc y && (match lo, ps with
        | .no, [a] => nstar a && chkE N hi sc fn a
        | .yes l, [a, b] => nstar a && nstar b && chkE N l sc fn a && chkE N hi sc fn b
        | _, _ => false)
      | none => false
  | .zip _ _ a b, sc, fn, t, q => match vCall q with
      | some (y, [x, z]) => y == "zip" && glB sc y && nstar x && nstar z && chkE N a sc fn x && chkE N b sc fn z && (vTup t).isSome
      | _ => false
  | .dn a b, sc, fn, _, q => match vCall q with
      | some (y, [x, z, u]) => y == "range" && glB sc y && nstar x && nstar z && nstar u && chkE N a sc fn x && chkE N b sc fn z && chkM1 u
      | _ => false
  | .rv a, sc, fn, _, q => match vCall q with
      | some (y, [x]) => y == "reversed" && glB sc y && (match vCall x with
        | some (y2, [z]) => y2 == "range" && glB sc y2 && nstar z && chkE N a sc fn z
        | _ => false)
      | _ => false
  | .enum _ a, sc, fn, t, q => match vCall q with
      | some (y, [x]) => y == "enumerate" && glB sc y && nstar x && chkE N a sc fn x && (vTup t).isSome
      | _ => false
def chkG (N : List Str) : Tg → Scope → (Str → Bool) → Expr → Bool
  | .n i, sc, fn, p => match vName p with
    | some x => N[i]? == some x && locB sc fn x
    | none => false
  | .tup ts, sc, fn, p => !ho && match vTup p with
    | some ps => ps.length == ts.len && chkGs N ts sc fn ps
    | none => false
  | .sub o i, sc, fn, p => match vSub p with
    | some (x, y) => nslice y && chkE N o sc fn x && chkE N i sc fn y
    | none => false
  | .sls o a c, sc, fn, p => match vSub p with
    | some (x, y) => (match vSl y with
      | some (some l, some u) => chkE N o sc fn x && chkE N a sc fn l && chkE N c sc fn u
      | _ => false)
    | none => false
def chkGs (N : List Str) : Tgs → Scope → (Str → Bool) → List Expr → Bool
  | .nil, _, _, [] => true
  | .cons t ts, sc, fn, p :: ps => nstar p && chkG N t sc fn p && chkGs N ts sc fn ps
  | _, _, _, _ => false
end
end
end MP
/-! MX1: own errors: a class with an __init__ that calls its base's and keeps its arguments in fields; made, raised, asked. -/
namespace MP
open PySem PySem.Spec PyProof.Rows L2 RZ

/-! Base.__init__(self, ..), Base an own class that leaves __init__ to ValueError -/
structure BaseC (K : PySem.W.Frag) (B : Addr) : Prop where
  rd : PySem.W.readsIn K B (.type "type") = true
  sp : PySem.W.specialIn K (.ref B) "__getattribute__" = some (some (.builtin "type.__getattribute__"))
  vV : PySem.W.findCls K (.ref B) (.type "type") "__init__" = some (.val (.builtin "ValueError.__init__"))
section
variable {X : Cx} {e : Expr} {es : List Expr} {ta : TA} {p1 p2 pos : Pos}
theorem pe_beinit {be : Str} {B : Addr} (hg : Gl X be) (hm : X.mg be = some (.ref B)) (hdb : (be == ("__debug__" : Str)) = false) (T : BaseC X.K B) (ha : PA X (e :: es) ta) (hl : (p2.endLine == pos.line) = true)
    (hk : (((((backTo pos (starEach (e :: es) X.env)).all fun x => !x.fst) && (backToKw pos (keywordEach [] X.env)).all fun x => x.fst.isSome) && decide (((e :: es).length + ([] : List Keyword).length + if (backToKw pos (keywordEach [] X.env)).isEmpty = true then 0 else 1) < 30)) = true))
    (he : starEach (e :: es) X.env = (false, eval e X.env) :: starEach es X.env) (hpl : (backTo pos (starEach es X.env)).any (·.1) = false) :
    PE X (.Call (.Attribute (.Name be p1) "__init__" p2) (e :: es) [] pos) (tVeI X.K ta) := by
  refine ⟨fun pins s σ H Q I h => ?_⟩
  have hc : eval (.Call (.Attribute (.Name be p1) "__init__" p2) (e :: es) [] pos) X.env = (do
      let ov ← eval (.Name be p1) X.env
      standAt p2.atName
      let (f, first) ← holding [ov] (getMethod ov "__init__" (do return (← importBound (.Name be p1) X.env).getD true))
      callWith pos f first (backTo pos (starEach (e :: es) X.env)) (backToKw pos (keywordEach [] X.env))) := by
    rw [arm_eval_Call, attr_base (by rfl)]
    have hform : methodCallForm ((e :: es).length + ([] : List Keyword).length) (backTo pos (starEach (e :: es) X.env)) (backToKw pos (keywordEach [] X.env)) = true := hk
    have hpos : methodCallPos true (.Name be p1) X.env p2 pos = pure pos := by unfold methodCallPos; simp [hl]
    unfold methodCall
    rw [hform, hpos]
    rfl
  refine PySem.W.methodCall_KW (ld_glob I hg hm ?_ hdb) hc
  refine PySem.W.method_cls I.kIn T.sp (PySem.W.cls_value I.kIn T.rd T.vV (by decide +kernel) ?_)
  show wpAny _ _ (callWith pos (Value.builtin "ValueError.__init__") [] (backTo pos (starEach (e :: es) X.env)) []) _ _ _
  refine PyProof.Rows.callWith_method1 (thn (ha.run pos pins _ σ H _ (I.tok _) h) fun us s1 ⟨vs, H1, I1, r1, a, C, ws, ev, hl, T, ea, q⟩ => ?_) he hpl
  subst ev
  cases r1 with
  | @cons _ u0 _ ur ra rw' =>
    obtain rfl : u0 = Value.ref a := ra
    have hlen : ur.length ≤ sizeLine := by
      rw [← Paired.length rw', sizeLine_eq]
      omega
    exact oinit_ok T I1 ea hlen fun s' J => ⟨.non, H1, J, rfl, q⟩
end
end MP
/-! MX2: what an __init__ that keeps its arguments promises. -/
namespace MP
open PySem PySem.Spec PyProof.Rows L2 RZ

/-- self.f = f, one by one -/
def storesB : List Str → List Stmt → Bool
  | [], [] => true
  | f :: fs, .Assign [.Attribute (.Name s _) g _] (.Name y _) _ :: r => s == "self" && g == f && y == f && storesB fs r
  | _, _ => false
def dunN (x : Str) : Bool := (x == ("__debug__" : Str)) || (x == ("__classdict__" : Str))
def initB (be : Str) (fs : List Str) : List Stmt → Bool
  | .Expr (.Call (.Attribute (.Name b _) i p2) [.Name s _, .Constant (.str _) _ _] [] pos) _ :: r => b == be && i == "__init__" && s == "self" && (p2.endLine == pos.line) && storesB fs r
  | _ => false
/-- the tree's part of an __init__ -/
def chkIn (be : Str) (fs : List Str) (st : Stmt) : Bool :=
  (match (defScope st).kind with | .function => true | _ => false) && !(defScope st).isCoroutine && !(defScope st).isGenerator && decide ((("self" : Str) :: fs).Nodup) && (("self" : Str) :: fs).all (fun x => kindB (defScope st) x .local && !dunN x) &&
  (defScope st).names.all (fun y => match y.2 with | .free => false | _ => true) && glB (defScope st) be && initB be fs (defBody st)
section
variable {X : Cx} {C : Addr}
theorem stores_ok (T : OexC X.K C) (h0 : X.N[0]? = some ("self" : Str)) (hv : ∀ x, x ∈ X.N → X.env.scope.names.lookup x = some .local ∧ dunN x = false) : ∀ (fs : List Str) (r : List Stmt) (j : Nat), storesB fs r = true → (∀ (m : Nat) f, fs[m]? = some f → X.N[j + m]? = some f ∧ PySem.W.findIn X.K (.ref C) f = some none) →
    ∃ t, PSs X r t ∧ ∀ (D : Ends) (σ : L2.St) (H : Hp) (a dx : Addr) (acc : List (Str × V)) (ys : List V), σ[0]? = some (some (.ref a)) → (∀ (m : Nat) y, ys[m]? = some y → σ[j + m]? = some (some y)) → ys.length = fs.length → dx ≠ a → H a = some (exo a C (some dx)) → H dx = some (exd dx acc) → acc.length + fs.length ≤ 900 →
      (∀ H', (∀ b, b ≠ a → b ≠ dx → H' b = H b) → H' a = some (exo a C (some dx)) → H' dx = some (exd dx ((fs.zip ys).reverse ++ acc)) → D.nx σ H') → t D σ H
  | [], [], j, _, _ => ⟨_, pss_nil, fun D σ H a dx acc ys _ _ hl _ ea ed _ q => by
      have : ys = [] := List.eq_nil_of_length_eq_zero hl
      subst this
      exact q H (fun _ _ _ => rfl) ea ed⟩
  | [], _ :: _, j, h, _ => by unfold storesB at h; cases h
  | f :: fs, r, j, h, hf => by
    unfold storesB at h
    split at h
    · contradiction
    · rename_i f' fs' s p g p2 y p3 p4 r' heq
      have hff := heq
      obtain ⟨rfl, rfl⟩ := List.cons.inj heq
      simp only [Bool.and_eq_true, beq_iff_eq] at h
      obtain ⟨⟨⟨rfl, rfl⟩, rfl⟩, h4⟩ := h
      obtain ⟨n1, n2⟩ := hf 0 _ rfl
      rw [Nat.add_zero] at n1
      have vis : ∀ x, x ∈ X.N → Vis X.env.scope x ∧ (x == ("__debug__" : Str)) = false ∧ (x == ("__classdict__" : Str)) = false := fun x hx => by
        obtain ⟨a, b⟩ := hv x hx
        simp only [dunN, Bool.or_eq_false_iff] at b
        exact ⟨.inl a, b.1, b.2⟩
      obtain ⟨v1, v2, v3⟩ := vis _ (List.mem_of_getElem? n1)
      obtain ⟨w1, w2, w3⟩ := vis _ (List.mem_of_getElem? h0)
      obtain ⟨t, ht, q⟩ := stores_ok T h0 hv fs r' (j + 1) h4 fun m f hm => by
        have := hf (m + 1) f (by rw [List.getElem?_cons_succ]; exact hm)
        rw [show j + 1 + m = j + (m + 1) by omega]; exact this
      refine ⟨_, pss_cons (ps_ost (pe_var h0 w1 w2 w3) (pe_var n1 v1 v2 v3) (n_swap (by rfl))) ht, ?_⟩
      intro D σ H a dx acc ys s0 sy hl dne ea ed hz fin
      cases ys with
      | nil => cases hl
      | cons y ys =>
        have y0 := sy 0 y rfl
        rw [Nat.add_zero] at y0
        refine ⟨y, y0, .ref a, s0, a, C, rfl, T, n2, .inr ⟨dx, acc, ea, ed, by rw [List.length_cons] at hz; omega, ?_⟩⟩
        refine q D σ _ a dx _ ys s0 (fun m z hm => by
          have := sy (m + 1) z (by rw [List.getElem?_cons_succ]; exact hm)
          rw [show j + 1 + m = j + (m + 1) by omega]; exact this) (by simpa using hl) dne (by rw [upd_ne dne.symm]; exact ea) upd_same (by rw [List.length_cons] at hz ⊢; omega) ?_
        intro H' k1 k2 k3
        refine fin H' (fun b b1 b2 => by rw [k1 b b1 b2, upd_ne b2]) k2 ?_
        rw [k3, List.zip_cons_cons, List.reverse_cons, List.append_assoc]; rfl
    · cases h
end
/-- an __init__ with at least one field -/
def spI (C : Addr) (fs : List Str) : Sp := fun vs H Q E => ∃ (a : Addr) (ys : List V), vs = .ref a :: ys ∧ ys.length = fs.length ∧ H a = some (exo a C none) ∧
  ∀ (dx : Addr) (H' : Hp), H dx = none → dx ≠ a → (∀ b, b ≠ a → b ≠ dx → H' b = H b) → H' a = some (exo a C (some dx)) → H' dx = some (exd dx (fs.zip ys).reverse) → Q .non H'
theorem init_fn {P : Program} {w : World} {K : PySem.W.Frag} {mg : Str → Option Value} {base : Heap} {be f qual : Str} {fs : List Str} {st : Stmt} {C B fI : Addr} {fd : FuncData} {k : Nat}
    (F : Fun K "__init__" qual st fI fd) (hc : chkIn be (f :: fs) st = true) (T : OexC K C) (TB : BaseC K B) (gB : mg be = some (.ref B)) (hno : ∀ g, g ∈ f :: fs → PySem.W.findIn K (.ref C) g = some none) (hz : fs.length ≤ 100) :
    FnOk P w K mg base CX0 (k + 1) fI fd ("self" :: f :: fs) (spI C (f :: fs)) := by
  simp only [chkIn, Bool.and_eq_true, decide_eq_true_eq, Bool.not_eq_true'] at hc
  obtain ⟨⟨⟨⟨⟨⟨⟨h1, h2⟩, h3⟩, h4⟩, h6⟩, h7⟩, h8⟩, h9⟩ := hc
  have loc : ∀ x, x ∈ ("self" : Str) :: f :: fs → (defScope st).names.lookup x = some .local ∧ dunN x = false := fun x hx => by
    have := List.all_eq_true.mp h6 x hx
    simp only [kindB, Bool.and_eq_true, Bool.not_eq_true', beq_iff_eq] at this
    exact this
  have S : FnScope ("self" :: f :: fs) ("self" :: f :: fs) (defScope st) := by
    refine ⟨?_, h2, h3, h4, by rw [List.take_length], fun x hx => .inl (loc x hx).1, fun y hy e => ?_⟩
    · split at h1
      · assumption
      · cases h1
    · have := List.all_eq_true.mp h7 y hy
      rw [e] at this
      cases this
  refine F.ok S (fun vs H Q E ⟨a, ys, e, hl, _⟩ => by rw [e, List.length_cons, hl]; rfl) fun cdv A outer s H vs Q E hr hsp => ?_
  obtain ⟨a, ys, rfl, hl, ea, q⟩ := hsp
  cases ys with
  | nil => cases hl
  | cons y ys =>
  simp only [glB, Bool.and_eq_true, Bool.not_eq_true', kindB, beq_iff_eq] at h8
  generalize hb : defBody st = body at h9
  unfold initB at h9
  split at h9
  · rename_i b pb i p2 s' ps cs j pc pos pe r
    simp only [Bool.and_eq_true, beq_iff_eq] at h9
    obtain ⟨⟨⟨⟨rfl, rfl⟩, rfl⟩, hline⟩, h10⟩ := h9
    let X : Cx := (cxOf CX0 P w K mg base ("self" :: f :: fs) qual (defScope st) fI cdv A outer s H E).nox
    have hv : ∀ x, x ∈ X.N → X.env.scope.names.lookup x = some .local ∧ dunN x = false := loc
    have vis : ∀ x, x ∈ X.N → Vis X.env.scope x ∧ (x == ("__debug__" : Str)) = false ∧ (x == ("__classdict__" : Str)) = false := fun x hx => by
      obtain ⟨a, b⟩ := hv x hx
      simp only [dunN, Bool.or_eq_false_iff] at b
      exact ⟨.inl a, b.1, b.2⟩
    have m0 : ("self" : Str) ∈ X.N := List.mem_cons_self ..
    obtain ⟨w1, w2, w3⟩ := vis _ m0
    have call : PE X (.Call (.Attribute (.Name b pb) "__init__" p2) [.Name "self" ps, .Constant (.str cs) j pc] [] pos) (tVeI X.K (tCons (tVar 0) (tCons (tC (.str cs)) tNil))) :=
      pe_beinit (X := X) h8.1 gB h8.2 TB (pa_cons (pe_var (i := 0) rfl w1 w2 w3) (pa_cons pe_str pa_nil)) (by simpa using hline) (by rfl) (by rfl) (by rfl)
    -- the first store makes the dict
    cases r with
    | nil => unfold storesB at h10; cases h10
    | cons st1 r1 =>
      unfold storesB at h10
      split at h10
      · contradiction
      · rename_i f' fs' s1 p1 g1 q2 y1 q3 q4 r' heq heq2
        obtain ⟨rfl, rfl⟩ := List.cons.inj heq
        obtain ⟨rfl, rfl⟩ := List.cons.inj heq2
        simp only [Bool.and_eq_true, beq_iff_eq] at h10
        obtain ⟨⟨⟨e1, e2⟩, e3⟩, h14⟩ := h10
        obtain rfl := e1.symm
        obtain rfl := e2.symm
        obtain rfl := e3.symm
        obtain ⟨v1, v2, v3⟩ := vis _ (List.mem_cons_of_mem _ (List.mem_cons_self ..))
        obtain ⟨t, ht, qt⟩ := stores_ok (X := X) T rfl hv fs r1 2 h14 fun m g hm => ⟨by
            show (("self" : Str) :: f :: fs)[2 + m]? = some g
            rw [show 2 + m = m + 1 + 1 by omega, List.getElem?_cons_succ, List.getElem?_cons_succ]; exact hm, hno g (List.mem_cons_of_mem _ (List.mem_of_getElem? hm))⟩
        refine ⟨_, pss_cons (ps_expr call (n_swap (by rfl))) (pss_cons (ps_ost (pe_var (i := 0) rfl w1 w2 w3) (pe_var (i := 1) rfl v1 v2 v3) (n_swap (by rfl))) ht), ?_⟩
        have hl' : ys.length = fs.length := by simpa using hl
        have stl : L2.start ("self" :: f :: fs) (V.ref a :: y :: ys) = some (.ref a) :: some y :: ys.map some := by
          unfold L2.start
          simp [hl']
        rw [stl]
        refine ⟨.ref a, rfl, a, C, _, rfl, by simp, T, ea, ?_⟩
        refine ⟨y, rfl, .ref a, rfl, a, C, rfl, T, hno _ (List.mem_cons_self ..), .inl ⟨ea, fun dx hdx dne => ?_⟩⟩
        refine qt _ _ _ a dx _ ys rfl (fun m z hm => by
          rw [show 2 + m = m + 1 + 1 by omega, List.getElem?_cons_succ, List.getElem?_cons_succ, List.getElem?_map, hm]; rfl) hl' dne upd_same (by rw [upd_ne dne, upd_same]) (by simp; omega) ?_
        intro H' k1 k2 k3
        refine q dx H' hdx dne (fun b b1 b2 => by rw [k1 b b1 b2, upd_ne b1, upd_ne b2]) k2 ?_
        rw [k3, List.zip_cons_cons, List.reverse_cons]
      · cases h10
  · cases h9
end MP
/-! MXC: except C as n: m = n; the error stays behind the suite. -/
namespace MP
open PySem PySem.Spec PyProof.Rows L2
section
variable {X : Cx} {pins pq : List (Addr × Obj)} {σ σ0 : L2.St} {H H0 : Hp} {s sI : Shared} {a : Addr} {oe : Obj} {cls : Value} {d : Option Addr}
/-- what a suite held is tracked behind it: it was not there ahead of the try -/
theorem keep_err (J : L2.Inv X pins σ0 H0 sI) (na : sI.heap.get? a = none) (S : L2.Inv (X.suite a ((a, oe) :: (X.pn ++ pins))) pq σ H s) (hz : L2.Zc cls d oe) (hd : ∃ vs, oe.data = .fields vs) : L2.Inv X pins σ (upd H a (EK cls d a)) s ∧ H a = none := by
  obtain ⟨ha, hn, _⟩ := S.pin (a, oe) (List.mem_append_left _ List.mem_cons_self)
  have U := S.unsuite J.ok
  have away : ∀ {b : Addr} {o : Obj}, sI.heap.get? b = some o → b ≠ a := fun e z => by rw [z, na] at e; cases e
  have out : ∀ {b : Addr} {u : HO}, H b = some u → upd H a (EK cls d a) b = some u := fun e => by rw [upd_ne (ne_of_none e hn)]; exact e
  refine ⟨⟨U.ok, U.os, U.bare, ⟨U.base.keep, U.base.slot, fun b o e n hx => ?_, U.base.there, fun b xs e => out (U.base.tups b xs e), fun b o u e => out (U.base.frzs b o u e), fun b ps e => ?_⟩, U.loc, U.cell, ?_, fun x c e => ?_, fun p hp => ?_, fun b ob e => ?_, U.len⟩, hn⟩
  · obtain ⟨o', e'⟩ := J.base.there b o e hx
    rw [upd_ne (away e')]
    exact U.base.free b o e n hx
  · obtain ⟨more, z⟩ := U.base.tbls b ps e
    exact ⟨more, out z⟩
  · obtain ⟨m, ⟨o', es, ep, ho, _⟩, _⟩ := J.loc
    rw [upd_ne (away ho)]
    exact U.free
  · obtain ⟨v, o', ho, _⟩ := J.cell x c e
    rw [upd_ne (away ho)]
    exact U.freeC x c e
  · obtain ⟨p1, p2, p3, p4, p5⟩ := U.pin p hp
    exact ⟨p1, by rw [upd_ne (away (J.pin p hp).1)]; exact p2, p3, p4, p5⟩
  · by_cases hb : b = a
    · subst hb
      rw [upd_same] at e
      cases e
      exact ek_ok ha hz hd
    · rw [upd_ne hb] at e
      exact (U.hok b ob e).stay (fun _ _ _ q => q) (fun _ q => out q) fun _ _ q => out q
end
/-- the clause's wish: behind the suite (which runs to its end) the error is tracked -/
def wKeep (K : PySem.W.Frag) (c : Value) (i : Nat) (ts : Addr → Value → Option Addr → TS) (Wo : WX) (D : Ends) : WX := fun cls d σ H =>
  ∃ b, PySem.W.exmOne K cls c = some b ∧ (b = true → ∀ a, H a = none → i < σ.length → ts a cls d { nx := fun σ' H' => H' a = none → D.nx (σ'.set i none) (upd H' a (EK cls d a)), rt := fun _ _ => False, bk := fun _ _ => False, ct := fun _ _ => False } (σ.set i (some (.ref a))) H) ∧
    (b = false → Wo cls d σ H)
section
variable {X : Cx} {y n : Str} {c : Value} {i : Nat} {body suite : List Stmt} {b₀ : Stmt} {np pos pos' : Pos} {tb : WX → TS} {ts : Addr → Value → Option Addr → TS} {Wo : WX}
theorem ps_keep (stk : X.stack = X.env :: X.outer) (frm : X.env.frame = some X.env.locals) (nd : X.N.Nodup) (at_i : X.N[i]? = some n) (loc : X.env.kindOf n = some .local) (nm : L2.Names X y c) (tk : L2.Takes X Wo)
    (hb : ∀ (W : WX) (pn : List (Addr × Obj)) (xe : Value → Shared → Prop), Takes (X.tr pn xe) W → PassesOwn (model X.prog X.w) X.A X.env xe → PSs (X.tr pn xe) body (tb W))
    (hsu : ∀ (a : Addr) (oe : Obj) (cls : Value) (d : Option Addr) (pn : List (Addr × Obj)), Zc cls d oe → (∃ vs, oe.data = .fields vs) → PSs (X.suite a ((a, oe) :: pn)) (b₀ :: suite) (ts a cls d)) :
    PS X (.Try body [.ExceptHandler (some (.Name y np)) (some n) (b₀ :: suite) pos'] [] [] pos) (fun D σ H => tb (wKeep X.K c i ts Wo D) D σ H) := by
  refine ⟨fun pins s σ H D I want => ?_⟩
  have okX := I.ok
  have frames : X.A.frames = some (X.env :: X.outer) := by rw [okX.frames, stk]
  refine wpAny_Try_except ?_
  let wish : Value → Shared → Prop := fun e s1 => wpAny (model X.prog X.w) X.A (noteFrame e X.env) (fun _ s2 => wpAny (model X.prog X.w) X.A (setFlight e none) (fun _ s3 =>
    wpAny (model X.prog X.w) X.A (handleBy e X.env [.ExceptHandler (some (.Name y np)) (some n) (b₀ :: suite) pos']) (SP X pins D) X.xe s3) X.xe s2) X.xe s1
  have caught : Takes (X.tr (X.pn ++ pins) wish) (wKeep X.K c i ts Wo D) := by
    rintro u s' ⟨a, B, sI, pi', σ1, H1, cls, d, rfl, J0, ground, upto, sky, free_a, os_, gens_, b, yes_no, on_yes, on_no⟩
    have J : Inv X pins σ1 H1 sI := J0.ofTry okX
    have sky1 : Sky B (X.env :: X.outer) a (Zc cls d) X.env.locals s'.heap := by rw [← stk]; exact sky
    show wpAny _ X.A (noteFrame (.ref a) X.env) _ _ _
    refine Sky.land Zc.steady frames frm sky1 fun hA flA upA => ?_
    have JA : Inv X pins σ1 H1 { s' with heap := hA } := J.landed ground flA.1 (upto.trans upA) os_ gens_
    obtain ⟨oA, vA, getA, zA, fA⟩ := flA.there
    have no_frame : a ∉ frs (X.env :: X.outer) := fun hm => by
      obtain ⟨_, o', e', hnf⟩ := flA.2.2.1.mem hm
      rw [getA] at e'
      cases e'
      exact hnf _ fA
    have new_a : sI.heap.get? a = none := by
      cases q : sI.heap.get? a with
      | none => rfl
      | some o =>
        have := ground a o q (by rw [stk]; exact no_frame)
        rw [flA.2.1] at this
        cases this
    have ne_loc : a ≠ X.env.locals := fun z => no_frame (List.mem_filterMap.mpr ⟨X.env, List.mem_cons_self, by rw [frm, z]⟩)
    have ne_out : a ∉ X.fs := fun hm => by
      obtain ⟨e, he, q⟩ := List.mem_filterMap.mp hm
      exact no_frame (List.mem_filterMap.mpr ⟨e, List.mem_cons_of_mem _ he, q⟩)
    have SA := JA.suite getA fA free_a ne_loc ne_out
    refine wpAny_handleBy_cons (codeAny_handlers_test ?_) (by intro q; cases q)
    have types : PySem.W.Looks (model X.prog X.w) hA (typeOf (.ref a)) cls := fun _ _ _ _ k q => wpAny_typeOf_ref (k _ _ getA) (by rw [zA.1]; exact q)
    have matches_ := PySem.W.exm_one (M := model X.prog X.w) (JA.kIn) types yes_no
    have named : ∀ {Q E : Value → Shared → Prop}, Q c { s' with heap := hA } → wpAny (model X.prog X.w) (X.A.mark (some (.ref a))) (eval (.Name y np) X.env) Q E { s' with heap := hA } := fun {Q E} q => by
      obtain ⟨g, db, m | ⟨m, v, nn⟩⟩ := nm
      · exact ld_glob (X := X.suite a ((a, oA) :: (X.pn ++ pins))) SA g m q db
      · exact ld_blt (X := X.suite a ((a, oA) :: (X.pn ++ pins))) SA g m v q nn db
    refine named (matches_.here ?_)
    cases b with
    | true =>
      refine codeAny_handlers_suite_as (HandSPX.lands_againZ flA fun hB flB upB => ?_)
      have JB : Inv X pins σ1 H1 { s' with heap := hB } := J.landed ground flB.1 ((upto.trans upA).trans upB) os_ gens_
      obtain ⟨oB, vB, getB, zB, fB⟩ := flB.there
      refine store_ok (X := X.suite a ((a, oB) :: (X.pn ++ pins))) (v := .ref a) (JB.suite getB fB free_a ne_loc ne_out) nd at_i (.inl loc) rfl (fun s5 S5 => ?_) (.inr loc)
      refine wpAny_mono ((hsu a oB cls d (X.pn ++ pins) zB ⟨_, fB⟩).run [] s5 _ H1 _ S5 (on_yes rfl a free_a (by have := J.len; have := (List.getElem?_eq_some_iff.mp at_i).1; omega))) (fun f s6 res => ?_) (fun _ _ z => z.elim)
      cases f with
      | next =>
        obtain ⟨σ6, H6, S6, q6⟩ := res
        obtain ⟨K6, n6⟩ := keep_err J new_a S6 zB ⟨_, fB⟩
        exact gone_ok K6 nd at_i loc fun s7 J7 => ⟨_, _, J7, q6 n6⟩
      | brk =>
        obtain ⟨_, _, _, q6⟩ := res
        exact q6.elim
      | cont =>
        obtain ⟨_, _, _, q6⟩ := res
        exact q6.elim
      | ret u =>
        obtain ⟨_, _, _, _, _, q6⟩ := res
        exact q6.elim
    | false =>
      refine wpAny_handleBy_nil ?_
      obtain ⟨k1, k2, k3, oe, vs, T, oT, ts', he, hz, hd, h1, hr⟩ := id flA
      unfold PySem.passOn
      refine wpAny_bind (wpAny_field he hd h1 ?_)
      rw [if_neg (by simp)]
      have go : wpAny (model X.prog X.w) X.A (setFlight (.ref a) X.env.frame) (fun _ s4 => wpAny (model X.prog X.w) X.A (throw (.ref a) : Sem Flow) (SP X pins D) X.xe s4) X.xe { s' with heap := hA } := by
        rw [frm]
        refine HandSPX.setFlight_upZ flA fun h4 held4 up4 => wpAny_throw (tk _ _ ?_)
        refine ⟨a, B, sI, pins, σ1, H1, cls, d, rfl, J, ground, (upto.trans upA).trans up4, ?_, free_a, os_, gens_, on_no rfl⟩
        exact .inr (.inr (by rw [stk]; exact held4))
      first
        | exact wpAny_bind (wpAny_pure (wpAny_bind go))
        | exact wpAny_bind go
  refine wpAny_mono ((hb (wKeep X.K c i ts Wo D) (X.pn ++ pins) wish caught PassesOwn.looking).run [] s σ H D (I.toTry _) want) (fun f s1 res => ?_) (fun _ _ he => he)
  cases f with
  | next =>
    obtain ⟨_, _, J, q⟩ := res
    exact wpAny_execs_nil ⟨_, _, J.ofTry okX, q⟩
  | brk =>
    obtain ⟨_, _, J, q⟩ := res
    exact ⟨_, _, J.ofTry okX, q⟩
  | cont =>
    obtain ⟨_, _, J, q⟩ := res
    exact ⟨_, _, J.ofTry okX, q⟩
  | ret u =>
    obtain ⟨_, _, _, J, r, q⟩ := res
    exact ⟨_, _, _, J.ofTry okX, r, q⟩
end
end MP
/-! MX3: an error that a suite holds: asked for its class, its fields. -/
namespace MP
open PySem PySem.Spec PyProof.Rows L2 RZ

/-- what the class at C must say, so that its errors can be asked -/
structure ErrC (K : PySem.W.Frag) (C : Addr) : Prop where
  xf : XfC K C
  cl : (PySem.W.clsIn K C).isSome = true
  ka : PySem.W.findIn K (.ref C) "__class__" = some (some (.builtin "object.__class__"))
  kn : PySem.W.specialIn K (.builtin "object.__class__") "__get__" = some (some (.builtin "getset_descriptor.__get__"))
  kt : PySem.W.takesIn K (.builtin "object.__class__") = some true
  km : PySem.W.mroIn K C (.type "object") = some true
/-- a class that may be raised: its name, its fields -/
def XcF (P : Program) (w : World) (K : PySem.W.Frag) (mg : Str → Option Value) (base : Heap) (k : Nat) (c : Str) (fs : List Str) : Prop := ∃ (C fI : Addr) (fd : FuncData),
  mg c = some (.ref C) ∧ OexC K C ∧ ErrC K C ∧ (∀ f, f ∈ fs → PySem.W.findIn K (.ref C) f = some none) ∧ PySem.W.findIn K (.ref C) "__init__" = some (some (.ref fI)) ∧ PySem.W.typeIn K (.ref fI) = some (.type "function") ∧
  FnOk P w K mg base CX0 1 fI fd ("self" :: fs) (spI C fs) ∧ Binds K fd ("self" :: fs) [] ∧ 2 ≤ k ∧ fs.length ≤ 100 ∧ ClsN K c C
theorem XcF.mono {P : Program} {w : World} {K : PySem.W.Frag} {mg : Str → Option Value} {base : Heap} {j k : Nat} {c : Str} {fs : List Str} (x : XcF P w K mg base j c fs) (hk : j ≤ k) : XcF P w K mg base k c fs := by
  obtain ⟨C, fI, fd, a1, a2, a3, a4, a5, a6, a7, a8, a9, a10⟩ := x
  exact ⟨C, fI, fd, a1, a2, a3, a4, a5, a6, a7, a8, by omega, a10⟩
/-- is an error of the class c one of y -/
def XiF (K : PySem.W.Frag) (mg : Str → Option Value) (c y : Str) (b : Bool) : Prop := ∃ (C : Addr) (cv : Value) (v : V), mg c = some (.ref C) ∧ ErrC K C ∧ (mg y = some cv ∨ (mg y = none ∧ bootBuiltins y = some cv ∧ y ≠ "__name__")) ∧
  RelV v cv ∧ (∀ u, RelV v u → u = cv) ∧ PySem.W.kitOne K (.ref C) cv = some b ∧ PySem.W.exmOne K (.ref C) cv = some b ∧ ClsN K c C
/-- the suite holds, at a, an error of the class c, its fields at dd -/
def CxF (X : Cx) (a : Addr) (c : Str) (dd : Addr) : Prop := ∃ (X0 : Cx) (oe : Obj) (pn : List (Addr × Obj)) (C : Addr), X = X0.suite a ((a, oe) :: pn) ∧ X.mg c = some (.ref C) ∧ Zc (.ref C) (some dd) oe ∧ ∃ vs, oe.data = .fields vs

section
variable {X : Cx} {W : WX} {a : Expr} {wa : AE} {pos : Pos} {G : Ct}
/-- the error's object, as isinstance wants it -/
theorem inst_at {X0 : Cx} {a dd C : Addr} {oe : Obj} {pn pins : List (Addr × Obj)} {σ : L2.St} {H : Hp} {s : Shared} {ws : List (Str × V)} (I : L2.Inv (X0.suite a ((a, oe) :: pn)) pins σ H s) (hz : Zc (.ref C) (some dd) oe) (hf : ∃ vs, oe.data = .fields vs) (ed : H dd = some (.xd ws)) :
    ∃ od, PySem.W.InstAt s.heap a oe C (some od) := by
  obtain ⟨ha, _⟩ := I.pin (a, oe) (List.mem_append_left _ List.mem_cons_self)
  obtain ⟨vs, hd⟩ := hf
  obtain ⟨mA, hns, hr⟩ := I.hok dd _ ed
  obtain ⟨od, ho, hl⟩ := lookIn_ns hns
  exact ⟨od, ha, hz.1, by unfold PySem.W.notCls; rw [hd] <;> rfl, by rw [hz.2]; exact ho⟩
theorem call_isE1 {X0 : Cx} {a dd C : Addr} {oe : Obj} {pn : List (Addr × Obj)} (T : ErrC X0.K C) (hz : Zc (.ref C) (some dd) oe) (hf : ∃ vs, oe.data = .fields vs) : CallR (X0.suite a ((a, oe) :: pn)) (.builtin "isinstance")
    (fun xs H Q => ∃ (v : V) (cv : Value) (b : Bool) (ws : List (Str × V)), xs = [.ref a, v] ∧ (∀ u, RelV v u → u = cv) ∧ H dd = some (.xd ws) ∧ PySem.W.kitOne X0.K (.ref C) cv = some b ∧ Q (.bl b) H) := by
  intro pins s σ H xs us Q I r h
  obtain ⟨v, cv, b, ws, rfl, hv, ed, e, q⟩ := h
  cases r with
  | cons rx rr =>
    cases rr with
    | cons rt rr =>
      cases rr
      cases rx
      have ec := hv _ rt
      subst ec
      obtain ⟨od, J⟩ := inst_at I hz hf ed
      exact PySem.W.kia_one (PySem.W.kitx_exc T.cl T.xf.ga T.xf.gg T.xf.exC T.ka T.kn T.kt T.km) I.kIn J e (fun z => nomatch z) fun tk => ⟨.bl b, H, I.kept (t' := tk) fun _ _ z => z, rfl, q⟩
theorem call_isEt {X0 : Cx} {a dd C : Addr} {oe : Obj} {pn : List (Addr × Obj)} (T : ErrC X0.K C) (hz : Zc (.ref C) (some dd) oe) (hf : ∃ vs, oe.data = .fields vs) : CallR (X0.suite a ((a, oe) :: pn)) (.builtin "isinstance")
    (fun xs H Q => ∃ (tp : Addr) (vs : List V) (cvs : List Value) (b : Bool) (ws : List (Str × V)), xs = [.ref a, .ref tp] ∧ SqT X0.K H tp vs ∧ (∀ us, Vals vs us → us = cvs) ∧ H dd = some (.xd ws) ∧ PySem.W.kitAny X0.K (.ref C) cvs = some b ∧ Q (.bl b) H) := by
  intro pins s σ H xs us Q I r h
  obtain ⟨tp, vs, cvs, b, ws, rfl, ht, hv, ed, e, q⟩ := h
  cases r with
  | cons rx rr =>
    cases rr with
    | cons rt rr =>
      cases rr
      cases rx
      cases rt
      obtain ⟨od, J⟩ := inst_at I hz hf ed
      obtain ⟨its, rv, ⟨o, g1, g2, n, g3⟩, _⟩ := I.tuple ht
      have ec := hv _ rv
      subst ec
      obtain ⟨oc, odd, odt, osl⟩ := o
      dsimp only at g2 g3
      subst g2 g3
      exact PySem.W.kia_tup (PySem.W.kitx_exc T.cl T.xf.ga T.xf.gg T.xf.exC T.ka T.kn T.kt T.km) I.kIn J g1 e (fun z => nomatch z) fun tk => ⟨.bl b, H, I.kept (t' := tk) fun _ _ z => z, rfl, q⟩
theorem pe_cls {y : Str} {cv : Value} {v : V} {p : Pos} (hg : Gl X y) (hd : (y == ("__debug__" : Str)) = false) (hm : X.mg y = some cv ∨ (X.mg y = none ∧ bootBuiltins y = some cv ∧ y ≠ "__name__")) (r : RelV v cv) : PE X (.Name y p) (tC v) := by
  rcases hm with hm | ⟨hm, hv, hn⟩
  · exact pe_glob hg hm r hd
  · exact pe_bltn hg hm hv r hn hd

theorem cls_uniq {y : Str} {cv cv' : Value} (h1 : X.mg y = some cv ∨ (X.mg y = none ∧ bootBuiltins y = some cv ∧ y ≠ "__name__")) (h2 : X.mg y = some cv' ∨ (X.mg y = none ∧ bootBuiltins y = some cv' ∧ y ≠ "__name__")) : cv = cv' := by
  rcases h1 with h1 | ⟨h1, h3, _⟩ <;> rcases h2 with h2 | ⟨h2, h4, _⟩
  · rw [h1] at h2; cases h2; rfl
  · rw [h1] at h2; cases h2
  · rw [h1] at h2; cases h2
  · rw [h3] at h4; cases h4; rfl
theorem ClsN.uniq {K : PySem.W.Frag} {c : Str} {C D : Addr} (h : ClsN K c C) (g : ClsN K c D) : C = D := by
  have : some (some (Value.ref C)) = some (some (Value.ref D)) := h.symm.trans g
  cases this
  rfl
/-! an error that is kept -/
theorem inst_kept {a dd C : Addr} {pins : List (Addr × Obj)} {σ : L2.St} {H : Hp} {s : Shared} {ws : List (Str × V)} (I : L2.Inv X pins σ H s) (e : H a = some (EK (.ref C) (some dd) a)) (ed : H dd = some (.xd ws)) : ∃ oe od, PySem.W.InstAt s.heap a oe C (some od) := by
  obtain ⟨⟨oe, ha, hz, vs, hd⟩, _⟩ := I.hok a _ e
  obtain ⟨mA, hns, hr⟩ := I.hok dd _ ed
  obtain ⟨od, ho, hl⟩ := lookIn_ns hns
  exact ⟨oe, od, ha, hz.1, by unfold PySem.W.notCls; rw [hd] <;> rfl, by rw [hz.2]; exact ho⟩
theorem call_kept1 : CallR X (.builtin "isinstance")
    (fun xs H Q => ∃ (a dd C : Addr) (v : V) (cv : Value) (b : Bool) (ws : List (Str × V)), xs = [.ref a, v] ∧ H a = some (EK (.ref C) (some dd) a) ∧ ErrC X.K C ∧ (∀ u, RelV v u → u = cv) ∧ H dd = some (.xd ws) ∧ PySem.W.kitOne X.K (.ref C) cv = some b ∧ Q (.bl b) H) := by
  intro pins s σ H xs us Q I r h
  obtain ⟨a, dd, C, v, cv, b, ws, rfl, ek, T, hv, ed, e, q⟩ := h
  cases r with
  | cons rx rr =>
    cases rr with
    | cons rt rr =>
      cases rr
      cases rx
      have ec := hv _ rt
      subst ec
      obtain ⟨oe, od, J⟩ := inst_kept I ek ed
      exact PySem.W.kia_one (PySem.W.kitx_exc T.cl T.xf.ga T.xf.gg T.xf.exC T.ka T.kn T.kt T.km) I.kIn J e (fun z => nomatch z) fun tk => ⟨.bl b, H, I.kept (t' := tk) fun _ _ z => z, rfl, q⟩
theorem call_keptT : CallR X (.builtin "isinstance")
    (fun xs H Q => ∃ (a dd C tp : Addr) (vs : List V) (cvs : List Value) (b : Bool) (ws : List (Str × V)), xs = [.ref a, .ref tp] ∧ H a = some (EK (.ref C) (some dd) a) ∧ ErrC X.K C ∧ SqT X.K H tp vs ∧ (∀ us, Vals vs us → us = cvs) ∧ H dd = some (.xd ws) ∧ PySem.W.kitAny X.K (.ref C) cvs = some b ∧ Q (.bl b) H) := by
  intro pins s σ H xs us Q I r h
  obtain ⟨a, dd, C, tp, vs, cvs, b, ws, rfl, ek, T, ht, hv, ed, e, q⟩ := h
  cases r with
  | cons rx rr =>
    cases rr with
    | cons rt rr =>
      cases rr
      cases rx
      cases rt
      obtain ⟨oe, od, J⟩ := inst_kept I ek ed
      obtain ⟨its, rv, ⟨o, g1, g2, n, g3⟩, _⟩ := I.tuple ht
      have ec := hv _ rv
      subst ec
      obtain ⟨oc, odd, odt, osl⟩ := o
      dsimp only at g2 g3
      subst g2 g3
      exact PySem.W.kia_tup (PySem.W.kitx_exc T.cl T.xf.ga T.xf.gg T.xf.exC T.ka T.kn T.kt T.km) I.kIn J g1 e (fun z => nomatch z) fun tk => ⟨.bl b, H, I.kept (t' := tk) fun _ _ z => z, rfl, q⟩
theorem pe_xfK {e : Expr} {te : TE} {n : Str} (he : PE X e te) (hb : attributeBase e n X.env (eval e X.env) = eval e X.env) :
    PE X (.Attribute e n pos) (fun σ H Q => te σ H fun x H1 => ∃ (a C dd : Addr) (fs : List (Str × V)) (v : V), x = .ref a ∧ H1 a = some (EK (.ref C) (some dd) a) ∧ XfC X.K C ∧ PySem.W.findIn X.K (.ref C) n = some none ∧ H1 dd = some (.xd fs) ∧ fs.lookup n = some v ∧ Q v H1) := by
  refine ⟨fun pins s σ H Q I h => ?_⟩
  refine attr_of hb (thn (he.run pins s σ H _ I h) fun u s1 hh => ?_)
  obtain ⟨x, H1, I1, rx, a, C, dd, fs, v, ex, ek, T, hno, ea, l, q⟩ := hh
  subst ex
  obtain rfl : u = Value.ref a := rx
  obtain ⟨mA, hns, hr⟩ := I1.hok dd _ ea
  obtain ⟨od, ho, hl⟩ := lookIn_ns hns
  obtain ⟨w, hu, ru⟩ := RelO.some_of (v := v) (o := mA n) (by rw [← l]; exact hr n)
  obtain ⟨⟨oe, ha, hz, vs, hd⟩, _⟩ := I1.hok a _ ek
  have J : PySem.W.InstAt s1.heap a oe C (some od) := ⟨ha, hz.1, by unfold PySem.W.notCls; rw [hd] <;> rfl, by rw [hz.2]; exact ho⟩
  exact HandSPX.exc_get I1.kIn J T.ga T.gg T.exC (PySem.W.findObj_own T.hdC hno rfl (by rw [hl, hu])) (handed_of ru) ⟨v, H1, I1.tok _, ru, q⟩
/-- the names' values, one by one -/
def NmVs (X : Cx) : List Str → List Value → Prop
  | [], [] => True
  | y :: ys, c :: cs => (X.mg y = some c ∨ (X.mg y = none ∧ bootBuiltins y = some c ∧ y ≠ "__name__")) ∧ NmVs X ys cs
  | _, _ => False
theorem css_kit {C : Addr} {c : Str} (hc : X.mg c = some (.ref C)) (xi : ∀ c y b, G.xi c y = some b → XiF X.K X.mg c y b) : ∀ (cs : List Str) (cvs : List Value) (b : Bool), NmVs X cs cvs → xiAny G.xi c cs = some b → PySem.W.kitAny X.K (.ref C) cvs = some b
  | [], [], b, _, hx => by cases hx; rfl
  | [], _ :: _, _, h, _ => h.elim
  | _ :: _, [], _, h, _ => h.elim
  | y :: cs, cv :: cvs, b, ⟨h1, h2⟩, hx => by
    unfold xiAny at hx
    split at hx
    · rename_i b1 b2 e1 e2
      cases hx
      obtain ⟨C', cv', v, m1, T, hm2, rv, rd, k1, k2, _⟩ := xi c y b1 e1
      rw [hc] at m1
      cases m1
      have := cls_uniq hm2 h1
      subst this
      unfold PySem.W.kitAny
      rw [k1]
      cases b1 with
      | true => rfl
      | false => exact css_kit hc xi cs cvs b2 h2 e2
    · cases hx

theorem pe_F {e : Expr} : PE X e (fun _ _ _ => False) := ⟨fun _ _ _ _ _ _ h => h.elim⟩
theorem callF {id : String} : CallR X (.builtin id) (fun _ _ _ => False) := fun _ _ _ _ _ _ _ _ _ h => h.elim
theorem lookup_rep {K : PySem.W.Frag} {H : Hp} {f : Str} {d : D} : ∀ {ks : List Str} {ds : List D} {ws : List (Str × V)}, ws.map (·.1) = ks → Reps K H ds (ws.map (·.2)) → (ks.zip ds).lookup f = some d → ∃ v, ws.lookup f = some v ∧ Rep K H d v
  | [], _, _, _, _, h => by cases h
  | k :: ks, [], _, _, _, h => by cases h
  | k :: ks, e :: ds, [], h1, _, _ => by cases h1
  | k :: ks, e :: ds, (k', v) :: ws, h1, h2, h => by
    obtain ⟨rfl, h3⟩ := List.cons.inj (show k' :: ws.map (·.1) = k :: ks from h1)
    obtain ⟨x, r, e1, q1, q2⟩ := h2
    obtain ⟨rfl, rfl⟩ := List.cons.inj (show v :: ws.map (·.2) = x :: r from e1)
    rw [List.zip_cons_cons, List.lookup_cons] at h
    rw [List.lookup_cons]
    cases c : f == k' with
    | true =>
      rw [c] at h
      cases h
      exact ⟨v, rfl, q1⟩
    | false =>
      rw [c] at h
      exact lookup_rep h3 q2 h
theorem me_xis1 {y : Str} {p p2 : Pos} (ha : ME X W a wa) (hg : Gl X "isinstance") (hm : X.mg "isinstance" = none) (hgc : Gl X y) (hd : (y == ("__debug__" : Str)) = false)
    (cx : ∀ a c dd, G.cx = some (a, c, dd) → CxF X a c dd) (xi : ∀ c y b, G.xi c y = some b → XiF X.K X.mg c y b) (hs : starEach [a, .Name y p2] X.env = (false, eval a X.env) :: starEach [.Name y p2] X.env) :
    ME X W (.Call (.Name "isinstance" p) [a, .Name y p2] [] pos) (fun s h Q E => wa s h (fun x h1 => xisD G [y] x h1 Q) E) := by
  have no : (∀ x h1 Q, ¬ xisD G [y] x h1 Q) → ME X W (.Call (.Name "isinstance" p) [a, .Name y p2] [] pos) (fun s h Q E => wa s h (fun x h1 => xisD G [y] x h1 Q) E) := fun nf => by
    refine (pe_callB callF hg hm PyProof.Rows.boot_isinstance (pa_cons ha (pa_cons pe_F pa_nil rfl) hs) (by decide) (by decide) hs rfl).imp ?_
    rintro σ H Q ⟨s, h, Qd, Ed, rs, rh, hw, lx, lq⟩
    exact ⟨s, h, _, Ed, rs, rh, hw, lx, fun dx h1 x H1 q1 _ _ _ => nf _ _ _ q1⟩
  cases hcx : G.cx with
  | none =>
    by_cases hx : ∃ c0 b0, G.xi c0 y = some b0
    rotate_left
    · refine no fun x h1 Q q => ?_
      unfold xisD at q
      rw [hcx] at q
      cases x <;> first | exact q | skip
      rename_i c _ _ _ _
      cases hxi : G.xi c y with
      | none => simp only [xiAny, hxi] at q
      | some b => exact hx ⟨c, b, hxi⟩
    obtain ⟨c0, b0, hx⟩ := hx
    obtain ⟨C0, cv, v, _, _, hm2, rv, rd, _, _, _⟩ := xi c0 y b0 hx
    refine (pe_callB call_kept1 hg hm PyProof.Rows.boot_isinstance (pa_cons ha (pa_cons (pe_cls hgc hd hm2 rv) pa_nil rfl) hs) (by decide) (by decide) hs rfl).imp ?_
    rintro σ H Q ⟨s, h, Qd, Ed, rs, rh, hw, lx, lq⟩
    refine ⟨s, h, _, Ed, rs, rh, hw, lx, fun dx h1 x H1 q1 r1 rh1 e1 => ?_⟩
    unfold xisD at q1
    rw [hcx] at q1
    cases dx <;> first | exact q1.elim | skip
    rename_i c a dd ks ds
    cases hxi : G.xi c y with
    | none => simp only [xiAny, hxi] at q1
    | some b =>
      simp only [xiAny, hxi, Bool.or_false] at q1
      obtain ⟨C, cv', v', m1, T, hm', _, _, k1, _, n1⟩ := xi c y b hxi
      have ecv := cls_uniq hm' hm2
      subst ecv
      obtain ⟨rfl, ⟨C', n2, ek⟩, ws, ed, _, _⟩ := r1
      obtain rfl := n1.uniq n2
      exact ⟨a, dd, C, v, _, b, ws, rfl, ek, T, rd, ed, k1, lq _ _ _ _ q1 rfl rh1 e1⟩
  | some t =>
    obtain ⟨e, c, dd⟩ := t
    cases hxi : G.xi c y with
    | none =>
      refine no fun x h1 Q q => ?_
      unfold xisD at q
      rw [hcx] at q
      cases x <;> first | exact q | skip
      obtain ⟨_, _, q⟩ := q
      simp only [xiAny, hxi] at q
    | some b =>
      obtain ⟨C, cv, v, g1, T, hm2, rv, rd, k1, k2, _⟩ := xi c y b hxi
      obtain ⟨X0, oe, pn, C', rfl, g2, hz, hf⟩ := cx _ _ _ hcx
      rw [g1] at g2
      cases g2
      refine (pe_callB (call_isE1 T hz hf) hg hm PyProof.Rows.boot_isinstance (pa_cons ha (pa_cons (pe_cls hgc hd hm2 rv) pa_nil rfl) hs) (by decide) (by decide) hs rfl).imp ?_
      rintro σ H Q ⟨s, h, Qd, Ed, rs, rh, hw, lx, lq⟩
      refine ⟨s, h, _, Ed, rs, rh, hw, lx, fun dx h1 x H1 q1 r1 rh1 e1 => ?_⟩
      unfold xisD at q1
      rw [hcx] at q1
      cases dx <;> first | exact q1.elim | skip
      obtain ⟨rfl, rfl, q⟩ := q1
      obtain ⟨rfl, ws, ed, _, _⟩ := r1
      simp only [xiAny, hxi, Bool.or_false] at q
      exact ⟨v, cv, b, ws, rfl, rd, ed, k1, lq _ _ _ _ q rfl rh1 e1⟩
/-- the names of classes, one by one -/
theorem pa_css {C : Addr} {c : Str} (hc : X.mg c = some (.ref C)) (xi : ∀ c y b, G.xi c y = some b → XiF X.K X.mg c y b) (gl : ∀ y, glB X.env.scope y = true → Gl X y ∧ (y == ("__debug__" : Str)) = false) : ∀ (cs : List Str) (ps : List Expr) (b : Bool), chkCs X.env.scope cs ps = true → xiAny G.xi c cs = some b →
    ∃ t vs cvs, PA X ps t ∧ (∀ σ H Q, Q vs H → t σ H Q) ∧ Vals vs cvs ∧ (∀ us, Vals vs us → us = cvs) ∧ PySem.W.kitAny X.K (.ref C) cvs = some b ∧ vs.length = cs.length ∧ NmVs X cs cvs
  | [], [], b, _, hx => ⟨_, [], [], pa_nil, fun _ _ _ q => q, .nil, fun us r => by cases r; rfl, by cases hx; rfl, rfl, trivial⟩
  | [], _ :: _, b, h, _ => by unfold chkCs at h; cases h
  | _ :: _, [], b, h, _ => by unfold chkCs at h; cases h
  | y :: cs, p :: ps, b, h, hx => by
    unfold chkCs at h
    rw [Bool.and_eq_true] at h
    obtain ⟨h1, h2⟩ := h
    unfold xiAny at hx
    split at hx
    · rename_i b1 b2 e1 e2
      cases hx
      obtain ⟨t, vs, cvs, ht, hq, hv, hu, hk, hlen, hnm⟩ := pa_css hc xi gl cs ps b2 h2 e2
      split at h1
      · rename_i z hz
        obtain ⟨pp, rfl⟩ := vName_eq hz
        simp only [Bool.and_eq_true, beq_iff_eq] at h1
        obtain ⟨rfl, h3⟩ := h1
        obtain ⟨g1, g2⟩ := gl z h3
        obtain ⟨C', cv, v, m1, T, hm2, rv, rd, k1, k2, _⟩ := xi c z b1 e1
        rw [hc] at m1
        cases m1
        refine ⟨_, v :: vs, cv :: cvs, pa_cons (pe_cls g1 g2 hm2 rv) ht (by rfl), fun σ H Q q => ?_, .cons rv hv, fun us r => ?_, ?_, by rw [List.length_cons, List.length_cons, hlen], hm2, hnm⟩
        · exact hq σ H _ q
        · cases r with
          | cons ra rb => rw [rd _ ra, hu _ rb]
        · unfold PySem.W.kitAny
          rw [k1]
          cases b1 with
          | true => rfl
          | false => exact hk
      · cases h1
    · cases hx
theorem me_xisT {cs : List Str} {ps : List Expr} {k : Nat} {p p2 : Pos} (ha : ME X W a wa) (hg : Gl X "isinstance") (hm : X.mg "isinstance" = none) (hch : chkCs X.env.scope cs ps = true) (hne : cs.isEmpty = false) (hz : cs.length ≤ 100) (gl : ∀ y, glB X.env.scope y = true → Gl X y ∧ (y == ("__debug__" : Str)) = false)
    (cx : ∀ a c dd, G.cx = some (a, c, dd) → CxF X a c dd) (xi : ∀ c y b, G.xi c y = some b → XiF X.K X.mg c y b) (hs : starEach [a, .Tuple ps k p2] X.env = (false, eval a X.env) :: starEach [.Tuple ps k p2] X.env) :
    ME X W (.Call (.Name "isinstance" p) [a, .Tuple ps k p2] [] pos) (fun s h Q E => wa s h (fun x h1 => xisD G cs x h1 Q) E) := by
  have no : (∀ x h1 Q, ¬ xisD G cs x h1 Q) → ME X W (.Call (.Name "isinstance" p) [a, .Tuple ps k p2] [] pos) (fun s h Q E => wa s h (fun x h1 => xisD G cs x h1 Q) E) := fun nf => by
    refine (pe_callB callF hg hm PyProof.Rows.boot_isinstance (pa_cons ha (pa_cons pe_F pa_nil rfl) hs) (by decide) (by decide) hs rfl).imp ?_
    rintro σ H Q ⟨s, h, Qd, Ed, rs, rh, hw, lx, lq⟩
    exact ⟨s, h, _, Ed, rs, rh, hw, lx, fun dx h1 x H1 q1 _ _ _ => nf _ _ _ q1⟩
  cases hcx : G.cx with
  | none =>
    by_cases hx : ∃ c0 b0, xiAny G.xi c0 cs = some b0
    rotate_left
    · refine no fun x h1 Q q => ?_
      unfold xisD at q
      rw [hcx] at q
      cases x <;> first | exact q | skip
      rename_i c _ _ _ _
      cases hxi : xiAny G.xi c cs with
      | none => simp only [hxi] at q
      | some b => exact hx ⟨c, b, hxi⟩
    obtain ⟨c0, b0, hx⟩ := hx
    have one : ∀ c b, xiAny G.xi c cs = some b → ∃ C, X.mg c = some (.ref C) ∧ ErrC X.K C ∧ ClsN X.K c C := fun c b e => by
      cases cs with
      | nil => cases hne
      | cons y r =>
        unfold xiAny at e
        split at e
        · rename_i b1 b2 e1 e2
          obtain ⟨C', cv, v, m1, T, _, _, _, _, _, n1⟩ := xi c y b1 e1
          exact ⟨C', m1, T, n1⟩
        · cases e
    obtain ⟨C0, m0, _, _⟩ := one c0 b0 hx
    obtain ⟨t, vs, cvs, ht, hq, hv, hu, _, hlen, hnm⟩ := pa_css m0 xi gl cs ps b0 hch hx
    refine (pe_callB call_keptT hg hm PyProof.Rows.boot_isinstance (pa_cons ha (pa_cons (pe_tup ht) pa_nil rfl) hs) (by decide) (by decide) hs rfl).imp ?_
    rintro σ H Q ⟨s, h, Qd, Ed, rs, rh, hw, lx, lq⟩
    refine ⟨s, h, _, Ed, rs, rh, hw, lx, fun dx h1 x H1 q1 r1 rh1 e1 => ?_⟩
    unfold xisD at q1
    rw [hcx] at q1
    cases dx <;> first | exact q1.elim | skip
    rename_i c a dd ks ds
    cases hxi : xiAny G.xi c cs with
    | none => simp only [hxi] at q1
    | some b =>
      simp only [hxi] at q1
      obtain ⟨C, m1, T, n1⟩ := one c b hxi
      obtain ⟨rfl, ⟨C', n2, ek⟩, ws, ed, _, _⟩ := r1
      obtain rfl := n1.uniq n2
      have k1 := css_kit m1 xi cs cvs b hnm hxi
      refine hq _ _ _ ⟨by rw [hlen, sizeLine_eq]; omega, fun tp ntp => ?_⟩
      refine ⟨a, dd, C, tp, vs, cvs, b, ws, rfl, by rw [upd_ne (ne_of_none ek ntp)]; exact ek, T, .inl (.inl upd_same), hu, by rw [upd_ne (ne_of_none ed ntp)]; exact ed, k1, ?_⟩
      exact lq _ _ _ _ q1 rfl (rh1.new ntp) (e1.trans (ext_new ntp))
  | some t =>
    obtain ⟨e, c, dd⟩ := t
    cases hxi : xiAny G.xi c cs with
    | none =>
      refine no fun x h1 Q q => ?_
      unfold xisD at q
      rw [hcx] at q
      cases x <;> first | exact q | skip
      obtain ⟨_, _, q⟩ := q
      simp only [hxi] at q
    | some b =>
      obtain ⟨X0, oe, pn, C, rfl, g2, hz, hf⟩ := cx _ _ _ hcx
      have T : ErrC X0.K C := by
        cases cs with
        | nil => cases hne
        | cons y r =>
          unfold xiAny at hxi
          split at hxi
          · rename_i b1 b2 e1 e2
            obtain ⟨C', cv, v, m1, T, _⟩ := xi c y b1 e1
            rw [g2] at m1
            cases m1
            exact T
          · cases hxi
      obtain ⟨t, vs, cvs, ht, hq, hv, hu, hk, hlen, _⟩ := pa_css g2 xi gl cs ps b hch hxi
      refine (pe_callB (call_isEt T hz hf) hg hm PyProof.Rows.boot_isinstance (pa_cons ha (pa_cons (pe_tup ht) pa_nil rfl) hs) (by decide) (by decide) hs rfl).imp ?_
      rintro σ H Q ⟨s, h, Qd, Ed, rs, rh, hw, lx, lq⟩
      refine ⟨s, h, _, Ed, rs, rh, hw, lx, fun dx h1 x H1 q1 r1 rh1 e1 => ?_⟩
      unfold xisD at q1
      rw [hcx] at q1
      cases dx <;> first | exact q1.elim | skip
      obtain ⟨rfl, rfl, q⟩ := q1
      obtain ⟨rfl, ws, ed, w1, w2⟩ := r1
      simp only [hxi] at q
      refine hq _ _ _ ⟨by rw [hlen, sizeLine_eq]; omega, fun tp ntp => ?_⟩
      refine ⟨tp, vs, cvs, b, ws, rfl, .inl (.inl upd_same), hu, by rw [upd_ne (ne_of_none ed ntp)]; exact ed, hk, ?_⟩
      exact lq _ _ _ _ q rfl (rh1.new ntp) (e1.trans (ext_new ntp))

theorem me_xf {f : Str} (ha : ME X W a wa) (hb : attributeBase a f X.env (eval a X.env) = eval a X.env) (cx : ∀ a c dd, G.cx = some (a, c, dd) → CxF X a c dd)
    (xc : ∀ c fs, G.xc c = some fs → ∃ C : Addr, X.mg c = some (.ref C) ∧ ErrC X.K C ∧ (∀ f, f ∈ fs → PySem.W.findIn X.K (.ref C) f = some none) ∧ ClsN X.K c C) :
    ME X W (.Attribute a f pos) (fun s h Q E => wa s h (fun x h1 => xfD G f x h1 Q) E) := by
  have no : (∀ x h1 Q, ¬ xfD G f x h1 Q) → ME X W (.Attribute a f pos) (fun s h Q E => wa s h (fun x h1 => xfD G f x h1 Q) E) := fun nf => by
    refine ⟨fun pins s σ H Q I h => ?_⟩
    obtain ⟨s0, h0, Qd, Ed, rs, rh, hw, lx, lq⟩ := h
    refine attr_of hb (thn (ha.run pins s σ H (fun _ _ => False) I ⟨s0, h0, _, Ed, rs, rh, hw, lx, fun dx h1 x H1 q1 _ _ _ => nf _ _ _ q1⟩) fun u s1 hh => ?_)
    obtain ⟨_, _, _, _, q⟩ := hh
    exact q.elim
  cases hcx : G.cx with
  | none =>
    refine (pe_xfK ha hb).imp ?_
    rintro σ H Q ⟨s, h, Qd, Ed, rs, rh, hw, lx, lq⟩
    refine ⟨s, h, _, Ed, rs, rh, hw, lx, fun dx h1 x H1 q1 r1 rh1 e1 => ?_⟩
    unfold xfD at q1
    rw [hcx] at q1
    cases dx <;> first | exact q1.elim | skip
    rename_i c a dd ks ds
    obtain ⟨⟨fs, e1', e2⟩, q⟩ := q1
    obtain ⟨C, g1, T, hno, n1⟩ := xc c fs e1'
    obtain ⟨rfl, ⟨C', n2, ek⟩, ws, ed, w1, w2⟩ := r1
    obtain rfl := n1.uniq n2
    split at q
    · rename_i d hl
      obtain ⟨v, l, rv⟩ := lookup_rep w1 w2 hl
      exact ⟨a, C, dd, ws, v, rfl, ek, T.xf, hno f e2, ed, l, lq _ _ _ _ q rv rh1 e1⟩
    · exact q.elim
  | some t =>
    obtain ⟨e, c, dd⟩ := t
    cases hxc : G.xc c with
    | none =>
      refine no fun x h1 Q q => ?_
      unfold xfD at q
      rw [hcx] at q
      cases x <;> first | exact q | skip
      obtain ⟨_, _, ⟨fs, e1, _⟩, _⟩ := q
      rw [hxc] at e1
      cases e1
    | some fs =>
      obtain ⟨C, g1, T, hno, _⟩ := xc c fs hxc
      obtain ⟨X0, oe, pn, C', rfl, g2, hz, hf⟩ := cx _ _ _ hcx
      rw [g1] at g2
      cases g2
      by_cases hm : f ∈ fs
      · refine (pe_xf (X := X0) (cls := .ref C) (d := some dd) T.xf (hno f hm) hz hf ha hb).imp ?_
        rintro σ H Q ⟨s, h, Qd, Ed, rs, rh, hw, lx, lq⟩
        refine ⟨s, h, _, Ed, rs, rh, hw, lx, fun dx h1 x H1 q1 r1 rh1 e1 => ?_⟩
        unfold xfD at q1
        rw [hcx] at q1
        cases dx <;> first | exact q1.elim | skip
        obtain ⟨rfl, rfl, _, q⟩ := q1
        obtain ⟨rfl, ws, ed, w1, w2⟩ := r1
        split at q
        · rename_i d hl
          obtain ⟨v, l, rv⟩ := lookup_rep w1 w2 hl
          exact ⟨rfl, rfl, _, ws, v, rfl, ed, l, lq _ _ _ _ q rv rh1 e1⟩
        · exact q.elim
      · refine no fun x h1 Q q => ?_
        unfold xfD at q
        rw [hcx] at q
        cases x <;> first | exact q | skip
        obtain ⟨_, _, ⟨fs', e1, e2⟩, _⟩ := q
        rw [hxc] at e1
        cases e1
        exact hm e2
/-! raise C(..) -/
theorem ms_raise {k : Nat} {c : Str} {e : Expr} {es : List Expr} {ws : AA} {p p2 : Pos} (hc : X.calm = true) (tk : Takes X W) (hr : Room k X.A) (hg : Gl X c) (hdb : (c == ("__debug__" : Str)) = false) (ha : MA X W (e :: es) ws)
    (xc : ∀ c fs, G.xc c = some fs → XcF X.prog X.w X.K X.mg X.base k c fs) (hs : starEach (e :: es) X.env = (false, eval e X.env) :: starEach es X.env) (hpl : (backTo p2 (starEach es X.env)).any (·.1) = false) :
    MS X W (.Raise (some (.Call (.Name c p) (e :: es) [] p2)) none pos) (fun R s h => match G.xc c with
      | none => False
      | some fs => ws s h (fun ds h1 => ds.length = fs.length ∧ R.ex ⟨c, (fs.zip ds).reverse⟩ s h1) fun x h1 => R.ex x s h1) := by
  cases hx : G.xc c with
  | none =>
    refine ⟨fun pins s σ H D I h => ?_⟩
    obtain ⟨s0, h0, Dd, rs, rh, hw, _⟩ := h
    exact hw.elim
  | some fs =>
    obtain ⟨C, fI, fd, g1, T, TE, hno, iC, tI, F1, hb, hk, hne, _⟩ := xc c fs hx
    refine (ps_raise hc tk (pmk_oex (ds := []) (dvs := []) T iC tI F1 (hr.mono hk) hb .nil pass0 hg g1 ha hdb hs hpl)).imp ?_
    rintro R σ H ⟨s, h, Dd, rs, rh, hw, lx, lr, ln, lb, lc⟩
    refine ⟨s, h, _, _, rs, rh, hw, fun xn h' cls d H' q1 q2 q3 q4 => lx xn s h' cls d σ H' q1 q2 (rs.ext rh q4) q3 q4, fun ds h1 vs H1 q1 r1 rh1 e1 => ?_⟩
    obtain ⟨hl, q⟩ := q1
    have vl := r1.length
    refine ⟨by omega, fun a na => ?_⟩
    refine ⟨a, vs, by rw [List.append_nil], by omega, upd_same, fun dx H' ndx dne k1 k2 k3 => ⟨rfl, dx, _, k2, k3, ?_, ?_⟩⟩
    · rw [upd_ne dne] at ndx; exact ndx
    · have n1 : H1 dx = none := by rw [upd_ne dne] at ndx; exact ndx
      have e3 : upd (L2.del H' a) dx (.xd (fs.zip vs).reverse) = upd H1 dx (.xd (fs.zip vs).reverse) := by
        funext b
        by_cases c1 : b = dx
        · rw [c1, upd_same, upd_same]
        · rw [upd_ne c1, upd_ne c1]
          by_cases c2 : b = a
          · rw [c2, L2.del_same, na]
          · rw [L2.del_ne c2, k1 b c2 c1, upd_ne c2]
      rw [e3]
      refine lx _ s h1 _ _ σ _ q ⟨g1, dx, _, rfl, upd_same, ?_, ?_⟩ ((rs.ext rh e1).ext rh1 (ext_new n1)) (rh1.new n1) (e1.trans (ext_new n1))
      · rw [List.map_reverse, List.map_reverse, List.map_fst_zip (by omega), List.map_fst_zip (by omega)]
      · rw [List.map_reverse, List.map_reverse, List.map_snd_zip (by omega), List.map_snd_zip (by omega)]
        exact (Reps.ext rh1 (ext_new n1) _ _ r1).reverse
/-! try -/
/-- the error that the suite holds, as data -/
theorem exn_rep {K : PySem.W.Frag} {mg : Str → Option Value} {H : Hp} {cls : Value} {d : Option Addr} {x : Xn} {a : Addr} (q : XRep K mg H cls d x) : ∃ dd, d = some dd ∧ Rep K H (.exn a dd (x.fs.map (·.1)) (x.fs.map (·.2))) (.ref a) := by
  obtain ⟨_, dd, ws, e, e2, e3, e4⟩ := q
  exact ⟨dd, e, rfl, ws, e2, e3, e4⟩
/-- the suite's reading: the name i holds the error -/
def tSu (K : PySem.W.Frag) (mg : Str → Option Value) (nm : Option Nat) (wu : Option (Addr × Str × Addr) → AW) (a : Addr) (cls : Value) (d : Option Addr) : TS := fun R σ H => ∃ (c : Str) (C dd : Addr), cls = .ref C ∧ mg c = some cls ∧ d = some dd ∧
  liftS K mg W0 (wu (nm.map fun _ => (a, c, dd))) R σ H
theorem ps_ex {ι : Sort _} {b : List Stmt} {t : ι → TS} (h : ∀ i, PSs X b (t i)) : PSs X b (fun R σ H => ∃ i, t i R σ H) := ⟨fun pins s σ H R I ⟨i, q⟩ => (h i).run pins s σ H R I q⟩
theorem ps_and {p : Prop} {b : List Stmt} {t : TS} (h : p → PSs X b t) : PSs X b (fun R σ H => p ∧ t R σ H) := ⟨fun pins s σ H R I ⟨i, q⟩ => (h i).run pins s σ H R I q⟩
theorem ms_try {i : Nat} {c n : Str} {body suite : List Stmt} {b₀ : Stmt} {np pos' : Pos} {wb : AW} {wu : Option (Addr × Str × Addr) → AW} (hs : X.stack = X.env :: X.outer) (hf : X.env.frame = some X.env.locals) (hN : X.N.Nodup) (hi : X.N[i]? = some n) (hln : X.env.scope.names.lookup n = some .local)
    (hg : Gl X c) (hdb : (c == ("__debug__" : Str)) = false) (tk : Takes X W) (xi : ∀ c y b, G.xi c y = some b → XiF X.K X.mg c y b)
    (hb : ∀ (W : WX) (pn : List (Addr × Obj)) (xe : Value → Shared → Prop), Takes (X.tr pn xe) W → PassesOwn (model X.prog X.w) X.A X.env xe → PSs (X.tr pn xe) body (liftS X.K X.mg W wb))
    (hsu : ∀ (a dd : Addr) (oe : Obj) (C : Addr) (x : Str) (pn : List (Addr × Obj)), Zc (.ref C) (some dd) oe → (∃ vs, oe.data = .fields vs) → X.mg x = some (.ref C) → PSs (X.suite a ((a, oe) :: pn)) (b₀ :: suite) (liftS X.K X.mg W0 (wu (some (a, x, dd))))) :
    MS X W (.Try body [.ExceptHandler (some (.Name c np)) (some n) (b₀ :: suite) pos'] [] [] pos) (fun R s h => (∃ c0 b0, G.xi c0 c = some b0) ∧ wb { R with ex := fun x s1 h1 => ∃ k, G.xi x.cls c = some k ∧ (match k with
      | false => R.ex x s1 h1
      | true => ∀ a dd, wu (some (a, x.cls, dd)) { R with nx := fun s2 h2 => R.nx (s2.set i none) h2, bk := fun s2 h2 => R.bk (s2.set i none) h2, ct := fun s2 h2 => R.ct (s2.set i none) h2, ex := fun _ _ _ => False } (s1.set i (some (.exn a dd (x.fs.map (·.1)) (x.fs.map (·.2))))) h1) } s h) := by
  by_cases hx : ∃ c0 b0, G.xi c0 c = some b0
  rotate_left
  · refine ⟨fun pins s σ H D I h => ?_⟩
    obtain ⟨s0, h0, Dd, rs, rh, ⟨hw, _⟩, _⟩ := h
    exact (hx hw).elim
  obtain ⟨c0, b0, hx⟩ := hx
  obtain ⟨C0, cv, v0, m0, T0, hm, rv, rd, _, _, _⟩ := xi _ _ _ hx
  refine (ps_try_as (i := i) (tb := fun W => liftS X.K X.mg W wb) (ts := tSu X.K X.mg (some i) wu) hs hf hN hi hln ⟨hg, hdb, hm⟩ tk hb fun a oe cls d pn hz hf2 => ?_).imp ?_
  · refine ps_ex fun x => ps_ex fun C => ps_ex fun dd => ps_and fun e1 => ps_and fun e2 => ps_and fun e3 => ?_
    subst e1 e3
    exact hsu a dd oe C x pn hz hf2 e2
  · rintro R σ H ⟨s, h, Dd, rs, rh, ⟨_, hw⟩, lx, lr, ln, lb, lc⟩
    refine ⟨s, h, _, rs, rh, hw, ?_, lr, ln, lb, lc⟩
    rintro xn s' h' cls d σ' H' ⟨k, q1, q2⟩ qx rs' rh' e'
    obtain ⟨C1, cv1, v1, m1, T1, hm1, rv1, rd1, k1, k2, n1⟩ := xi _ _ _ q1
    have ecv := cls_uniq hm1 hm
    subst ecv
    have ec : cls = .ref C1 := by
      have := qx.1
      rw [m1] at this
      cases this
      rfl
    subst ec
    refine ⟨k, k2, fun ek a na => ?_, fun ek => ?_⟩
    · subst ek
      obtain ⟨dd, ed, re⟩ := exn_rep (a := a) qx
      subst ed
      refine ⟨xn.cls, C1, dd, rfl, qx.1, rfl, ?_⟩
      refine ⟨_, h', _, rs'.set i re, rh', q2 a dd, fun _ _ _ _ _ _ _ z => z.elim, fun dv h1 v H1 z1 z2 z3 z4 => lr dv h1 v H1 z1 z2 z3 (e'.trans z4), ?_, ?_, ?_⟩
      · intro s1 h1 σ1 H1 z1 z2 z3 z4
        exact ln _ _ _ _ z1 (z2.setN i) z3 (e'.trans z4)
      · intro s1 h1 σ1 H1 z1 z2 z3 z4
        exact lb _ _ _ _ z1 (z2.setN i) z3 (e'.trans z4)
      · intro s1 h1 σ1 H1 z1 z2 z3 z4
        exact lc _ _ _ _ z1 (z2.setN i) z3 (e'.trans z4)
    · subst ek
      exact lx xn s' h' _ _ σ' H' q2 qx rs' rh' e'
/-- except c as n: m = n -/
theorem ms_tryK {i j : Nat} {c n : Str} {body suite : List Stmt} {b₀ : Stmt} {np pos' : Pos} {wb : AW} {wu : Option (Addr × Str × Addr) → AW} (hs : X.stack = X.env :: X.outer) (hf : X.env.frame = some X.env.locals) (hN : X.N.Nodup) (hi : X.N[i]? = some n) (hln : X.env.scope.names.lookup n = some .local)
    (hg : Gl X c) (hdb : (c == ("__debug__" : Str)) = false) (tk : Takes X W) (xi : ∀ c y b, G.xi c y = some b → XiF X.K X.mg c y b)
    (hwu : ∀ o R s h d, s[i]? = some (some d) → R.nx (s.set j (some d)) h → wu o R s h)
    (hb : ∀ (W : WX) (pn : List (Addr × Obj)) (xe : Value → Shared → Prop), Takes (X.tr pn xe) W → PassesOwn (model X.prog X.w) X.A X.env xe → PSs (X.tr pn xe) body (liftS X.K X.mg W wb))
    (hsu : ∀ (a dd : Addr) (oe : Obj) (C : Addr) (x : Str) (pn : List (Addr × Obj)), Zc (.ref C) (some dd) oe → (∃ vs, oe.data = .fields vs) → X.mg x = some (.ref C) → PSs (X.suite a ((a, oe) :: pn)) (b₀ :: suite) (liftS X.K X.mg W0 (wu (some (a, x, dd))))) :
    MS X W (.Try body [.ExceptHandler (some (.Name c np)) (some n) (b₀ :: suite) pos'] [] [] pos) (fun R s h => (∃ c0 b0, G.xi c0 c = some b0) ∧ wb { R with ex := fun x s1 h1 => ∃ k, G.xi x.cls c = some k ∧ (match k with
      | false => R.ex x s1 h1
      | true => ∀ a dd, R.nx ((s1.set j (some (.err x.cls a dd (x.fs.map (·.1)) (x.fs.map (·.2))))).set i none) h1) } s h) := by
  by_cases hx : ∃ c0 b0, G.xi c0 c = some b0
  rotate_left
  · refine ⟨fun pins s σ H D I h => ?_⟩
    obtain ⟨s0, h0, Dd, rs, rh, ⟨hw, _⟩, _⟩ := h
    exact (hx hw).elim
  obtain ⟨c0, b0, hx⟩ := hx
  obtain ⟨C0, cv, v0, m0, T0, hm, rv, rd, _, _, _⟩ := xi _ _ _ hx
  refine (ps_keep (i := i) (tb := fun W => liftS X.K X.mg W wb) (ts := tSu X.K X.mg (some i) wu) hs hf hN hi hln ⟨hg, hdb, hm⟩ tk hb fun a oe cls d pn hz hf2 => ?_).imp ?_
  · refine ps_ex fun x => ps_ex fun C => ps_ex fun dd => ps_and fun e1 => ps_and fun e2 => ps_and fun e3 => ?_
    subst e1 e3
    exact hsu a dd oe C x pn hz hf2 e2
  · rintro R σ H ⟨s, h, Dd, rs, rh, ⟨_, hw⟩, lx, lr, ln, lb, lc⟩
    refine ⟨s, h, _, rs, rh, hw, ?_, lr, ln, lb, lc⟩
    rintro xn s' h' cls d σ' H' ⟨k, q1, q2⟩ qx rs' rh' e'
    obtain ⟨C1, cv1, v1, m1, T1, hm1, rv1, rd1, k1, k2, n1⟩ := xi _ _ _ q1
    have ecv := cls_uniq hm1 hm
    subst ecv
    have ec : cls = .ref C1 := by
      have := qx.1
      rw [m1] at this
      cases this
      rfl
    subst ec
    refine ⟨k, k2, fun ek a na il => ?_, fun ek => ?_⟩
    · subst ek
      obtain ⟨dd, ed, re⟩ := exn_rep (a := a) qx
      subst ed
      refine ⟨xn.cls, C1, dd, rfl, qx.1, rfl, ?_⟩
      have il' : i < s'.length := by rw [← rs'.1]; exact il
      refine ⟨s'.set i (some (.exn a dd (xn.fs.map (·.1)) (xn.fs.map (·.2)))), h', { nx := fun s2 h2 => s2 = (s'.set i (some (.exn a dd (xn.fs.map (·.1)) (xn.fs.map (·.2))))).set j (some (.exn a dd (xn.fs.map (·.1)) (xn.fs.map (·.2)))) ∧ h2 = h', rt := fun _ _ => False, ex := fun _ _ _ => False, bk := fun _ _ => False, ct := fun _ _ => False }, rs'.set i re, rh', ?_, fun _ _ _ _ _ _ _ z => z.elim, fun _ _ _ _ z => z.elim, ?_, fun _ _ _ _ z => z.elim, fun _ _ _ _ z => z.elim⟩
      · exact hwu _ _ _ _ _ (by rw [List.getElem?_set_self il']) ⟨rfl, rfl⟩
      · rintro s2 h2 σ2 H2 ⟨rfl, rfl⟩ r2 rh2 e2 n2
        refine ln _ _ _ _ (q2 a dd) ?_ (rh2.new n2) (e'.trans (e2.trans (ext_new n2)))
        have up := fun (d : D) (v : V) (q : Rep X.K H2 d v) => Rep.ext rh2 (ext_new (o := EK (.ref C1) (some dd) a) n2) d v q
        refine ⟨by have := r2.1; simpa using this, fun t d ht => ?_⟩
        rw [List.getElem?_set] at ht
        by_cases cti : i = t
        · rw [if_pos cti] at ht
          split at ht <;> cases ht
        · rw [if_neg cti] at ht
          rw [List.getElem?_set, if_neg cti]
          by_cases ctj : j = t
          · subst ctj
            rw [List.getElem?_set] at ht
            rw [if_pos rfl] at ht
            split at ht
            · rename_i hjl
              cases ht
              obtain ⟨v, ev, rv2⟩ := r2.2 j _ (by rw [List.getElem?_set_self (by simpa using hjl)])
              obtain ⟨rfl, ws, w1, w2, w3⟩ := rv2
              refine ⟨_, ev, rfl, ⟨C1, n1, upd_same⟩, ws, by rw [upd_ne (ne_of_none w1 n2)]; exact w1, w2, Reps.ext rh2 (ext_new n2) _ _ w3⟩
            · cases ht
          · rw [List.getElem?_set, if_neg ctj] at ht
            obtain ⟨v, ev, rv2⟩ := r2.2 t d (by rw [List.getElem?_set, if_neg ctj, List.getElem?_set, if_neg cti]; exact ht)
            exact ⟨v, ev, up _ _ rv2⟩
    · subst ek
      exact lx xn s' h' _ _ σ' H' q2 qx rs' rh' e'
theorem ms_tryN {c : Str} {body suite : List Stmt} {b₀ : Stmt} {np pos' : Pos} {wb wu : AW} (hs : X.stack = X.env :: X.outer) (hf : X.env.frame = some X.env.locals)
    (hg : Gl X c) (hdb : (c == ("__debug__" : Str)) = false) (tk : Takes X W) (xi : ∀ c y b, G.xi c y = some b → XiF X.K X.mg c y b)
    (hb : ∀ (W : WX) (pn : List (Addr × Obj)) (xe : Value → Shared → Prop), Takes (X.tr pn xe) W → PassesOwn (model X.prog X.w) X.A X.env xe → PSs (X.tr pn xe) body (liftS X.K X.mg W wb))
    (hsu : ∀ (a : Addr) (oe : Obj) (pn : List (Addr × Obj)), PSs (X.suite a ((a, oe) :: pn)) (b₀ :: suite) (liftS X.K X.mg W0 wu)) :
    MS X W (.Try body [.ExceptHandler (some (.Name c np)) none (b₀ :: suite) pos'] [] [] pos) (fun R s h => (∃ c0 b0, G.xi c0 c = some b0) ∧ wb { R with ex := fun x s1 h1 => ∃ k, G.xi x.cls c = some k ∧ (match k with
      | false => R.ex x s1 h1
      | true => ∀ _ _ : Addr, wu { R with ex := fun _ _ _ => False } s1 h1) } s h) := by
  by_cases hx : ∃ c0 b0, G.xi c0 c = some b0
  rotate_left
  · refine ⟨fun pins s σ H D I h => ?_⟩
    obtain ⟨s0, h0, Dd, rs, rh, ⟨hw, _⟩, _⟩ := h
    exact (hx hw).elim
  obtain ⟨c0, b0, hx⟩ := hx
  obtain ⟨C0, cv, v0, m0, T0, hm, rv, rd, _, _, _⟩ := xi _ _ _ hx
  refine (ps_try_only (tb := fun W => liftS X.K X.mg W wb) (ts := fun _ _ _ => liftS X.K X.mg W0 wu) hs hf ⟨hg, hdb, hm⟩ tk hb fun a oe cls d pn _ _ => hsu a oe pn).imp ?_
  rintro R σ H ⟨s, h, Dd, rs, rh, ⟨_, hw⟩, lx, lr, ln, lb, lc⟩
  refine ⟨s, h, _, rs, rh, hw, ?_, lr, ln, lb, lc⟩
  rintro xn s' h' cls d σ' H' ⟨k, q1, q2⟩ qx rs' rh' e'
  obtain ⟨C1, cv1, v1, m1, T1, hm1, rv1, rd1, k1, k2, n1⟩ := xi _ _ _ q1
  have ecv := cls_uniq hm1 hm
  subst ecv
  have ec : cls = .ref C1 := by
    have := qx.1
    rw [m1] at this
    cases this
    rfl
  subst ec
  refine ⟨k, k2, fun ek a na => ?_, fun ek => ?_⟩
  · subst ek
    exact ⟨_, h', _, rs', rh', q2 a a, fun _ _ _ _ _ _ _ z => z.elim, fun dv h1 v H1 z1 z2 z3 z4 => lr dv h1 v H1 z1 z2 z3 (e'.trans z4), fun s1 h1 σ1 H1 z1 z2 z3 z4 => ln _ _ _ _ z1 z2 z3 (e'.trans z4),
      fun s1 h1 σ1 H1 z1 z2 z3 z4 => lb _ _ _ _ z1 z2 z3 (e'.trans z4), fun s1 h1 σ1 H1 z1 z2 z3 z4 => lc _ _ _ _ z1 z2 z3 (e'.trans z4)⟩
  · subst ek
    exact lx xn s' h' _ _ σ' H' q2 qx rs' rh' e'
end
end MP
/-! MX4: enumerate of a tuple or a list; a range that goes down by one -/
namespace MP
open PySem PySem.Spec PyProof.Rows L2
theorem meets_enumerate_newT {v : Value} {o : Obj} {H : Heap → Prop} (B : Begins v o H) :
    PySem.Meets (Builtin.«enumerate.__new__» ⟨[.type "enumerate", v], []⟩) (fun _ R s => H s.heap ∧
      R (.ok (.ret (.ref (s.heap.push o).objs.size))) { s with heap := (s.heap.push o).push { cls := .type "enumerate", data := .fields #[.none, .bool false, .ref s.heap.objs.size, rawInt 0, .none, .none] } }) :=
  .of_wp fun prog w A R s h => by
    obtain ⟨hp, g, d, tk, os⟩ := s; obtain ⟨h1, h⟩ := h
    have hsub := sub_enumerate
    have q1 : ∀ {A' : Around} {E : Value → Shared → Prop} {Q : Value → Shared → Prop}, Q (.ref hp.objs.size) ⟨hp.push o, g, d, tk, os⟩ → wpAny (model prog w) A' (pyIter v) Q E ⟨hp, g, d, tk, os⟩ :=
      fun q => B.iter prog w _ _ ⟨hp, g, d, tk, os⟩ _ h1 q
    wp_walk using q1
    refine wpAny_stack_any fun st => wpAny_pure ?_
    split
    · rename_i c _ _ _ _ _
      cases (c == Value.type "enumerate")
      · wp_walk using q1
        exact ⟨_, rfl, h⟩
      · wp_walk using q1
        exact ⟨_, rfl, h⟩
    · wp_walk using q1
      exact ⟨_, rfl, h⟩
theorem call_enumT {prog : Program} {w : World} {A : Around} {E : Value → Shared → Prop} {s : Shared} {t : Addr} {items : Array Value} {Q : Value → Shared → Prop} (ht : s.heap.IsTuple t items)
    (h : ∀ h', IsEnum h' (s.heap.objs.size + 1) s.heap.objs.size 0 .none → h'.IsTupleIter s.heap.objs.size t 0 → h'.objs.size = s.heap.objs.size + 2 →
      (∀ b o, s.heap.get? b = some o → h'.get? b = some o) → Q (.ref (s.heap.objs.size + 1)) { s with heap := h' }) :
    wpAny (model prog w) A (call (.type "enumerate") [.ref t]) Q E s := by
  refine callType_new F.called_enumerate (by decide) (F.typeCall_enumerate_1 _) (F.newCall_enumerate_1 _) (fun obj => F.args_object_init_2 obj _) F.entry_enumerate_new
    (meets_enumerate_newT (begins_tuple t items)) ⟨ht, ?_⟩
  have hz : (s.heap.push { cls := .type "tuple_iterator", data := .fields #[.ref t, .int 0 0] }).objs.size = s.heap.objs.size + 1 := Heap.size_push ..
  show _ ∧ _
  rw [hz]
  have he : IsEnum ((s.heap.push { cls := .type "tuple_iterator", data := .fields #[.ref t, .int 0 0] }).push
      { cls := .type "enumerate", data := .fields #[.none, .bool false, .ref s.heap.objs.size, rawInt 0, .none, .none] }) (s.heap.objs.size + 1) s.heap.objs.size 0 .none := by
    have := Heap.get?_push_size (s.heap.push { cls := .type "tuple_iterator", data := .fields #[.ref t, .int 0 0] })
      (o := { cls := .type "enumerate", data := .fields #[.none, .bool false, .ref s.heap.objs.size, rawInt 0, .none, .none] }) rfl
    rw [hz] at this; exact this
  refine ⟨⟨_, he, rfl⟩, h _ he ⟨_, Heap.get?_push_of_some _ (Heap.get?_push_size _ rfl), rfl, rfl⟩ (by rw [Heap.size_push, hz]) fun b o x => Heap.get?_push_of_some _ (Heap.get?_push_of_some _ x)⟩
/-- the tuple at a as it stands at each turn, each item in a new pair -/
def IteT (K : PySem.W.Frag) (a : Addr) : L2.It :=
  ⟨fun i H => ∃ (xs : List V) (x : V), SqT K H a xs ∧ xs[i]? = some x, fun i H v H' => ∃ T x, v = .ref T ∧ H T = none ∧ H' = upd H T (.tup [.int (i : Nat), x]) ∧ ∀ xs, SqT K H a xs → xs[i]? = some x, fun i H => ∃ xs : List V, SqT K H a xs ∧ xs.length = i⟩
theorem turn_enumT {P : Program} {w : World} {K : PySem.W.Frag} {elts : List Expr} {kk : Nat} {tpos : Pos} (a e it : Addr) :
    Turn P w K (.Tuple elts kk tpos) (IteT K a) [e, it] e (fun i h => (∃ old, IsEnum h e it ((i : Nat) : Int) old) ∧ h.IsTupleIter it a i ∧ e ≠ it ∧ a ≠ e ∧ a ≠ it) where
  mem := by simp
  obj := fun i h st b hb => by
    obtain ⟨⟨old, he⟩, ⟨o, ho, hc, hd⟩, _⟩ := st
    have e' : b = e ∨ b = it := by simpa using hb
    rcases e' with z | z
    · rw [z]; exact ⟨_, he, fun v q => nomatch q⟩
    · rw [z]; exact ⟨o, ho, fun v q => by rw [hd] at q; cases q⟩
  keep := fun i h h' st k => let ⟨⟨old, he⟩, hi, hne⟩ := st; ⟨⟨old, k e (by simp) _ he⟩, hi.at fun o q => k it (by simp) o q, hne⟩
  item := by
    intro X hP hw hK hc i pins s σ H E I hf st hg
    subst hP hw hK
    obtain ⟨⟨old, he⟩, hit, hne, hae, hai⟩ := st
    obtain ⟨xs, x, hq, hx⟩ := hg
    obtain ⟨its, rv, p, hz⟩ := I.tuple hq
    obtain ⟨u, hu, ru⟩ := rv.get hx
    have hel : e < s.heap.objs.size := Heap.lt_size he
    have hil : it < s.heap.objs.size := by obtain ⟨_, q, _⟩ := hit; exact Heap.lt_size q
    have hlt : i < its.toArray.size := by
      have := (List.getElem?_eq_some_iff.mp hu).1
      simpa using this
    refine wpAny_pyNext_enum_itemC (Draws.tuple (A := X.A.in1) (show X.A.in1.handled = none from I.ok.hd hc) it a hai its.toArray) he ⟨hit, p⟩ hlt hne (by simp only [List.mem_cons, List.not_mem_nil, or_false, not_or]; exact ⟨hne, Ne.symm hae⟩) fun y h' tk hP ho hst' hT hsz hk => ?_
    have hy : y = u := by
      have e1 : its.toArray[i]? = some u := by simpa using hu
      exact Option.some.inj (hP.symm.trans e1)
    subst hy
    obtain ⟨hit', _⟩ := hst'
    refine ⟨_, rfl, wpAny_letOwnedTupleGo_enum (s := { s with heap := h', toks := tk + 1 }) ho fun h'' he' sb => ?_⟩
    have hT2 : h''.get? s.heap.objs.size = some { cls := .type "tuple", data := .seq #[.int i tk, y] } := (sb.2 _ (Nat.ne_of_gt hel)).trans hT
    have new : ObjOk X.prog X.w (upd H s.heap.objs.size (.tup [.int (i : Nat), x])) h'' s.heap.objs.size (.tup [.int (i : Nat), x]) :=
      ⟨by show 2 ≤ sizeLine; decide, [.int i tk, y], .cons ⟨_, rfl⟩ (.cons ru .nil), ⟨_, hT2, rfl, _, rfl⟩⟩
    have I1 : Inv X pins σ (upd H s.heap.objs.size (.tup [.int (i : Nat), x])) { s with heap := h'', toks := tk + 1 } :=
      I.turnedNew (ch := [e, it]) (fun b ob hb q => (sb.2 b (fun z => hb (by simp [z]))).trans (hk b ob (fun z => hb (by simp [z])) (fun z => hb (by simp [z])) q)) hf (Nat.le_refl _) new
    refine ⟨.ref s.heap.objs.size, _, I1, rfl, ⟨_, x, rfl, I.hok.fresh (Nat.le_refl _), rfl, fun ys hy => by rw [I.tuple_inj hy hq]; exact hx⟩, ⟨⟨y, ?_⟩, hit'.at fun o q => (sb.2 it (Ne.symm hne)).trans q, hne, hae, hai⟩, fun b hb => ?_⟩
    · have e1 : ((i + 1 : Nat) : Int) = (i : Int) + 1 := by omega
      rw [e1]; exact he'
    · have hb' : b < s.heap.objs.size := by
        have e' : b = e ∨ b = it := by simpa using hb
        rcases e' with z | z
        · rw [z]; exact hel
        · rw [z]; exact hil
      rw [upd_ne (Nat.ne_of_lt hb')]
      exact (hf b hb).1
  done := by
    intro X hP hw hK hc i pins s σ H E I hf st hg
    subst hP hw hK
    obtain ⟨⟨old, he⟩, hit, hne, hae, hai⟩ := st
    obtain ⟨xs, hq, hx⟩ := hg
    obtain ⟨its, rv, p, hz⟩ := I.tuple hq
    have hl := rv.length
    have hn : its.toArray.size = i := by rw [List.size_toArray]; omega
    subst hn
    obtain ⟨f0, f1, f2, f3, f4, f5⟩ := hf it (by simp)
    exact wpAny_pyNext_enum_endD (Draws.tuple (A := X.A.in1) (show X.A.in1.handled = none from I.ok.hd hc) it a hai its.toArray) he ⟨hit, p⟩ fun h' eb => ⟨rfl, I.turned (t' := s.toks) (fun b o hb q => eb b o hb q) f0 f1 f3 f4 f5⟩
  self := fun A i s Q E st h => let ⟨⟨_, he⟩, _⟩ := st; wpAny_pyIter_enum he h
def iEnumA (K : PySem.W.Frag) (ta : TA) : TI := fun σ H R => ta σ H fun vs H1 => ∃ a xs, vs = [.ref a] ∧ ((SqL K H1 a xs ∧ R (Ite K a) H1) ∨ (SqT K H1 a xs ∧ R (IteT K a) H1))
theorem pi_enumA {X : Cx} {e : Expr} {ta : TA} {p pos tpos : Pos} {elts : List Expr} {kk : Nat} (hg : Gl X "enumerate") (hm : X.mg "enumerate" = none) (ha : PA X [e] ta) (hs : starEach [e] X.env = (false, eval e X.env) :: starEach [] X.env) :
    PI X (.Tuple elts kk tpos) (.Call (.Name "enumerate" p) [e] [] pos) (iEnumA X.K ta) := by
  refine ⟨fun pins s σ H R I h => ?_⟩
  refine Call_ (ld_blt I hg hm boot_enumerate (PyProof.Rows.callWith_type1 (thn (ha.run pos pins s σ H _ I h) fun us s1 ⟨vs, H1, I1, r1, q1⟩ => ?_) hs rfl))
  obtain ⟨a, xs, ex, q1⟩ := q1
  subst ex
  cases r1 with
  | cons r rr =>
    cases rr
    cases r
    have fp : ∀ b, b ∈ [s1.heap.objs.size + 1, s1.heap.objs.size] → FpOk X pins H1 b := fun b hb => by
      have e' : b = s1.heap.objs.size + 1 ∨ b = s1.heap.objs.size := by simpa using hb
      have hle : s1.heap.objs.size ≤ b := by
        rcases e' with z | z
        · rw [z]; exact Nat.le_add_right _ _
        · rw [z]; exact Nat.le_refl _
      exact I1.fpOk hle (I1.hok.fresh hle)
    rcases q1 with ⟨hq, q⟩ | ⟨hq, q⟩
    · obtain ⟨its, rv, p', hz⟩ := I1.list hq
      refine call_enumerate_list p'.isList fun h' he hit hsz hk => wpAny_pyIter_enum he ?_
      have I2 : Inv X pins σ H1 { s1 with heap := h' } := I1.kept (t' := s1.toks) hk
      exact ⟨s1.heap.objs.size + 1, [s1.heap.objs.size + 1, s1.heap.objs.size], _, _, H1, rfl, I2, turn_enum a (s1.heap.objs.size + 1) s1.heap.objs.size, ⟨⟨.none, he⟩, hit, Nat.succ_ne_self _⟩, fp, q⟩
    · obtain ⟨its, rv, p', hz⟩ := I1.tuple hq
      obtain ⟨o1, ho1, _⟩ := id p'
      have hlt := Heap.lt_size ho1
      refine call_enumT (show s1.heap.IsTuple a its.toArray from p') fun h' he hit hsz hk => wpAny_pyIter_enum he ?_
      have I2 : Inv X pins σ H1 { s1 with heap := h' } := I1.kept (t' := s1.toks) hk
      exact ⟨s1.heap.objs.size + 1, [s1.heap.objs.size + 1, s1.heap.objs.size], _, _, H1, rfl, I2, turn_enumT a (s1.heap.objs.size + 1) s1.heap.objs.size, ⟨⟨.none, he⟩, hit, Nat.succ_ne_self _, Nat.ne_of_lt (Nat.lt_succ_of_lt hlt), Nat.ne_of_lt hlt⟩, fp, q⟩
section
variable {X : Cx} {W : WX} {a b c e tg : Expr} {wa wb wc : AE} {pos p p2 pos2 : Pos} {es : List Expr} {ws : AA} {x : Str} {K : PySem.W.Frag} {H1 : Hp} {h1 : AH}
theorem enumD_get : ∀ {ds : List D} {n i : Nat} {d : D}, (enumD n ds)[i]? = some d → ∃ x, d = .pr [.int ((n + i : Nat) : Int), x] ∧ ds[i]? = some x
  | [], _, _, _, h => by simp [enumD] at h
  | x :: ds, n, 0, d, h => ⟨x, by simpa [enumD] using h.symm, rfl⟩
  | x :: ds, n, i + 1, d, h => by
    obtain ⟨u, e, h1⟩ := enumD_get (ds := ds) (n := n + 1) (i := i) (by simpa [enumD] using h)
    refine ⟨u, ?_, by simpa using h1⟩
    rw [e, show n + 1 + i = n + (i + 1) by omega]
theorem enumD_len : ∀ (ds : List D) (n : Nat), (enumD n ds).length = ds.length
  | [], n => rfl
  | x :: ds, n => by simp [enumD, enumD_len ds]
theorem enumD_get2 {ds : List D} {i : Nat} {d : D} (h : ds[i]? = some d) : (enumD 0 ds)[i]? = some (.pr [.int (i : Int), d]) := by
  have hl := (List.getElem?_eq_some_iff.mp h).1
  have e := List.getElem?_eq_getElem (l := enumD 0 ds) (i := i) (by rw [enumD_len]; exact hl)
  obtain ⟨x, e1, e2⟩ := enumD_get e
  rw [h] at e2; cases e2
  rw [e, e1, Nat.zero_add]
theorem itok_enumT {ds : List D} {a : Addr} {xs : List V} (r : HRep K H1 h1) (t : SqT K H1 a xs) (q : Reps K H1 ds xs) : ItOk K (enumD 0 ds) (fun _ => True) (IteT K a) h1 H1 := by
  intro h2 H2 r2 e2 _
  have ta := seqT_ext r e2 t
  have qa := Reps.ext r e2 _ _ q
  refine ⟨⟨xs, ta, ?_⟩, fun i d hd => ?_⟩
  · rw [enumD_len, qa.length]
  obtain ⟨dx, rfl, g1⟩ := enumD_get hd
  obtain ⟨x, gx, rx⟩ := qa.get g1
  refine ⟨⟨xs, x, ta, gx⟩, fun z H3 hz => ?_⟩
  obtain ⟨T, x', rfl, nT, rfl, f1⟩ := hz
  have e1 := (f1 xs ta).symm.trans gx; cases e1
  refine ⟨rep_pair r2 nT ?_ rx, r2.new nT, ext_new nT⟩
  rw [Nat.zero_add]
  rfl
theorem itok_enumL {ds : List D} {grd : AH → Prop} {a : Addr} (hs : ∀ h2 H2, HRep K H2 h2 → Ext h1 H1 h2 H2 → grd h2 → ∃ xs, SqL K H2 a xs ∧ Reps K H2 ds xs) : ItOk K (enumD 0 ds) grd (Ite K a) h1 H1 := by
  intro h2 H2 r2 e2 g2
  obtain ⟨xs, ta, qa⟩ := hs h2 H2 r2 e2 g2
  refine ⟨⟨xs, ta, ?_⟩, fun i d hd => ?_⟩
  · rw [enumD_len, qa.length]; exact Nat.le_refl _
  obtain ⟨dx, rfl, g1⟩ := enumD_get hd
  obtain ⟨x, gx, rx⟩ := qa.get g1
  refine ⟨⟨xs, x, ta, gx⟩, fun z H3 hz => ?_⟩
  obtain ⟨T, x', rfl, nT, rfl, f1⟩ := hz
  have e1 := (f1 xs ta).symm.trans gx; cases e1
  refine ⟨rep_pair r2 nT ?_ rx, r2.new nT, ext_new nT⟩
  rw [Nat.zero_add]
  rfl
theorem mi_enum {tm : Bool} {elts : List Expr} {kk : Nat} {tpos : Pos} (hz : PI X (.Tuple elts kk tpos) (.Call (.Name "enumerate" p) [a] [] pos) (iEnumA X.K (tCons (liftE X.K X.mg W wa) tNil))) :
    MI X W (.Tuple elts kk tpos) (.Call (.Name "enumerate" p) [a] [] pos) (fun s h Q E => wa s h (fun x h1 => enumI tm x h1 Q) E) := by
  refine ⟨fun pins s σ H R I hq => hz.run pins s σ H R I ?_⟩
  obtain ⟨s0, h, Qd, Ed, rs, rh, hw, lx, lq⟩ := hq
  refine ⟨s0, h, _, Ed, rs, rh, hw, lx, fun dx h1 x H1 q1 r1 rh1 e1 => ?_⟩
  cases dx <;> first | exact q1.elim | skip
  · obtain ⟨a, xs, rfl, t, q⟩ := r1
    exact ⟨a, xs, rfl, .inr ⟨t.t, lq _ _ _ _ _ q1 rh1 e1 (itok_enumT rh1 t.t q)⟩⟩
  · cases r1
    have q1' : seqI tm (.ref _) h1 fun ds h2 g => Qd (enumD 0 ds) h2 g := q1
    obtain ⟨ds, hx, grd, q, rx, sx, ⟨xs, hL⟩, st⟩ := seqI_ref rh1 q1'
    exact ⟨_, xs, rfl, .inl ⟨hL, lq _ _ _ _ _ q rx (e1.sub sx) (itok_enumL st)⟩⟩
theorem itok_dn (i j : Int) : ItOk K (dnD i j) (fun _ => True) (Itc i (-1) (i - j).toNat) h1 H1 := by
  intro h2 H2 r2 e2 _
  have hl : (dnD i j).length = (i - j).toNat := by unfold dnD; rw [List.length_map, List.length_range]
  refine ⟨by rw [hl]; exact Nat.le_refl _, fun m d hd => ?_⟩
  have hi : m < (i - j).toNat := by rw [← hl]; exact (List.getElem?_eq_some_iff.mp hd).1
  refine ⟨hi, fun y H3 hy => ?_⟩
  obtain ⟨rfl, rfl⟩ := hy
  have e : d = D.int (i - (m : Nat)) := by
    unfold dnD at hd
    rw [List.getElem?_map, List.getElem?_range hi] at hd
    exact (Option.some.inj hd).symm
  subst e
  refine ⟨?_, r2, Ext.refl⟩
  show V.int _ = V.int _
  congr 1
  omega
theorem mi_dn (hg : Gl X "range") (hm : X.mg "range" = none) (ha : ME X W a wa) (hb : ME X W b wb) (hc : ME X W c wc) (hwc : ∀ s h (Q : AK) E, Q (.int (-1)) h → wc s h Q E)
    (hs : starEach [a, b, c] X.env = (false, eval a X.env) :: starEach [b, c] X.env) (hs2 : starEach [b, c] X.env = (false, eval b X.env) :: starEach [c] X.env) (hs3 : starEach [c] X.env = (false, eval c X.env) :: starEach [] X.env) :
    MI X W tg (.Call (.Name "range" p) [a, b, c] [] pos) (fun s h Q E => wa s h (fun x h1 => wb s h1 (fun y h2 => match x, y with
      | .int i, .int j => in62 i ∧ in62 j ∧ Q (dnD i j) h2 fun _ => True
      | _, _ => False) E) E) := by
  have r0 := pi_range3 (tg := tg) (p := p) (pos := pos) hg hm (pa_cons ha (pa_cons hb (pa_cons hc pa_nil hs3) hs2) hs) hs (by rw [hs2, hs3]; rfl)
  refine ⟨fun pins s σ H R I hq => r0.run pins s σ H R I ?_⟩
  obtain ⟨s0, h, Qd, Ed, rs, rh, hw, lx, lq⟩ := hq
  refine ⟨s0, h, _, Ed, rs, rh, hw, lx, fun dx h1 x H1 q1 r1 rh1 e1 => ?_⟩
  refine ⟨s0, h1, _, Ed, rs.ext rh e1, rh1, q1, XL.step lx e1, fun dy h2 y H2 q2 r2 rh2 e2 => ?_⟩
  cases dx <;> first | exact q2.elim | skip
  cases dy <;> first | exact q2.elim | skip
  have r1' := Rep.ext rh1 e2 _ _ r1
  cases r1'; cases r2
  obtain ⟨b1, b2, q⟩ := q2
  refine ⟨s0, h2, fun d h3 => d = .int (-1) ∧ h3 = h2, Ed, rs.ext rh (e1.trans e2), rh2, hwc _ _ _ _ ⟨rfl, rfl⟩, XL.step (XL.step lx e1) e2, fun dz h3 z H3 q3 r3 rh3 e3 => ?_⟩
  obtain ⟨rfl, rfl⟩ := q3
  cases r3
  exact ⟨_, _, _, _, rfl, RgC.neg b1.1 b1.2 b2.1 b2.2, lq _ _ _ _ _ q rh3 ((e1.trans e2).trans e3) (itok_dn _ _)⟩
theorem mi_rv (hg : Gl X "reversed") (hm : X.mg "reversed" = none) (hg2 : Gl X "range") (hm2 : X.mg "range" = none) (ha : ME X W a wa)
    (hs : starEach [a] X.env = (false, eval a X.env) :: starEach [] X.env) :
    MI X W tg (.Call (.Name "reversed" p) [.Call (.Name "range" p2) [a] [] pos2] [] pos) (fun s h Q E => wa s h (fun x h1 => match x with
      | .int n => in62 n ∧ Q (dnD ((n.toNat : Int) - 1) (-1)) h1 fun _ => True
      | _ => False) E) := by
  have r0 := pi_revR (tg := tg) (p := p) (pos := pos) hg hm (prg_1 (p := p2) (pos := pos2) hg2 hm2 ha hs)
  refine ⟨fun pins s σ H R I hq => r0.run pins s σ H R I ?_⟩
  obtain ⟨s0, h, Qd, Ed, rs, rh, hw, lx, lq⟩ := hq
  refine ⟨s0, h, _, Ed, rs, rh, hw, lx, fun dx h1 x H1 q1 r1 rh1 e1 => ?_⟩
  cases dx <;> first | exact q1.elim | skip
  rename_i n
  cases r1
  obtain ⟨b1, q⟩ := q1
  refine ⟨n, rfl, by decide, by decide, b1.1, b1.2, ?_⟩
  have e : ((n.toNat : Int) - 1 - (-1)).toNat = (n - 0).toNat := by omega
  have it := itok_dn (K := X.K) (h1 := h1) (H1 := H1) ((n.toNat : Int) - 1) (-1)
  rw [e] at it
  have e2 : (0 : Int) + (((n - 0).toNat : Nat) : Int) - 1 = (n.toNat : Int) - 1 := by omega
  rw [e2]
  exact lq _ _ _ _ _ q rh1 e1 it
end
end MP
/-! MP12: soundness of the checker. -/
namespace MP
open PySem PySem.Spec PyProof.Rows L2 RZ

def moreN : List Str := ["isinstance", "int", "bool", "str", "tuple", "list", "dict", "set", "enumerate", "reversed"]
structure Ok (ho : Bool) (X : Cx) (W : WX) (G : Ct) (k : Nat) (N : List Str) (sc : Scope) (fn : Str → Bool) : Prop where
  N : X.N = N
  sc : X.env.scope = sc
  fn : ∀ x, fn x = true → X.fn x = true
  calm : ho = false → X.calm = true
  nd : X.N.Nodup
  room : ho = false → Room k X.A
  un : X.A.units + 70 < cLine
  gd : X.A.guards = some []
  tk : Takes X W
  df : ∀ f n c, G.fn f = some (n, c) → Def X k f n c
  gc : ∀ x c, G.gc x = some c → ∃ u v, X.mg x = some u ∧ RelV v u ∧ ∀ H, Rep X.K H c v
  bi : ∀ b : Bi, X.mg b.nm = none
  br : X.mg "range" = none
  bz : X.mg "zip" = none
  bn : ∀ x, x ∈ moreN → X.mg x = none
  xc : ∀ c fs, G.xc c = some fs → XcF X.prog X.w X.K X.mg X.base k c fs
  xi : ∀ c y b, G.xi c y = some b → XiF X.K X.mg c y b
  cx : ∀ a c dd, G.cx = some (a, c, dd) → CxF X a c dd
  nocx : ho = false → G.cx = none
  lam : ∀ x, G.lam = some x → LamF X x
theorem Ty.more : ∀ t : Ty, t.s ∈ moreN := by intro t; cases t <;> simp [moreN, Ty.s, Ty.nm]
theorem Ok.hu {ho} {X : Cx} {W G k N sc fn} (o : Ok ho X W G k N sc fn) : X.A.units + 70 < cLine := o.un
theorem no_ho {ho : Bool} (h : (!ho) = true) : ho = false := by cases ho <;> first | rfl | cases h
theorem Ok.blk {ho} {X : Cx} {W G k N sc fn} (o : Ok ho X W G k N sc fn) (hh : (!ho) = true) (scope : Scope) (s : Shared) (H : Hp) (C : Addr) (cl : List (Str × Addr)) (fp : List Addr) :
    Ok ho (X.blk s H scope (compEnvC scope cl C X.env) fp) W0 G k N (relS scope sc) (fun x => scope.names.lookup x == some .cell) where
  N := o.N
  sc := by rw [← o.sc]; rfl
  fn := fun _ h => h
  calm := o.calm
  nd := o.nd
  room := o.room
  un := o.un
  gd := o.gd
  tk := takes0
  df := fun f n c h => ⟨(o.df f n c h).ok⟩
  gc := o.gc
  bi := o.bi
  br := o.br
  bz := o.bz
  bn := o.bn
  xc := o.xc
  xi := o.xi
  cx := fun a c dd e => by rw [o.nocx (no_ho hh)] at e; cases e
  nocx := o.nocx
  lam := fun x e => ⟨(o.lam x e).ok, (o.lam x e).q⟩
section
variable {ho : Bool} {X : Cx} {W : WX} {G : Ct} {k : Nat} {N : List Str} {sc : Scope} {fn : Str → Bool} {x : Str}
theorem Ok.look (o : Ok ho X W G k N sc fn) {kd : NameKind} (h : kindB sc x kd = true) : X.env.scope.names.lookup x = some kd := by
  rw [o.sc]; simpa [kindB] using h
theorem Ok.vis (o : Ok ho X W G k N sc fn) (h : visB sc x = true) : Vis X.env.scope x := by
  simp only [visB, Bool.or_eq_true] at h
  rcases h with (h | h) | h
  · exact .inl (o.look h)
  · exact .inr (.inl (o.look h))
  · exact .inr (.inr (o.look h))
theorem Ok.loc (o : Ok ho X W G k N sc fn) (h : locB sc fn x = true) : Loc X.env.scope x ∧ (X.fn x = true ∨ X.env.scope.names.lookup x = some .local) := by
  simp only [locB, Bool.or_eq_true, Bool.and_eq_true] at h
  rcases h with h | ⟨h, h2⟩
  · exact ⟨.inl (o.look h), .inr (o.look h)⟩
  · exact ⟨.inr (o.look h), .inl (o.fn x h2)⟩
theorem Ok.gl (o : Ok ho X W G k N sc fn) (h : glB sc x = true) : Gl X x ∧ (x == ("__debug__" : Str)) = false := by
  simp only [glB, Bool.and_eq_true, Bool.not_eq_true'] at h
  exact ⟨o.look h.1, h.2⟩
theorem Ok.at (o : Ok ho X W G k N sc fn) {i : Nat} (h : (N[i]? == some x) = true) : X.N[i]? = some x := by
  rw [o.N]; simpa using h
theorem con_ok {c : D} {v : Const} (h : conB c v = true) {X : Cx} {W : WX} {j : Nat} {pos : Pos} : ME X W (.Constant v j pos) (fun _ h Q _ => Q c h) := by
  unfold conB at h
  split at h
  · exact me_con pe_non fun _ => rfl
  · rename_i b c
    obtain rfl : b = c := by simpa using h
    exact me_con pe_bl fun _ => rfl
  · rename_i b c
    obtain rfl : b = c := by simpa using h
    exact me_con pe_int fun _ => rfl
  · rename_i b c
    obtain rfl : b = c := by simpa using h
    exact me_con pe_str fun _ => rfl
  · cases h
theorem mw_of {e : Expr} {w : AT} {op : BoolOp} {es : List Expr} {pos : Pos} (h : MT X W (.BoolOp op es pos) w) : MW X W (.BoolOp op es pos) w := ⟨fun wh pins s σ H Q I q => h.run pins s σ H Q I q⟩
theorem es_nstar : ∀ (es : Es) {sc : Scope} {fn : Str → Bool} {ps : List Expr}, chkEs ho N es sc fn ps = true → ps.all nstar = true
  | .nil, sc, fn, [], h => rfl
  | .nil, sc, fn, p :: ps, h => by unfold chkEs at h; cases h
  | .cons e es, sc, fn, [], h => rfl
  | .cons e es, sc, fn, p :: ps, h => by
    unfold chkEs at h
    simp only [Bool.and_eq_true] at h
    rw [List.all_cons, h.1.1, es_nstar es h.2]; rfl
theorem gs_nstar {env : Env} : ∀ (g : Tgs) {sc : Scope} {fn : Str → Bool} {ps : List Expr}, chkGs ho N g sc fn ps = true → (assignEach ps env).length = ps.length ∧ (assignEach ps env).findIdx? (·.1) = none
  | .nil, sc, fn, [], h => ⟨rfl, rfl⟩
  | .nil, sc, fn, p :: ps, h => by unfold chkGs at h; cases h
  | .cons e es, sc, fn, [], h => ⟨rfl, rfl⟩
  | .cons e es, sc, fn, p :: ps, h => by
    unfold chkGs at h
    simp only [Bool.and_eq_true] at h
    obtain ⟨a, b⟩ := gs_nstar (env := env) es h.2
    rw [assign_cons h.1.1]
    refine ⟨by rw [List.length_cons, a, List.length_cons], ?_⟩
    rw [List.findIdx?_cons, b]; rfl
mutual
theorem sE : ∀ (e : E) {X : Cx} {W : WX} {sc : Scope} {fn : Str → Bool} {p : Expr}, Ok ho X W G k N sc fn → chkE ho N e sc fn p = true → ME X W p (wpE G e)
  | .v i, X, W, sc, fn, p, o, h => by
    unfold chkE at h
    split at h
    · rename_i x hv
      obtain ⟨ps, rfl⟩ := vName_eq hv
      simp only [Bool.and_eq_true, dbg, Bool.not_eq_true'] at h
      obtain ⟨⟨h1, h2⟩, h3, h4⟩ := h
      exact me_var (o.at h1) (o.vis h2) h3 h4
    · cases h
  | .k c, X, W, sc, fn, p, o, h => by
    unfold chkE at h
    split at h
    · rename_i x hv
      obtain ⟨j, ps, rfl⟩ := vConst_eq hv
      exact con_ok h
    · cases h
  | .g x, X, W, sc, fn, p, o, h => by
    unfold chkE at h
    split at h
    · rename_i y hv
      obtain ⟨ps, rfl⟩ := vName_eq hv
      simp only [Bool.and_eq_true, beq_iff_eq] at h
      obtain ⟨rfl, h2⟩ := h
      obtain ⟨g1, g2⟩ := o.gl h2
      refine ⟨fun pins s σ H Q I q => ?_⟩
      obtain ⟨s0, h0, Qd, Ed, rs, rh, hw, lx, lq⟩ := q
      unfold wpE at hw
      cases hc : G.gc x with
      | none => simp only [hc] at hw
      | some c =>
        simp only [hc] at hw
        obtain ⟨u, v, hm, rv, rp⟩ := o.gc x c hc
        exact (pe_glob g1 hm rv g2).run pins s σ H Q I (Lnk.same lq rh hw (rp H))
    · cases h
  | .tup es, X, W, sc, fn, p, o, h => by
    unfold chkE at h
    split at h
    · rename_i x hv
      obtain ⟨j, ps, rfl⟩ := vTup_eq hv
      exact me_tup (sEs es o h)
    · cases h
  | .lst es, X, W, sc, fn, p, o, h => by
    unfold chkE at h
    split at h
    · rename_i x hv
      obtain ⟨ps, rfl⟩ := vLst_eq hv
      exact me_lst (sEs es o h)
    · cases h
  | .bin op a b, X, W, sc, fn, p, o, h => by
    unfold chkE at h
    split at h
    · rename_i x op' y hv
      obtain ⟨ps, rfl⟩ := vBin_eq hv
      simp only [Bool.and_eq_true, beq_iff_eq] at h
      obtain ⟨⟨rfl, h1⟩, h2⟩ := h
      exact me_bin (lop_bin op) (sE a o h1) (sE b o h2)
    · cases h
  | .neg a, X, W, sc, fn, p, o, h => by
    unfold chkE at h
    split at h
    · rename_i op x hv
      obtain ⟨ps, rfl⟩ := vUn_eq hv
      simp only [Bool.and_eq_true, beq_iff_eq] at h
      obtain ⟨rfl, h1⟩ := h
      exact me_neg (sE a o h1)
    · cases h
  | .cmp op a b, X, W, sc, fn, p, o, h => by
    unfold chkE at h
    split at h
    · rename_i x op' y hv
      obtain ⟨ps, rfl⟩ := vCmp_eq hv
      simp only [Bool.and_eq_true, beq_iff_eq, Bool.not_eq_true'] at h
      obtain ⟨⟨⟨rfl, h1⟩, h2⟩, h3⟩ := h
      exact me_cmp (lop_cmp (by have := o.hu; omega) op) (sE a o h1) (sE b o h2) h3
    · cases h
  | .cmp2 op oq a b c, X, W, sc, fn, p, o, h => by
    unfold chkE at h
    split at h
    · rename_i x op' oq' y z hv
      obtain ⟨ps, rfl⟩ := vCmp_eq hv
      simp only [Bool.and_eq_true, beq_iff_eq, Bool.not_eq_true'] at h
      obtain ⟨⟨⟨⟨⟨rfl, rfl⟩, h1⟩, h2⟩, h3⟩, h4⟩ := h
      have l1 := lop_cmp (X := X) (by have := o.hu; omega) op
      have l2 := lop_cmp (X := X) (by have := o.hu; omega) oq
      exact me_cmp2 l1 l2 (sE a o h1) (sE b o h2) (sE c o h3) (pe_chain l1 l2 (sE a o h1) (sE b o h2) (sE c o h3) h4)
    · cases h
  | .and_ a b, X, W, sc, fn, p, o, h => by
    unfold chkE at h
    split at h
    · rename_i op x y r ps hv
      obtain rfl := vBool_eq hv
      simp only [Bool.and_eq_true, beq_iff_eq] at h
      obtain ⟨⟨rfl, h1⟩, h2⟩ := h
      cases r with
      | nil => exact me_and (sE a o h1) (me_and1 (sE b o h2))
      | cons z r => exact me_and (sE a o h1) (sE b o h2)
    · cases h
  | .or_ a b, X, W, sc, fn, p, o, h => by
    unfold chkE at h
    split at h
    · rename_i op x y r ps hv
      obtain rfl := vBool_eq hv
      simp only [Bool.and_eq_true, beq_iff_eq] at h
      obtain ⟨⟨rfl, h1⟩, h2⟩ := h
      cases r with
      | nil => exact me_or (sE a o h1) (me_and1 (sE b o h2))
      | cons z r => exact me_or (sE a o h1) (sE b o h2)
    · cases h
  | .not_ a, X, W, sc, fn, p, o, h => by
    unfold chkE at h
    split at h
    · rename_i op x hv
      obtain ⟨ps, rfl⟩ := vUn_eq hv
      simp only [Bool.and_eq_true, beq_iff_eq] at h
      obtain ⟨rfl, h1⟩ := h
      exact me_not (sE a o h1)
    · cases h
  | .ite t a b, X, W, sc, fn, p, o, h => by
    unfold chkE at h
    split at h
    · rename_i x y z hv
      obtain ⟨ps, rfl⟩ := vIf_eq hv
      simp only [Bool.and_eq_true] at h
      obtain ⟨⟨h1, h2⟩, h3⟩ := h
      exact me_ite (sT t o h1) (sE a o h2) (sE b o h3)
    · cases h
  | .ix a i, X, W, sc, fn, p, o, h => by
    unfold chkE at h
    split at h
    · rename_i x y hv
      obtain ⟨ps, rfl⟩ := vSub_eq hv
      simp only [Bool.and_eq_true] at h
      obtain ⟨⟨h1, h2⟩, h3⟩ := h
      exact me_ix (by have := o.hu; omega) (sE a o h2) (sE i o h3) (plain_ix h1)
    · cases h
  | .sl a lo hi, X, W, sc, fn, p, o, h => by
    unfold chkE at h
    split at h
    · rename_i x y hv
      obtain ⟨ps, rfl⟩ := vSub_eq hv
      split at h
      · rename_i l u hv2
        obtain ⟨ps2, rfl⟩ := vSl_eq hv2
        simp only [Bool.and_eq_true] at h
        obtain ⟨⟨h1, h2⟩, h3⟩ := h
        exact me_sl (sE a o h1) (sEo lo o h2) (sEo hi o h3)
      · cases h
    · cases h
  | .rev a, X, W, sc, fn, p, o, h => by
    unfold chkE at h
    split at h
    · rename_i x y hv
      obtain ⟨ps, rfl⟩ := vSub_eq hv
      rw [Bool.and_eq_true] at h
      obtain ⟨k2, q1, q2, q3, rfl⟩ := vRv_eq h.1
      exact me_rev (sE a o h.2)
    · cases h
  | .up a, X, W, sc, fn, p, o, h => by
    unfold chkE at h
    split at h
    · rename_i x nm ap ps cp hv
      obtain rfl := vMt_eq hv
      simp only [Bool.and_eq_true, beq_iff_eq, List.isEmpty_iff] at h
      obtain ⟨⟨⟨⟨rfl, h1⟩, h2⟩, rfl⟩, h4⟩ := h
      exact me_up (sE a o h4) (attr_base h1) (by rw [h2]; exact beq_self_eq_true _)
    · cases h
  | .get2 a k d, X, W, sc, fn, p, o, h => by
    unfold chkE at h
    split at h
    · rename_i x nm ap ps cp hv
      obtain rfl := vMt_eq hv
      simp only [Bool.and_eq_true, beq_iff_eq] at h
      obtain ⟨⟨⟨⟨rfl, h1⟩, h2⟩, h4⟩, h5⟩ := h
      split at h5
      · rename_i q r
        simp only [Bool.and_eq_true] at h5
        obtain ⟨⟨⟨n1, n2⟩, h6⟩, h7⟩ := h5
        have st : starEach [q, r] X.env = [(false, eval q X.env), (false, eval r X.env)] := by rw [star_cons n1, star_cons n2]; rfl
        refine me_get2 o.hu (sE a o h4) (sE k o h6) (sE d o h7) ⟨attr_base h1, ?_, by rw [h2]; exact beq_self_eq_true _, by rw [st]; rfl⟩
        rw [st]; rfl
      · cases h5
    · cases h
  | .kb o2 e i ko, X, W, sc, fn, p, o, h => by
    unfold chkE at h
    rw [Bool.and_eq_true] at h
    obtain ⟨hh, h⟩ := h
    split at h
    · rename_i x a y body scope hv
      obtain ⟨q1, q2, q3, q4, q5, rfl⟩ := vKb_eq hv
      simp only [Bool.and_eq_true, beq_iff_eq] at h
      obtain ⟨⟨⟨⟨rfl, h1⟩, h2⟩, h3⟩, h4⟩ := h
      split at h4
      · rename_i z y2 hb
        simp only [Bool.and_eq_true, beq_iff_eq] at h4
        obtain ⟨⟨⟨rfl, h5⟩, h6⟩, h7⟩ := h4
        obtain ⟨l1, l2⟩ := lamB_ok h7
        have r := o.room (no_ho hh)
        have hm : X.mg o2.nm = none := by cases o2 <;> first | exact o.bi .min | exact o.bi .max | exact o.bi .sorted
        have st : starEach [a] X.env = (false, eval a X.env) :: starEach [] X.env := star_cons h2
        exact me_kb (ma_cons (sE e o h3) ma_nil st) (o.gl h1).1 hm r.hd r.depth (o.at (by rw [h5]; exact beq_self_eq_true _)) (o.look h6) o.lam l1 l2 (vBody_ok hb) st (star_any (by rw [List.all_cons, h2]; rfl))
      · cases h4
    · cases h
  | .call f es, X, W, sc, fn, p, o, h => by
    unfold chkE at h
    rw [Bool.and_eq_true] at h
    obtain ⟨hh, h⟩ := h
    split at h
    · rename_i x ps hv
      obtain ⟨q1, q2, rfl⟩ := vCall_eq hv
      simp only [Bool.and_eq_true, beq_iff_eq] at h
      obtain ⟨⟨rfl, h1⟩, h3⟩ := h
      obtain ⟨g1, g2⟩ := o.gl h1
      cases ps with
      | nil =>
        cases es with
        | nil => exact me_call0 (fun n c e => o.df _ n c e) (o.room (no_ho hh)) o.gd o.tk g1 g2
        | cons e es => unfold chkEs at h3; cases h3
      | cons e r =>
        have hall := es_nstar es h3
        rw [List.all_cons, Bool.and_eq_true] at hall
        exact me_call (fun n c e => o.df _ n c e) (o.room (no_ho hh)) o.gd o.tk g1 (sEs es o h3) g2 (star_cons hall.1) (star_any hall.2)
    · cases h
  | .bi b es, X, W, sc, fn, p, o, h => by
    unfold chkE at h
    rw [Bool.and_eq_true] at h
    obtain ⟨hh, h⟩ := h
    split at h
    · rename_i x ps hv
      obtain ⟨q1, q2, rfl⟩ := vCall_eq hv
      simp only [Bool.and_eq_true, beq_iff_eq, Bool.not_eq_true'] at h
      obtain ⟨⟨⟨rfl, h1⟩, h2⟩, h3⟩ := h
      obtain ⟨g1, g2⟩ := o.gl h1
      cases ps with
      | nil => cases h2
      | cons e r =>
        have hall := es_nstar es h3
        rw [List.all_cons, Bool.and_eq_true] at hall
        have hc : CallR X b.val (lrL X.K b.d) := by
          rcases (Bool.or_eq_true _ _).mp hh with hh | hh
          · exact lcb (o.calm (no_ho hh)) o.gd o.hu b
          · exact lcbC o.gd o.hu b hh
        exact me_bi hc g1 (o.bi b) (sEs es o h3) g2 (star_cons hall.1) (star_any hall.2)
    · cases h
  | .mt m a es, X, W, sc, fn, p, o, h => by
    unfold chkE at h
    split at h
    · rename_i x nm ap ps cp hv
      obtain rfl := vMt_eq hv
      simp only [Bool.and_eq_true, beq_iff_eq, decide_eq_true_eq] at h
      obtain ⟨⟨⟨⟨⟨rfl, h1⟩, h2⟩, h3⟩, h4⟩, h5⟩ := h
      have hall := es_nstar es h5
      have hl : (ap.endLine == cp.line) = true := by rw [h2]; exact beq_self_eq_true _
      cases ps with
      | nil =>
        cases es with
        | nil => exact me_mt0 o.hu (sE a o h4) (attr_base h1) hl
        | cons e es => unfold chkEs at h5; cases h5
      | cons e r =>
        have hk := star_all (pos := cp) (env := X.env) hall
        rw [List.all_cons, Bool.and_eq_true] at hall
        refine me_mt o.hu (sE a o h4) (sEs es o h5) (attr_base h1) ?_ hl (star_cons hall.1) (star_any hall.2)
        rw [hk]
        simp only [Bool.true_and, Bool.and_eq_true, decide_eq_true_eq]
        refine ⟨rfl, ?_⟩
        show (e :: r).length + 0 + 0 < 30
        omega
    · cases h
  | .lc own tg it c e, X, W, sc, fn, p, o, h => by
    unfold chkE at h
    rw [Bool.and_eq_true] at h
    obtain ⟨hh, h⟩ := h
    split at h
    · rename_i el tx ix ifs scope ps hv
      obtain rfl := vLc_eq hv
      simp only [Bool.and_eq_true] at h
      obtain ⟨⟨⟨⟨⟨⟨h1, h2⟩, h3⟩, h4⟩, h5⟩, h6⟩, h7⟩ := h
      have hb : BlkOk X.N X.env.scope scope own := by rw [o.N, o.sc]; exact blkOk_by h1
      exact me_lc (o.calm (no_ho hh)) o.nd (sI it o h4) hb (fun i hi => by simpa using List.all_eq_true.mp h2 i hi) (fun s H C cl fp => sG tg (o.blk hh scope s H C cl fp) h5) (fun s H C cl fp => sTo c (o.blk hh scope s H C cl fp) h6)
        (fun s H C cl fp => sE e (o.blk hh scope s H C cl fp) h7) (n_set h3)
    · cases h
  | .rng tp lo hi, X, W, sc, fn, p, o, h => by
    unfold chkE at h
    rw [Bool.and_eq_true] at h
    obtain ⟨hh, h⟩ := h
    split at h
    · rename_i x q hv
      obtain ⟨q1, q2, rfl⟩ := vCall_eq hv
      split at h
      · rename_i y ps hv2
        obtain ⟨q3, q4, rfl⟩ := vCall_eq hv2
        simp only [Bool.and_eq_true, beq_iff_eq] at h
        obtain ⟨⟨⟨⟨⟨rfl, h1⟩, rfl⟩, h2⟩, h3⟩, h4⟩ := h
        obtain ⟨g1, g2⟩ := o.gl h1
        obtain ⟨g3, g4⟩ := o.gl h2
        have hm : X.mg (rgN tp) = none := by
          cases tp
          · exact o.bi .list
          · exact o.bi .tuple
        split at h4
        · rename_i a
          simp only [Bool.and_eq_true] at h4
          exact me_rng1 tp (o.calm (no_ho hh)) g1 hm g3 o.br (sE hi o h4.2) (star_cons h4.1)
        · rename_i l a b
          simp only [Bool.and_eq_true] at h4
          obtain ⟨⟨⟨h5, h6⟩, h7⟩, h8⟩ := h4
          exact me_rng2 tp (o.calm (no_ho hh)) g1 hm g3 o.br (sE l o h7) (sE hi o h8) (star_cons h5) (star_cons h6) (star_any (by rw [List.all_cons, h6]; rfl))
        · cases h4
      · cases h
    · cases h
  | .dct keys es, X, W, sc, fn, p, o, h => by
    unfold chkE at h
    split at h
    · rename_i ks vs hv
      obtain ⟨ps, rfl⟩ := vDict_eq hv
      simp only [Bool.and_eq_true, decide_eq_true_eq, beq_iff_eq] at h
      obtain ⟨⟨⟨⟨h1, h2⟩, h3⟩, h4⟩, h5⟩ := h
      obtain ⟨c1, c2⟩ := chkKs_all h1
      cases ks with
      | nil =>
        cases vs with
        | cons v vs => cases h4
        | nil =>
          cases keys with
          | cons k r => cases c2
          | nil =>
            cases es with
            | nil => exact me_dct0
            | cons e es => unfold chkEs at h5; cases h5
      | cons k ks => exact me_dct (sDs es o h1 h4 h5) h2 c1 h4 (fun z => by cases z) (by omega) c2
    · cases h
  | .isi t e, X, W, sc, fn, p, o, h => by
    unfold chkE at h
    split at h
    · rename_i x a b hv
      obtain ⟨q1, q2, rfl⟩ := vCall_eq hv
      simp only [Bool.and_eq_true, beq_iff_eq] at h
      obtain ⟨⟨⟨⟨rfl, h1⟩, h2⟩, h3⟩, h4⟩ := h
      obtain ⟨g1, g2⟩ := o.gl h1
      split at h4
      · rename_i y hy
        obtain ⟨p2, rfl⟩ := vName_eq hy
        simp only [Bool.and_eq_true, beq_iff_eq] at h4
        obtain ⟨rfl, h5⟩ := h4
        obtain ⟨g3, g4⟩ := o.gl h5
        exact me_isi (sE e o h3) g1 (o.bn _ (by simp [moreN])) g3 (o.bn _ t.more) (star_cons h2)
      · cases h4
    · cases h
  | .lset e, X, W, sc, fn, p, o, h => by
    unfold chkE at h
    rw [Bool.and_eq_true] at h
    obtain ⟨hh, h⟩ := h
    split at h
    · rename_i x b hv
      obtain ⟨q1, q2, rfl⟩ := vCall_eq hv
      simp only [Bool.and_eq_true, beq_iff_eq] at h
      obtain ⟨⟨rfl, h1⟩, h4⟩ := h
      obtain ⟨g1, g2⟩ := o.gl h1
      split at h4
      · rename_i y a hy
        obtain ⟨q3, q4, rfl⟩ := vCall_eq hy
        simp only [Bool.and_eq_true, beq_iff_eq] at h4
        obtain ⟨⟨⟨rfl, h5⟩, h6⟩, h7⟩ := h4
        obtain ⟨g3, g4⟩ := o.gl h5
        exact me_lset (sE e o h7) g1 (o.bi .len) g3 (o.bn _ (by simp [moreN])) (o.calm (no_ho hh)) (star_cons h6)
      · cases h4
    · cases h
  | .sset e, X, W, sc, fn, p, o, h => by
    unfold chkE at h
    rw [Bool.and_eq_true] at h
    obtain ⟨hh, h⟩ := h
    split at h
    · rename_i x b hv
      obtain ⟨q1, q2, rfl⟩ := vCall_eq hv
      simp only [Bool.and_eq_true, beq_iff_eq] at h
      obtain ⟨⟨rfl, h1⟩, h4⟩ := h
      obtain ⟨g1, g2⟩ := o.gl h1
      split at h4
      · rename_i y a hy
        obtain ⟨q3, q4, rfl⟩ := vCall_eq hy
        simp only [Bool.and_eq_true, beq_iff_eq] at h4
        obtain ⟨⟨⟨rfl, h5⟩, h6⟩, h7⟩ := h4
        obtain ⟨g3, g4⟩ := o.gl h5
        exact me_sset (sE e o h7) g1 (o.bi .sorted) g3 (o.bn _ (by simp [moreN])) (o.calm (no_ho hh)) (star_cons h6)
      · cases h4
    · cases h
  | .xis one cs e, X, W, sc, fn, p, o, h => by
    unfold chkE at h
    split at h
    · rename_i x a b hv
      obtain ⟨q1, q2, rfl⟩ := vCall_eq hv
      simp only [Bool.and_eq_true, beq_iff_eq] at h
      obtain ⟨⟨⟨⟨rfl, h1⟩, h2⟩, h3⟩, h4⟩ := h
      obtain ⟨g1, g2⟩ := o.gl h1
      split at h4
      · rename_i c
        split at h4
        · rename_i y hy
          obtain ⟨q3, rfl⟩ := vName_eq hy
          simp only [Bool.and_eq_true, beq_iff_eq] at h4
          obtain ⟨rfl, h5⟩ := h4
          obtain ⟨g3, g4⟩ := o.gl h5
          exact me_xis1 (sE e o h3) g1 (o.bn _ (by simp [moreN])) g3 g4 o.cx o.xi (star_cons h2)
        · cases h4
      · split at h4
        · rename_i ps hy
          obtain ⟨kk, q3, rfl⟩ := vTup_eq hy
          simp only [Bool.and_eq_true, decide_eq_true_eq, Bool.not_eq_true'] at h4
          obtain ⟨⟨h4, h5⟩, h6⟩ := h4
          exact me_xisT (sE e o h3) g1 (o.bn _ (by simp [moreN])) (by rw [o.sc]; exact h4) h5 h6 (fun y hy => o.gl (by rw [← o.sc]; exact hy)) o.cx o.xi (star_cons h2)
        · cases h4
      · cases h4
    · cases h
  | .xf e f, X, W, sc, fn, p, o, h => by
    unfold chkE at h
    split at h
    · rename_i a g hv
      obtain ⟨q1, rfl⟩ := vAttr_eq hv
      simp only [Bool.and_eq_true, beq_iff_eq] at h
      obtain ⟨⟨rfl, h1⟩, h2⟩ := h
      exact me_xf (sE e o h2) (attr_base h1) o.cx fun c fs e => by
        obtain ⟨C, fI, fd, m, T, TE, hno, _, _, _, _, _, _, n1⟩ := o.xc c fs e
        exact ⟨C, m, TE, hno, n1⟩
    · cases h
theorem sDs : ∀ (es : Es) {X : Cx} {W : WX} {sc : Scope} {fn : Str → Bool} {pos : Pos} {keys : List Key} {ks : List (Option Expr)} {vs : List Expr}, Ok ho X W G k N sc fn → chkKs keys ks = true → ks.length = vs.length → chkEs ho N es sc fn vs = true → MPs X W pos ks vs keys (wpEs G es)
  | .nil, X, W, sc, fn, pos, keys, ks, vs, o, h1, hl, h => by
    unfold chkEs at h
    cases vs with
    | cons v vs => cases h
    | nil =>
      cases keys with
      | nil =>
        cases ks with
        | nil => exact mps_nil
        | cons a b => cases h1
      | cons a b =>
        obtain ⟨j, p, q', rfl, h2⟩ := chkKs_cons h1
        cases hl
  | .cons e es, X, W, sc, fn, pos, keys, ks, vs, o, h1, hl, h => by
    unfold chkEs at h
    cases vs with
    | nil => cases h
    | cons v vs =>
      simp only [Bool.and_eq_true] at h
      cases keys with
      | nil =>
        cases ks with
        | nil => cases hl
        | cons a b => cases h1
      | cons a b =>
        obtain ⟨j, p, q', rfl, h2⟩ := chkKs_cons h1
        exact mps_cons (sE e o h.1.2) (sDs es o h2 (by simpa using hl) h.2)
theorem sEs : ∀ (es : Es) {X : Cx} {W : WX} {sc : Scope} {fn : Str → Bool} {ps : List Expr}, Ok ho X W G k N sc fn → chkEs ho N es sc fn ps = true → MA X W ps (wpEs G es)
  | .nil, X, W, sc, fn, ps, o, h => by
    unfold chkEs at h
    cases ps with
    | nil => exact ma_nil
    | cons p ps => cases h
  | .cons e es, X, W, sc, fn, ps, o, h => by
    unfold chkEs at h
    cases ps with
    | nil => cases h
    | cons p ps =>
      simp only [Bool.and_eq_true] at h
      obtain ⟨⟨h1, h2⟩, h3⟩ := h
      exact ma_cons (sE e o h2) (sEs es o h3) (star_cons h1)
theorem sEo : ∀ (e : Eo) {X : Cx} {W : WX} {sc : Scope} {fn : Str → Bool} {p : Option Expr}, Ok ho X W G k N sc fn → chkEo ho N e sc fn p = true → MO X W p (wpEo G e)
  | .no, X, W, sc, fn, p, o, h => by
    cases p with
    | none => exact mo_no
    | some p => unfold chkEo at h; cases h
  | .yes e, X, W, sc, fn, p, o, h => by
    cases p with
    | none => unfold chkEo at h; cases h
    | some p => unfold chkEo at h; exact mo_yes (sE e o h)
theorem sT : ∀ (t : T) {X : Cx} {W : WX} {sc : Scope} {fn : Str → Bool} {p : Expr}, Ok ho X W G k N sc fn → chkT ho N t sc fn p = true → MT X W p (wpT G t)
  | .e e, X, W, sc, fn, p, o, h => by
    unfold chkT at h
    simp only [Bool.and_eq_true] at h
    exact mt_e (sE e o h.2) (plain_t h.1)
  | .cmp op a b, X, W, sc, fn, p, o, h => by
    unfold chkT at h
    split at h
    · rename_i x op' y hv
      obtain ⟨ps, rfl⟩ := vCmp_eq hv
      simp only [Bool.and_eq_true, beq_iff_eq, Bool.not_eq_true'] at h
      obtain ⟨⟨⟨rfl, h1⟩, h2⟩, h3⟩ := h
      exact mt_cmp (lop_cmp (by have := o.hu; omega) op) (sE a o h1) (sE b o h2) h3
    · cases h
  | .cmp2 op oq a b c, X, W, sc, fn, p, o, h => by
    unfold chkT at h
    split at h
    · rename_i x op' oq' y z hv
      obtain ⟨ps, rfl⟩ := vCmp_eq hv
      simp only [Bool.and_eq_true, beq_iff_eq, Bool.not_eq_true'] at h
      obtain ⟨⟨⟨⟨⟨rfl, rfl⟩, h1⟩, h2⟩, h3⟩, h4⟩ := h
      have l1 := lop_cmp (X := X) (by have := o.hu; omega) op
      have l2 := lop_cmp (X := X) (by have := o.hu; omega) oq
      exact mt_cmp2 l1 l2 (sE a o h1) (sE b o h2) (sE c o h3) (pt_chain l1 l2 (sE a o h1) (sE b o h2) (sE c o h3) h4)
    · cases h
  | .and_ a b, X, W, sc, fn, p, o, h => by
    unfold chkT at h
    split at h
    · rename_i op x y r ps hv
      obtain rfl := vBool_eq hv
      simp only [Bool.and_eq_true, beq_iff_eq] at h
      obtain ⟨⟨rfl, h1⟩, h2⟩ := h
      cases r with
      | nil => exact (mw_and (sT a o h1) (mw_and1 (sT b o h2))).pt
      | cons z r => exact (mw_and (sT a o h1) (mw_of (e := y) (sT b o h2))).pt
    · cases h
  | .or_ a b, X, W, sc, fn, p, o, h => by
    unfold chkT at h
    split at h
    · rename_i op x y r ps hv
      obtain rfl := vBool_eq hv
      simp only [Bool.and_eq_true, beq_iff_eq] at h
      obtain ⟨⟨rfl, h1⟩, h2⟩ := h
      cases r with
      | nil => exact (mw_or (sT a o h1) (mw_or1 (sT b o h2))).pt
      | cons z r => exact (mw_or (sT a o h1) (mw_of (e := y) (sT b o h2))).pt
    · cases h
  | .not_ a, X, W, sc, fn, p, o, h => by
    unfold chkT at h
    split at h
    · rename_i op x hv
      obtain ⟨ps, rfl⟩ := vUn_eq hv
      simp only [Bool.and_eq_true, beq_iff_eq] at h
      obtain ⟨rfl, h1⟩ := h
      exact mt_not (sT a o h1)
    · cases h
theorem sTo : ∀ (t : To) {X : Cx} {W : WX} {sc : Scope} {fn : Str → Bool} {p : List Expr}, Ok ho X W G k N sc fn → chkTo ho N t sc fn p = true → MTs X W p (wpTo G t)
  | .no, X, W, sc, fn, p, o, h => by
    unfold chkTo at h
    cases p with
    | nil => exact mts_no
    | cons x r => cases h
  | .yes t, X, W, sc, fn, p, o, h => by
    match p, h with
    | [x], h =>
      unfold chkTo at h
      exact pts_one (sT t o h)
    | [], h => unfold chkTo at h; cases h
    | _ :: _ :: _, h => unfold chkTo at h; cases h
theorem sI : ∀ (i : It) {X : Cx} {W : WX} {sc : Scope} {fn : Str → Bool} {t p : Expr}, Ok ho X W G k N sc fn → chkI ho N i sc fn t p = true → MI X W t p (wpI G i)
  | .e tm a, X, W, sc, fn, t, p, o, h => by
    unfold chkI at h
    exact mi_e (sE a o h)
  | .rng lo hi, X, W, sc, fn, t, p, o, h => by
    unfold chkI at h
    split at h
    · rename_i y ps hv2
      obtain ⟨q3, q4, rfl⟩ := vCall_eq hv2
      simp only [Bool.and_eq_true, beq_iff_eq] at h
      obtain ⟨⟨rfl, h2⟩, h4⟩ := h
      obtain ⟨g3, g4⟩ := o.gl h2
      split at h4
      · rename_i a
        simp only [Bool.and_eq_true] at h4
        exact mi_rng1 g3 o.br (sE hi o h4.2) (star_cons h4.1)
      · rename_i l a b
        simp only [Bool.and_eq_true] at h4
        obtain ⟨⟨⟨h5, h6⟩, h7⟩, h8⟩ := h4
        exact mi_rng2 g3 o.br (sE l o h7) (sE hi o h8) (star_cons h5) (star_cons h6)
      · cases h4
    · cases h
  | .zip ta tb a b, X, W, sc, fn, t, p, o, h => by
    unfold chkI at h
    split at h
    · rename_i y x z hv2
      obtain ⟨q3, q4, rfl⟩ := vCall_eq hv2
      simp only [Bool.and_eq_true, beq_iff_eq] at h
      obtain ⟨⟨⟨⟨⟨⟨rfl, h1⟩, h2⟩, h3⟩, h4⟩, h5⟩, h6⟩ := h
      obtain ⟨g3, g4⟩ := o.gl h1
      obtain ⟨ts, ht⟩ := Option.isSome_iff_exists.mp h6
      obtain ⟨kk, tp, rfl⟩ := vTup_eq ht
      have hs := star_cons (es := [z]) (env := X.env) h2
      have hs2 := star_cons (es := []) (env := X.env) h3
      have ha := sE a o h4
      have hb := sE b o h5
      exact mi_zip g3 o.bz ha hb hs hs2 (pi_zipA g3 o.bz (pa_cons ha (pa_cons hb pa_nil hs2) hs) hs (star_any (by rw [List.all_cons, h3]; rfl)))
    · cases h
  | .dn a b, X, W, sc, fn, t, p, o, h => by
    unfold chkI at h
    split at h
    · rename_i y x z u hv2
      obtain ⟨q3, q4, rfl⟩ := vCall_eq hv2
      simp only [Bool.and_eq_true, beq_iff_eq] at h
      obtain ⟨⟨⟨⟨⟨⟨⟨rfl, h1⟩, h2⟩, h3⟩, h4⟩, h5⟩, h6⟩, h7⟩ := h
      obtain ⟨g3, g4⟩ := o.gl h1
      unfold chkM1 at h7
      split at h7
      · rename_i op v hu
        obtain ⟨ps, rfl⟩ := vUn_eq hu
        simp only [Bool.and_eq_true, beq_iff_eq] at h7
        obtain ⟨rfl, h7⟩ := h7
        split at h7
        · rename_i c hc
          obtain ⟨j, pc, rfl⟩ := vConst_eq hc
          exact mi_dn g3 o.br (sE a o h5) (sE b o h6) (me_neg (con_ok (W := W) h7)) (fun _ _ _ _ q => q) (star_cons h2) (star_cons h3) (star_cons h4)
        · cases h7
      · cases h7
    · cases h
  | .rv a, X, W, sc, fn, t, p, o, h => by
    unfold chkI at h
    split at h
    · rename_i y x hv2
      obtain ⟨q3, q4, rfl⟩ := vCall_eq hv2
      simp only [Bool.and_eq_true, beq_iff_eq] at h
      obtain ⟨⟨rfl, h1⟩, h2⟩ := h
      obtain ⟨g3, g4⟩ := o.gl h1
      split at h2
      · rename_i y2 z hv3
        obtain ⟨q5, q6, rfl⟩ := vCall_eq hv3
        simp only [Bool.and_eq_true, beq_iff_eq] at h2
        obtain ⟨⟨⟨rfl, h3⟩, h4⟩, h5⟩ := h2
        obtain ⟨g5, g6⟩ := o.gl h3
        exact mi_rv g3 (o.bn _ (by simp [moreN])) g5 o.br (sE a o h5) (star_cons h4)
      · cases h2
    · cases h
  | .enum tm a, X, W, sc, fn, t, p, o, h => by
    unfold chkI at h
    split at h
    · rename_i y x hv2
      obtain ⟨q3, q4, rfl⟩ := vCall_eq hv2
      simp only [Bool.and_eq_true, beq_iff_eq] at h
      obtain ⟨⟨⟨⟨rfl, h1⟩, h2⟩, h3⟩, h6⟩ := h
      obtain ⟨g3, g4⟩ := o.gl h1
      obtain ⟨ts, ht⟩ := Option.isSome_iff_exists.mp h6
      obtain ⟨kk, tp, rfl⟩ := vTup_eq ht
      have hs := star_cons (es := []) (env := X.env) h2
      exact mi_enum (pi_enumA g3 (o.bn _ (by simp [moreN])) (pa_cons (sE a o h3) pa_nil hs) hs)
    · cases h
theorem sG : ∀ (g : Tg) {X : Cx} {W : WX} {sc : Scope} {fn : Str → Bool} {p : Expr}, Ok ho X W G k N sc fn → chkG ho N g sc fn p = true → MG X g.slots p (wpG G g)
  | .n i, X, W, sc, fn, p, o, h => by
    unfold chkG at h
    split at h
    · rename_i x hv
      obtain ⟨ps, rfl⟩ := vName_eq hv
      simp only [Bool.and_eq_true] at h
      obtain ⟨h1, h2⟩ := h
      obtain ⟨g1, g2⟩ := o.loc h2
      exact mg_n o.nd (o.at h1) g1 g2
    · cases h
  | .tup ts, X, W, sc, fn, p, o, h => by
    unfold chkG at h
    rw [Bool.and_eq_true] at h
    obtain ⟨hh, h⟩ := h
    split at h
    · rename_i ps hv
      obtain ⟨kk, tp, rfl⟩ := vTup_eq hv
      simp only [Bool.and_eq_true, beq_iff_eq] at h
      obtain ⟨hl, h1⟩ := h
      obtain ⟨n1, n2⟩ := gs_nstar ts (env := X.env) h1
      have hn : (assignEach ps X.env).length = ts.len := n1.trans hl
      exact mg_tup (o.calm (no_ho hh)) (sGs ts o h1) hn n2
    · cases h
  | .sub a i, X, W, sc, fn, p, o, h => by
    unfold chkG at h
    split at h
    · rename_i x y hv
      obtain ⟨ps, rfl⟩ := vSub_eq hv
      simp only [Bool.and_eq_true] at h
      obtain ⟨⟨h1, h2⟩, h3⟩ := h
      have o0 : Ok ho X W0 G k N sc fn := { o with tk := takes0 }
      exact mg_sub (by have := o.hu; omega) (sE a o0 h2) (sE i o0 h3) (assign_sub h1)
    · cases h
  | .sls a b c, X, W, sc, fn, p, o, h => by
    unfold chkG at h
    split at h
    · rename_i x y hv
      obtain ⟨ps, rfl⟩ := vSub_eq hv
      split at h
      · rename_i l u hv2
        obtain ⟨ps2, rfl⟩ := vSl_eq hv2
        simp only [Bool.and_eq_true] at h
        obtain ⟨⟨h1, h2⟩, h3⟩ := h
        have o0 : Ok ho X W0 G k N sc fn := { o with tk := takes0 }
        exact mg_sls (sE a o0 h1) (sE b o0 h2) (sE c o0 h3)
      · cases h
    · cases h
theorem sGs : ∀ (g : Tgs) {X : Cx} {W : WX} {sc : Scope} {fn : Str → Bool} {p : List Expr}, Ok ho X W G k N sc fn → chkGs ho N g sc fn p = true → MGs X (Tg.slots.slotsS g) p (wpGs G g)
  | .nil, X, W, sc, fn, p, o, h => by
    unfold chkGs at h
    cases p with
    | nil => exact mgs_nil
    | cons x r => cases h
  | .cons t ts, X, W, sc, fn, p, o, h => by
    unfold chkGs at h
    cases p with
    | nil => cases h
    | cons x r =>
      simp only [Bool.and_eq_true] at h
      obtain ⟨⟨h1, h2⟩, h3⟩ := h
      exact mgs_cons (sG t o h2) (sGs ts o h3) (by rw [assign_cons h1]; rfl)
end
end
end MP
/-! MP13: statements: the checker and its soundness; a def. -/
namespace MP
open PySem PySem.Spec PyProof.Rows L2 RZ

def asg1 : Stmt → Option (Expr × Expr × Pos)
  | .Assign [t] e p => some (t, e, p)
  | _ => none
theorem asg1_eq {st : Stmt} {t e p} (h : asg1 st = some (t, e, p)) : st = .Assign [t] e p := by
  unfold asg1 at h; split at h <;> first | (cases h; rfl) | cases h
def nPos : Expr → Nat
  | .Name _ p => p.line
  | _ => 0
def storesNone (sc : Scope) (t e : Expr) : Bool := match vTup e with
  | none => true
  | some vs => match vTup t with
    | none => (vLst t).isNone
    | some ts => (swNames (fun x => sc.names.lookup x) ts vs).isNone
theorem stores_none {sc : Scope} {t e : Expr} {env : Env} (hs : env.scope = sc) (hk : sc.kind = .function) (h : storesNone sc t e = true) : swappedStores [t] e env = pure none := by
  unfold storesNone at h
  split at h
  · rename_i hv; exact sw_none hv
  · rename_i vs hv
    obtain ⟨k2, p2, rfl⟩ := vTup_eq hv
    split at h
    · rename_i ht
      have hl : ∀ l p, t ≠ .List l p := fun l p e => by subst e; simp [vLst] at h
      have hu : ∀ l j p, t ≠ .Tuple l j p := fun l j p e => by subst e; cases ht
      cases t <;> first | rfl | exact absurd rfl (hl _ _) | exact absurd rfl (hu _ _ _)
    · rename_i ts ht
      obtain ⟨k1, p1, rfl⟩ := vTup_eq ht
      subst hs
      have e0 : swNames env.kindOf ts vs = none := Option.isNone_iff_eq_none.mp h
      rw [sw_names hk (.inr e0), e0]
def isLcE : E → Bool
  | .lc _ _ _ _ _ => true
  | _ => false
/-- a comprehension's list goes straight to its name -/
def direct (sc : Scope) (t x : Expr) : Bool := match vLc x, vName t with
  | some (_, _, _, _, scope, p), some y => swB sc scope y (nPos t) p.line
  | _, _ => false
def notDirect (sc : Scope) (t x : Expr) : Bool := match vLc x, vName t with
  | some (_, _, _, _, scope, p), some y => !swB sc scope y (nPos t) p.line
  | _, _ => false
def plainSet (sc : Scope) (t x : Expr) : Bool := nstar t && ((ncomp x || (vName t).isNone) || notDirect sc t x) && storesNone sc t x
def sSet (ho : Bool) (N : List Str) (g : Tg) (e : E) (sc : Scope) (fn : Str → Bool) (t x : Expr) : Bool :=
  (plainSet sc t x && chkE ho N e sc fn x && chkG ho N g sc fn t) ||
  (match g, e with
    | .n i, .lc own tg it c el => direct sc t x && chkE ho N (.lc own tg it c el) sc fn x && (match vName t with
      | some y => N[i]? == some y && kindB sc y .local
      | none => false)
    | _, _ => false)
def par2B (N : List Str) (sc : Scope) (i j : Nat) (t x : Expr) : Bool := match vTup t, vTup x with
  | some [n1, n2], some vs => (match vName n1, vName n2 with
    | some a, some b => N[i]? == some a && N[j]? == some b && decide (i ≠ j) && kindB sc a .local && kindB sc b .local && swNames (fun x => sc.names.lookup x) [n1, n2] vs == some [a, b] && !(vs.all (constantsAlone 8))
    | _, _ => false)
  | _, _ => false
def par3B (N : List Str) (sc : Scope) (i j l : Nat) (t x : Expr) : Bool := match vTup t, vTup x with
  | some [n1, n2, n3], some vs => (match vName n1, vName n2, vName n3 with
    | some a, some b, some c => N[i]? == some a && N[j]? == some b && N[l]? == some c && decide (i ≠ j) && decide (i ≠ l) && decide (j ≠ l) && kindB sc a .local && kindB sc b .local && kindB sc c .local &&
      swNames (fun x => sc.names.lookup x) [n1, n2, n3] vs == some [a, b, c] && !(vs.all (constantsAlone 8))
    | _, _, _ => false)
  | _, _ => false
/-- the suite m = n -/
def keepU (i j : Nat) : Ss → Bool
  | .cons (.set (.n j') (.v i')) .nil => j' == j && i' == i
  | _ => false
theorem keepU_wp {i j : Nat} {G : Ct} {R : SD} {s : AS} {h : AH} {d : D} : ∀ {u : Ss}, keepU i j u = true → s[i]? = some (some d) → R.nx (s.set j (some d)) h → wpB G u R s h
  | .cons (.set (.n j') (.v i')) .nil, k, e, q => by
    simp only [keepU, Bool.and_eq_true, beq_iff_eq] at k
    obtain ⟨rfl, rfl⟩ := k
    simp only [wpB, wpS, wpE, wpG, e]
    exact q
  | .nil, k, _, _ => by cases k
mutual
def chkS (N : List Str) : S → Bool → Scope → (Str → Bool) → Stmt → Bool
  | .set g e, ho, sc, fn, st => match asg1 st with
    | some (t, x, _) => sSet ho N g e sc fn t x
    | none => false
  | .par [i, j] es, ho, sc, fn, st => match asg1 st with
    | some (t, x, _) => !ho && par2B N sc i j t x && (match vTup x with
      | some [a, b] => chkEs ho N es sc fn [a, b]
      | _ => false)
    | none => false
  | .par [i, j, l] es, ho, sc, fn, st => match asg1 st with
    | some (t, x, _) => !ho && par3B N sc i j l t x && (match vTup x with
      | some [a, b, c] => chkEs ho N es sc fn [a, b, c]
      | _ => false)
    | none => false
  | .par _ _, _, _, _, _ => false
  | .ex e, ho, sc, fn, st => match st with
    | .Expr x _ => ncomp x && chkE ho N e sc fn x
    | _ => false
  | .ret e, ho, sc, fn, st => match st with
    | .Return (some x) _ => chkE ho N e sc fn x
    | _ => false
  | .retN, _, _, _, st => match st with
    | .Return none _ => true
    | _ => false
  | .iff t a b, ho, sc, fn, st => match st with
    | .If x l r _ => chkT ho N t sc fn x && chkB N a ho sc fn l && chkB N b ho sc fn r
    | _ => false
  | .for_ t it b, ho, sc, fn, st => match st with
    | .For x y l [] _ => !ho && nset y && chkG ho N t sc fn x && chkI ho N it sc fn x y && chkB N b ho sc fn l
    | _ => false
  | .whl t b, ho, sc, fn, st => match st with
    | .While x l [] _ => !ho && chkT ho N t sc fn x && chkB N b ho sc fn l
    | _ => false
  | .pass, _, _, _, st => match st with
    | .Pass _ => true
    | _ => false
  | .brk, _, _, _, st => match st with
    | .Break _ => true
    | _ => false
  | .cont, _, _, _, st => match st with
    | .Continue _ => true
    | _ => false
  | .dead, _, _, _, _ => true
  | .raise_ c es, ho, sc, fn, st => match st with
    | .Raise (some x) none _ => (match vCall x with
      | some (y, ps) => !ho && y == c && glB sc y && !ps.isEmpty && chkEs ho N es sc fn ps
      | none => false)
    | _ => false
  | .tryK i j c b u, ho, sc, fn, st => match st with
    | .Try body [.ExceptHandler (some x) (some n) suite _] [] [] _ => !ho && (match vName x with
      | some y => y == c && glB sc y
      | none => false) && !suite.isEmpty && chkB N b false sc fn body && chkB N u true sc fn suite && (keepU i j u && (N[i]? == some n && kindB sc n .local))
    | _ => false
  | .tryX nm c b u, ho, sc, fn, st => match st with
    | .Try body [.ExceptHandler (some x) hn suite _] [] [] _ => !ho && (match vName x with
      | some y => y == c && glB sc y
      | none => false) && !suite.isEmpty && chkB N b false sc fn body && chkB N u true sc fn suite && (match nm, hn with
        | some i, some n => N[i]? == some n && kindB sc n .local
        | none, none => true
        | _, _ => false)
    | _ => false
def chkB (N : List Str) : Ss → Bool → Scope → (Str → Bool) → List Stmt → Bool
  | .nil, _, _, _, [] => true
  | .cons s ss, ho, sc, fn, st :: r => chkS N s ho sc fn st && chkB N ss ho sc fn r
  | _, _, _, _, _ => false
end
structure OkS (ho : Bool) (X : Cx) (W : WX) (G : Ct) (k : Nat) (N : List Str) (sc : Scope) (fn : Str → Bool) : Prop where
  o : Ok ho X W G k N sc fn
  po : ho = false → PassesOwn (model X.prog X.w) X.A X.env X.xe
  kf : sc.kind = .function
  stk : ho = false → X.stack = X.env :: X.outer
  frm : ho = false → X.env.frame = some X.env.locals
section
variable {G : Ct} {k : Nat} {N : List Str}
theorem sSet_ok {ho : Bool} {X : Cx} {W : WX} {sc : Scope} {fn : Str → Bool} {g : Tg} {e : E} {t x : Expr} {pos : Pos} (o : OkS ho X W G k N sc fn) (h : sSet ho N g e sc fn t x = true) : MS X W (.Assign [t] x pos) (wpS G (.set g e)) := by
  unfold sSet at h
  rw [Bool.or_eq_true] at h
  rcases h with h | h
  · simp only [plainSet, Bool.and_eq_true, Bool.or_eq_true] at h
    obtain ⟨⟨⟨⟨h1, h2⟩, h3⟩, h4⟩, h5⟩ := h
    refine ms_set (sE e o.o h4) (sG g o.o h5) ?_ (stores_none o.o.sc o.kf h3) (by rw [assign_cons h1]; rfl)
    rcases h2 with (h2 | h2) | h2
    · exact n_swap h2
    · exact n_swap2 (by simpa using h2)
    · unfold notDirect at h2
      split at h2
      · rename_i e tg it ifs scope p y hx ht
        obtain rfl := vLc_eq hx
        obtain ⟨py, rfl⟩ := vName_eq ht
        have hk : X.env.scope.kind = .function := by rw [o.o.sc]; exact o.kf
        have h6 : swB sc scope y py.line p.line = false := by
          have h7 : (!swB sc scope y py.line p.line) = true := h2
          cases q : swB sc scope y py.line p.line with
          | false => rfl
          | true => rw [q] at h7; cases h7
        refine (sw_val (l := pos.line) hk).trans ?_
        rw [o.o.sc, h6]
      · cases h2
  · split at h
    · rename_i i own tg it c el
      simp only [Bool.and_eq_true] at h
      obtain ⟨⟨h1, h2⟩, h3⟩ := h
      split at h3
      · rename_i y hy
        obtain ⟨py, rfl⟩ := vName_eq hy
        simp only [Bool.and_eq_true] at h3
        obtain ⟨h4, h5⟩ := h3
        unfold chkE at h2
        rw [Bool.and_eq_true] at h2
        obtain ⟨hh, h2⟩ := h2
        split at h2
        · rename_i el' tx ix ifs scope ps hv
          obtain rfl := vLc_eq hv
          simp only [Bool.and_eq_true] at h2
          obtain ⟨⟨⟨⟨⟨⟨g1, g2⟩, g3⟩, g4⟩, g5⟩, g6⟩, g7⟩ := h2
          have hb : BlkOk X.N X.env.scope scope own := by rw [o.o.N, o.o.sc]; exact blkOk_by g1
          have hk : X.env.scope.kind = .function := by rw [o.o.sc]; exact o.kf
          have hsw : swB X.env.scope scope y py.line ps.line = true := by rw [o.o.sc]; exact h1
          exact ms_setLc (o.o.calm (no_ho hh)) o.o.nd (o.o.at h4) (o.o.look h5) (by rw [sw_val hk, hsw]) (sI it o.o g4) hb (fun i hi => by simpa using List.all_eq_true.mp g2 i hi) (fun s H C cl fp => sG tg (o.o.blk hh scope s H C cl fp) g5)
            (fun s H C cl fp => sTo c (o.o.blk hh scope s H C cl fp) g6) (fun s H C cl fp => sE el (o.o.blk hh scope s H C cl fp) g7) (n_set g3)
        · cases h2
      · cases h3
    · cases h
mutual
theorem sS : ∀ (s : S) {G : Ct} {ho : Bool} {X : Cx} {W : WX} {sc : Scope} {fn : Str → Bool} {st : Stmt}, OkS ho X W G k N sc fn → chkS N s ho sc fn st = true → MS X W st (wpS G s)
  | .set g e, G, ho, X, W, sc, fn, st, o, h => by
    unfold chkS at h
    split at h
    · rename_i t x ps hv
      obtain rfl := asg1_eq hv
      exact sSet_ok o h
    · cases h
  | .par [i, j] es, G, ho, X, W, sc, fn, st, o, h => by
    unfold chkS at h
    split at h
    · rename_i t x ps hv
      obtain rfl := asg1_eq hv
      simp only [Bool.and_eq_true] at h
      obtain ⟨⟨hh, h1⟩, h2⟩ := h
      split at h2
      · rename_i a b hx
        obtain ⟨k2, p2, rfl⟩ := vTup_eq hx
        unfold par2B at h1
        split at h1
        · rename_i n1 n2 vs ht hx2
          cases hx2
          obtain ⟨k1, p1, rfl⟩ := vTup_eq ht
          split at h1
          · rename_i a' b' ha hb
            obtain ⟨q1, rfl⟩ := vName_eq ha
            obtain ⟨q2, rfl⟩ := vName_eq hb
            simp only [Bool.and_eq_true, decide_eq_true_eq, Bool.not_eq_true', beq_iff_eq] at h1
            obtain ⟨⟨⟨⟨⟨⟨g1, g2⟩, g3⟩, g4⟩, g5⟩, g6⟩, g7⟩ := h1
            have hk : X.env.scope.kind = .function := by rw [o.o.sc]; exact o.kf
            have hsw := sw_names (ts := [.Name a' q1, .Name b' q2]) (vs := [a, b]) (env := X.env) (k1 := k1) (k2 := k2) (p1 := p1) (p2 := p2) hk (.inl g7)
            have e0 : swNames X.env.kindOf [.Name a' q1, .Name b' q2] [a, b] = some [a', b'] := by
              have : X.env.kindOf = fun x => sc.names.lookup x := by rw [← o.o.sc]; rfl
              rw [this]; exact g6
            rw [e0] at hsw
            exact ms_par2 (o.o.calm (no_ho hh)) o.o.nd (o.o.at (by simpa using g1)) (o.o.at (by simpa using g2)) g3 (o.o.look g4) (o.o.look g5) (sEs es o.o h2) hsw rfl
          · cases h1
        · cases h1
      · cases h2
    · cases h
  | .par [i, j, l] es, G, ho, X, W, sc, fn, st, o, h => by
    unfold chkS at h
    split at h
    · rename_i t x ps hv
      obtain rfl := asg1_eq hv
      simp only [Bool.and_eq_true] at h
      obtain ⟨⟨hh, h1⟩, h2⟩ := h
      split at h2
      · rename_i a b c hx
        obtain ⟨k2, p2, rfl⟩ := vTup_eq hx
        unfold par3B at h1
        split at h1
        · rename_i n1 n2 n3 vs ht hx2
          cases hx2
          obtain ⟨k1, p1, rfl⟩ := vTup_eq ht
          split at h1
          · rename_i a' b' c' ha hb hc
            obtain ⟨q1, rfl⟩ := vName_eq ha
            obtain ⟨q2, rfl⟩ := vName_eq hb
            obtain ⟨q3, rfl⟩ := vName_eq hc
            simp only [Bool.and_eq_true, decide_eq_true_eq, Bool.not_eq_true', beq_iff_eq] at h1
            obtain ⟨⟨⟨⟨⟨⟨⟨⟨⟨⟨g1, g2⟩, g3⟩, g4⟩, g5⟩, g6⟩, g7⟩, g8⟩, g9⟩, g10⟩, g11⟩ := h1
            have hk : X.env.scope.kind = .function := by rw [o.o.sc]; exact o.kf
            have hsw := sw_names (ts := [.Name a' q1, .Name b' q2, .Name c' q3]) (vs := [a, b, c]) (env := X.env) (k1 := k1) (k2 := k2) (p1 := p1) (p2 := p2) hk (.inl g11)
            have e0 : swNames X.env.kindOf [.Name a' q1, .Name b' q2, .Name c' q3] [a, b, c] = some [a', b', c'] := by
              have : X.env.kindOf = fun x => sc.names.lookup x := by rw [← o.o.sc]; rfl
              rw [this]; exact g10
            rw [e0] at hsw
            exact ms_par3 (o.o.calm (no_ho hh)) o.o.nd (o.o.at (by simpa using g1)) (o.o.at (by simpa using g2)) (o.o.at (by simpa using g3)) g4 g5 g6 (o.o.look g7) (o.o.look g8) (o.o.look g9) (sEs es o.o h2) hsw rfl
          · cases h1
        · cases h1
      · cases h2
    · cases h
  | .par [] es, G, ho, X, W, sc, fn, st, o, h => by unfold chkS at h; cases h
  | .par [_] es, G, ho, X, W, sc, fn, st, o, h => by unfold chkS at h; cases h
  | .par (_ :: _ :: _ :: _ :: _) es, G, ho, X, W, sc, fn, st, o, h => by unfold chkS at h; cases h
  | .ex e, G, ho, X, W, sc, fn, st, o, h => by
    unfold chkS at h
    split at h
    · simp only [Bool.and_eq_true] at h
      exact ms_ex (sE e o.o h.2) (n_swap h.1)
    · cases h
  | .ret e, G, ho, X, W, sc, fn, st, o, h => by
    unfold chkS at h
    split at h
    · exact ms_ret (sE e o.o h)
    · cases h
  | .retN, G, ho, X, W, sc, fn, st, o, h => by
    unfold chkS at h
    split at h
    · exact ms_retN
    · cases h
  | .iff t a b, G, ho, X, W, sc, fn, st, o, h => by
    unfold chkS at h
    split at h
    · simp only [Bool.and_eq_true] at h
      exact ms_iff (sT t o.o h.1.1) (sB a o h.1.2) (sB b o h.2)
    · cases h
  | .for_ t it b, G, ho, X, W, sc, fn, st, o, h => by
    unfold chkS at h
    split at h
    · simp only [Bool.and_eq_true] at h
      obtain ⟨⟨⟨⟨hh, h1⟩, h2⟩, h3⟩, h4⟩ := h
      exact ms_for (o.po (no_ho hh)) (o.o.calm (no_ho hh)) (sI it o.o h3) (sG t o.o h2) (sB b o h4) (n_set h1)
    · cases h
  | .whl t b, G, ho, X, W, sc, fn, st, o, h => by
    unfold chkS at h
    split at h
    · simp only [Bool.and_eq_true] at h
      exact ms_whl (o.po (no_ho h.1.1)) (sT t o.o h.1.2) (sB b o h.2)
    · cases h
  | .pass, G, ho, X, W, sc, fn, st, o, h => by
    unfold chkS at h
    split at h
    · exact ms_pass
    · cases h
  | .brk, G, ho, X, W, sc, fn, st, o, h => by
    unfold chkS at h
    split at h
    · exact ms_brk
    · cases h
  | .cont, G, ho, X, W, sc, fn, st, o, h => by
    unfold chkS at h
    split at h
    · exact ms_cont
    · cases h
  | .dead, G, ho, X, W, sc, fn, st, o, h => ms_dead
  | .raise_ c es, G, ho, X, W, sc, fn, st, o, h => by
    unfold chkS at h
    split at h
    · rename_i x ps
      split at h
      · rename_i y qs hv
        obtain ⟨q1, q2, rfl⟩ := vCall_eq hv
        simp only [Bool.and_eq_true, beq_iff_eq, Bool.not_eq_true'] at h
        obtain ⟨⟨⟨⟨hh, rfl⟩, h1⟩, h2⟩, h3⟩ := h
        obtain ⟨g1, g2⟩ := o.o.gl h1
        cases qs with
        | nil => cases h2
        | cons e r =>
          have hall := es_nstar es h3
          rw [List.all_cons, Bool.and_eq_true] at hall
          exact ms_raise (o.o.calm hh) o.o.tk (o.o.room hh) g1 g2 (sEs es o.o h3) o.o.xc (star_cons hall.1) (star_any hall.2)
      · cases h
    · cases h
  | .tryK i j c b u, G, ho, X, W, sc, fn, st, o, h => by
    unfold chkS at h
    split at h
    · rename_i body x n suite p1 p2
      simp only [Bool.and_eq_true, Bool.not_eq_true', beq_iff_eq] at h
      obtain ⟨⟨⟨⟨⟨hh, h1⟩, h2⟩, h3⟩, h4⟩, hk, h5⟩ := h
      subst hh
      split at h1
      · rename_i y hy
        obtain ⟨q1, rfl⟩ := vName_eq hy
        simp only [Bool.and_eq_true, beq_iff_eq] at h1
        obtain ⟨rfl, h6⟩ := h1
        obtain ⟨g1, g2⟩ := o.o.gl h6
        have hb : ∀ (W : WX) (pn : List (Addr × Obj)) (xe : Value → Shared → Prop), Takes (X.tr pn xe) W → PassesOwn (model X.prog X.w) X.A X.env xe → PSs (X.tr pn xe) body (liftS X.K X.mg W (wpB G b)) := fun W pn xe tk pw =>
          sB b (X := X.tr pn xe) (ho := false) { o := { N := o.o.N, sc := o.o.sc, fn := o.o.fn, calm := o.o.calm, nd := o.o.nd, room := o.o.room, un := o.o.un, gd := o.o.gd, tk := tk, df := fun f n c z => ⟨(o.o.df f n c z).ok⟩, gc := o.o.gc, bi := o.o.bi, br := o.o.br, bz := o.o.bz, bn := o.o.bn, xc := o.o.xc, xi := o.o.xi, cx := fun a c dd e => (by rw [o.o.nocx rfl] at e; cases e), nocx := o.o.nocx, lam := fun x z => ⟨(o.o.lam x z).ok, (o.o.lam x z).q⟩ }, po := fun _ => pw, kf := o.kf, stk := o.stk, frm := o.frm } h3
        have hs : ∀ (a : Addr) (oe : Obj) (pn : List (Addr × Obj)) (G' : Ct), (∀ e c dd, G'.cx = some (e, c, dd) → CxF (X.suite a ((a, oe) :: pn)) e c dd) → G'.fn = G.fn → G'.gc = G.gc → G'.xc = G.xc → G'.xi = G.xi → G'.lam = G.lam → PSs (X.suite a ((a, oe) :: pn)) suite (liftS X.K X.mg W0 (wpB G' u)) := fun a oe pn G' hcx e1 e2 e3 e4 e5 =>
          sB u (X := X.suite a ((a, oe) :: pn)) (ho := true) { o := { N := o.o.N, sc := o.o.sc, fn := o.o.fn, calm := fun z => (by cases z), nd := o.o.nd, room := fun z => (by cases z), un := o.o.un, gd := o.o.gd, tk := takes0, df := fun f n c z => ⟨(o.o.df f n c (by rw [← e1]; exact z)).ok⟩, gc := fun x c z => o.o.gc x c (by rw [← e2]; exact z), bi := o.o.bi, br := o.o.br, bz := o.o.bz, bn := o.o.bn, xc := fun c fs z => o.o.xc c fs (by rw [← e3]; exact z), xi := fun c y b z => o.o.xi c y b (by rw [← e4]; exact z), cx := hcx, nocx := fun z => (by cases z), lam := fun x z => ⟨(o.o.lam x (by rw [← e5]; exact z)).ok, (o.o.lam x (by rw [← e5]; exact z)).q⟩ }, po := fun z => (by cases z), kf := o.kf, stk := fun z => (by cases z), frm := fun z => (by cases z) } h4
        cases suite with
        | nil => cases h2
        | cons b0 suite =>
          exact ms_tryK (wb := wpB G b) (wu := fun t => wpB { G with cx := t } u) (o.stk rfl) (o.frm rfl) o.o.nd (by rw [o.o.N]; exact h5.1) (o.o.look h5.2) g1 g2 o.o.tk o.o.xi (fun t R s h d e q => keepU_wp hk e q) hb fun a dd oe C x pn hz hf hm =>
            hs a oe pn _ (fun e c d2 z => by
              have z2 : some (a, x, dd) = some (e, c, d2) := z
              cases z2
              exact ⟨X, oe, pn, C, rfl, hm, hz, hf⟩) rfl rfl rfl rfl rfl
      · cases h1
    · cases h
  | .tryX nm c b u, G, ho, X, W, sc, fn, st, o, h => by
    unfold chkS at h
    split at h
    · rename_i body x hn suite p1 p2
      simp only [Bool.and_eq_true, Bool.not_eq_true'] at h
      obtain ⟨⟨⟨⟨⟨hh, h1⟩, h2⟩, h3⟩, h4⟩, h5⟩ := h
      subst hh
      split at h1
      · rename_i y hy
        obtain ⟨q1, rfl⟩ := vName_eq hy
        simp only [Bool.and_eq_true, beq_iff_eq] at h1
        obtain ⟨rfl, h6⟩ := h1
        obtain ⟨g1, g2⟩ := o.o.gl h6
        have hb : ∀ (W : WX) (pn : List (Addr × Obj)) (xe : Value → Shared → Prop), Takes (X.tr pn xe) W → PassesOwn (model X.prog X.w) X.A X.env xe → PSs (X.tr pn xe) body (liftS X.K X.mg W (wpB G b)) := fun W pn xe tk pw =>
          sB b (X := X.tr pn xe) (ho := false) { o := { N := o.o.N, sc := o.o.sc, fn := o.o.fn, calm := o.o.calm, nd := o.o.nd, room := o.o.room, un := o.o.un, gd := o.o.gd, tk := tk, df := fun f n c z => ⟨(o.o.df f n c z).ok⟩, gc := o.o.gc, bi := o.o.bi, br := o.o.br, bz := o.o.bz, bn := o.o.bn, xc := o.o.xc, xi := o.o.xi, cx := fun a c dd e => (by rw [o.o.nocx rfl] at e; cases e), nocx := o.o.nocx, lam := fun x z => ⟨(o.o.lam x z).ok, (o.o.lam x z).q⟩ }, po := fun _ => pw, kf := o.kf, stk := o.stk, frm := o.frm } h3
        have hs : ∀ (a : Addr) (oe : Obj) (pn : List (Addr × Obj)) (G' : Ct), (∀ e c dd, G'.cx = some (e, c, dd) → CxF (X.suite a ((a, oe) :: pn)) e c dd) → G'.fn = G.fn → G'.gc = G.gc → G'.xc = G.xc → G'.xi = G.xi → G'.lam = G.lam → PSs (X.suite a ((a, oe) :: pn)) suite (liftS X.K X.mg W0 (wpB G' u)) := fun a oe pn G' hcx e1 e2 e3 e4 e5 =>
          sB u (X := X.suite a ((a, oe) :: pn)) (ho := true) { o := { N := o.o.N, sc := o.o.sc, fn := o.o.fn, calm := fun z => (by cases z), nd := o.o.nd, room := fun z => (by cases z), un := o.o.un, gd := o.o.gd, tk := takes0, df := fun f n c z => ⟨(o.o.df f n c (by rw [← e1]; exact z)).ok⟩, gc := fun x c z => o.o.gc x c (by rw [← e2]; exact z), bi := o.o.bi, br := o.o.br, bz := o.o.bz, bn := o.o.bn, xc := fun c fs z => o.o.xc c fs (by rw [← e3]; exact z), xi := fun c y b z => o.o.xi c y b (by rw [← e4]; exact z), cx := hcx, nocx := fun z => (by cases z), lam := fun x z => ⟨(o.o.lam x (by rw [← e5]; exact z)).ok, (o.o.lam x (by rw [← e5]; exact z)).q⟩ }, po := fun z => (by cases z), kf := o.kf, stk := fun z => (by cases z), frm := fun z => (by cases z) } h4
        cases suite with
        | nil => cases h2
        | cons b0 suite =>
          split at h5
          · rename_i i n
            simp only [Bool.and_eq_true, beq_iff_eq] at h5
            exact ms_try (wb := wpB G b) (wu := fun t => wpB { G with cx := t } u) (o.stk rfl) (o.frm rfl) o.o.nd (by rw [o.o.N]; exact h5.1) (o.o.look h5.2) g1 g2 o.o.tk o.o.xi hb fun a dd oe C x pn hz hf hm =>
              hs a oe pn _ (fun e c d2 z => by
                have z2 : some (a, x, dd) = some (e, c, d2) := z
                cases z2
                exact ⟨X, oe, pn, C, rfl, hm, hz, hf⟩) rfl rfl rfl rfl rfl
          · exact ms_tryN (wb := wpB G b) (wu := wpB G u) (o.stk rfl) (o.frm rfl) g1 g2 o.o.tk o.o.xi hb fun a oe pn => hs a oe pn G (fun e c dd z => by rw [o.o.nocx rfl] at z; cases z) rfl rfl rfl rfl rfl
          · cases h5
      · cases h1
    · cases h
theorem sB : ∀ (b : Ss) {G : Ct} {ho : Bool} {X : Cx} {W : WX} {sc : Scope} {fn : Str → Bool} {st : List Stmt}, OkS ho X W G k N sc fn → chkB N b ho sc fn st = true → MB X W st (wpB G b)
  | .nil, G, ho, X, W, sc, fn, st, o, h => by
    unfold chkB at h
    cases st with
    | nil => exact mb_nil
    | cons a b => cases h
  | .cons s ss, G, ho, X, W, sc, fn, st, o, h => by
    unfold chkB at h
    cases st with
    | nil => cases h
    | cons a b =>
      simp only [Bool.and_eq_true] at h
      exact mb_cons (wx := wpS G s) (wy := wpB G ss) (sS s o h.1) (sB ss o h.2)
end
/-! a def of the text keeps its promise -/
/-- the written part's facts that a def's body leans on -/
structure Facts (P : Program) (w : World) (K : PySem.W.Frag) (mg : Str → Option Value) (base : Heap) (G : Ct) (k : Nat) : Prop where
  df : ∀ f n c, G.fn f = some (n, c) → ∃ (a : Addr) (fd : FuncData) (ps : List Str), mg f = some (.ref a) ∧ PySem.W.keepIn K (.ref a) = true ∧ Binds K fd ps [] ∧ FnG P w K mg base k a fd ps (spOf K mg n c)
  gc : ∀ x c, G.gc x = some c → ∃ u v, mg x = some u ∧ RelV v u ∧ ∀ H, Rep K H c v
  bi : ∀ b : Bi, mg b.nm = none
  br : mg "range" = none
  bz : mg "zip" = none
  bn : ∀ x, x ∈ moreN → mg x = none
  xc : ∀ c fs, G.xc c = some fs → XcF P w K mg base k c fs
  xi : ∀ c y b, G.xi c y = some b → XiF K mg c y b
  cx : G.cx = none
  lm : G.lam = none
/-- the tree's part of a def: names, parameters, the body -/
def chkD (N ps : List Str) (st : Stmt) (b : Ss) : Bool :=
  (match (defScope st).kind with | .function => true | _ => false) && !(defScope st).isCoroutine && !(defScope st).isGenerator && decide N.Nodup && decide (N.take ps.length = ps) &&
  ps.all (fun x => kindB (defScope st) x .local || kindB (defScope st) x .cell) && (defScope st).names.all (fun y => match y.2 with | .free => false | _ => true) && chkB N b false (defScope st) (fun _ => true) (defBody st)
theorem scope_of {N ps : List Str} {st : Stmt} {b : Ss} (h : chkD N ps st b = true) : FnScope N ps (defScope st) ∧ chkB N b false (defScope st) (fun _ => true) (defBody st) = true := by
  simp only [chkD, Bool.and_eq_true, decide_eq_true_eq, Bool.not_eq_true'] at h
  obtain ⟨⟨⟨⟨⟨⟨⟨h1, h2⟩, h3⟩, h4⟩, h5⟩, h6⟩, h7⟩, h8⟩ := h
  refine ⟨⟨?_, h2, h3, h4, h5, fun x hx => ?_, fun y hy e => ?_⟩, h8⟩
  · split at h1
    · assumption
    · cases h1
  · have := List.all_eq_true.mp h6 x hx
    simp only [kindB, Bool.or_eq_true, beq_iff_eq] at this
    exact this
  · have := List.all_eq_true.mp h7 y hy
    rw [e] at this
    cases this
theorem start_rep {K : PySem.W.Frag} {H : Hp} {N : List Str} {ds : List D} {vs : List V} (r : Reps K H ds vs) : SRep K H (ds.map some ++ List.replicate (N.length - ds.length) none) (L2.start N vs) := by
  have hl := r.length
  unfold L2.start
  refine ⟨by simp [hl], fun i d e => ?_⟩
  by_cases hi : i < ds.length
  · rw [List.getElem?_append_left (by simpa using hi), List.getElem?_map] at e
    cases g : ds[i]? with
    | none => rw [g] at e; cases e
    | some d' =>
      rw [g] at e
      have : d' = d := by simpa using e
      subst this
      obtain ⟨x, gx, rx⟩ := r.get g
      refine ⟨x, ?_, rx⟩
      rw [List.getElem?_append_left (by rw [List.length_map, hl]; exact hi), List.getElem?_map, gx]; rfl
  · rw [List.getElem?_append_right (by simpa using hi), List.getElem?_replicate] at e
    split at e <;> cases e
theorem fn_meetsX (lm : Option Str) {P : Program} {w : World} {K : PySem.W.Frag} {mg : Str → Option Value} {base : Heap} {k : Nat} {x qual : Str} {st : Stmt} {f : Addr} {fd : FuncData} {N ps : List Str} {b : Ss} {c : ASp}
    (Fa : Facts P w K mg base G k) (F : Fun K x qual st f fd) (hc : chkD N ps st b = true) (hm : Meets { G with lam := lm } N.length b ps.length c) (hL : ∀ x, lm = some x → qual = x ∧ ∃ c P, fd.code = .ref c ∧ PySem.W.tabIn K x = some (c, P) ∧ LamX.TabB base mg c P) : FnG P w K mg base (k + 1) f fd ps (spOf K mg ps.length c) := by
  obtain ⟨S, hb⟩ := scope_of hc
  refine fun_okG F S (fun vs H Q E ⟨ds, h, Qd, Ed, r, _, hl, _⟩ => by rw [r.length, hl]) fun cdv A outer s H vs Q E hcode hg hr hsp => ?_
  obtain ⟨ds, h, Qd, Ed, r, rh, hl, hsp, lk, lx⟩ := hsp
  let W : WX := fun cls d _ H' => E cls d H'
  have o : OkS false (cxOf (L2.CX P w) P w K mg base N qual (defScope st) f cdv A outer s H E) W { G with lam := lm } k N (defScope st) (fun _ => true) :=
    { o := { N := rfl, sc := rfl, fn := fun _ _ => rfl, calm := fun _ => rfl, nd := S.nd, room := fun _ => hr, un := (by have := hr.un; show (A.deeper (envOfC qual (defScope st) s.heap.objs.size f cdv)).units + 70 < cLine; omega), gd := hg, tk := takes_of rfl rfl rfl rfl, df := fun f n c z => ⟨Fa.df f n c z⟩, gc := Fa.gc, bi := Fa.bi, br := Fa.br, bz := Fa.bz, bn := Fa.bn, xc := Fa.xc, xi := Fa.xi, cx := fun a c dd e => (by rw [Fa.cx] at e; cases e), nocx := fun _ => Fa.cx, lam := fun x z => (by
        obtain ⟨rfl, c0, P0, e1, e2, e3⟩ := hL x z
        exact ⟨⟨c0, P0, hcode.symm.trans e1, e2, e3⟩, rfl⟩) }
      po := fun _ => passes_of rfl
      kf := S.kind
      stk := fun _ => rfl
      frm := fun _ => rfl }
  refine ⟨liftS K mg W (wpB { G with lam := lm } b), sB b o hb, ?_⟩
  refine ⟨_, h, _, start_rep r, rh, hm ds h Qd Ed hl hsp, ?_, ?_, ?_, ?_, ?_⟩
  · rintro xn s' h' cls d σ' H' ⟨h2, z1, z2⟩ q1 q2 q3 q4
    exact lx xn h2 cls d H' z2 q1 (q3.sub z1) (q4.sub z1)
  · rintro dv h' v H' ⟨h2, z1, z2⟩ q1 q3 q4
    exact lk dv h2 v H' z2 q1 (q3.sub z1) (q4.sub z1)
  · rintro s' h' σ' H' ⟨h2, z1, z2⟩ q1 q3 q4
    exact lk .non h2 .non H' z2 rfl (q3.sub z1) (q4.sub z1)
  · exact fun _ _ _ _ z => z.elim
  · exact fun _ _ _ _ z => z.elim
theorem fn_meets {P : Program} {w : World} {K : PySem.W.Frag} {mg : Str → Option Value} {base : Heap} {k : Nat} {x qual : Str} {st : Stmt} {f : Addr} {fd : FuncData} {N ps : List Str} {b : Ss} {c : ASp}
    (Fa : Facts P w K mg base G k) (F : Fun K x qual st f fd) (hc : chkD N ps st b = true) (hm : Meets G N.length b ps.length c) : FnG P w K mg base (k + 1) f fd ps (spOf K mg ps.length c) :=
  fn_meetsX none Fa F hc (by rw [show ({ G with lam := none } : Ct) = G by rw [← Fa.lm]]; exact hm) fun x z => by cases z
end
end MP
/-! MP14: how a def's promise is shown: steps, rows for simp. -/
namespace MP
open PySem PySem.Spec PyProof.Rows L2
theorem wpB_cons {G : Ct} {a : S} {b : Ss} {R : SD} {s : AS} {h : AH} (q : wpS G a { R with nx := fun s1 h1 => wpB G b R s1 h1 } s h) : wpB G (.cons a b) R s h := q
theorem wpB_nil {G : Ct} {R : SD} {s : AS} {h : AH} (q : R.nx s h) : wpB G .nil R s h := q
theorem atI_0 {α : Type} {a : α} {l : List α} : atI (a :: l) 0 = some a := atI_nat (j := 0) rfl
theorem atI_1 {α : Type} {a b : α} {l : List α} : atI (a :: b :: l) 1 = some b := atI_nat (j := 1) rfl
theorem atI_2 {α : Type} {a b c : α} {l : List α} : atI (a :: b :: c :: l) 2 = some c := atI_nat (j := 2) rfl
theorem atI_3 {α : Type} {a b c d : α} {l : List α} : atI (a :: b :: c :: d :: l) 3 = some d := atI_nat (j := 3) rfl
theorem ixN_lit {n k : Nat} (h : k < n) : ixN n (k : Int) = some k := by
  unfold ixN
  rw [if_pos (by omega), if_pos (by omega)]; rfl
theorem atI_in {α : Type} {l : List α} {i : Int} (h0 : 0 ≤ i) (h1 : i < l.length) : atI l i = some (l[i.toNat]'(by omega)) := by
  have e : i = ((i.toNat : Nat) : Int) := by omega
  have hi : i.toNat < l.length := by omega
  conv => lhs; rw [e]
  exact atI_nat (List.getElem?_eq_getElem hi)
/-- only a is otherwise -/
def But (a : Addr) (h h' : AH) : Prop := ∀ b, b ≠ a → h' b = h b
theorem But.refl {a : Addr} {h : AH} : But a h h := fun _ _ => rfl
theorem But.trans {a : Addr} {h h1 h2 : AH} (x : But a h h1) (y : But a h1 h2) : But a h h2 := fun b n => (y b n).trans (x b n)
theorem But.put {a : Addr} {h : AH} {o : AO} : But a h (aput h a o) := fun b n => aput_ne n
/-- a may be otherwise, more may stand there -/
def Grow (a : Addr) (h h' : AH) : Prop := ∀ b u, b ≠ a → h b = some u → h' b = some u
theorem Grow.trans {a : Addr} {h h1 h2 : AH} (x : Grow a h h1) (y : Grow a h1 h2) : Grow a h h2 := fun b u n e => y b u n (x b u n e)
theorem Grow.put {a : Addr} {h : AH} {o : AO} : Grow a h (aput h a o) := fun b u n e => by rw [aput_ne n]; exact e
theorem Grow.new {a p : Addr} {h : AH} {o : AO} (np : h p = none) : Grow a h (aput h p o) := fun b u n e => by
  rw [aput_ne (fun z => by rw [z, np] at e; cases e)]; exact e
theorem Grow.sub {a : Addr} {h h' : AH} {o : AO} (x : Grow a h h') (e : h' a = some o) : Sub (aput h a o) h' := fun b u q => by
  by_cases hb : b = a
  · subst hb; rw [aput_same] at q; rw [← q]; exact e
  · rw [aput_ne hb] at q; exact x b u hb q
theorem aput_aput {h : AH} {a : Addr} {o u : AO} : aput (aput h a o) a u = aput h a u := by
  funext b; unfold aput; split <;> rfl
theorem ne_none {h : AH} {a b : Addr} {o : AO} (x : h a = some o) (y : h b = none) : a ≠ b := fun e => by rw [e, y] at x; cases x
theorem sub_but {a : Addr} {h : AH} {o : AO} (n : h a = none) : Sub h (aput h a o) := fun b u e => by
  rw [aput_ne (ne_none e n)]; exact e
theorem small_line {n : Nat} : (n + 1 ≤ sizeLine) = (n + 1 ≤ 16777216) := by rw [sizeLine_eq]
theorem sIx_lit {n d : Nat} {k : Int} (h : 0 ≤ k) : HT.sIx n d (some k) = min k.toNat n := by
  have e : k = ((k.toNat : Nat) : Int) := by omega
  conv => lhs; rw [e]
  exact HT.sIx_nat n d k.toNat
/-! the rows for simp -/
section
variable {h : AH} {Q : AK} {i j : Int} {ds es : List D} {a b : Addr} {x y : Str} {p q : Bool} {d e : D}
theorem add_ii : addD (.int i) (.int j) h Q = Q (.int (i + j)) h := rfl
theorem add_ss : addD (.str x) (.str y) h Q = (x.length + y.length ≤ sizeLine ∧ Q (.str (x ++ y)) h) := rfl
theorem add_tt : addD (.tup ds) (.tup es) h Q = (ds.length + es.length ≤ sizeLine ∧ Q (.tup (ds ++ es)) h) := rfl
theorem add_rr : addD (.ref a) (.ref b) h Q = (∃ xs, h a = some (.lst xs) ∧ ∃ ys, h b = some (.lst ys) ∧ xs.length + ys.length ≤ sizeLine ∧ ∀ p, h p = none → Q (.ref p) (aput h p (.lst (xs ++ ys)))) := rfl
theorem sub_ii : subD (.int i) (.int j) h Q = Q (.int (i - j)) h := rfl
theorem mul_ii : mulD (.int i) (.int j) h Q = (mulOk i j ∧ Q (.int (i * j)) h) := rfl
theorem mul_ri : mulD (.ref a) (.int i) h Q = (∃ xs, h a = some (.lst xs) ∧ -(2 ^ 63) ≤ i ∧ i < 2 ^ 63 ∧ xs.length * i.toNat ≤ sizeLine ∧ ∀ p, h p = none → Q (.ref p) (aput h p (.lst (List.replicate i.toNat xs).flatten))) := rfl
theorem fdn_ii : fdnD (.int i) (.int j) h Q = (j ≠ 0 ∧ j.natAbs.log2 < 9000 ∧ Q (.int (i.fdiv j)) h) := rfl
theorem fdiv_ii : fdivD (.int i) (.int j) h Q = (0 < j ∧ j.natAbs.log2 < 9000 ∧ Q (.int (i / j)) h) := rfl
theorem mod_ii : modD (.int i) (.int j) h Q = (0 < j ∧ Q (.int (i % j)) h) := rfl
theorem pow_ii : powD (.int i) (.int j) h Q = (0 ≤ j ∧ j ≤ 1000000 ∧ i.natAbs < 2 ^ 64 ∧ Q (.int (i ^ j.toNat)) h) := rfl
theorem shl_ii : shlD (.int i) (.int j) h Q = (0 ≤ j ∧ j ≤ 1000000 ∧ i.natAbs < 2 ^ 64 ∧ Q (.int (i * 2 ^ j.toNat)) h) := rfl
theorem shr_ii : shrD (.int i) (.int j) h Q = (0 ≤ j ∧ Q (.int (i / 2 ^ j.toNat)) h) := rfl
theorem band_ii : bandD (.int i) (.int j) h Q = Q (.int (Builtin.bitAnd i j)) h := rfl
theorem eq_ii : eqD false (.int i) (.int j) h Q = Q (.bl (decide (i = j))) h := by show Q (.bl (false != decide (i = j))) h = _; rw [neg_f]
theorem ne_ii : eqD true (.int i) (.int j) h Q = Q (.bl (!decide (i = j))) h := by show Q (.bl (true != decide (i = j))) h = _; rw [neg_t]
theorem eq_ss : eqD false (.str x) (.str y) h Q = Q (.bl (decide (x = y))) h := by show Q (.bl (false != decide (x = y))) h = _; rw [neg_f]
theorem ne_ss : eqD true (.str x) (.str y) h Q = Q (.bl (!decide (x = y))) h := by show Q (.bl (true != decide (x = y))) h = _; rw [neg_t]
theorem lt_ii {f : Int → Int → Bool} : ltD f (.int i) (.int j) h Q = Q (.bl (f i j)) h := rfl
theorem is_n : isD false d .non h Q = Q (.bl (dNon d)) h := by show Q (.bl (false != dNon d)) h = _; rw [neg_f]
theorem nis_n : isD true d .non h Q = Q (.bl (!dNon d)) h := by show Q (.bl (true != dNon d)) h = _; rw [neg_t]
theorem dn_i : dNon (.int i) = false := rfl
theorem dn_n : dNon .non = true := rfl
theorem dn_t : dNon (.tup ds) = false := rfl
theorem dn_b : dNon (.bl p) = false := rfl
theorem dn_s : dNon (.str x) = false := rfl
theorem dn_r : dNon (.ref a) = false := rfl
theorem ix_ti : ixD (.tup ds) (.int i) h Q = (∃ d, atI ds i = some d ∧ Q d h) := rfl
theorem ix_ci : ixD (.cl ds) (.int i) h Q = (∃ d, atI ds i = some d ∧ Q d h) := rfl
theorem ix_pi : ixD (.pr ds) (.int i) h Q = (∃ d, atI ds i = some d ∧ Q d h) := rfl
theorem ix_ri : ixD (.ref a) (.int i) h Q = ((∃ ds, h a = some (.lst ds) ∧ ∃ d, atI ds i = some d ∧ Q d h) ∨ ∃ kvs, h a = some (.dct kvs) ∧ ∃ d, getK kvs (.inl i) = some d ∧ Q d h) := rfl
theorem ix_rs : ixD (.ref a) (.str x) h Q = (∃ kvs, h a = some (.dct kvs) ∧ ∃ d, getK kvs (.inr x) = some d ∧ Q d h) := rfl
theorem set_ri {P : AH → Prop} : setSub (.ref a) (.int i) d h P = ((∃ ds, h a = some (.lst ds) ∧ ∃ j, ixN ds.length i = some j ∧ P (aput h a (.lst (ds.set j d)))) ∨
    ∃ kvs, h a = some (.dct kvs) ∧ kvs.length < sizeLine ∧ P (aput h a (.dct (setK kvs (.inl i) d)))) := rfl
theorem set_rs {P : AH → Prop} : setSub (.ref a) (.str x) d h P = (∃ kvs, h a = some (.dct kvs) ∧ kvs.length < sizeLine ∧ P (aput h a (.dct (setK kvs (.inr x) d)))) := rfl
theorem ixN_0 {n : Nat} : ixN (n + 1) 0 = some 0 := ixN_lit (k := 0) (by omega)
theorem ixN_1 {n : Nat} : ixN (n + 1 + 1) 1 = some 1 := ixN_lit (k := 1) (by omega)
theorem ixN_2 {n : Nat} : ixN (n + 1 + 1 + 1) 2 = some 2 := ixN_lit (k := 2) (by omega)
theorem ixN_3 {n : Nat} : ixN (n + 1 + 1 + 1 + 1) 3 = some 3 := ixN_lit (k := 3) (by omega)
theorem len_t : lenD [.tup ds] h Q = Q (.int ds.length) h := rfl
theorem len_r : lenD [.ref a] h Q = ((∃ ds, h a = some (.lst ds) ∧ Q (.int ds.length) h) ∨ ∃ kvs, h a = some (.dct kvs) ∧ Q (.int kvs.length) h) := rfl
theorem len_c : lenD [.cl ds] h Q = Q (.int ds.length) h := rfl
theorem abs_i : absD [.int i] h Q = Q (.int i.natAbs) h := rfl
theorem max_ii : maxD [.int i, .int j] h Q = Q (.int (max i j)) h := rfl
theorem min_ii : minD [.int i, .int j] h Q = Q (.int (min i j)) h := rfl
theorem tup_r : tupleD [.ref a] h Q = (∃ ds, h a = some (.lst ds) ∧ Q (.tup ds) h) := rfl
theorem tup_t : tupleD [.tup ds] h Q = Q (.tup ds) h := rfl
theorem lst_r : listD [.ref a] h Q = (∃ ds, h a = some (.lst ds) ∧ ∀ p, h p = none → Q (.ref p) (aput h p (.lst ds))) := rfl
theorem lst_t : listD [.tup ds] h Q = (∀ p, h p = none → Q (.ref p) (aput h p (.lst ds))) := rfl
theorem lst_c : listD [.cl ds] h Q = (∀ p, h p = none → Q (.ref p) (aput h p (.lst ds))) := rfl
theorem int_i : intD [.int i] h Q = Q (.int i) h := rfl
theorem int_b : intD [.bl p] h Q = Q (.int (if p then 1 else 0)) h := rfl
theorem app_r : appendD (.ref a) [d] h Q = (∃ ds, h a = some (.lst ds) ∧ ds.length < sizeLine ∧ Q .non (aput h a (.lst (ds ++ [d])))) := rfl
theorem isl_r : isLst (.ref a) h = (∃ ds, h a = some (.lst ds)) := by
  apply propext
  constructor
  · rintro ⟨b, ds, e, l⟩; cases e; exact ⟨ds, l⟩
  · rintro ⟨ds, l⟩; exact ⟨a, ds, rfl, l⟩
theorem rcv_r {m : Mt} : rcvD m (.ref a) h = (∃ ds, h a = some (.lst ds)) := by
  have e : rcvD m (.ref a) h = isLst (.ref a) h := by cases m <;> rfl
  rw [e, isl_r]
theorem rcv_t : rcvD .index (.tup ds) h = True := rfl
theorem ex_some {u : AO} : (∃ ds, some (AO.lst es) = some (AO.lst ds)) = True := by simp
theorem tru_b {k : Bool → Prop} : truD (.bl p) h k = k p := rfl
theorem tru_i {k : Bool → Prop} : truD (.int i) h k = k (i != 0) := rfl
theorem tru_t {k : Bool → Prop} : truD (.tup ds) h k = k (!ds.isEmpty) := rfl
theorem tru_r {k : Bool → Prop} : truD (.ref a) h k = (∃ ds, h a = some (.lst ds) ∧ k (!ds.isEmpty)) := rfl
theorem tru_n {k : Bool → Prop} : truD .non h k = k false := rfl
theorem ty_n {R : TK → Prop} : tyD .non h R = R .non := rfl
theorem ty_b {R : TK → Prop} : tyD (.bl p) h R = R .bl := rfl
theorem ty_i {R : TK → Prop} : tyD (.int i) h R = R .int := rfl
theorem ty_s {R : TK → Prop} : tyD (.str x) h R = R .str := rfl
theorem ty_t {R : TK → Prop} : tyD (.tup ds) h R = R .tup := rfl
theorem ty_c {R : TK → Prop} : tyD (.cl ds) h R = R .lst := rfl
theorem ty_r {R : TK → Prop} : tyD (.ref a) h R = ((∃ ds, h a = some (.lst ds) ∧ R .lst) ∨ ∃ kvs, h a = some (.dct kvs) ∧ R .dct) := rfl
theorem max_t : maxD [.tup ds] h Q = maxOf ds h Q := rfl
theorem min_t : minD [.tup ds] h Q = minOf ds h Q := rfl
theorem sum_t : sumD [.tup ds] h Q = (∃ ns : List Int, ds = ns.map D.int ∧ Q (.int ns.sum) h) := rfl
theorem sum_r : sumD [.ref a] h Q = (∃ ns : List Int, h a = some (.lst (ns.map D.int)) ∧ Q (.int ns.sum) h) := rfl
theorem pop_ri : popAtD (.ref a) [.int i] h Q = (∃ ds, h a = some (.lst ds) ∧ -(2 ^ 63) ≤ i ∧ i < 2 ^ 63 ∧ ∃ k, seqIndex? i ds.length = some k ∧ ∃ d, ds[k]? = some d ∧ Q d (aput h a (.lst (ds.eraseIdx k)))) := rfl
theorem pop_r0 : popD (.ref a) [] h Q = (∃ ds, h a = some (.lst ds) ∧ ∃ d, ds[ds.length - 1]? = some d ∧ Q d (aput h a (.lst ds.dropLast))) := rfl
theorem ext_rr : extendD (.ref a) [.ref b] h Q = (∃ ds, h a = some (.lst ds) ∧ ∃ es, h b = some (.lst es) ∧ ds.length + es.length ≤ sizeLine ∧ Q .non (aput h a (.lst (ds ++ es)))) := rfl
theorem ext_rt : extendD (.ref a) [.tup es] h Q = (∃ ds, h a = some (.lst ds) ∧ ds.length + es.length ≤ sizeLine ∧ Q .non (aput h a (.lst (ds ++ es)))) := rfl
theorem ins_ri : insertD (.ref a) [.int i, d] h Q = (∃ ds, h a = some (.lst ds) ∧ ds.length < sizeLine ∧ 0 ≤ i ∧ i < 2 ^ 63 ∧ Q .non (aput h a (.lst (ds.take i.toNat ++ [d] ++ ds.drop i.toNat)))) := rfl
theorem rev_r0 : reverseD (.ref a) [] h Q = (∃ ds, h a = some (.lst ds) ∧ Q .non (aput h a (.lst ds.reverse))) := rfl
theorem sorted_ints {ns : List Int} (e : h a = some (.lst (ns.map D.int))) (q : ∀ p, h p = none → Q (.ref p) (aput h p (.lst ((sortI ns).map D.int)))) : sortedD [.ref a] h Q := Or.inl ⟨ns, e, q⟩
theorem sorted_intsT {ns : List Int} (q : ∀ p, h p = none → Q (.ref p) (aput h p (.lst ((sortI ns).map D.int)))) : sortedD [.tup (ns.map D.int)] h Q := Or.inl ⟨ns, rfl, q⟩
theorem sorted_pairsTD {ps : List (Int × Int)} (q : ∀ p, h p = none → Q (.ref p) (aput h p (.lst ((sortP ps).map pairD)))) : sortedD [.tup (ps.map pairD)] h Q := Or.inr ⟨ps, rfl, q⟩
theorem sorted_pairs {ps : List (Int × Int)} (e : h a = some (.lst (ps.map pairD))) (q : ∀ p, h p = none → Q (.ref p) (aput h p (.lst ((sortP ps).map pairD)))) : sortedD [.ref a] h Q := Or.inr (Or.inr (Or.inl ⟨ps, e, q⟩))
theorem sorted_tups {nss : List (List Int)} {n : Nat} (e : h a = some (.lst (nss.map tupI))) (hn : 1 ≤ n) (hl : ∀ ns, ns ∈ nss → ns.length = n) (q : ∀ p, h p = none → Q (.ref p) (aput h p (.lst ((sortL nss).map tupI)))) : sortedD [.ref a] h Q := Or.inr (Or.inr (Or.inr ⟨nss, n, e, hn, hl, q⟩))
theorem rem_ints {k : Int} {ns : List Int} {j : Nat} (e : h a = some (.lst (ns.map D.int))) (g : ns[j]? = some k) (f : ∀ m : Nat, m < j → ns[m]? ≠ some k) (q : Q .non (aput h a (.lst ((ns.eraseIdx j).map D.int)))) : removeD (.ref a) [.int k] h Q := ⟨ns, j, e, g, f, q⟩
theorem all_bls {bs : List Bool} (e : h a = some (.lst (bs.map D.bl))) (q : Q (.bl (bs.all id)) h) : allD [.ref a] h Q := ⟨bs, e, q⟩
theorem any_bls {bs : List Bool} (e : h a = some (.lst (bs.map D.bl))) (q : Q (.bl (bs.any id)) h) : anyD [.ref a] h Q := ⟨bs, e, q⟩
theorem tru_s {k : Bool → Prop} : truD (.str x) h k = (x.length ≤ sizeLine ∧ k ((x.length : Int) != 0)) := rfl
variable {P : List D → AH → (AH → Prop) → Prop}
theorem sq_t {tm : Bool} : seqI tm (.tup ds) h P = P ds h fun _ => True := by cases tm <;> rfl
theorem sq_c {tm : Bool} : seqI tm (.cl ds) h P = P ds h fun _ => True := by cases tm <;> rfl
theorem sq_r : seqI true (.ref a) h P = (∃ ds, h a = some (.lst ds) ∧ P ds (adel h a) fun _ => True) := rfl
theorem sq_f : seqI false (.ref a) h P = (∃ ds, h a = some (.lst ds) ∧ P ds h fun h2 => h2 a = some (.lst ds)) := rfl
theorem en_t {tm : Bool} : enumI tm (.tup ds) h P = P (enumD 0 ds) h fun _ => True := rfl
theorem en_r {tm : Bool} : enumI tm (.ref a) h P = seqI tm (.ref a) h fun ds h2 g => P (enumD 0 ds) h2 g := rfl
theorem zp_t {ta tb : Bool} : zipI ta tb (.tup ds) (.tup es) h P = P (zipD ds es) h fun _ => True := rfl
theorem zp_r {ta tb : Bool} : zipI ta tb (.ref a) (.ref b) h P = seqI ta (.ref a) h fun ds h1 g1 => seqI tb (.ref b) h1 fun es h2 g2 => P (zipD ds es) h2 fun h3 => g1 h3 ∧ g2 h3 := rfl
end
/-! lists of ints are equal -/
theorem dats_ints {h : AH} : ∀ ns : List Int, Dats h (ns.map D.int) (ns.map PyData.int)
  | [] => .nil
  | n :: ns => .cons (.int n) (dats_ints ns)
theorem lay_ints : ∀ ns : List Int, PyData.canLayAll0 (ns.map PyData.int) = true ∧ PyData.depthAll (ns.map PyData.int) = 0
  | [] => ⟨by simp [PyData.canLayAll0], by simp [PyData.depthAll]⟩
  | n :: ns => by
    obtain ⟨a, b⟩ := lay_ints ns
    constructor
    · simp only [List.map_cons, PyData.canLayAll0, PyData.canLay0, a, Bool.and_true]
    · simp only [List.map_cons, PyData.depthAll, PyData.depth, b, Nat.max_self]
theorem shaped_ints (ns : List Int) : SeqAt.shaped (.list (ns.map PyData.int)) = true := by
  obtain ⟨a, b⟩ := lay_ints ns
  simp only [SeqAt.shaped, PyData.canLay0, a, PyData.depth, b, Bool.true_and]
  rfl
theorem eqv_ints : ∀ ns ms : List Int, PyData.eqvAll (ns.map PyData.int) (ms.map PyData.int) = decide (ns = ms)
  | [], [] => by simp [PyData.eqvAll]
  | [], _ :: _ => by simp [PyData.eqvAll]
  | _ :: _, [] => by simp [PyData.eqvAll]
  | n :: ns, m :: ms => by
    simp only [List.map_cons, PyData.eqvAll, PyData.eqv, eqv_ints ns ms]
    by_cases e : n = m
    · subst e; simp
    · simp [e]
theorem eqD_ints {neg : Bool} {a b : Addr} {h : AH} {Q : AK} (ns ms : List Int) (ha : h a = some (.lst (ns.map D.int))) (hb : h b = some (.lst (ms.map D.int))) (q : Q (.bl (neg != decide (ns = ms))) h) : eqD neg (.ref a) (.ref b) h Q := by
  refine ⟨_, _, .lst ha (dats_ints ns), .lst hb (dats_ints ms), shaped_ints ns, shaped_ints ms, ?_⟩
  have e : PyData.eqv (.list (ns.map PyData.int)) (.list (ms.map PyData.int)) = decide (ns = ms) := by
    simp only [PyData.eqv, eqv_ints]
  rw [e]; exact q
theorem shaped_intsU (ns : List Int) : SeqAt.shaped (.tuple (ns.map PyData.int)) = true := by
  obtain ⟨a, b⟩ := lay_ints ns
  simp only [SeqAt.shaped, PyData.canLay0, a, PyData.depth, b, Bool.true_and]
  rfl
/-- t.index(k): the first place -/
theorem idx_intsT {h : AH} {Q : AK} (ns : List Int) (k : Int) (j : Nat) (g : ns[j]? = some k) (f : ∀ m : Nat, m < j → ns[m]? ≠ some k) (q : Q (.int (j : Nat)) h) : indexD (.tup (ns.map D.int)) [.int k] h Q := by
  refine ⟨.int k, ns.map PyData.int, j, .int k, dats_ints ns, .int k, shaped_intsU ns, rfl, by rw [List.getElem?_map, g]; rfl, by simp [PyData.eqv], fun m z hm hz => ?_, q⟩
  rw [List.getElem?_map] at hz
  cases e : ns[m]? with
  | none => rw [e] at hz; cases hz
  | some y =>
    rw [e] at hz; cases hz
    have ne : y ≠ k := fun z => f m hm (by rw [e, z])
    simp [PyData.eqv, ne]
end MP
/-! MP15: the head: what stands behind the top, one promise after the other, the law. -/
namespace MP
open PySem PySem.Spec PyProof.Rows L2
/-- a def of the text as it stands in the written part -/
structure At (K : PySem.W.Frag) (x : Str) (st : Stmt) (ps : List Str) : Prop where
  ok : ∃ (f : Addr) (fd : FuncData) (nm : Str), PySem.W.nsIn K mainGlobals x = some (some (.ref f)) ∧ PySem.W.keepIn K (.ref f) = true ∧ Fun K nm nm st f fd ∧ Binds K fd ps [] ∧
    ∀ (s : Shared) (us : List Value), us.length = ps.length → BindsTo s fd ⟨us, []⟩ (ps.zip us)
theorem At.of {K : PySem.W.Frag} {x nm : Str} {st : Stmt} {ps : List Str} {f : Addr} {oc : Value} {od an : Option Addr} {osl : Array (Option Value)} {kV doc pm cdv ct : Value}
    (a : PySem.W.nsIn K mainGlobals x = some (some (.ref f))) (l : K.lookup f = some ⟨oc, od, .func (PySem.W.fnOf nm nm (defArgs st) (defBody st) (defScope st) .none kV doc pm an cdv ct), osl⟩)
    (c : PySem.W.codeIn K cdv nm = true) (k : PySem.W.keepIn K (.ref f) = true)
    (b : ∀ (kV doc pm : Value) (an : Option Addr) (cdv ct : Value) (us : List Value), us.length = ps.length → bindArgs (PySem.W.fnOf nm nm (defArgs st) (defBody st) (defScope st) .none kV doc pm an cdv ct) ⟨us, []⟩ = pure (ps.zip us)) :
    At K x st ps := ⟨f, _, nm, a, k, fun_mk l c k, (fun_mk l c k).binds b, fun s us hl => .of_eq (b _ _ _ _ _ _ us hl)⟩
/-- one more promise -/
def Ct.add (G : Ct) (x : Str) (n : Nat) (c : ASp) : Ct := { G with fn := fun y => if y = x then some (n, c) else G.fn y }
theorem Ct.add_same {G : Ct} {x : Str} {n : Nat} {c : ASp} : (G.add x n c).fn x = some (n, c) := if_pos rfl
theorem Ct.add_ne {G : Ct} {x y : Str} {n : Nat} {c : ASp} {r : Option (Nat × ASp)} (h : (y == x) = false) (e : G.fn y = r) : (G.add x n c).fn y = r := by
  have : y ≠ x := by simpa using h
  show (if y = x then _ else _) = _
  rw [if_neg this, e]
section
variable {P : Program} {w : World} {K : PySem.W.Frag} {mg : Str → Option Value} {base h : Heap} {k : Nat} {G : Ct}
theorem Facts.add {x : Str} {st : Stmt} {N ps : List Str} {b : Ss} {c : ASp} (Fa : Facts P w K mg base G k) (X : K.In h) (hns : h.Ns mainGlobals mg) (d : At K x st ps) (hc : chkD N ps st b = true) (hm : Meets G N.length b ps.length c) :
    Facts P w K mg base (G.add x ps.length c) (k + 1) := by
  obtain ⟨f, fd, nm, a, kp, F, hb, _⟩ := d.ok
  have Fn := fn_meets Fa F hc hm
  refine ⟨fun y n cc e => ?_, Fa.gc, Fa.bi, Fa.br, Fa.bz, Fa.bn, fun c fs e => (Fa.xc c fs e).mono (Nat.le_succ k), Fa.xi, Fa.cx, Fa.lm⟩
  by_cases hy : y = x
  · subst hy
    rw [Ct.add_same] at e
    cases e
    exact ⟨f, fd, ps, PySem.W.mg_of X hns a, kp, hb, Fn⟩
  · obtain ⟨f', fd', ps', m, q1, q2, q3⟩ := Fa.df y n cc (by
      have : (G.add x ps.length c).fn y = G.fn y := if_neg hy
      rw [← this]; exact e)
    exact ⟨f', fd', ps', m, q1, q2, q3.mono (Nat.le_succ k)⟩
theorem Facts.mono {j : Nat} (Fa : Facts P w K mg base G k) (hk : k ≤ j) : Facts P w K mg base G j :=
  ⟨fun y n c e => let ⟨f, fd, ps, m, q1, q2, q3⟩ := Fa.df y n c e; ⟨f, fd, ps, m, q1, q2, q3.mono hk⟩, Fa.gc, Fa.bi, Fa.br, Fa.bz, Fa.bn, fun c fs e => (Fa.xc c fs e).mono hk, Fa.xi, Fa.cx, Fa.lm⟩
/-- the names that the text leaves to the built-ins -/
def biNames : List Str := ["len", "abs", "max", "min", "sum", "sorted", "all", "any", "tuple", "list", "int", "str", "repr", "range", "zip", "isinstance", "bool", "dict", "set", "enumerate", "reversed"]
structure NoBi (K : PySem.W.Frag) : Prop where
  no : ∀ x ∈ biNames, PySem.W.nsIn K mainGlobals x = some none
theorem NoBi.of (a1 : PySem.W.nsIn K mainGlobals "len" = some none) (a2 : PySem.W.nsIn K mainGlobals "abs" = some none) (a3 : PySem.W.nsIn K mainGlobals "max" = some none) (a4 : PySem.W.nsIn K mainGlobals "min" = some none)
    (a5 : PySem.W.nsIn K mainGlobals "sum" = some none) (a6 : PySem.W.nsIn K mainGlobals "sorted" = some none) (a7 : PySem.W.nsIn K mainGlobals "all" = some none) (a8 : PySem.W.nsIn K mainGlobals "any" = some none)
    (a9 : PySem.W.nsIn K mainGlobals "tuple" = some none) (a10 : PySem.W.nsIn K mainGlobals "list" = some none) (a11 : PySem.W.nsIn K mainGlobals "int" = some none) (a12 : PySem.W.nsIn K mainGlobals "str" = some none)
    (a13 : PySem.W.nsIn K mainGlobals "repr" = some none) (a14 : PySem.W.nsIn K mainGlobals "range" = some none) (a15 : PySem.W.nsIn K mainGlobals "zip" = some none)
    (a16 : PySem.W.nsIn K mainGlobals "isinstance" = some none) (a17 : PySem.W.nsIn K mainGlobals "bool" = some none) (a18 : PySem.W.nsIn K mainGlobals "dict" = some none) (a19 : PySem.W.nsIn K mainGlobals "set" = some none) (a20 : PySem.W.nsIn K mainGlobals "enumerate" = some none) (a21 : PySem.W.nsIn K mainGlobals "reversed" = some none) : NoBi K := ⟨by
  intro x hx
  simp only [biNames, List.mem_cons, List.not_mem_nil, or_false] at hx
  rcases hx with rfl | rfl | rfl | rfl | rfl | rfl | rfl | rfl | rfl | rfl | rfl | rfl | rfl | rfl | rfl | rfl | rfl | rfl | rfl | rfl | rfl <;> assumption⟩
/-- a constant of the text's top: an int, or a tuple of ints -/
structure ConK (K : PySem.W.Frag) (x : Str) (c : D) : Prop where
  ok : ∃ u v, PySem.W.nsIn K mainGlobals x = some (some u) ∧ RelV v u ∧ ∀ H, Rep K H c v
theorem ConK.int {K : PySem.W.Frag} {x : Str} {i : Int} {t : Tok} (a : PySem.W.nsIn K mainGlobals x = some (some (.int i t))) : ConK K x (.int i) :=
  ⟨_, .int i, a, ⟨t, rfl⟩, fun _ => rfl⟩
def intsV : List Value → Option (List Int)
  | [] => some []
  | .int i _ :: r => (intsV r).map (i :: ·)
  | _ => none
theorem intsV_ok : ∀ {us : List Value} {ns : List Int}, intsV us = some ns → Vals (ns.map V.int) us
  | [], ns, e => by cases e; exact .nil
  | u :: r, ns, e => by
    unfold intsV at e
    split at e
    · rename_i h; cases h
    · rename_i i t r2 h
      cases h
      cases q : intsV r with
      | none => rw [q] at e; cases e
      | some m =>
        rw [q] at e
        cases e
        exact .cons ⟨t, rfl⟩ (intsV_ok q)
    · cases e
theorem ConK.tup {K : PySem.W.Frag} {x : Str} {ns : List Int} {a : Addr} {od : Option Addr} {its : Array Value} {n : Nat} {osl : Array (Option Value)} (a1 : PySem.W.nsIn K mainGlobals x = some (some (.ref a))) (l : K.lookup a = some ⟨.type "tuple", od, .seq its n, osl⟩)
    (z : its.size ≤ 1000) (e : intsV its.toList = some ns) : ConK K x (.pr (ns.map D.int)) :=
  ⟨_, .ref a, a1, rfl, fun _ => ⟨a, ns.map V.int, rfl, .inr ⟨_, its, n, l, rfl, rfl, by rw [sizeLine_eq]; omega, intsV_ok e⟩, Reps.of_ints ns⟩⟩
theorem ConK.gc {x : Str} {c : D} (q : ConK K x c) (X : K.In h) (hns : h.Ns mainGlobals mg) : ∃ u v, mg x = some u ∧ RelV v u ∧ ∀ H, Rep K H c v :=
  let ⟨u, v, a, r, rp⟩ := q.ok; ⟨u, v, PySem.W.mg_of X hns a, r, rp⟩
theorem Facts.start (X : K.In h) (hns : h.Ns mainGlobals mg) (nb : NoBi K) (gc : ∀ x c, G.gc x = some c → ∃ u v, mg x = some u ∧ RelV v u ∧ ∀ H, Rep K H c v) (hG : G.fn = fun _ => none) (xc : ∀ c fs, G.xc c = some fs → XcF P w K mg base 2 c fs := by intro _ _ e; cases e) (xi : ∀ c y b, G.xi c y = some b → XiF K mg c y b := by intro _ _ _ e; cases e) (cx : G.cx = none := by rfl) (lm : G.lam = none := by rfl) : Facts P w K mg base G 2 where
  df := fun f n c e => by rw [hG] at e; cases e
  gc := gc
  bi := fun b => PySem.W.mg_none_of X hns (nb.no _ (by cases b <;> simp [biNames, Bi.nm]))
  br := PySem.W.mg_none_of X hns (nb.no _ (by simp [biNames]))
  bz := PySem.W.mg_none_of X hns (nb.no _ (by simp [biNames]))
  bn := fun x hx => PySem.W.mg_none_of X hns (nb.no _ (by
    simp only [moreN, List.mem_cons, List.not_mem_nil, or_false] at hx
    rcases hx with rfl | rfl | rfl | rfl | rfl | rfl | rfl | rfl | rfl | rfl <;> simp [biNames]))
  xc := xc
  xi := xi
  cx := cx
  lm := lm
/-! own errors: what the written part says of their classes -/
/-- the class x over be, with the fields fs, its __init__ st -/
structure OwnF (K : PySem.W.Frag) (x be : Str) (fs : List Str) (st : Stmt) : Prop where
  ok : ∃ (C B fI : Addr) (fd : FuncData) (qual : Str), PySem.W.nsIn K mainGlobals x = some (some (.ref C)) ∧ PySem.W.nsIn K mainGlobals be = some (some (.ref B)) ∧ OexC K C ∧ BaseC K B ∧ ErrC K C ∧ (∀ f, f ∈ fs → PySem.W.findIn K (.ref C) f = some none) ∧
    PySem.W.findIn K (.ref C) "__init__" = some (some (.ref fI)) ∧ PySem.W.typeIn K (.ref fI) = some (.type "function") ∧ Fun K "__init__" qual st fI fd ∧ Binds K fd ("self" :: fs) []
theorem OwnF.of {K : PySem.W.Frag} {x be : Str} {fs : List Str} {st : Stmt} (qual : Str) {C B fI : Addr} {nm q : Str} {N : Addr} {bs bm : List Value} {sn : List Str} {sub : List Value} {ab : Bool} {col : Option Bool} {dd : Option Addr} {m0 m1 m2 m3 m5 : Option Value}
    {oc : Value} {od an : Option Addr} {osl : Array (Option Value)} {kV doc pm cdv ct : Value}
    (a : PySem.W.nsIn K mainGlobals x = some (some (.ref C))) (b : PySem.W.nsIn K mainGlobals be = some (some (.ref B)))
    (xL : K.lookup C = some (excClassObj nm q C N bs bm true sn sub ab col dd m0 m1 m2 m3 m5 "ValueError.__new__")) (rf : PySem.HandSPX.refsVE bm = true)
    (sa : PySem.W.findIn K (.ref C) "__setattr__" = some (some (.builtin "object.__setattr__"))) (ga : PySem.W.findIn K (.ref C) "__getattribute__" = some (some (.builtin "BaseException.__getattribute__"))) (gg : PySem.W.findIn K (.ref C) "__getattr__" = some none)
    (kC : PySem.W.keepIn K (.ref C) = true) (eC : PySem.W.subIn K (.ref C) (.type "BaseException") = some true) (tC : PySem.W.typeIn K (.ref C) = some (.type "type")) (hC : PySem.W.hasDictIn K C = true) (iC : PySem.W.isClsIn K C = true)
    (ka : PySem.W.findIn K (.ref C) "__class__" = some (some (.builtin "object.__class__"))) (kn : PySem.W.specialIn K (.builtin "object.__class__") "__get__" = some (some (.builtin "getset_descriptor.__get__"))) (kt : PySem.W.takesIn K (.builtin "object.__class__") = some true) (km : PySem.W.mroIn K C (.type "object") = some true)
    (rd : PySem.W.readsIn K B (.type "type") = true) (sp : PySem.W.specialIn K (.ref B) "__getattribute__" = some (some (.builtin "type.__getattribute__"))) (vV : PySem.W.findCls K (.ref B) (.type "type") "__init__" = some (.val (.builtin "ValueError.__init__")))
    (no : ∀ f, f ∈ fs → PySem.W.findIn K (.ref C) f = some none)
    (aI : PySem.W.findIn K (.ref C) "__init__" = some (some (.ref fI))) (tI : PySem.W.typeIn K (.ref fI) = some (.type "function"))
    (l : K.lookup fI = some ⟨oc, od, .func (PySem.W.fnOf "__init__" qual (defArgs st) (defBody st) (defScope st) .none kV doc pm an cdv ct), osl⟩) (c : PySem.W.codeIn K cdv qual = true) (k : PySem.W.keepIn K (.ref fI) = true)
    (bd : ∀ (kV doc pm : Value) (an : Option Addr) (cdv ct : Value) (us : List Value), us.length = (("self" : Str) :: fs).length → bindArgs (PySem.W.fnOf "__init__" qual (defArgs st) (defBody st) (defScope st) .none kV doc pm an cdv ct) ⟨us, []⟩ = pure ((("self" : Str) :: fs).zip us)) :
    OwnF K x be fs st :=
  ⟨C, B, fI, _, qual, a, b, ⟨⟨_, _, _, _, _, _, _, _, _, _, _, _, _, _, _, xL, rf⟩, sa, eC, tC, kC⟩, ⟨rd, sp, vV⟩, ⟨⟨ga, gg, eC, hC⟩, iC, ka, kn, kt, km⟩, no, aI, tI, fun_mk l c k, (fun_mk l c k).binds bd⟩
theorem OwnF.xc {x be f : Str} {fs : List Str} {st : Stmt} (o : OwnF K x be (f :: fs) st) (X : K.In h) (hns : h.Ns mainGlobals mg) (hc : chkIn be (f :: fs) st = true) (hz : fs.length ≤ 99) : XcF P w K mg base 2 x (f :: fs) := by
  obtain ⟨C, B, fI, fd, qual, a, b, T, TB, TE, no, aI, tI, F, hb⟩ := o.ok
  exact ⟨C, fI, fd, PySem.W.mg_of X hns a, T, TE, no, aI, tI, init_fn F hc T TB (PySem.W.mg_of X hns b) no (by omega), hb, Nat.le_refl 2, by rw [List.length_cons]; omega, a⟩
/-- is an error of the class x one of the class y -/
structure AskF (K : PySem.W.Frag) (x y : Str) (b : Bool) : Prop where
  ok : ∃ (C D : Addr), PySem.W.nsIn K mainGlobals x = some (some (.ref C)) ∧ PySem.W.nsIn K mainGlobals y = some (some (.ref D)) ∧ PySem.W.isClsIn K D = true ∧ PySem.W.typeIn K (.ref D) = some (.type "type") ∧ PySem.W.subIn K (.ref D) (.type "BaseException") = some true ∧ PySem.W.subIn K (.ref C) (.ref D) = some b
theorem AskF.of {K : PySem.W.Frag} {x y : Str} {b : Bool} {C D : Addr} (a1 : PySem.W.nsIn K mainGlobals x = some (some (.ref C))) (a2 : PySem.W.nsIn K mainGlobals y = some (some (.ref D))) (a3 : PySem.W.isClsIn K D = true) (a4 : PySem.W.typeIn K (.ref D) = some (.type "type"))
    (a5 : PySem.W.subIn K (.ref D) (.type "BaseException") = some true) (a6 : PySem.W.subIn K (.ref C) (.ref D) = some b) : AskF K x y b := ⟨C, D, a1, a2, a3, a4, a5, a6⟩
theorem AskF.xi {x y be : Str} {b : Bool} {fs : List Str} {st : Stmt} (q : AskF K x y b) (o : OwnF K x be fs st) (X : K.In h) (hns : h.Ns mainGlobals mg) : XiF K mg x y b := by
  obtain ⟨C, D, a1, a2, a3, a4, a5, a6⟩ := q.ok
  obtain ⟨C', B, fI, fd, qual, a, _, _, _, TE, _⟩ := o.ok
  rw [a1] at a
  cases a
  have kc : PySem.W.kitCls K (.ref C) (.ref D) = some b := by
    show (if ((PySem.W.clsIn K D).isSome && PySem.W.typeIn K (.ref D) == some (.type "type")) = true then PySem.W.subIn K (.ref C) (.ref D) else none) = some b
    rw [if_pos (by rw [show (PySem.W.clsIn K D).isSome = true from a3, a4]; rfl), a6]
  refine ⟨C, .ref D, .ref D, PySem.W.mg_of X hns a1, TE, .inl (PySem.W.mg_of X hns a2), rfl, fun u r => r, ?_, ?_, a1⟩
  · unfold PySem.W.kitOne
    split
    · rename_i e
      have e2 : C = D := Value.ref.inj (beq_iff_eq.mp e)
      subst e2
      have : PySem.W.mroIn K C (.ref C) = some b := a6
      unfold PySem.W.mroIn at this
      cases b with
      | true => rfl
      | false =>
        exfalso
        obtain ⟨C0, B0, fI0, fd0, q0, b1, _, T0, _⟩ := o.ok
        rw [a1] at b1
        cases b1
        obtain ⟨nm, q1, N, bs, bm, sn, sub, ab, col, dd, k0, k1, k2, k3, k5, hC, _⟩ := T0.cls
        have hcl : PySem.W.clsIn K C = some { name := nm, bases := bs, mro := .ref C :: bm, ns := N, qualname := q1, hasDict := true, slotNames := sn, subclasses := sub, abstract := ab, collection := col, hasDel := false } := by unfold PySem.W.clsIn; rw [hC] <;> rfl
        rw [hcl, Option.bind_some] at this
        simp at this
    · exact kc
  · unfold PySem.W.exmOne
    rw [if_pos (by rw [a5]; rfl)]
    exact kc
theorem ask_ve {x be : Str} {fs : List Str} {st : Stmt} (o : OwnF K x be fs st) (X : K.In h) (hns : h.Ns mainGlobals mg) (nv : PySem.W.nsIn K mainGlobals "ValueError" = some none) : XiF K mg x "ValueError" true := by
  obtain ⟨C, B, fI, fd, qual, a, _, T, _, TE, _⟩ := o.ok
  obtain ⟨nm, q1, N, bs, bm, sn, sub, ab, col, dd, k0, k1, k2, k3, k5, hC, hbm⟩ := T.cls
  have hcl : PySem.W.clsIn K C = some { name := nm, bases := bs, mro := .ref C :: bm, ns := N, qualname := q1, hasDict := true, slotNames := sn, subclasses := sub, abstract := ab, collection := col, hasDel := false } := by unfold PySem.W.clsIn; rw [hC] <;> rfl
  have sb : PySem.W.subIn K (.ref C) (.type "ValueError") = some true := by
    show PySem.W.mroIn K C (.type "ValueError") = some true
    unfold PySem.W.mroIn
    rw [hcl, Option.bind_some]
    have h1 := PySem.HandSPX.refsVE_contains "ValueError" (.ref C :: bm) hbm
    rw [if_neg (by simp), h1]
    decide +kernel
  have kc : PySem.W.kitCls K (.ref C) (.type "ValueError") = some true := by
    show (if PySem.W.kitMeta "ValueError" = true then PySem.W.subIn K (.ref C) (.type "ValueError") else none) = some true
    rw [if_pos (by decide +kernel), sb]
  refine ⟨C, .type "ValueError", .ty "ValueError", PySem.W.mg_of X hns a, TE, .inr ⟨PySem.W.mg_none_of X hns nv, by decide +kernel, by decide⟩, rfl, fun u r => r, ?_, ?_, a⟩
  · unfold PySem.W.kitOne
    rw [if_neg (by simp), kc]
  · unfold PySem.W.exmOne
    have s2 : PySem.W.subIn K (.type "ValueError") (.type "BaseException") = some true := by
      show (fastBuiltinMro "ValueError").map (·.contains (.type "BaseException")) = some true
      decide +kernel
    rw [if_pos (by rw [s2]; rfl), kc]
/-- the law stands behind the top, and what it promises -/
theorem law_of {x : Str} {st : Stmt} {N ps : List Str} {b : Ss} {c : ASp} {fa : Addr} (X : K.In h) (hns : h.Ns mainGlobals mg) (hfa : mg x = some (.ref fa)) (d : At K x st ps) (y : Str) (hps : ps = [y])
    (hF : ∀ base : Heap, K.In base → base.Ns mainGlobals mg → Facts P w K mg base G k) (hc : chkD N ps st b = true) (hm : Meets G N.length b ps.length c) :
    ∃ fd : FuncData, (∀ (s : Shared) (u : Value), BindsTo s fd ⟨[u], []⟩ [(y, u)]) ∧
        ∀ base : Heap, K.In base → base.Ns mainGlobals mg → FnG P w K mg base (k + 1) fa fd [y] (spOf K mg 1 c) := by
  obtain ⟨f, fd, nm, a, kp, F, hb, hb2⟩ := d.ok
  have e := hfa.symm.trans (PySem.W.mg_of X hns a)
  cases e
  subst hps
  exact ⟨fd, fun s u => hb2 s [u] rfl, fun base h1 h2 => fn_meets (hF base h1 h2) F hc hm⟩
theorem law_sp {c : ASp} {H : Hp} {a : Addr} {ns : List Int} (hl : CL K H a (ns.map V.int)) (hc : ∀ h Q X, (∀ h', Q (.bl true) h') → c [.cl (ns.map D.int)] h Q X) :
    spOf K mg 1 c [.ref a] H (fun v _ => v = .bl true) fun _ _ _ => False := by
  refine ⟨[.cl (ns.map D.int)], fun _ => none, fun d _ => d = .bl true, fun _ _ => False, ?_, ?_, rfl, hc _ _ _ fun _ => rfl, ?_, fun _ _ _ _ _ e _ _ _ => e.elim⟩
  · exact ⟨.ref a, [], rfl, ⟨a, _, rfl, hl, Reps.of_ints ns⟩, rfl⟩
  · exact fun b o e => by cases e
  · rintro d h' v H' rfl rv _ _
    exact rv
/-! defs that make lambdas -/
/-- a def of the text as it stands in the written part, its code object and table -/
structure AtL (K : PySem.W.Frag) (x : Str) (st : Stmt) (ps : List Str) (c T : Addr) : Prop where
  ok : ∃ (f : Addr) (fd : FuncData), PySem.W.nsIn K mainGlobals x = some (some (.ref f)) ∧ PySem.W.keepIn K (.ref f) = true ∧ Fun K x x st f fd ∧ Binds K fd ps []
  tab : PySem.W.tabIn K x = some (c, T)
theorem tabIn_of {K : PySem.W.Frag} {x : Str} {f c T : Addr} {oc oc2 : Value} {od od2 : Option Addr} {osl osl2 : Array (Option Value)} {fd : FuncData} {vs : Array Value} (a : PySem.W.nsIn K mainGlobals x = some (some (.ref f))) (l : K.lookup f = some ⟨oc, od, .func fd, osl⟩)
    (e : fd.code = .ref c) (l2 : K.lookup c = some ⟨oc2, od2, .fields vs, osl2⟩) (hv : vs[11]? = some (.ref T)) : PySem.W.tabIn K x = some (c, T) := by
  unfold PySem.W.tabIn
  rw [a]
  simp only
  rw [l]
  simp only
  rw [e]
  simp only
  rw [l2]
  simp only
  rw [hv]
theorem AtL.of {K : PySem.W.Frag} {x : Str} {st : Stmt} {ps : List Str} {f c T : Addr} {oc oc2 : Value} {od an od2 : Option Addr} {osl osl2 : Array (Option Value)} {vs : Array Value} {kV doc pm cdv ct : Value}
    (a : PySem.W.nsIn K mainGlobals x = some (some (.ref f))) (l : K.lookup f = some ⟨oc, od, .func (PySem.W.fnOf x x (defArgs st) (defBody st) (defScope st) .none kV doc pm an cdv ct), osl⟩)
    (cd : PySem.W.codeIn K cdv x = true) (k : PySem.W.keepIn K (.ref f) = true) (e : cdv = .ref c) (l2 : K.lookup c = some ⟨oc2, od2, .fields vs, osl2⟩) (hv : vs[11]? = some (.ref T))
    (b : ∀ (kV doc pm : Value) (an : Option Addr) (cdv ct : Value) (us : List Value), us.length = ps.length → bindArgs (PySem.W.fnOf x x (defArgs st) (defBody st) (defScope st) .none kV doc pm an cdv ct) ⟨us, []⟩ = pure (ps.zip us)) :
    AtL K x st ps c T := ⟨⟨f, _, a, k, fun_mk l cd k, (fun_mk l cd k).binds b⟩, tabIn_of a l e l2 hv⟩
theorem tab_code {K : PySem.W.Frag} {x : Str} {c T f : Addr} {oc : Value} {od : Option Addr} {osl : Array (Option Value)} {fd : FuncData} (ht : PySem.W.tabIn K x = some (c, T)) (a : PySem.W.nsIn K mainGlobals x = some (some (.ref f))) (l : K.lookup f = some ⟨oc, od, .func fd, osl⟩) : fd.code = .ref c := by
  unfold PySem.W.tabIn at ht
  rw [a] at ht
  simp only at ht
  rw [l] at ht
  simp only at ht
  split at ht
  · rename_i c2 hc
    split at ht
    · split at ht
      · cases ht; exact hc
      · cases ht
    · cases ht
  · cases ht
theorem Facts.addL {x : Str} {st : Stmt} {N ps : List Str} {b : Ss} {c0 : ASp} {c T : Addr} (Fa : Facts P w K mg base G k) (X : K.In h) (hns : h.Ns mainGlobals mg) (d : AtL K x st ps c T) (TB : LamX.TabB base mg c T) (hc : chkD N ps st b = true)
    (hm : Meets { G with lam := some x } N.length b ps.length c0) : Facts P w K mg base (G.add x ps.length c0) (k + 1) := by
  obtain ⟨f, fd, a, kp, F, hb⟩ := d.ok
  have hcode : fd.code = .ref c := by
    obtain ⟨oc, od, kV, doc, pm, an, cdv, ct, osl, e, lk, hcd⟩ := F.ex
    exact tab_code d.tab a lk
  have Fn := fn_meetsX (some x) Fa F hc hm fun y z => by
    cases z
    exact ⟨rfl, c, T, hcode, d.tab, TB⟩
  refine ⟨fun y n cc e => ?_, Fa.gc, Fa.bi, Fa.br, Fa.bz, Fa.bn, fun c fs e => (Fa.xc c fs e).mono (Nat.le_succ k), Fa.xi, Fa.cx, Fa.lm⟩
  by_cases hy : y = x
  · subst hy
    rw [Ct.add_same] at e
    cases e
    exact ⟨f, fd, ps, PySem.W.mg_of X hns a, kp, hb, Fn⟩
  · obtain ⟨f', fd', ps', m, q1, q2, q3⟩ := Fa.df y n cc (by
      have : (G.add x ps.length c0).fn y = G.fn y := if_neg hy
      rw [← this]; exact e)
    exact ⟨f', fd', ps', m, q1, q2, q3.mono (Nat.le_succ k)⟩
/-- the law stands behind the top, its tables known -/
theorem law_ofT {ts : TabL} {x : Str} {st : Stmt} {N ps : List Str} {b : Ss} {c : ASp} {fa : Addr} (X : K.In h) (hns : h.Ns mainGlobals mg) (hfa : mg x = some (.ref fa)) (d : At K x st ps) (y : Str) (hps : ps = [y])
    (hF : ∀ base : Heap, K.In base → base.Ns mainGlobals mg → (∀ t ∈ ts, LamX.TabB base mg t.2.1 t.2.2) → Facts P w K mg base G k) (hc : chkD N ps st b = true) (hm : Meets G N.length b ps.length c) :
    ∃ fd : FuncData, (∀ (s : Shared) (u : Value), BindsTo s fd ⟨[u], []⟩ [(y, u)]) ∧
        ∀ base : Heap, K.In base → base.Ns mainGlobals mg → (∀ t ∈ ts, LamX.TabB base mg t.2.1 t.2.2) → FnG P w K mg base (k + 1) fa fd [y] (spOf K mg 1 c) := by
  obtain ⟨f, fd, nm, a, kp, F, hb, hb2⟩ := d.ok
  have e := hfa.symm.trans (PySem.W.mg_of X hns a)
  cases e
  subst hps
  exact ⟨fd, fun s u => hb2 s [u] rfl, fun base h1 h2 h3 => fn_meets (hF base h1 h2 h3) F hc hm⟩
theorem law_spT {ts : TabL} {c : ASp} {H : Hp} {a : Addr} {ns : List Int} (tk : TabsOk K h ts) (hT : ∀ t ∈ ts, H t.2.2 = some (.tbl #[])) (hl : CL K H a (ns.map V.int))
    (hc : ∀ h Q X, (∀ t ∈ ts, ∃ T, h T = some (.tbl t.1)) → (∀ h', Q (.bl true) h') → c [.cl (ns.map D.int)] h Q X) :
    spOf K mg 1 c [.ref a] H (fun v _ => v = .bl true) fun _ _ _ => False := by
  refine ⟨[.cl (ns.map D.int)], fun b => (ts.find? fun t => t.2.2 == b).map fun t => AO.tbl t.1, fun d _ => d = .bl true, fun _ _ => False, ?_, ?_, rfl, hc _ _ _ (fun t ht => ?_) fun _ => rfl, ?_, fun _ _ _ _ _ e _ _ _ => e.elim⟩
  · exact ⟨.ref a, [], rfl, ⟨a, _, rfl, hl, Reps.of_ints ns⟩, rfl⟩
  · intro b o e
    have e : (ts.find? fun t => t.2.2 == b).map (fun t => AO.tbl t.1) = some o := e
    cases z : ts.find? fun t => t.2.2 == b with
    | none => rw [z] at e; cases e
    | some t =>
      rw [z] at e
      cases e
      have hm := List.mem_of_find?_eq_some z
      obtain rfl : t.2.2 = b := by simpa using List.find?_some z
      exact ⟨⟨t.2.1, tk.ti t hm⟩, LamX.TabS.nil (hT t hm)⟩
  · refine ⟨t.2.2, ?_⟩
    show (ts.find? fun t' => t'.2.2 == t.2.2).map (fun t => AO.tbl t.1) = _
    cases z : ts.find? fun t' => t'.2.2 == t.2.2 with
    | none =>
      have := List.find?_eq_none.mp z t ht
      simp at this
    | some t' =>
      have hm := List.mem_of_find?_eq_some z
      have e : t'.2.2 = t.2.2 := by simpa using List.find?_some z
      rw [tk.un t' hm t ht e]
      rfl
  · rintro d h' v H' rfl rv _ _
    exact rv
theorem TabsOk.nil : TabsOk K h [] := ⟨fun _ z => (by cases z), fun _ z => (by cases z), fun _ z => (by cases z), fun _ z => (by cases z), fun _ z => (by cases z)⟩
theorem TabsOk.cons {ts : TabL} {x : Str} {c T : Addr} (ti : PySem.W.tabIn K x = some (c, T)) (cd : PySem.W.CodeHd h c T ∧ h.get? T = some { cls := .none, data := .fields #[] }) (nk : K.lookup T = none) (tk : TabsOk K h ts) (ne : ∀ t ∈ ts, t.2.2 ≠ T) : TabsOk K h ((x, c, T) :: ts) := by
  refine ⟨fun t ht => ?_, fun t ht => ?_, fun t ht => ?_, fun t ht => ?_, fun t ht t' ht' e => ?_⟩
  · rcases List.mem_cons.mp ht with rfl | ht
    · exact cd.2
    · exact tk.tb t ht
  · rcases List.mem_cons.mp ht with rfl | ht
    · exact nk
    · exact tk.nk t ht
  · rcases List.mem_cons.mp ht with rfl | ht
    · exact cd.1
    · exact tk.hd t ht
  · rcases List.mem_cons.mp ht with rfl | ht
    · exact ti
    · exact tk.ti t ht
  · rcases List.mem_cons.mp ht with rfl | ht
    · rcases List.mem_cons.mp ht' with rfl | ht'
      · rfl
      · exact absurd e.symm (ne t' ht')
    · rcases List.mem_cons.mp ht' with rfl | ht'
      · exact absurd e (ne t ht)
      · exact tk.un t ht t' ht' e
theorem tabs_of {ts : TabL} {xs : List Str} {h : AH} (e : ts.map (·.1) = xs) (hT : ∀ t ∈ ts, ∃ T, h T = some (.tbl t.1)) : ∀ x, x ∈ xs → ∃ T, h T = some (.tbl x) := fun x hx => by
  rw [← e] at hx
  obtain ⟨t, ht, rfl⟩ := List.mem_map.mp hx
  exact hT t ht
theorem lawT_mk {ts : TabL} {c : ASp} {y : Str} {fa : Addr} (tk : TabsOk K h ts)
    (mk : ∃ fd : FuncData, (∀ (s : Shared) (u : Value), BindsTo s fd ⟨[u], []⟩ [(y, u)]) ∧ ∀ base : Heap, K.In base → base.Ns mainGlobals mg → (∀ t ∈ ts, LamX.TabB base mg t.2.1 t.2.2) → FnG P w K mg base k fa fd [y] (spOf K mg 1 c))
    (hc : ∀ ns : List Int, ns.length ≤ 63 → ∀ h Q X, (∀ t ∈ ts, ∃ T, h T = some (.tbl t.1)) → (∀ h', Q (.bl true) h') → c [.cl (ns.map D.int)] h Q X) :
    ∃ (ts : TabL) (fd : FuncData), TabsOk K h ts ∧ (∀ (s : Shared) (u : Value), BindsTo s fd ⟨[u], []⟩ [(y, u)]) ∧
        (∀ base : Heap, K.In base → base.Ns mainGlobals mg → (∀ t ∈ ts, LamX.TabB base mg t.2.1 t.2.2) → FnG P w K mg base k fa fd [y] (spOf K mg 1 c)) ∧
        ∀ (H : Hp) (a : Addr) (ns : List Int), ns.length ≤ 63 → (∀ t ∈ ts, H t.2.2 = some (.tbl #[])) → CL K H a (ns.map V.int) → spOf K mg 1 c [.ref a] H (fun v _ => v = .bl true) fun _ _ _ => False := by
  obtain ⟨fd, hb, hF⟩ := mk
  exact ⟨ts, fd, tk, hb, hF, fun H a ns hl hT hS => law_spT tk hT hS fun h Q X hT2 hq => hc ns hl h Q X hT2 hq⟩
end
end MP
/-! CW: works, costs, runs: the program's small defs and their promises. -/
namespace MP
open PySem L2
local macro_rules | `(tactic| open_k with $t) => `(tactic| simp only [wpS, wpE, wpEs, wpEo, wpT, wpTo, wpI, wpG, wpGs, forW, whlW, callW, BinO.d, CmpO.d, Bi.d, Mt.d, parQ, Tgs.len,
  add_ii, add_ss, add_tt, add_rr, sub_ii, mul_ii, mul_ri, fdiv_ii, mod_ii, pow_ii, shl_ii, shr_ii, band_ii, eq_ii, ne_ii, eq_ss, ne_ss, lt_ii, is_n, nis_n, dn_i, dn_n, dn_t, dn_b, dn_s, dn_r, ix_ti, ix_ci, ix_pi, ix_ri, ix_rs, set_ri, set_rs, ty_n, ty_b, ty_i, ty_s, ty_t, ty_c, ty_r, isiB, AO.dct.injEq, sum_t, max_t, min_t, ixN_0, ixN_1, ixN_2, ixN_3,
  len_t, len_r, len_c, abs_i, max_ii, min_ii, tup_r, tup_t, lst_r, lst_t, lst_c, int_i, int_b, app_r, pop_ri, pop_r0, ext_rr, ext_rt, ins_ri, rev_r0, isl_r, rcv_r, rcv_t, ex_some, tru_b, tru_i, tru_t, tru_r, tru_n, sq_t, sq_c, sq_r, sq_f, zp_t, zp_r, en_t, en_r, slD, revD, setSl, atI_0, atI_1, atI_2, atI_3, isL,
  List.getElem?_cons_zero, List.getElem?_cons_succ, List.set_cons_zero, List.set_cons_succ, List.length_cons, List.length_nil, List.map_cons, List.map_nil, List.zip_cons_cons, List.zip_nil_right, List.nil_append, List.cons_append, if_true, if_false, Bool.false_eq_true, if_pos, true_and, and_true,
  exists_eq_left, exists_eq_left', exists_const, reduceCtorEq, false_and, exists_false, or_false, false_or, exists_eq', Option.some.injEq, AO.lst.injEq, D.ref.injEq, aput_same, aput_aput, small_line, HT.sIx_none, List.drop_zero, Nat.sub_zero, Nat.zero_add, Nat.zero_le, Option.getD_none, Option.getD_some, Nat.reduceAdd, Nat.reduceLeDiff,
  Bool.not_true, Bool.not_false, neg_f, neg_t, adel_aput, $t:term])
local macro_rules | `(tactic| walk_at "mp") => `(tactic| try open_k with true_and)
local macro_rules | `(tactic| walk_at "mp1") => `(tactic| (refine wpB_cons ?_; try open_k with true_and))
/-! helpers -/
/-- a law tells True -/
def c_lawT : ASp := fun vs h Q X => ∃ ns : List Int, vs = [.cl (ns.map D.int)] ∧ ns.length ≤ 63 ∧ ∀ h', Q (.bl true) h'
theorem rngD_get {a b : Int} {i : Nat} {d : D} (h : (rngD a b)[i]? = some d) : d = .int (a + (i : Nat)) ∧ (i : Int) < b - a := by
  unfold rngD at h
  have hl := (List.getElem?_eq_some_iff.mp h).1
  rw [List.length_map, List.length_range] at hl
  rw [List.getElem?_map, List.getElem?_range hl] at h
  exact ⟨(Option.some.inj h).symm, by omega⟩
theorem rngD_len {a b : Int} : (rngD a b).length = (b - a).toNat := by unfold rngD; rw [List.length_map, List.length_range]
theorem But.grow {a : Addr} {h h' : AH} (b : But a h h') : Grow a h h' := fun c u n e => by rw [b c n]; exact e
theorem Grow.wr {a p : Addr} {h h1 : AH} {o : AO} (g : Grow a h h1) (n : h p = none) : Grow a h (aput h1 p o) := fun b u nb e => by
  rw [aput_ne (ne_none e n)]; exact g b u nb e
theorem Grow.nw {a p : Addr} {h h1 : AH} {o : AO} (g : Grow a h h1) (n : h1 p = none) : Grow a h (aput h1 p o) := fun b u nb e => by
  have := g b u nb e
  rw [aput_ne (ne_none this n)]; exact this
theorem Grow.bt {a : Addr} {h h1 h2 : AH} (g : Grow a h h1) (b : But a h1 h2) : Grow a h h2 := g.trans b.grow
theorem Grow.refl {a : Addr} {h : AH} : Grow a h h := fun _ _ _ e => e
theorem Grow.nn {a p : Addr} {h h1 : AH} (g : Grow a h h1) (na : p ≠ a) (n : h1 p = none) : h p = none := by
  cases q : h p with
  | none => rfl
  | some o => rw [g p o na q] at n; cases n
theorem take_map1 {α β : Type} {f : α → β} {ss : List α} {i : Nat} {d : α} (h : ss[i]? = some d) : (ss.map f).take (i + 1) = (ss.map f).take i ++ [f d] := by
  rw [List.take_add_one, List.getElem?_map, h]; rfl
theorem take_one {α : Type} {ss : List α} {i : Nat} {d : α} (h : ss[i]? = some d) : ss.take (i + 1) = ss.take i ++ [d] := by
  rw [List.take_add_one, h]; rfl
theorem map_get {α β : Type} {f : α → β} {l : List α} {i : Nat} {b : β} (h : (l.map f)[i]? = some b) : ∃ a, l[i]? = some a ∧ b = f a := by
  rw [List.getElem?_map] at h
  cases q : l[i]? with
  | none => rw [q] at h; cases h
  | some a => rw [q] at h; cases h; exact ⟨a, rfl, rfl⟩
/-- words that are compared -/
theorem dw : decide (("late" : Str) = "late") = true ∧ decide (("tardy" : Str) = "late") = false ∧ decide (("tardy" : Str) = "tardy") = true ∧ decide (("miss" : Str) = "late") = false ∧ decide (("miss" : Str) = "tardy") = false ∧ decide (("miss" : Str) = "miss") = true ∧
    decide (("ends" : Str) = "late") = false ∧ decide (("ends" : Str) = "tardy") = false ∧ decide (("ends" : Str) = "miss") = false ∧ decide (("ends" : Str) = "ends") = true ∧
    decide (("steps" : Str) = "late") = false ∧ decide (("steps" : Str) = "tardy") = false ∧ decide (("steps" : Str) = "miss") = false ∧ decide (("steps" : Str) = "ends") = false ∧ decide (("steps" : Str) = "steps") = true := by decide +kernel
/-! bests of tuples of ints -/
theorem foldmax_mem : ∀ (ns : List Int) (n : Int), ns.foldl max n ∈ n :: ns
  | [], n => by simp
  | k :: r, n => by
    have := foldmax_mem r (max n k)
    rw [List.foldl_cons]
    rcases List.mem_cons.mp this with h | h
    · rw [h]
      by_cases c : n ≤ k
      · rw [Int.max_eq_right c]; simp
      · rw [Int.max_eq_left (by omega)]; simp
    · simp [h]
theorem foldmax_ge : ∀ (ns : List Int) (n : Int), ∀ y, y ∈ n :: ns → y ≤ ns.foldl max n
  | [], n, y, h => by simp at h; simp [h]
  | k :: r, n, y, h => by
    rw [List.foldl_cons]
    rcases List.mem_cons.mp h with rfl | h
    · exact Int.le_trans (Int.le_max_left _ _) (foldmax_ge r _ _ (List.mem_cons_self ..))
    · rcases List.mem_cons.mp h with rfl | h
      · exact Int.le_trans (Int.le_max_right _ _) (foldmax_ge r _ _ (List.mem_cons_self ..))
      · exact foldmax_ge r _ y (List.mem_cons_of_mem _ h)
theorem max_ints {h : AH} {Q : AK} {ns : List Int} (hn : 0 < ns.length) (q : Q (.int (maxI ns)) h) : maxOf (ns.map D.int) h Q := by
  cases ns with
  | nil => cases hn
  | cons n ns =>
    have hz := (lay_ints (n :: ns)).2
    rw [List.map_cons] at hz
    refine ⟨.int n, ns.map .int, dats_ints (n :: ns), ⟨?_, ?_⟩, by rw [hz]; omega, ?_⟩
    · intro x hx y hy
      rw [← List.map_cons (f := PyData.int)] at hx hy
      obtain ⟨a, _, rfl⟩ := List.mem_map.mp hx
      obtain ⟨b, _, rfl⟩ := List.mem_map.mp hy
      simp [PySem.W.alike]
    · intro x hx
      rw [← List.map_cons (f := PyData.int)] at hx
      obtain ⟨a, _, rfl⟩ := List.mem_map.mp hx
      exact fun z => by cases z
    · intro d hd dd
      rw [PySem.W.maxD_ints] at dd
      have e : ns.foldl max n = maxI (n :: ns) := maxI_uniq hn (foldmax_mem ns n) (foldmax_ge ns n)
      rw [e] at dd
      cases dd
      exact q
/-! costs, works -/
inductive Cst where
  | late (d : Int) | tardy (d w : Int) | miss (d w : Int) | ends (w : Int) | steps (rows : List (Int × Int))
def prD (p : Int × Int) : D := .tup [.int p.1, .int p.2]
def Cst.D : Cst → MP.D
  | .late d => .tup [.str "late", .int d]
  | .tardy d w => .tup [.str "tardy", .int d, .int w]
  | .miss d w => .tup [.str "miss", .int d, .int w]
  | .ends w => .tup [.str "ends", .int w]
  | .steps rows => .tup [.str "steps", .tup (rows.map prD)]
def stepsAt (t : Int) (f : Int) (rows : List (Int × Int)) : Int := rows.foldl (fun f r => if r.1 ≤ t then r.2 else f) f
def Cst.at : Cst → Int → Int
  | .late d, t => t - d
  | .tardy d w, t => w * max 0 (t - d)
  | .miss d w, t => if t > d then w else 0
  | .ends w, t => w * t
  | .steps rows, t => stepsAt t 0 rows
def Cst.Ok : Cst → Prop
  | .tardy _ w => small64 w
  | .ends w => small64 w
  | _ => True
structure Wk where
  len : Int
  com : Int
  cost : Cst
def Wk.D (w : Wk) : MP.D := .tup [.int w.len, .int w.com, w.cost.D]
theorem Wk.D_eq (w : Wk) : w.D = .tup [.int w.len, .int w.com, w.cost.D] := rfl
abbrev n_cost_at : List Str := ["cost", "t", "word", "found", "start", "told"]
abbrev p_cost_at : List Str := ["cost", "t"]
def b_cost_at : Ss :=
  (.cons (.set (.n 2) (.ix (.v 0) (.k (.int 0))))
    (.cons (.iff (.cmp .eq (.v 2) (.k (.str "late"))) (.cons (.ret (.bin .sub (.v 1) (.ix (.v 0) (.k (.int 1)))))
    .nil) .nil)
    (.cons (.iff (.cmp .eq (.v 2) (.k (.str "tardy"))) (.cons (.ret (.bin .mul (.ix (.v 0) (.k (.int 2))) (.bi .max (.cons (.k (.int 0)) (.cons (.bin .sub (.v 1) (.ix (.v 0) (.k (.int 1)))) .nil)))))
    .nil) .nil)
    (.cons (.iff (.cmp .eq (.v 2) (.k (.str "miss"))) (.cons (.ret (.ite (.cmp .gt (.v 1) (.ix (.v 0) (.k (.int 1)))) (.ix (.v 0) (.k (.int 2))) (.k (.int 0))))
    .nil) .nil)
    (.cons (.iff (.cmp .eq (.v 2) (.k (.str "ends"))) (.cons (.ret (.bin .mul (.ix (.v 0) (.k (.int 1))) (.v 1)))
    .nil) .nil)
    (.cons (.set (.n 3) (.k (.int 0)))
    (.cons (.for_ (.tup (.cons (.n 4) (.cons (.n 5) .nil))) (.e false (.ix (.v 0) (.k (.int 1)))) (.cons (.iff (.cmp .le (.v 4) (.v 1)) (.cons (.set (.n 3) (.v 5))
    .nil) .nil)
    .nil))
    (.cons (.ret (.v 3))
    .nil))))))))
def c_cost_at : ASp := fun vs h Q X => ∃ (c : Cst) (t : Int), vs = [c.D, .int t] ∧ c.Ok ∧ Q (.int (c.at t)) h
theorem m_cost_at (G : Ct) : Meets G n_cost_at.length b_cost_at 2 c_cost_at := by
  rintro vs h Q X hl ⟨c, t, rfl, ok, hq⟩
  change wpB G b_cost_at _ [some _, some _, none, none, none, none] h
  cases c with
  | late d =>
    refine wpB_cons ?_
    open_k with Cst.D
    refine wpB_cons ?_
    open_k with dw
    refine wpB_cons ?_
    open_k with dw
    exact ⟨h, Sub.refl, hq⟩
  | tardy d w =>
    refine wpB_cons ?_
    open_k with Cst.D
    refine wpB_cons ?_
    open_k with dw
    refine wpB_nil (G := G) ?_
    refine wpB_cons ?_
    open_k with dw
    refine wpB_cons ?_
    open_k with dw
    exact ⟨.inl ok, h, Sub.refl, hq⟩
  | miss d w =>
    refine wpB_cons ?_
    open_k with Cst.D
    refine wpB_cons ?_
    open_k with dw
    refine wpB_nil (G := G) ?_
    refine wpB_cons ?_
    open_k with dw
    refine wpB_nil (G := G) ?_
    refine wpB_cons ?_
    open_k with dw
    refine wpB_cons ?_
    open_k with lt_ii
    by_cases c : t > d
    · rw [decide_eq_true c]
      open_k with true_and
      exact ⟨h, Sub.refl, by simpa [Cst.at, c] using hq⟩
    · rw [decide_eq_false c]
      open_k with true_and
      exact ⟨h, Sub.refl, by simpa [Cst.at, c] using hq⟩
  | ends w =>
    refine wpB_cons ?_
    open_k with Cst.D
    refine wpB_cons ?_
    open_k with dw
    refine wpB_nil (G := G) ?_
    refine wpB_cons ?_
    open_k with dw
    refine wpB_nil (G := G) ?_
    refine wpB_cons ?_
    open_k with dw
    refine wpB_nil (G := G) ?_
    refine wpB_cons ?_
    open_k with dw
    refine wpB_cons ?_
    open_k with dw
    exact ⟨.inl ok, h, Sub.refl, hq⟩
  | steps rows =>
    refine wpB_cons ?_
    open_k with Cst.D
    refine wpB_cons ?_
    open_k with dw
    refine wpB_nil (G := G) ?_
    refine wpB_cons ?_
    open_k with dw
    refine wpB_nil (G := G) ?_
    refine wpB_cons ?_
    open_k with dw
    refine wpB_nil (G := G) ?_
    refine wpB_cons ?_
    open_k with dw
    refine wpB_nil (G := G) ?_
    walk_at "mp1"
    walk_at "mp1"
    refine ⟨fun i s h' => ∃ d4 d5, s = [some (.tup [.str "steps", .tup (rows.map prD)]), some (.int t), some (.str "steps"), some (.int (stepsAt t 0 (rows.take i))), d4, d5] ∧ h' = h, ⟨none, none, rfl, rfl⟩, ?_⟩
    rintro i s h' ⟨d4, d5, rfl, rfl⟩
    refine ⟨?_, ?_⟩
    · intro e
      walk_at "mp1"
      rw [List.length_map] at e
      rw [List.take_of_length_le (by omega)]
      exact ⟨_, Sub.refl, hq⟩
    · intro d hi
      obtain ⟨r, hr, rfl⟩ := map_get hi
      unfold prD
      walk_at "mp"
      refine wpB_cons ?_
      open_k with lt_ii
      have e : stepsAt t 0 (rows.take (i + 1)) = if r.1 ≤ t then r.2 else stepsAt t 0 (rows.take i) := by
        rw [take_one hr]; unfold stepsAt; rw [List.foldl_append]; rfl
      by_cases c : r.1 ≤ t
      · rw [decide_eq_true c]
        rw [if_pos c] at e
        open_k with true_and
        walk_at "mp1"
        refine wpB_nil (G := G) (wpB_nil (G := G) ?_)
        exact ⟨_, _, SSub.refl, Sub.refl, some (.int r.1), some (.int r.2), by rw [e], rfl⟩
      · rw [decide_eq_false c]
        rw [if_neg c] at e
        open_k with true_and
        refine wpB_nil (G := G) (wpB_nil (G := G) ?_)
        exact ⟨_, _, SSub.refl, Sub.refl, some (.int r.1), some (.int r.2), by rw [e], rfl⟩
abbrev n_costs_of : List Str := ["works", "ends", "work", "end"]
abbrev p_costs_of : List Str := ["works", "ends"]
def b_costs_of : Ss :=
  (.cons (.ret (.bi .tuple (.cons (.lc [("work", 2), ("end", 3)] (.tup (.cons (.n 2) (.cons (.n 3) .nil))) (.zip false false (.v 0) (.v 1)) .no (.call "cost_at" (.cons (.ix (.v 2) (.k (.int 2))) (.cons (.v 3) .nil)))) .nil)))
    .nil)

def costsOf (ws : List Wk) (es : List Int) : List Int := List.zipWith (fun w e => w.cost.at e) ws es
def c_costs_of : ASp := fun vs h Q X => ∃ (ws : List Wk) (es : List Int), vs = [.tup (ws.map Wk.D), .tup (es.map D.int)] ∧ (∀ w, w ∈ ws → w.cost.Ok) ∧ ws.length = es.length ∧ ws.length ≤ 1000 ∧ Q (.tup ((costsOf ws es).map D.int)) h
theorem zipD_get2 : ∀ {xs ys : List D} {i : Nat} {d : D}, (zipD xs ys)[i]? = some d → ∃ x y, d = .pr [x, y] ∧ xs[i]? = some x ∧ ys[i]? = some y
  | [], _, _, _, h => by simp [zipD] at h
  | _ :: _, [], _, _, h => by simp [zipD] at h
  | x :: xs, y :: ys, 0, d, h => by
    have : D.pr [x, y] = d := by simpa [zipD] using h
    exact ⟨x, y, this.symm, rfl, rfl⟩
  | x :: xs, y :: ys, i + 1, d, h => by
    obtain ⟨a, b, e1, e2, e3⟩ := zipD_get2 (i := i) (xs := xs) (ys := ys) (by simpa [zipD] using h)
    exact ⟨a, b, e1, by simpa using e2, by simpa using e3⟩
theorem zipD_len2 : ∀ (xs ys : List D), (zipD xs ys).length = min xs.length ys.length
  | [], ys => by simp [zipD]
  | _ :: _, [] => by simp [zipD]
  | x :: xs, y :: ys => by simp [zipD, zipD_len2 xs ys]
theorem costs_take {ws : List Wk} {es : List Int} {i : Nat} {w : Wk} {e : Int} (h1 : ws[i]? = some w) (h2 : es[i]? = some e) : (costsOf ws es).take (i + 1) = (costsOf ws es).take i ++ [w.cost.at e] := by
  rw [List.take_add_one]
  have : (costsOf ws es)[i]? = some (w.cost.at e) := by unfold costsOf; rw [List.getElem?_zipWith, h1, h2]
  rw [this]; rfl
theorem m_costs_of (G : Ct) (hG : G.fn "cost_at" = some (2, c_cost_at)) : Meets G n_costs_of.length b_costs_of 2 c_costs_of := by
  rintro vs h Q X hl ⟨ws, es, rfl, ok, hn, hz, hq⟩
  change wpB G b_costs_of _ [some _, some _, none, none] h
  refine wpB_cons ?_
  open_k with hG
  have hlen : (costsOf ws es).length = ws.length := by unfold costsOf; rw [List.length_zipWith, hn, Nat.min_self]
  refine ⟨fun i acc h' => acc = ((costsOf ws es).take i).map D.int ∧ h' = h, ⟨rfl, rfl⟩, ?_⟩
  rintro i acc h' ⟨rfl, rfl⟩
  refine ⟨trivial, ?_, ?_⟩
  · intro e p hp
    open_k with true_and
    refine ⟨h', sub_but hp, ?_⟩
    rw [zipD_len2, List.length_map, List.length_map, hn, Nat.min_self] at e
    rw [List.take_of_length_le (by omega)]
    exact hq
  · intro d hd
    obtain ⟨x, y, rfl, h1, h2⟩ := zipD_get2 hd
    obtain ⟨w, hw, rfl⟩ := map_get h1
    obtain ⟨e, he, rfl⟩ := map_get h2
    have hi : i < ws.length := (List.getElem?_eq_some_iff.mp hw).1
    simp only [wipeA]
    open_k with And.intro hG (Wk.D_eq w)
    refine ⟨w.cost, e, rfl, ok w (List.mem_of_getElem? hw), by rw [List.length_map, List.length_take, hlen, sizeLine_eq]; omega, h', Sub.refl, ?_, rfl⟩
    rw [costs_take hw he, List.map_append]; rfl
abbrev n_worth : List Str := ["works", "ends", "question", "told"]
abbrev p_worth : List Str := ["works", "ends", "question"]
def b_worth : Ss :=
  (.cons (.set (.n 3) (.call "costs_of" (.cons (.v 0) (.cons (.v 1) .nil))))
    (.cons (.ret (.ite (.cmp .eq (.v 2) (.k (.str "greatest"))) (.bi .max (.cons (.v 3) .nil)) (.bi .sum (.cons (.v 3) .nil))))
    .nil))

def worthV (q : Str) (ws : List Wk) (es : List Int) : Int := if q = "greatest" then maxI (costsOf ws es) else (costsOf ws es).sum
def c_worth : ASp := fun vs h Q X => ∃ (ws : List Wk) (es : List Int) (q : Str), vs = [.tup (ws.map Wk.D), .tup (es.map D.int), .str q] ∧ (∀ w, w ∈ ws → w.cost.Ok) ∧ ws.length = es.length ∧ 0 < ws.length ∧ ws.length ≤ 1000 ∧ Q (.int (worthV q ws es)) h
theorem m_worth (G : Ct) (hG : G.fn "costs_of" = some (2, c_costs_of)) : Meets G n_worth.length b_worth 3 c_worth := by
  rintro vs h Q X hl ⟨ws, es, q, rfl, ok, hn, h0, hz, hq⟩
  change wpB G b_worth _ [some _, some _, some _, none] h
  refine wpB_cons ?_
  open_k with hG
  refine ⟨ws, es, rfl, ok, hn, hz, ?_⟩
  have hlen : (costsOf ws es).length = ws.length := by unfold costsOf; rw [List.length_zipWith, hn, Nat.min_self]
  walk_at "mp1"
  by_cases c : q = "greatest"
  · rw [decide_eq_true c]
    open_k with true_and
    refine max_ints (by omega) ⟨h, Sub.refl, ?_⟩
    unfold worthV at hq
    rw [if_pos c] at hq
    exact hq
  · rw [decide_eq_false c]
    open_k with true_and
    refine ⟨_, rfl, h, Sub.refl, ?_⟩
    unfold worthV at hq
    rw [if_neg c] at hq
    exact hq
abbrev n_run : List Str := ["works", "order", "pieces", "end", "work", "length", "coming", "cost", "begin"]
abbrev p_run : List Str := ["works", "order"]
def b_run : Ss :=
  (.cons (.set (.n 2) (.lst .nil))
    (.cons (.set (.n 3) (.k (.int 0)))
    (.cons (.for_ (.n 4) (.e false (.v 1)) (.cons (.set (.tup (.cons (.n 5) (.cons (.n 6) (.cons (.n 7) .nil)))) (.ix (.v 0) (.v 4)))
    (.cons (.set (.n 8) (.bi .max (.cons (.v 3) (.cons (.v 6) .nil))))
    (.cons (.set (.n 3) (.bin .add (.v 8) (.v 5)))
    (.cons (.ex (.mt .append (.v 2) (.cons (.tup (.cons (.v 4) (.cons (.v 8) (.cons (.v 3) .nil)))) .nil)))
    .nil)))))
    (.cons (.ret (.bi .tuple (.cons (.v 2) .nil)))
    .nil))))

/-- pieces: the work, its start, its end -/
abbrev Pc := Int × Int × Int
def pcD (p : Pc) : D := .tup [.int p.1, .int p.2.1, .int p.2.2]
theorem pcD_eq (p : Pc) : pcD p = .tup [.int p.1, .int p.2.1, .int p.2.2] := rfl
def wk0 : Wk := ⟨0, 0, .late 0⟩
def runV (ws : List Wk) : List Nat → Int → List Pc
  | [], _ => []
  | o :: os, e => let w := ws.getD o wk0; ((o : Int), max e w.com, max e w.com + w.len) :: runV ws os (max e w.com + w.len)
def runE (ws : List Wk) : List Nat → Int → Int
  | [], e => e
  | o :: os, e => let w := ws.getD o wk0; runE ws os (max e w.com + w.len)
theorem runV_app (ws : List Wk) : ∀ (a b : List Nat) (e : Int), runV ws (a ++ b) e = runV ws a e ++ runV ws b (runE ws a e)
  | [], b, e => rfl
  | o :: a, b, e => by
    show _ :: runV ws (a ++ b) _ = _ :: _ ++ _
    rw [runV_app ws a b]; rfl
theorem runE_app (ws : List Wk) : ∀ (a b : List Nat) (e : Int), runE ws (a ++ b) e = runE ws b (runE ws a e)
  | [], b, e => rfl
  | o :: a, b, e => runE_app ws a b _
theorem runV_len (ws : List Wk) : ∀ (a : List Nat) (e : Int), (runV ws a e).length = a.length
  | [], e => rfl
  | o :: a, e => by show (runV ws a _).length + 1 = _; rw [runV_len ws a]; rfl
def natD (n : Nat) : D := .int n
def c_run : ASp := fun vs h Q X => ∃ (ws : List Wk) (os : List Nat), vs = [.tup (ws.map Wk.D), .tup (os.map natD)] ∧ (∀ o, o ∈ os → o < ws.length) ∧ os.length ≤ 1000 ∧ Q (.tup ((runV ws os 0).map pcD)) h
theorem m_run (G : Ct) : Meets G n_run.length b_run 2 c_run := by
  rintro vs h Q X hl ⟨ws, os, rfl, ho, hz, hq⟩
  change wpB G b_run _ [some _, some _, none, none, none, none, none, none, none] h
  walk_at "mp1"
  intro p hp
  walk_at "mp1"
  walk_at "mp1"
  refine ⟨fun i s h' => ∃ d4 d5 d6 d7 d8, s = [some (.tup (ws.map Wk.D)), some (.tup (os.map natD)), some (.ref p), some (.int (runE ws (os.take i) 0)), d4, d5, d6, d7, d8] ∧ h' = aput h p (.lst ((runV ws (os.take i) 0).map pcD)), ⟨_, _, _, _, _, rfl, rfl⟩, ?_⟩
  rintro i s h' ⟨d4, d5, d6, d7, d8, rfl, rfl⟩
  refine ⟨?_, ?_⟩
  · intro e
    walk_at "mp1"
    rw [List.length_map] at e
    rw [List.take_of_length_le (by omega)]
    exact ⟨h, sub_but hp, hq⟩
  · intro d hd
    obtain ⟨o, hoi, rfl⟩ := map_get hd
    have hlt := ho o (List.mem_of_getElem? hoi)
    have hi : i < os.length := (List.getElem?_eq_some_iff.mp hoi).1
    unfold natD
    refine wpB_cons ?_
    open_k with true_and
    refine ⟨_, atI_nat (List.getElem?_eq_getElem (by simpa using hlt)), ?_⟩
    rw [List.getElem_map, Wk.D_eq]
    walk_at "mp"
    walk_at "mp1"
    walk_at "mp1"
    walk_at "mp1"
    refine ⟨by rw [List.length_map, runV_len, List.length_take, sizeLine_eq]; omega, ?_⟩
    have e0 : ws.getD o wk0 = ws[o] := by rw [List.getD_eq_getElem?_getD, List.getElem?_eq_getElem hlt]; rfl
    refine wpB_nil (G := G) ⟨_, _, SSub.refl, Sub.refl, some (.int o), some (.int ws[o].len), some (.int ws[o].com), some ws[o].cost.D, some (.int (max (runE ws (os.take i) 0) ws[o].com)), ?_, ?_⟩
    · rw [take_one hoi, runE_app]
      show _ = [_, _, _, some (D.int (max (runE ws (os.take i) 0) (ws.getD o wk0).com + (ws.getD o wk0).len)), _, _, _, _, _]
      rw [e0]
    · rw [take_one hoi, runV_app, List.map_append]
      show _ = aput h p (AO.lst (_ ++ [pcD ((o : Int), max (runE ws (os.take i) 0) (ws.getD o wk0).com, max (runE ws (os.take i) 0) (ws.getD o wk0).com + (ws.getD o wk0).len)]))
      rw [e0]; rfl
abbrev n_ends_of : List Str := ["works", "plan", "work", "one", "start", "end"]
abbrev p_ends_of : List Str := ["works", "plan"]
def b_ends_of : Ss :=
  (.cons (.ret (.bi .tuple (.cons (.lc [("work", 2)] (.n 2) (.rng .no (.bi .len (.cons (.v 0) .nil))) .no (.bi .max (.cons (.lc [("one", 3), ("start", 4), ("end", 5)] (.tup (.cons (.n 3) (.cons (.n 4) (.cons (.n 5) .nil)))) (.e false (.v 1)) (.yes (.cmp .eq (.v 3) (.v 2))) (.v 5)) .nil))) .nil)))
    .nil)

def endsOf (n : Nat) (ps : List Pc) : List Int := (List.range n).map fun (k : Nat) => maxI ((ps.filter fun p => p.1 == (k : Int)).map (·.2.2))
def c_ends_of : ASp := fun vs h Q X => ∃ (ws : List D) (ps : List Pc), vs = [.tup ws, .tup (ps.map pcD)] ∧ (∀ k : Nat, k < ws.length → ∃ p, p ∈ ps ∧ p.1 = k) ∧ ps.length ≤ 1000 ∧ ws.length ≤ 1000 ∧ Q (.tup ((endsOf ws.length ps).map D.int)) h
theorem m_ends_of (G : Ct) : Meets G n_ends_of.length b_ends_of 2 c_ends_of := by
  rintro vs h Q X hl ⟨ws, ps, rfl, hk, hz, hw, hq⟩
  change wpB G b_ends_of _ [some _, some _, none, none, none, none] h
  walk_at "mp1"
  refine ⟨⟨by decide, by decide⟩, ⟨by omega, by omega⟩, ?_⟩
  have hlen : (endsOf ws.length ps).length = ws.length := by unfold endsOf; rw [List.length_map, List.length_range]
  refine ⟨fun i acc h' => acc = ((endsOf ws.length ps).take i).map D.int ∧ Sub h h', ⟨rfl, Sub.refl⟩, ?_⟩
  rintro i acc h' ⟨rfl, sb⟩
  refine ⟨trivial, ?_, ?_⟩
  · intro e p hp
    open_k with true_and
    refine ⟨h, sb.trans (sub_but hp), ?_⟩
    rw [rngD_len] at e
    rw [List.take_of_length_le (by omega)]
    exact hq
  · intro d hd
    obtain ⟨rfl, hi⟩ := rngD_get hd
    have hi2 : i < ws.length := by omega
    simp only [wipeA]
    open_k with true_and
    refine ⟨fun j acc2 h2 => acc2 = ((((ps.take j).filter fun p => p.1 == (i : Int)).map (·.2.2))).map D.int ∧ h2 = h', ⟨rfl, rfl⟩, ?_⟩
    rintro j acc2 h2 ⟨rfl, rfl⟩
    refine ⟨trivial, ?_, ?_⟩
    · intro e p hp
      rw [List.length_map] at e
      rw [List.take_of_length_le (by omega)]
      refine .inl ⟨_, aput_same, ?_, ?_⟩
      · obtain ⟨p, h1, h2⟩ := hk i hi2
        rw [List.length_map]
        exact List.length_pos_of_mem (List.mem_filter.mpr ⟨h1, by simpa using h2⟩)
      · refine ⟨by rw [List.length_map, List.length_take, hlen, sizeLine_eq]; omega, _, Sub.refl, ?_, sb.trans (sub_but hp)⟩
        rw [List.take_add_one, show (endsOf ws.length ps)[i]? = some (maxI ((ps.filter fun p => p.1 == (i : Int)).map (·.2.2))) by unfold endsOf; rw [List.getElem?_map, List.getElem?_range hi2]; rfl]
        simp
    · intro d hd
      obtain ⟨p, hp, rfl⟩ := map_get hd
      have hj : j < ps.length := (List.getElem?_eq_some_iff.mp hp).1
      rw [pcD_eq]
      simp only [wipeA]
      open_k with true_and
      rw [show (0 : Int) + (i : Nat) = i by omega]
      have flen := List.length_filter_le (fun p : Pc => p.1 == (i : Int)) (ps.take j)
      rw [List.length_take] at flen
      by_cases c : p.1 = (i : Int)
      · rw [decide_eq_true c]
        open_k with true_and
        refine ⟨by rw [List.length_map, List.length_map, sizeLine_eq]; omega, _, Sub.refl, ?_, rfl⟩
        rw [take_one hp, List.filter_append, List.map_append, List.map_append]
        simp [c]
      · rw [decide_eq_false c]
        open_k with true_and
        refine ⟨_, Sub.refl, ?_, rfl⟩
        rw [take_one hp, List.filter_append, List.map_append, List.map_append]
        simp [c]
end MP
/-! PL: plain data: what repr shows of them, how long it is at most. -/
namespace MP
open PySem PySem.Spec PyProof.Rows L2
mutual
def dP : D → PyData
  | .non => .none | .bl b => .bool b | .int i => .int i | .str x => .str x | .tup ds => .tuple (dPs ds) | .pr _ => .none | .cl _ => .none | .ref _ => .none | .exn .. => .none | .err .. => .none
def dPs : List D → List PyData
  | [] => []
  | d :: ds => dP d :: dPs ds
end
mutual
/-- plain, small -/
def okD : D → Prop
  | .int i => i.natAbs.log2 < 1920
  | .str x => (PyData.str x).shown.length ≤ 1000
  | .tup ds => okDs ds
  | .pr _ => False
  | .cl _ => False
  | .ref _ => False
  | .exn .. => False
  | .err .. => False
  | _ => True
def okDs : List D → Prop
  | [] => True
  | d :: ds => okD d ∧ okDs ds
end
mutual
def wtD : D → Nat
  | .tup ds => wtDs ds + 5
  | _ => 2000
def wtDs : List D → Nat
  | [] => 0
  | d :: ds => wtD d + 2 + wtDs ds
end
mutual
def dpD : D → Nat
  | .tup ds => dpDs ds + 1
  | _ => 0
def dpDs : List D → Nat
  | [] => 0
  | d :: ds => max (dpD d) (dpDs ds)
end
mutual
theorem dat_ok {h : AH} : ∀ {d : D}, okD d → Dat h d (dP d)
  | .non, _ => by unfold dP; exact .non
  | .bl b, _ => by unfold dP; exact .bl b
  | .int i, _ => by unfold dP; exact .int i
  | .str x, _ => by unfold dP; exact .str x
  | .tup ds, q => by unfold dP; unfold okD at q; exact .tup (dats_ok q)
  | .pr _, q => by unfold okD at q; exact q.elim
  | .cl _, q => by unfold okD at q; exact q.elim
  | .ref _, q => by unfold okD at q; exact q.elim
  | .exn .., q => by unfold okD at q; exact q.elim
  | .err .., q => by unfold okD at q; exact q.elim
theorem dats_ok {h : AH} : ∀ {ds : List D}, okDs ds → Dats h ds (dPs ds)
  | [], _ => by unfold dPs; exact .nil
  | d :: ds, q => by unfold dPs; unfold okDs at q; exact .cons (dat_ok q.1) (dats_ok q.2)
end
theorem int_len {i : Int} (h : i.natAbs.log2 < 1920) : (Str.ofString (toString i)).length ≤ 1921 := by
  have h1 := PySem.int_text_length_le (by decide : 0 < 1920) h
  rw [PySem.ofString_length]; omega
theorem text_from : ∀ (ts : List Str) (k : Nat) (acc : Str), (textFrom k acc ts).length ≤ acc.length + piled ts
  | [], k, acc => by show acc.length ≤ _; omega
  | t :: r, k, acc => by
    have h := text_from r (k + 1) (acc ++ (if k > 0 then ", " else "" : String) ++ t)
    have e : (acc ++ (if k > 0 then ", " else "" : String) ++ t).length = acc.length + (if k > 0 then 2 else 0) + t.length := by
      rw [strLen_append, strLen_append]
      split <;> rfl
    show (textFrom (k + 1) (acc ++ (if k > 0 then ", " else "" : String) ++ t) r).length ≤ _
    have : piled (t :: r) = t.length + 2 + piled r := by simp [piled]
    rw [this]
    rw [e] at h
    have : (if k > 0 then 2 else 0) ≤ 2 := by split <;> omega
    omega
theorem list_len (ts : List Str) : (listText ts).length ≤ piled ts + 2 := by
  unfold listText
  have := text_from ts 0 "["
  rw [strLen_append]
  have e1 : (("[" : String) : Str).length = 1 := rfl
  have e2 : (("]" : String) : Str).length = 1 := rfl
  omega
theorem tup_len (ts : List Str) : (tupleText ts).length ≤ piled ts + 5 := by
  unfold tupleText
  rw [strLen_append, strLen_append]
  have e1 : (("(" : Str)).length = 1 := rfl
  have e2 : ((if ts.length == 1 then ",)" else ")" : String) : Str).length ≤ 2 := by split <;> decide
  cases ts with
  | nil =>
    have : (Str.join ", " ([] : List Str)).length = 0 := rfl
    omega
  | cons t r =>
    have := join_length_add (t :: r) (by simp)
    omega
mutual
theorem ok_all : ∀ {d : D}, okD d → (dP d).showable = true ∧ (dP d).hasDict = false ∧ (dP d).depth = dpD d ∧ (dP d).shown.length ≤ wtD d
  | .non, _ => by unfold dP dpD wtD; refine ⟨by simp [PyData.showable], by simp [PyData.hasDict], by simp [PyData.depth], ?_⟩; simp only [PyData.shown]; decide
  | .bl b, _ => by unfold dP dpD wtD; refine ⟨by simp [PyData.showable], by simp [PyData.hasDict], by simp [PyData.depth], ?_⟩; simp only [PyData.shown]; cases b <;> decide
  | .int i, q => by
    unfold okD at q
    unfold dP dpD wtD; refine ⟨by simp [PyData.showable, q], by simp [PyData.hasDict], by simp [PyData.depth], ?_⟩; simp only [PyData.shown]
    have := int_len q
    omega
  | .str x, q => by
    unfold okD at q
    unfold dP dpD wtD; exact ⟨by simp [PyData.showable], by simp [PyData.hasDict], by simp [PyData.depth], by omega⟩
  | .tup ds, q => by
    unfold okD at q
    unfold dP dpD wtD
    obtain ⟨a, b, c, e⟩ := oks_all q
    refine ⟨by simpa [PyData.showable] using a, by simpa [PyData.hasDict] using b, by simp only [PyData.depth, c], ?_⟩
    simp only [PyData.shown]
    have := tup_len (PyData.shownAll (dPs ds))
    omega
  | .pr _, q => by unfold okD at q; exact q.elim
  | .cl _, q => by unfold okD at q; exact q.elim
  | .ref _, q => by unfold okD at q; exact q.elim
  | .exn .., q => by unfold okD at q; exact q.elim
  | .err .., q => by unfold okD at q; exact q.elim
theorem oks_all : ∀ {ds : List D}, okDs ds → PyData.showableAll (dPs ds) = true ∧ PyData.hasDictAll (dPs ds) = false ∧ PyData.depthAll (dPs ds) = dpDs ds ∧ piled (PyData.shownAll (dPs ds)) ≤ wtDs ds
  | [], _ => by unfold dPs dpDs wtDs; exact ⟨by simp [PyData.showableAll], by simp [PyData.hasDictAll], by simp [PyData.depthAll], by simp [PyData.shownAll, piled]⟩
  | d :: ds, q => by
    unfold okDs at q
    unfold dPs dpDs wtDs
    obtain ⟨a, b, c, e⟩ := ok_all q.1
    obtain ⟨a2, b2, c2, e2⟩ := oks_all q.2
    refine ⟨by simp [PyData.showableAll, a, a2], by simp [PyData.hasDictAll, b, b2], by simp only [PyData.depthAll, c, c2], ?_⟩
    have : piled (PyData.shownAll (dP d :: dPs ds)) = (dP d).shown.length + 2 + piled (PyData.shownAll (dPs ds)) := by simp [PyData.shownAll, piled]
    omega
end
theorem repr_ok {h : AH} {Q : AK} {d : D} (o : okD d) (w : wtD d ≤ 16000000) (z : dpD d ≤ 60) (q : Q (.str (dP d).shown) h) : reprD [d] h Q := by
  obtain ⟨a, b, c, e⟩ := ok_all o
  exact ⟨dP d, dat_ok o, a, b, by omega, by rw [sizeLine_eq]; omega, q⟩
theorem repr_lst {h : AH} {Q : AK} {a : Addr} {ds : List D} (e : h a = some (.lst ds)) (o : okDs ds) (w : wtDs ds ≤ 16000000) (z : dpDs ds ≤ 60) (q : Q (.str (PyData.list (dPs ds)).shown) h) : reprD [.ref a] h Q := by
  obtain ⟨a1, b, c, e1⟩ := oks_all o
  refine ⟨.list (dPs ds), .lst e (dats_ok o), by simpa [PyData.showable] using a1, by simpa [PyData.hasDict] using b, by simp only [PyData.depth, c]; omega, ?_, q⟩
  simp only [PyData.shown]
  have := list_len (PyData.shownAll (dPs ds))
  rw [sizeLine_eq]; omega
theorem okDs_iff : ∀ {ds : List D}, okDs ds ↔ ∀ d, d ∈ ds → okD d
  | [] => by unfold okDs; simp
  | d :: ds => by unfold okDs; rw [okDs_iff]; simp
theorem wtDs_le {n : Nat} : ∀ {ds : List D}, (∀ d, d ∈ ds → wtD d ≤ n) → wtDs ds ≤ (n + 2) * ds.length
  | [], _ => by unfold wtDs; omega
  | d :: ds, q => by
    unfold wtDs
    have h1 := q d (List.mem_cons_self ..)
    have h2 := wtDs_le fun x hx => q x (List.mem_cons_of_mem _ hx)
    rw [List.length_cons, Nat.mul_add]; omega
theorem dpDs_le {n : Nat} : ∀ {ds : List D}, (∀ d, d ∈ ds → dpD d ≤ n) → dpDs ds ≤ n
  | [], _ => by unfold dpDs; omega
  | d :: ds, q => by
    unfold dpDs
    have h1 := q d (List.mem_cons_self ..)
    have h2 := dpDs_le fun x hx => q x (List.mem_cons_of_mem _ hx)
    omega
end MP
/-! CB: works and costs of bounded numbers: repr's room, values' bounds. -/
namespace MP
open PySem L2
/-- no more than a million either way -/
def mil (i : Int) : Prop := -1000000 ≤ i ∧ i ≤ 1000000
def Cst.Bd : Cst → Prop
  | .late d => mil d
  | .tardy d w => mil d ∧ mil w
  | .miss d w => mil d ∧ mil w
  | .ends w => mil w
  | .steps rows => rows.length ≤ 20 ∧ ∀ r, r ∈ rows → mil r.1 ∧ mil r.2
structure Wk.Bd (w : Wk) : Prop where
  len : 1 ≤ w.len ∧ w.len ≤ 1000000
  com : mil w.com
  cost : w.cost.Bd
theorem log_lt {i : Int} {k : Nat} (h : i.natAbs < 2 ^ k) (hk : 0 < k) : i.natAbs.log2 < k := by
  by_cases h3 : i.natAbs = 0
  · rw [h3]; exact hk
  · exact (Nat.log2_lt h3).mpr h
theorem log_le {i : Int} {k m : Nat} (h : i.natAbs < 2 ^ k) (hk : 0 < k) (hm : k ≤ m) : i.natAbs.log2 < m := Nat.lt_of_lt_of_le (log_lt h hk) hm
theorem mil_log {i : Int} (h : mil i) : i.natAbs.log2 < 1920 := log_le (k := 21) (by obtain ⟨a, b⟩ := h; omega) (by decide) (by decide)
theorem mil_small {i : Int} (h : mil i) : small64 i := by obtain ⟨a, b⟩ := h; exact ⟨by omega, by omega⟩
theorem Cst.Bd.ok {c : Cst} (h : c.Bd) : c.Ok := by
  cases c with
  | tardy d w => exact mil_small h.2
  | ends w => exact mil_small h
  | _ => trivial
theorem okD_int {i : Int} (h : i.natAbs.log2 < 1920) : okD (.int i) := by unfold okD; exact h
theorem okD_tup {ds : List D} (h : ∀ d, d ∈ ds → okD d) : okD (.tup ds) := by unfold okD; exact okDs_iff.mpr h
theorem okD_words : okD (.str "late") ∧ okD (.str "tardy") ∧ okD (.str "miss") ∧ okD (.str "ends") ∧ okD (.str "steps") := by
  unfold okD PyData.shown; decide +kernel
theorem wtD_int {i : Int} : wtD (.int i) = 2000 := by unfold wtD; rfl
theorem wtD_str {x : Str} : wtD (.str x) = 2000 := by unfold wtD; rfl
theorem wtD_tup {ds : List D} : wtD (.tup ds) = wtDs ds + 5 := by rw [wtD]
theorem dpD_int {i : Int} : dpD (.int i) = 0 := by unfold dpD; rfl
theorem dpD_str {x : Str} : dpD (.str x) = 0 := by unfold dpD; rfl
theorem dpD_tup {ds : List D} : dpD (.tup ds) = dpDs ds + 1 := by rw [dpD]
theorem Cst.Bd.sz {c : Cst} (h : c.Bd) : okD c.D ∧ wtD c.D ≤ 90000 ∧ dpD c.D ≤ 3 := by
  obtain ⟨o1, o2, o3, o4, o5⟩ := okD_words
  cases c with
  | late d =>
    refine ⟨okD_tup (by simpa using ⟨o1, okD_int (mil_log h)⟩), ?_, ?_⟩
    · simp only [Cst.D, wtD_tup, wtDs, wtD_int, wtD_str]; omega
    · simp only [Cst.D, dpD_tup, dpDs, dpD_int, dpD_str]; omega
  | tardy d w =>
    refine ⟨okD_tup (by simpa using ⟨o2, okD_int (mil_log h.1), okD_int (mil_log h.2)⟩), ?_, ?_⟩
    · simp only [Cst.D, wtD_tup, wtDs, wtD_int, wtD_str]; omega
    · simp only [Cst.D, dpD_tup, dpDs, dpD_int, dpD_str]; omega
  | miss d w =>
    refine ⟨okD_tup (by simpa using ⟨o3, okD_int (mil_log h.1), okD_int (mil_log h.2)⟩), ?_, ?_⟩
    · simp only [Cst.D, wtD_tup, wtDs, wtD_int, wtD_str]; omega
    · simp only [Cst.D, dpD_tup, dpDs, dpD_int, dpD_str]; omega
  | ends w =>
    refine ⟨okD_tup (by simpa using ⟨o4, okD_int (mil_log h)⟩), ?_, ?_⟩
    · simp only [Cst.D, wtD_tup, wtDs, wtD_int, wtD_str]; omega
    · simp only [Cst.D, dpD_tup, dpDs, dpD_int, dpD_str]; omega
  | steps rows =>
    obtain ⟨hl, hr⟩ := h
    have h1 : ∀ d, d ∈ rows.map prD → okD d ∧ wtD d ≤ 4009 ∧ dpD d ≤ 1 := by
      intro d hd
      obtain ⟨r, m, rfl⟩ := List.mem_map.mp hd
      obtain ⟨a, b⟩ := hr r m
      refine ⟨okD_tup (by simpa using ⟨okD_int (mil_log a), okD_int (mil_log b)⟩), ?_, ?_⟩
      · simp only [prD, wtD_tup, wtDs, wtD_int]; omega
      · simp only [prD, dpD_tup, dpDs, dpD_int]; omega
    have h2 := wtDs_le fun d hd => (h1 d hd).2.1
    have h3 := dpDs_le fun d hd => (h1 d hd).2.2
    rw [List.length_map] at h2
    have h4 : okD (.tup (rows.map prD)) := okD_tup fun d hd => (h1 d hd).1
    refine ⟨okD_tup (by simpa using ⟨o5, h4⟩), ?_, ?_⟩
    · simp only [Cst.D, wtD_tup, wtDs, wtD_str]; omega
    · simp only [Cst.D, dpD_tup, dpDs, dpD_str]; omega
theorem Wk.Bd.sz {w : Wk} (h : w.Bd) : okD w.D ∧ wtD w.D ≤ 95000 ∧ dpD w.D ≤ 4 := by
  obtain ⟨a, b, c⟩ := h.cost.sz
  refine ⟨okD_tup (by
    intro d hd
    simp only [List.mem_cons, List.not_mem_nil, or_false] at hd
    rcases hd with rfl | rfl | rfl
    · exact okD_int (mil_log ⟨by have := h.len; omega, h.len.2⟩)
    · exact okD_int (mil_log h.com)
    · exact a), ?_, ?_⟩
  · simp only [Wk.D, wtD_tup, wtDs, wtD_int]; omega
  · simp only [Wk.D, dpD_tup, dpDs, dpD_int]; omega
theorem works_sz {ws : List Wk} (h : ∀ w, w ∈ ws → w.Bd) (hn : ws.length ≤ 100) : okD (.tup (ws.map Wk.D)) ∧ wtD (.tup (ws.map Wk.D)) ≤ 9600000 ∧ dpD (.tup (ws.map Wk.D)) ≤ 5 := by
  have h1 : ∀ d, d ∈ ws.map Wk.D → okD d ∧ wtD d ≤ 95000 ∧ dpD d ≤ 4 := by
    intro d hd
    obtain ⟨w, m, rfl⟩ := List.mem_map.mp hd
    exact (h w m).sz
  have h2 := wtDs_le fun d hd => (h1 d hd).2.1
  have h3 := dpDs_le fun d hd => (h1 d hd).2.2
  rw [List.length_map] at h2
  exact ⟨okD_tup fun d hd => (h1 d hd).1, by rw [wtD_tup]; omega, by rw [dpD_tup]; omega⟩
theorem ints_sz {ns : List Int} (h : ∀ n, n ∈ ns → n.natAbs.log2 < 1920) (hn : ns.length ≤ 1000) : okD (.tup (ns.map D.int)) ∧ wtD (.tup (ns.map D.int)) ≤ 2010000 ∧ dpD (.tup (ns.map D.int)) ≤ 1 := by
  have h1 : ∀ d, d ∈ ns.map D.int → okD d ∧ wtD d ≤ 2000 ∧ dpD d ≤ 0 := by
    intro d hd
    obtain ⟨w, m, rfl⟩ := List.mem_map.mp hd
    exact ⟨okD_int (h w m), by rw [wtD_int]; omega, by rw [dpD_int]; omega⟩
  have h2 := wtDs_le fun d hd => (h1 d hd).2.1
  have h3 := dpDs_le fun d hd => (h1 d hd).2.2
  rw [List.length_map] at h2
  exact ⟨okD_tup fun d hd => (h1 d hd).1, by rw [wtD_tup]; omega, by rw [dpD_tup]; omega⟩
theorem two_sz {d e : D} {a b x y : Nat} (h1 : okD d ∧ wtD d ≤ a ∧ dpD d ≤ x) (h2 : okD e ∧ wtD e ≤ b ∧ dpD e ≤ y) : okD (.tup [d, e]) ∧ wtD (.tup [d, e]) ≤ a + b + 9 ∧ dpD (.tup [d, e]) ≤ max x y + 1 :=
  ⟨okD_tup (by simpa using ⟨h1.1, h2.1⟩), by simp only [wtD_tup, wtDs]; omega, by simp only [dpD_tup, dpDs]; omega⟩
/-! what a cost tells -/
theorem steps_bd {t : Int} : ∀ (rows : List (Int × Int)) (f : Int), mil f → (∀ r, r ∈ rows → mil r.1 ∧ mil r.2) → mil (stepsAt t f rows)
  | [], f, h, _ => h
  | r :: rows, f, h, q => by
    show mil (stepsAt t (if r.1 ≤ t then r.2 else f) rows)
    refine steps_bd rows _ ?_ fun x hx => q x (List.mem_cons_of_mem _ hx)
    split
    · exact (q r (List.mem_cons_self ..)).2
    · exact h
theorem mul_bd {w x B C : Int} (h1 : -B ≤ w) (h2 : w ≤ B) (h3 : -C ≤ x) (h4 : x ≤ C) : -(B * C) ≤ w * x ∧ w * x ≤ B * C := by
  have e : (w * x).natAbs ≤ (B * C).natAbs := by
    rw [Int.natAbs_mul, Int.natAbs_mul]
    exact Nat.mul_le_mul (by omega) (by omega)
  have e2 : 0 ≤ B * C := Int.mul_nonneg (by omega) (by omega)
  omega
theorem Cst.Bd.at {c : Cst} (h : c.Bd) {t : Int} (h1 : -1000000000 ≤ t) (h2 : t ≤ 1000000000) : -10000000000000000 ≤ c.at t ∧ c.at t ≤ 10000000000000000 := by
  cases c with
  | late d => obtain ⟨a, b⟩ := h; show _ ≤ t - d ∧ t - d ≤ _; omega
  | tardy d w =>
    obtain ⟨⟨a, b⟩, c, e⟩ := h
    have := mul_bd (w := w) (x := max 0 (t - d)) (B := 1000000) (C := 2000000000) c e (by omega) (by omega)
    show _ ≤ w * max 0 (t - d) ∧ w * max 0 (t - d) ≤ _; omega
  | miss d w =>
    obtain ⟨⟨a, b⟩, c, e⟩ := h
    show _ ≤ (if t > d then w else 0) ∧ (if t > d then w else 0) ≤ _
    split <;> omega
  | ends w =>
    obtain ⟨c, e⟩ := h
    have := mul_bd (w := w) (x := t) (B := 1000000) (C := 1000000000) c e h1 h2
    show _ ≤ w * t ∧ w * t ≤ _; omega
  | steps rows =>
    have := steps_bd (t := t) rows 0 (by constructor <;> decide) h.2
    obtain ⟨a, b⟩ := this
    show _ ≤ stepsAt t 0 rows ∧ stepsAt t 0 rows ≤ _; omega
end MP
/-! CS: costs as they are drawn: small, of rising rows. -/
namespace MP
open PySem L2
/-- no more than a hundred thousand either way -/
def sml (i : Int) : Prop := -100000 ≤ i ∧ i ≤ 100000
def Cst.Sm : Cst → Prop
  | .late d => sml d
  | .tardy d w => sml d ∧ sml w
  | .miss d w => sml d ∧ sml w
  | .ends w => sml w
  | .steps rows => rows.length ≤ 20 ∧ ∀ r, r ∈ rows → sml r.1 ∧ sml r.2
theorem sml.mil {i : Int} (h : sml i) : MP.mil i := by unfold sml at h; unfold MP.mil; omega
theorem Cst.Sm.bd {c : Cst} (h : c.Sm) : c.Bd := by
  cases c with
  | late d => exact sml.mil h
  | tardy d w => exact ⟨h.1.mil, h.2.mil⟩
  | miss d w => exact ⟨h.1.mil, h.2.mil⟩
  | ends w => exact sml.mil h
  | steps rows => exact ⟨h.1, fun r m => ⟨(h.2 r m).1.mil, (h.2 r m).2.mil⟩⟩
/-- a cost as they draw it -/
def Cst.Std : Cst → Prop
  | .late _ => True
  | .tardy _ w => 0 ≤ w
  | .miss _ w => 0 ≤ w
  | .ends w => 0 ≤ w
  | .steps rows => rows ≠ [] ∧ (∀ r, r ∈ rows → 0 ≤ r.2) ∧ rows.Pairwise fun x y => x.1 < y.1 ∧ x.2 ≤ y.2
def Cst.way : Cst → Int
  | .late _ => 0 | .tardy _ _ => 1 | .miss _ _ => 2 | .ends _ => 3 | .steps _ => 4
end MP
/-! WG: the wishes' graph: who is behind whom; plain law. -/
namespace MP
open PySem L2
inductive Rch (ps : List (Int × Int)) : Int → Int → Prop
  | one {a b : Int} : (a, b) ∈ ps → Rch ps a b
  | more {a b c : Int} : Rch ps a b → (b, c) ∈ ps → Rch ps a c
structure WOk (m : Int) (ps : List (Int × Int)) : Prop where
  len : ps.length ≤ 16
  ind : ∀ p, p ∈ ps → 0 ≤ p.1 ∧ p.1 < m ∧ 0 ≤ p.2 ∧ p.2 < m
  acy : ∃ f : Int → Nat, (∀ p, p ∈ ps → f p.1 < f p.2) ∧ ∀ p, p ∈ ps → (f p.2 : Int) < m
theorem Rch.rank {ps : List (Int × Int)} {f : Int → Nat} (hf : ∀ p, p ∈ ps → f p.1 < f p.2) {a b : Int} (r : Rch ps a b) : f a < f b := by
  induction r with
  | one h => exact hf _ h
  | more _ h ih => have := hf _ h; simp only at this; omega
theorem WOk.irr {m : Int} {ps : List (Int × Int)} (w : WOk m ps) {a : Int} (r : Rch ps a a) : False := by
  obtain ⟨f, hf, _⟩ := w.acy
  have := r.rank hf
  omega
theorem WOk.to {m : Int} {ps : List (Int × Int)} (w : WOk m ps) {a b : Int} (r : Rch ps a b) : 0 ≤ b ∧ b < m := by
  cases r with
  | one h => exact (w.ind _ h).2.2
  | more _ h => exact (w.ind _ h).2.2
theorem WOk.from {m : Int} {ps : List (Int × Int)} (w : WOk m ps) {a b : Int} (r : Rch ps a b) : 0 ≤ a ∧ a < m := by
  induction r with
  | one h => exact ⟨(w.ind _ h).1, (w.ind _ h).2.1⟩
  | more _ _ ih => exact ih
theorem Rch.trans {ps : List (Int × Int)} {a b c : Int} (x : Rch ps a b) (y : Rch ps b c) : Rch ps a c := by
  induction y with
  | one h => exact .more x h
  | more _ h ih => exact .more ih h
/-- by rows of truths, through the first ones -/
def wsh (ps : List (Int × Int)) : Nat → Int → Int → Bool
  | 0, a, b => decide ((a, b) ∈ ps)
  | k + 1, a, b => wsh ps k a b || (wsh ps k a k && wsh ps k k b)
theorem wsh_rch {ps : List (Int × Int)} : ∀ (k : Nat) (a b : Int), wsh ps k a b = true → Rch ps a b
  | 0, a, b, h => by unfold wsh at h; exact .one (of_decide_eq_true h)
  | k + 1, a, b, h => by
    unfold wsh at h
    rw [Bool.or_eq_true, Bool.and_eq_true] at h
    rcases h with h | ⟨h1, h2⟩
    · exact wsh_rch k a b h
    · exact (wsh_rch k _ _ h1).trans (wsh_rch k _ _ h2)
theorem wsh_tr {ps : List (Int × Int)} : ∀ (k : Nat) (a b c : Int), 0 ≤ c → c < k → wsh ps k a c = true → wsh ps k c b = true → wsh ps k a b = true
  | 0, a, b, c, h0, h1, _, _ => by omega
  | k + 1, a, b, c, h0, h1, x, y => by
    unfold wsh at x y ⊢
    simp only [Bool.or_eq_true, Bool.and_eq_true] at x y ⊢
    by_cases e : c = (k : Int)
    · subst e
      have x1 : wsh ps k a k = true := by rcases x with x | ⟨x, _⟩ <;> exact x
      have y1 : wsh ps k k b = true := by rcases y with y | ⟨_, y⟩ <;> exact y
      exact .inr ⟨x1, y1⟩
    · have ih := fun a b => wsh_tr (ps := ps) k a b c h0 (by omega)
      rcases x with x | ⟨x, x'⟩ <;> rcases y with y | ⟨y, y'⟩
      · exact .inl (ih _ _ x y)
      · exact .inr ⟨ih _ _ x y, y'⟩
      · exact .inr ⟨x, ih _ _ x' y⟩
      · exact .inr ⟨x, y'⟩
theorem wsh_zero {ps : List (Int × Int)} {a b : Int} (h : (a, b) ∈ ps) : ∀ k, wsh ps k a b = true
  | 0 => by unfold wsh; exact decide_eq_true h
  | k + 1 => by unfold wsh; rw [wsh_zero h k]; rfl
theorem wsh_iff {m : Nat} {ps : List (Int × Int)} (w : WOk m ps) {a b : Int} : wsh ps m a b = true ↔ Rch ps a b := by
  constructor
  · exact wsh_rch m a b
  · intro r
    induction r with
    | one h => exact wsh_zero h m
    | more _ h ih =>
      have i := w.ind _ h
      exact wsh_tr m _ _ _ i.1 i.2.1 ih (wsh_zero h m)
theorem wsh_k {ps : List (Int × Int)} (k : Nat) (b : Int) : wsh ps (k + 1) k b = wsh ps k k b := by
  conv => lhs; unfold wsh
  cases wsh ps k k b <;> simp
/-! the numbers below m -/
def irng (m : Nat) : List Int := (List.range m).map fun (i : Nat) => (i : Int)
theorem irng_mem {m : Nat} {x : Int} : x ∈ irng m ↔ 0 ≤ x ∧ x < m := by
  unfold irng
  rw [List.mem_map]
  constructor
  · rintro ⟨a, h, rfl⟩
    have := List.mem_range.mp h
    omega
  · rintro ⟨a, b⟩
    exact ⟨x.toNat, List.mem_range.mpr (by omega), by omega⟩
theorem irng_succ (m : Nat) : irng (m + 1) = irng m ++ [(m : Int)] := by unfold irng; rw [List.range_succ, List.map_append]; rfl
theorem irng_len (m : Nat) : (irng m).length = m := by unfold irng; simp
theorem irng_get {m i : Nat} (h : i < m) : (irng m)[i]? = some (i : Int) := by unfold irng; rw [List.getElem?_map, List.getElem?_range h]; rfl
theorem irng_take {m i : Nat} (h : i ≤ m) : (irng m).take i = irng i := by unfold irng; rw [← List.map_take, List.take_range, Nat.min_eq_left h]
theorem rngD_irng (m : Nat) : rngD 0 m = (irng m).map D.int := by
  unfold rngD irng
  rw [List.map_map]
  refine List.map_congr_left fun i _ => ?_
  show D.int (0 + (i : Int)) = _
  rw [Int.zero_add]; rfl
theorem irng_rising (m : Nat) : (irng m).Pairwise (· < ·) := by
  unfold irng
  rw [List.pairwise_map]
  exact List.pairwise_lt_range.imp fun h => by omega
theorem irng_nodup (m : Nat) : (irng m).Nodup := (irng_rising m).imp fun h => by omega
/-- no more than m numbers below m -/
theorem few : ∀ (m : Nat) (l : List Int), l.Nodup → (∀ x, x ∈ l → 0 ≤ x ∧ x < m) → l.length ≤ m
  | 0, l, _, h => by
    cases l with
    | nil => exact Nat.le_refl _
    | cons x r => have := h x (List.mem_cons_self ..); omega
  | m + 1, l, n, h => by
    have h1 := few m (l.erase (m : Int)) (n.erase _) fun x hx => by
      have := h x (List.mem_of_mem_erase hx)
      have : x ≠ m := fun e => by
        subst e
        exact (List.Nodup.not_mem_erase n) hx
      omega
    rw [List.length_erase] at h1
    split at h1 <;> omega
/-- those below m that p lets by -/
def setB (m : Nat) (p : Int → Bool) : List Int := (irng m).filter p
theorem setB_mem {m : Nat} {p : Int → Bool} {x : Int} : x ∈ setB m p ↔ (0 ≤ x ∧ x < m) ∧ p x = true := by unfold setB; rw [List.mem_filter, irng_mem]
theorem setB_rising (m : Nat) (p : Int → Bool) : (setB m p).Pairwise (· < ·) := (irng_rising m).sublist (List.filter_sublist)
theorem setB_nodup (m : Nat) (p : Int → Bool) : (setB m p).Nodup := (setB_rising m p).imp fun h => by omega
theorem setB_sort {m : Nat} {p : Int → Bool} {l : List Int} (n : l.Nodup) (h : ∀ x, x ∈ l ↔ (0 ≤ x ∧ x < m) ∧ p x = true) : sortI l = setB m p := by
  refine rising_uniq ((sortI_perm l).trans ?_) (sortI_rising l) ((setB_rising m p).imp fun h => by omega)
  exact (List.perm_ext_iff_of_nodup n (setB_nodup m p)).mpr fun x => (h x).trans setB_mem.symm
theorem setB_take {m i : Nat} {p : Int → Bool} (h : i < m) : (irng (i + 1)).filter p = (irng i).filter p ++ (if p i = true then [(i : Int)] else []) := by
  rw [irng_succ, List.filter_append]
  congr 1
  by_cases e : p i = true
  · simp [e]
  · simp [e]
/-! behind: by rounds -/
def bstep (f : List Int) (p : Int × Int) : List Int := if p.1 ∈ f ∧ p.2 ∉ f then f ++ [p.2] else f
def bround (ps : List (Int × Int)) (f : List Int) : List Int := ps.foldl bstep f
def behN (ps : List (Int × Int)) (a : Int) : Nat → List Int
  | 0 => [a]
  | n + 1 => bround ps (behN ps a n)
theorem bround_cases : ∀ (l : List (Int × Int)) (f : List Int), (bround l f = f ∧ ∀ p, p ∈ l → p.1 ∈ f → p.2 ∈ f) ∨ f.length < (bround l f).length
  | [], f => .inl ⟨rfl, fun _ h => by cases h⟩
  | p :: l, f => by
    show (bround l (bstep f p) = f ∧ _) ∨ _ < (bround l (bstep f p)).length
    by_cases c : p.1 ∈ f ∧ p.2 ∉ f
    · have e : bstep f p = f ++ [p.2] := if_pos c
      rw [e]
      refine .inr ?_
      rcases bround_cases l (f ++ [p.2]) with ⟨h, _⟩ | h
      · rw [h]; simp
      · rw [List.length_append] at h; simp only [List.length_singleton] at h; omega
    · have e : bstep f p = f := if_neg c
      rw [e]
      rcases bround_cases l f with ⟨h, q⟩ | h
      · refine .inl ⟨h, fun x hx h1 => ?_⟩
        rcases List.mem_cons.mp hx with rfl | hx
        · exact Decidable.byContradiction fun h2 => c ⟨h1, h2⟩
        · exact q x hx h1
      · exact .inr h
theorem bround_closed {f : List Int} : ∀ (l : List (Int × Int)), (∀ p, p ∈ l → p.1 ∈ f → p.2 ∈ f) → bround l f = f
  | [], _ => rfl
  | p :: l, h => by
    show bround l (bstep f p) = f
    have e : bstep f p = f := if_neg fun c => c.2 (h p (List.mem_cons_self ..) c.1)
    rw [e]
    exact bround_closed l fun x hx => h x (List.mem_cons_of_mem _ hx)
theorem behN_cases (ps : List (Int × Int)) (a : Int) : ∀ n, (∀ p, p ∈ ps → p.1 ∈ behN ps a n → p.2 ∈ behN ps a n) ∨ n + 1 ≤ (behN ps a n).length
  | 0 => .inr (Nat.le_refl _)
  | n + 1 => by
    show (∀ p, p ∈ ps → p.1 ∈ bround ps _ → p.2 ∈ bround ps _) ∨ _ ≤ (bround ps _).length
    rcases behN_cases ps a n with h | h
    · rw [bround_closed ps h]; exact .inl h
    · rcases bround_cases ps (behN ps a n) with ⟨e, q⟩ | q
      · rw [e]; exact .inl q
      · exact .inr (by omega)
structure BInv (ps : List (Int × Int)) (a : Int) (f : List Int) : Prop where
  nd : f.Nodup
  hd : ∃ r, f = a :: r
  mm : ∀ x, x ∈ f → x = a ∨ Rch ps a x
theorem BInv.step {ps : List (Int × Int)} {a : Int} {f : List Int} (i : BInv ps a f) {p : Int × Int} (h : p ∈ ps) : BInv ps a (bstep f p) := by
  unfold bstep
  split
  · rename_i c
    refine ⟨?_, ?_, ?_⟩
    · rw [List.nodup_append]
      refine ⟨i.nd, by simp, ?_⟩
      intro x hx y hy e
      simp only [List.mem_singleton] at hy
      subst hy; subst e
      exact c.2 hx
    · obtain ⟨r, rfl⟩ := i.hd
      exact ⟨r ++ [p.2], rfl⟩
    · intro x hx
      rcases List.mem_append.mp hx with hx | hx
      · exact i.mm x hx
      · rw [List.mem_singleton.mp hx]
        rcases i.mm _ c.1 with e | r
        · refine .inr (.one ?_)
          rw [← e]; exact h
        · exact .inr (.more r h)
  · exact i
theorem BInv.round {ps : List (Int × Int)} {a : Int} : ∀ (l : List (Int × Int)) (f : List Int), BInv ps a f → (∀ p, p ∈ l → p ∈ ps) → BInv ps a (bround l f)
  | [], f, i, _ => i
  | p :: l, f, i, h => BInv.round l _ (i.step (h p (List.mem_cons_self ..))) fun x hx => h x (List.mem_cons_of_mem _ hx)
theorem BInv.n (ps : List (Int × Int)) (a : Int) : ∀ n, BInv ps a (behN ps a n)
  | 0 => ⟨by unfold behN; simp, ⟨[], rfl⟩, fun x hx => by unfold behN at hx; exact .inl (List.mem_singleton.mp hx)⟩
  | n + 1 => BInv.round ps _ (BInv.n ps a n) fun _ h => h
theorem beh_in {m : Nat} {ps : List (Int × Int)} (w : WOk m ps) {a : Int} (h0 : 0 ≤ a) (h1 : a < m) (n : Nat) : ∀ x, x ∈ behN ps a n → 0 ≤ x ∧ x < m := by
  intro x hx
  rcases (BInv.n ps a n).mm x hx with rfl | r
  · exact ⟨h0, h1⟩
  · exact w.to r
theorem beh_len {m : Nat} {ps : List (Int × Int)} (w : WOk m ps) {a : Int} (h0 : 0 ≤ a) (h1 : a < m) (n : Nat) : (behN ps a n).length ≤ m :=
  few m _ (BInv.n ps a n).nd (beh_in w h0 h1 n)
theorem beh_all {m : Nat} {ps : List (Int × Int)} (w : WOk m ps) {a : Int} (h0 : 0 ≤ a) (h1 : a < m) : sortI ((behN ps a m).drop 1) = setB m (wsh ps m a) := by
  have cl : ∀ p, p ∈ ps → p.1 ∈ behN ps a m → p.2 ∈ behN ps a m := by
    rcases behN_cases ps a m with h | h
    · exact h
    · have := beh_len w h0 h1 m; omega
  have i := BInv.n ps a m
  have hin := beh_in w h0 h1 m
  have fwd : ∀ x, Rch ps a x → x ∈ behN ps a m := by
    intro x r
    obtain ⟨q, e⟩ := i.hd
    induction r with
    | one h => exact cl _ h (by rw [e]; exact List.mem_cons_self ..)
    | more _ h ih => exact cl _ h ih
  obtain ⟨r, e⟩ := i.hd
  rw [e] at fwd ⊢
  have nd := i.nd
  have mm := i.mm
  rw [e] at nd mm hin
  show sortI r = _
  refine setB_sort (List.nodup_cons.mp nd).2 fun x => ⟨fun hx => ?_, fun ⟨hx, q⟩ => ?_⟩
  · refine ⟨hin x (List.mem_cons_of_mem _ hx), (wsh_iff w).mpr ?_⟩
    rcases mm x (List.mem_cons_of_mem _ hx) with z | z
    · subst z; exact absurd hx (List.nodup_cons.mp nd).1
    · exact z
  · have r1 := (wsh_iff w).mp q
    rcases List.mem_cons.mp (fwd x r1) with z | z
    · subst z; exact (w.irr r1).elim
    · exact z
end MP
/-! WM: behind, ahead, the rows of truths: their promises. -/
namespace MP
open PySem L2
local macro_rules | `(tactic| open_k with $t) => `(tactic| simp only [wpS, wpE, wpEs, wpEo, wpT, wpTo, wpI, wpG, wpGs, forW, whlW, callW, BinO.d, CmpO.d, Bi.d, Mt.d, parQ, Tgs.len,
  add_ii, add_ss, add_tt, add_rr, sub_ii, mul_ii, mul_ri, fdiv_ii, mod_ii, pow_ii, shl_ii, shr_ii, band_ii, eq_ii, ne_ii, eq_ss, ne_ss, lt_ii, is_n, nis_n, dn_i, dn_n, dn_t, dn_b, dn_s, dn_r, ix_ti, ix_ci, ix_pi, ix_ri, ix_rs, set_ri, set_rs, ty_n, ty_b, ty_i, ty_s, ty_t, ty_c, ty_r, isiB, AO.dct.injEq, sum_t, max_t, min_t, ixN_0, ixN_1, ixN_2, ixN_3,
  len_t, len_r, len_c, abs_i, max_ii, min_ii, tup_r, tup_t, lst_r, lst_t, lst_c, int_i, int_b, app_r, pop_ri, pop_r0, ext_rr, ext_rt, ins_ri, rev_r0, isl_r, rcv_r, rcv_t, ex_some, tru_b, tru_i, tru_t, tru_r, tru_n, sq_t, sq_c, sq_r, sq_f, zp_t, zp_r, en_t, en_r, slD, revD, setSl, atI_0, atI_1, atI_2, atI_3, isL,
  List.getElem?_cons_zero, List.getElem?_cons_succ, List.set_cons_zero, List.set_cons_succ, List.length_cons, List.length_nil, List.map_cons, List.map_nil, List.zip_cons_cons, List.zip_nil_right, List.nil_append, List.cons_append, if_true, if_false, Bool.false_eq_true, if_pos, true_and, and_true,
  exists_eq_left, exists_eq_left', exists_const, reduceCtorEq, false_and, exists_false, or_false, false_or, exists_eq', Option.some.injEq, AO.lst.injEq, D.ref.injEq, aput_same, aput_aput, small_line, HT.sIx_none, List.drop_zero, Nat.sub_zero, Nat.zero_add, Nat.zero_le, Option.getD_none, Option.getD_some, Nat.reduceAdd, Nat.reduceLeDiff,
  Bool.not_true, Bool.not_false, neg_f, neg_t, adel_aput, $t:term])
local macro_rules | `(tactic| walk_at "mp") => `(tactic| try open_k with true_and)
local macro_rules | `(tactic| walk_at "mp1") => `(tactic| (refine wpB_cons ?_; try open_k with true_and))

theorem eqV_int {i j : Int} : eqV (.int i) (.int j) = decide (i = j) := by
  show (i == j) = _
  by_cases e : i = j
  · simp [e]
  · simp [e]
theorem inV_ints (k : Int) (ns : List Int) : inV (D.int k).v ((ns.map D.int).map D.v) = decide (k ∈ ns) := by
  unfold inV
  induction ns with
  | nil => rfl
  | cons n ns ih =>
    rw [List.map_cons, List.map_cons, List.any_cons, ih]
    show (eqV (.int n) (.int k) || _) = _
    rw [eqV_int]
    by_cases e : n = k
    · simp [e]
    · have e2 : ¬ k = n := fun z => e z.symm
      simp [e, e2]
theorem flat_ints (ns : List Int) : (ns.map D.int).all flatD = true := by simp [List.all_map, flatD, Function.comp_def]
theorem in_ints_r {neg : Bool} {k : Int} {ns : List Int} {a : Addr} {h : AH} {Q : AK} (e : h a = some (.lst (ns.map D.int))) (q : Q (.bl (neg != decide (k ∈ ns))) h) : inD neg (.int k) (.ref a) h Q := by
  refine Or.inl ⟨_, e, Or.inl ⟨rfl, flat_ints ns, ?_⟩⟩
  rw [inV_ints]; exact q
theorem in_ints_t {neg : Bool} {k : Int} {ns : List Int} {h : AH} {Q : AK} (q : Q (.bl (neg != decide (k ∈ ns))) h) : inD neg (.int k) (.tup (ns.map D.int)) h Q := by
  refine Or.inl ⟨rfl, flat_ints ns, ?_⟩
  rw [inV_ints]; exact q
def prP (p : Int × Int) : PyData := .tuple [.int p.1, .int p.2]
theorem dats_prs {h : AH} : ∀ ps : List (Int × Int), Dats h (ps.map prD) (ps.map prP)
  | [] => .nil
  | p :: ps => .cons (.tup (.cons (.int _) (.cons (.int _) .nil))) (dats_prs ps)
theorem lay_prs : ∀ ps : List (Int × Int), PyData.canLayAll0 (ps.map prP) = true ∧ PyData.depthAll (ps.map prP) ≤ 1
  | [] => ⟨by simp [PyData.canLayAll0], by simp [PyData.depthAll]⟩
  | p :: ps => by
    obtain ⟨a, b⟩ := lay_prs ps
    constructor
    · simp only [List.map_cons, PyData.canLayAll0, prP, PyData.canLay0, a, Bool.and_true]
    · simp only [List.map_cons, PyData.depthAll, prP, PyData.depth]; omega
theorem shaped_prs (ps : List (Int × Int)) : SeqAt.shaped (.tuple (ps.map prP)) = true := by
  obtain ⟨a, b⟩ := lay_prs ps
  simp only [SeqAt.shaped, PyData.canLay0, a, PyData.depth, Bool.true_and]
  exact decide_eq_true (by omega)
theorem shaped_pr (p : Int × Int) : SeqAt.shaped (prP p) = true := by
  simp only [SeqAt.shaped, prP, PyData.canLay0, PyData.canLayAll0, PyData.depth, PyData.depthAll]; rfl
theorem any_prs (p : Int × Int) : ∀ ps : List (Int × Int), (ps.map prP).any (fun z => PyData.eqv z (prP p)) = decide (p ∈ ps)
  | [] => rfl
  | q :: ps => by
    rw [List.map_cons, List.any_cons, any_prs p ps]
    have e : PyData.eqv (prP q) (prP p) = decide (p = q) := by
      simp only [prP, PyData.eqv, PyData.eqvAll, Bool.and_true]
      obtain ⟨a, b⟩ := p
      obtain ⟨c, d⟩ := q
      simp only [Prod.mk.injEq]
      rw [Bool.eq_iff_iff]
      simp only [Bool.and_eq_true, beq_iff_eq, decide_eq_true_eq]
      constructor
      · rintro ⟨x, y⟩; exact ⟨x.symm, y.symm⟩
      · rintro ⟨x, y⟩; exact ⟨x.symm, y.symm⟩
    rw [e]
    simp [List.mem_cons]
theorem in_prs_t {neg : Bool} {x y : Int} {ps : List (Int × Int)} {h : AH} {Q : AK} (q : Q (.bl (neg != decide ((x, y) ∈ ps))) h) : inD neg (.tup [.int x, .int y]) (.tup (ps.map prD)) h Q := by
  refine Or.inr ⟨prP (x, y), ps.map prP, .tup (.cons (.int _) (.cons (.int _) .nil)), dats_prs ps, shaped_pr _, shaped_prs ps, ?_⟩
  rw [any_prs]; exact q
theorem seqIndex_nat {i : Nat} {n : Nat} (h : i < n) : seqIndex? (i : Int) n = some i := by
  unfold seqIndex?
  simp only [show ¬ ((i : Int) < 0) by omega, if_false]
  rw [if_pos (by simp; omega)]; rfl
theorem seqIndex_in {i : Int} {n : Nat} (h0 : 0 ≤ i) (h1 : i < n) : seqIndex? i n = some i.toNat := by
  have e : i = ((i.toNat : Nat) : Int) := by omega
  conv => lhs; rw [e]
  exact seqIndex_nat (by omega)
abbrev n_behind : List Str := ["many", "wishes", "a", "found", "turn", "one", "after"]
abbrev p_behind : List Str := ["many", "wishes", "a"]
def b_behind : Ss :=
  (.cons (.set (.n 3) (.lst (.cons (.v 2) .nil)))
    (.cons (.for_ (.n 4) (.rng .no (.v 0)) (.cons (.for_ (.tup (.cons (.n 5) (.cons (.n 6) .nil))) (.e false (.v 1)) (.cons (.iff (.and_ (.cmp .in_ (.v 5) (.v 3)) (.cmp .nin (.v 6) (.v 3))) (.cons (.ex (.mt .append (.v 3) (.cons (.v 6) .nil)))
    .nil) .nil)
    .nil))
    .nil))
    (.cons (.ret (.bi .tuple (.cons (.bi .sorted (.cons (.sl (.v 3) (.yes (.k (.int 1))) .no) .nil)) .nil)))
    .nil)))

def c_behind : ASp := fun vs h Q X => ∃ (m : Nat) (ps : List (Int × Int)) (a : Int), vs = [.int m, .tup (ps.map prD), .int a] ∧ WOk m ps ∧ m ≤ 100 ∧ 0 ≤ a ∧ a < m ∧ Q (.tup ((setB m (wsh ps m a)).map D.int)) h
theorem prD_eq (p : Int × Int) : prD p = .tup [.int p.1, .int p.2] := rfl
theorem m_behind (G : Ct) : Meets G n_behind.length b_behind 3 c_behind := by
  rintro vs h Q X hl ⟨m, ps, a, rfl, w, hm, a0, a1, hq⟩
  change wpB G b_behind _ [some _, some _, some _, none, none, none, none] h
  refine wpB_cons ?_
  open_k with true_and
  intro p np
  refine wpB_cons ?_
  open_k with true_and
  refine ⟨⟨by decide, by decide⟩, ⟨by omega, by omega⟩, ?_⟩
  refine ⟨fun i s h2 => ∃ d4 d5 d6, s = [some (.int m), some (.tup (ps.map prD)), some (.int a), some (.ref p), d4, d5, d6] ∧ h2 = aput h p (.lst ((behN ps a i).map D.int)), ⟨_, _, _, rfl, rfl⟩, ?_⟩
  rintro i s h2 ⟨d4, d5, d6, rfl, rfl⟩
  refine ⟨?_, ?_⟩
  · intro e
    rw [rngD_len] at e
    obtain rfl : i = m := by omega
    refine wpB_cons ?_
    open_k with true_and
    intro p2 np2
    refine sorted_ints (ns := (behN ps a i).drop 1) ?_ ?_
    · rw [aput_same, sIx_lit (by decide)]
      have hb := (BInv.n ps a i).hd
      obtain ⟨r, hr⟩ := hb
      rw [hr]
      simp only [List.map_cons, List.length_cons, List.drop_succ_cons, List.drop_zero, HT.sIx_none, Option.getD_none]
      congr 2
      have : min (1 : Int).toNat ((r.map D.int).length + 1) = 1 := by simp
      rw [this]
      simp only [List.drop_succ_cons, List.drop_zero, Nat.add_sub_cancel]
      rw [List.take_of_length_le (by simp)]
    intro p3 np3
    open_k with true_and
    refine ⟨h, ?_, ?_⟩
    · exact (sub_but np).trans ((sub_but np2).trans (sub_but np3))
    · rw [beh_all w a0 a1]; exact hq
  · intro d hd
    obtain ⟨rfl, hi⟩ := rngD_get hd
    refine wpB_cons ?_
    open_k with true_and
    refine ⟨fun j s h2 => ∃ d4 d5 d6, s = [some (.int m), some (.tup (ps.map prD)), some (.int a), some (.ref p), d4, d5, d6] ∧ h2 = aput h p (.lst ((bround (ps.take j) (behN ps a i)).map D.int)), ⟨_, _, _, rfl, rfl⟩, ?_⟩
    rintro j s h2 ⟨d4, d5, d6, rfl, rfl⟩
    refine ⟨?_, ?_⟩
    · intro e
      rw [List.length_map] at e
      rw [List.take_of_length_le (by omega)]
      exact wpB_nil (G := G) ⟨_, _, SSub.refl, Sub.refl, _, _, _, rfl, rfl⟩
    · intro d hd
      obtain ⟨q, hq2, rfl⟩ := map_get hd
      have nxt : bround (ps.take (j + 1)) (behN ps a i) = bstep (bround (ps.take j) (behN ps a i)) q := by
        rw [take_one hq2]; unfold bround; rw [List.foldl_append]; rfl
      have inv : BInv ps a (bround (ps.take j) (behN ps a i)) := BInv.round _ _ (BInv.n ps a i) fun x hx => List.mem_of_mem_take hx
      have len : (bround (ps.take j) (behN ps a i)).length ≤ m := few m _ inv.nd fun x hx => by
        rcases inv.mm x hx with rfl | r
        · exact ⟨a0, a1⟩
        · exact w.to r
      generalize bround (ps.take j) (behN ps a i) = f at len nxt
      rw [prD_eq]
      open_k with true_and
      refine wpB_cons ?_
      open_k with true_and
      refine in_ints_r aput_same ?_
      unfold bstep at nxt
      by_cases c1 : q.1 ∈ f
      · rw [decide_eq_true c1]
        open_k with true_and
        refine in_ints_r aput_same ?_
        by_cases c2 : q.2 ∈ f
        · rw [decide_eq_true c2]
          open_k with true_and
          refine wpB_nil (G := G) (wpB_nil (G := G) ⟨_, _, SSub.refl, Sub.refl, _, _, _, rfl, ?_⟩)
          rw [nxt, if_neg (fun z => z.2 c2)]
        · rw [decide_eq_false c2]
          open_k with true_and
          refine wpB_cons ?_
          open_k with true_and
          refine ⟨by rw [List.length_map, sizeLine_eq]; omega, wpB_nil (G := G) (wpB_nil (G := G) ⟨_, _, SSub.refl, Sub.refl, _, _, _, rfl, ?_⟩)⟩
          rw [nxt, if_pos ⟨c1, c2⟩, List.map_append]; rfl
      · rw [decide_eq_false c1]
        open_k with true_and
        refine wpB_nil (G := G) (wpB_nil (G := G) ⟨_, _, SSub.refl, Sub.refl, _, _, _, rfl, ?_⟩)
        rw [nxt, if_neg (fun z => c1 z.1)]
abbrev n_ahead : List Str := ["many", "wishes", "a", "work"]
abbrev p_ahead : List Str := ["many", "wishes", "a"]
def b_ahead : Ss :=
  (.cons (.ret (.bi .tuple (.cons (.lc [("work", 3)] (.n 3) (.rng .no (.v 0)) (.yes (.cmp .in_ (.v 2) (.call "behind" (.cons (.v 0) (.cons (.v 1) (.cons (.v 3) .nil)))))) (.v 3)) .nil)))
    .nil)

def c_ahead : ASp := fun vs h Q X => ∃ (m : Nat) (ps : List (Int × Int)) (a : Int), vs = [.int m, .tup (ps.map prD), .int a] ∧ WOk m ps ∧ m ≤ 100 ∧ 0 ≤ a ∧ a < m ∧ Q (.tup ((setB m (fun w => wsh ps m w a)).map D.int)) h
theorem m_ahead (G : Ct) (hG : G.fn "behind" = some (3, c_behind)) : Meets G n_ahead.length b_ahead 3 c_ahead := by
  rintro vs h Q X hl ⟨m, ps, a, rfl, w, hm, a0, a1, hq⟩
  change wpB G b_ahead _ [some _, some _, some _, none] h
  refine wpB_cons ?_
  open_k with true_and
  refine ⟨⟨by decide, by decide⟩, ⟨by omega, by omega⟩, ?_⟩
  refine ⟨fun i acc h' => acc = ((irng i).filter fun w => wsh ps m w a).map D.int ∧ h' = h, ⟨rfl, rfl⟩, ?_⟩
  rintro i acc h' ⟨rfl, rfl⟩
  refine ⟨trivial, ?_, ?_⟩
  · intro e p np
    rw [rngD_len] at e
    obtain rfl : i = m := by omega
    open_k with true_and
    exact ⟨_, sub_but np, hq⟩
  · intro d hd
    obtain ⟨rfl, hi⟩ := rngD_get hd
    rw [Int.sub_zero] at hi
    have hi2 : i < m := by omega
    simp only [wipeA]
    open_k with hG
    rw [show (0 : Int) + (i : Nat) = i by omega]
    refine ⟨m, ps, i, rfl, w, hm, by omega, by omega, ?_⟩
    refine in_ints_t ?_
    have e : decide (a ∈ setB m (wsh ps m i)) = wsh ps m i a := by
      rw [Bool.eq_iff_iff, decide_eq_true_eq, setB_mem]
      exact ⟨fun z => z.2, fun z => ⟨⟨a0, a1⟩, z⟩⟩
    rw [e, setB_take hi2]
    have ln : ((irng i).filter fun w => wsh ps m w a).length ≤ i := Nat.le_trans (List.length_filter_le _ _) (by rw [irng_len]; exact Nat.le_refl _)
    cases c : wsh ps m i a
    · open_k with true_and
      exact ⟨_, Sub.refl, by simp [c], rfl⟩
    · open_k with true_and
      exact ⟨by rw [List.length_map, sizeLine_eq]; omega, _, Sub.refl, by simp [c], rfl⟩
abbrev n_law_reach : List Str := ["_law_many", "_law_pairs", "_law_rows", "_law_k", "_law_a", "_law_b"]
abbrev p_law_reach : List Str := ["_law_many", "_law_pairs"]
def b_law_reach : Ss :=
  (.cons (.set (.n 2) (.lc [("_law_a", 4)] (.n 4) (.rng .no (.v 0)) .no (.lc [("_law_b", 5)] (.n 5) (.rng .no (.v 0)) .no (.cmp .in_ (.tup (.cons (.v 4) (.cons (.v 5) .nil))) (.v 1)))))
    (.cons (.for_ (.n 3) (.rng .no (.v 0)) (.cons (.for_ (.n 4) (.rng .no (.v 0)) (.cons (.iff (.e (.ix (.ix (.v 2) (.v 4)) (.v 3))) (.cons (.set (.sub (.v 2) (.v 4)) (.lc [("_law_b", 5)] (.n 5) (.rng .no (.v 0)) .no (.or_ (.ix (.ix (.v 2) (.v 4)) (.v 5)) (.ix (.ix (.v 2) (.v 3)) (.v 5)))))
    .nil) .nil)
    .nil))
    .nil))
    (.cons (.ret (.v 2))
    .nil)))

/-- the rows stand at r -/
def RowsAt (h : AH) (r : Addr) (m : Nat) (f : Int → Int → Bool) : Prop := ∃ qs : List Addr, h r = some (.lst (qs.map D.ref)) ∧ qs.length = m ∧ ∀ (i : Nat) (q : Addr), qs[i]? = some q → q ≠ r ∧ h q = some (.lst ((irng m).map fun b => .bl (f i b)))
theorem RowsAt.sub {h h' : AH} {r : Addr} {m : Nat} {f : Int → Int → Bool} (t : RowsAt h r m f) (s : Sub h h') : RowsAt h' r m f := by
  obtain ⟨qs, a, b, c⟩ := t
  exact ⟨qs, s _ _ a, b, fun i q e => ⟨(c i q e).1, s _ _ (c i q e).2⟩⟩
theorem RowsAt.ex {h : AH} {r : Addr} {m : Nat} {f : Int → Int → Bool} (t : RowsAt h r m f) {P : D → Prop} {R : Prop} {i : Nat} (hi : i < m) (q : ∀ a, h a = some (.lst ((irng m).map fun b => .bl (f i b))) → P (.ref a)) :
    (∃ ds, h r = some (.lst ds) ∧ ∃ d, atI ds (i : Int) = some d ∧ P d) ∨ R := by
  obtain ⟨qs, a, b, c⟩ := t
  have e : qs[i]? = some (qs[i]'(by omega)) := List.getElem?_eq_getElem _
  exact Or.inl ⟨_, a, _, atI_nat (by rw [List.getElem?_map, e]; rfl), q _ (c i _ e).2⟩
theorem row_ex {h : AH} {a : Addr} {m : Nat} {f : Int → Bool} {Q : AK} {i : Nat} (e : h a = some (.lst ((irng m).map fun b => .bl (f b)))) (hi : i < m) (q : Q (.bl (f i)) h) : ixD (.ref a) (.int (i : Nat)) h Q :=
  Or.inl ⟨_, e, _, atI_nat (by rw [List.getElem?_map, irng_get hi]; rfl), q⟩
def c_reach : ASp := fun vs h Q X => ∃ (m : Nat) (ps : List (Int × Int)), vs = [.int m, .tup (ps.map prD)] ∧ m ≤ 100 ∧ ∀ r h', Sub h h' → RowsAt h' r m (wsh ps m) → Q (.ref r) h'
/-- row a of pass k is done -/
def wrow (ps : List (Int × Int)) (k i : Nat) (x y : Int) : Bool := if x < i then wsh ps (k + 1) x y else wsh ps k x y
theorem m_reach (G : Ct) : Meets G n_law_reach.length b_law_reach 2 c_reach := by
  rintro vs h Q X hl ⟨m, ps, rfl, hm, hq⟩
  change wpB G b_law_reach _ [some _, some _, none, none, none, none] h
  have m62 : in62 (m : Int) := ⟨by omega, by omega⟩
  have z62 : in62 (0 : Int) := ⟨by decide, by decide⟩
  refine wpB_cons ?_
  open_k with true_and
  refine ⟨z62, m62, ?_⟩
  refine ⟨fun i acc h' => Sub h h' ∧ ∃ qs : List Addr, acc = qs.map D.ref ∧ qs.length = i ∧ ∀ (j : Nat) (q : Addr), qs[j]? = some q → h' q = some (.lst ((irng m).map fun b => .bl (wsh ps 0 j b))), ⟨Sub.refl, [], rfl, rfl, fun j q e => by cases e⟩, ?_⟩
  rintro i acc h' ⟨hs, qs, rfl, ql, qr⟩
  refine ⟨trivial, ?_, ?_⟩
  rotate_left
  · intro d hd
    obtain ⟨rfl, hi⟩ := rngD_get hd
    rw [Int.sub_zero] at hi
    have hi2 : i < m := by omega
    simp only [wipeA]
    open_k with true_and
    refine ⟨z62, m62, ?_⟩
    refine ⟨fun j acc2 h2 => acc2 = (irng j).map (fun b => D.bl (wsh ps 0 i b)) ∧ h2 = h', ⟨rfl, rfl⟩, ?_⟩
    rintro j acc2 h2 ⟨rfl, rfl⟩
    refine ⟨trivial, ?_, ?_⟩
    · intro e p np
      rw [rngD_len] at e
      obtain rfl : j = m := by omega
      refine ⟨by rw [List.length_map, sizeLine_eq]; omega, _, Sub.refl, hs.trans (sub_but np), qs ++ [p], by rw [List.map_append]; rfl, by rw [List.length_append, ql]; rfl, ?_⟩
      intro k q e
      by_cases c : k < qs.length
      · rw [List.getElem?_append_left c] at e
        exact sub_but np _ _ (qr k q e)
      · rw [List.getElem?_append_right (by omega)] at e
        have : k = qs.length := by
          have := (List.getElem?_eq_some_iff.mp e).1
          simp at this; omega
        subst this
        simp only [Nat.sub_self, List.getElem?_cons_zero, Option.some.injEq] at e
        subst e
        rw [aput_same, ql]
    · intro d hd
      obtain ⟨rfl, hj⟩ := rngD_get hd
      rw [Int.sub_zero] at hj
      have hj2 : j < m := by omega
      simp only [wipeA]
      open_k with true_and
      rw [show (0 : Int) + (i : Nat) = i by omega, show (0 : Int) + (j : Nat) = j by omega]
      refine in_prs_t ⟨by rw [List.length_map, irng_len, sizeLine_eq]; omega, _, Sub.refl, ?_, rfl⟩
      rw [irng_succ, List.map_append]
      unfold wsh
      rw [neg_f]; rfl
  intro ei p np
  rw [rngD_len] at ei
  obtain rfl : i = m := by omega
  have rows : ∀ x : Nat, RowsAt (aput h' p (.lst (qs.map D.ref))) p i (wsh ps 0) := fun _ => ⟨qs, aput_same, ql, fun j q e => ⟨ne_none (qr j q e) np, by rw [aput_ne (ne_none (qr j q e) np)]; exact qr j q e⟩⟩
  have hp0 : h p = none := by
    cases z : h p with
    | none => rfl
    | some o => rw [hs _ _ z] at np; cases np
  have su : Sub h (aput h' p (.lst (qs.map D.ref))) := hs.trans (sub_but np)
  refine wpB_cons ?_
  open_k with true_and
  refine ⟨z62, m62, ?_⟩
  refine ⟨fun k s h2 => ∃ d3 d4 d5, s = [some (.int i), some (.tup (ps.map prD)), some (.ref p), d3, d4, d5] ∧ Sub h h2 ∧ RowsAt h2 p i (wsh ps k), ⟨_, _, _, rfl, su, rows 0⟩, ?_⟩
  rintro k s h2 ⟨d3, d4, d5, rfl, s2, r2⟩
  refine ⟨?_, ?_⟩
  · intro e
    rw [rngD_len] at e
    obtain rfl : k = i := by omega
    walk_at "mp1"
    exact ⟨_, Sub.refl, hq p h2 s2 r2⟩
  intro d hd
  obtain ⟨rfl, hk⟩ := rngD_get hd
  rw [Int.sub_zero] at hk
  have hk2 : k < i := by omega
  rw [show (0 : Int) + (k : Nat) = k by omega]
  refine wpB_cons ?_
  open_k with true_and
  refine ⟨z62, m62, ?_⟩
  refine ⟨fun j s h2 => ∃ d4 d5, s = [some (.int i), some (.tup (ps.map prD)), some (.ref p), some (.int k), d4, d5] ∧ Sub h h2 ∧ RowsAt h2 p i (wrow ps k j), ⟨_, _, rfl, s2, ?_⟩, ?_⟩
  · obtain ⟨qs, a, b, c⟩ := r2
    refine ⟨qs, a, b, fun j q e => ⟨(c j q e).1, ?_⟩⟩
    rw [(c j q e).2]
    have : ∀ b, wrow ps k 0 j b = wsh ps k j b := fun b => if_neg (by omega)
    simp only [this]
  rintro j s h3 ⟨d4, d5, rfl, s3, r3⟩
  refine ⟨?_, ?_⟩
  · intro e
    rw [rngD_len] at e
    obtain rfl : j = i := by omega
    refine wpB_nil (G := G) ⟨_, _, SSub.refl, Sub.refl, _, _, _, rfl, s3, ?_⟩
    obtain ⟨qs, a, b, c⟩ := r3
    refine ⟨qs, a, b, fun x q e => ⟨(c x q e).1, ?_⟩⟩
    rw [(c x q e).2]
    have hx := (List.getElem?_eq_some_iff.mp e).1
    have : ∀ b, wrow ps k j x b = wsh ps (k + 1) x b := fun b => if_pos (by omega)
    simp only [this]
  intro d hd
  obtain ⟨rfl, hj⟩ := rngD_get hd
  rw [Int.sub_zero] at hj
  have hj2 : j < i := by omega
  rw [show (0 : Int) + (j : Nat) = j by omega]
  -- what the row becomes
  have upd : ∀ h4 (q0 : Addr), (∀ a u, a ≠ p → h3 a = some u → h4 a = some u) → h3 q0 = none → q0 ≠ p → h4 q0 = some (.lst ((irng i).map fun b => .bl (wsh ps (k + 1) j b))) →
      (∀ qs : List Addr, h3 p = some (.lst (qs.map D.ref)) → h4 p = some (.lst ((qs.map D.ref).set j (.ref q0)))) → RowsAt h4 p i (wrow ps k (j + 1)) := by
    intro h4 q0 g n0 n1 e0 ep
    obtain ⟨qs, a, b, c⟩ := r3
    refine ⟨qs.set j q0, by rw [ep qs a, List.map_set], by rw [List.length_set]; exact b, fun x q e => ?_⟩
    by_cases hx : x = j
    · subst hx
      rw [List.getElem?_set_self (by omega)] at e
      cases e
      refine ⟨n1, ?_⟩
      rw [e0]
      have : ∀ b, wrow ps k (x + 1) x b = wsh ps (k + 1) x b := fun b => if_pos (by omega)
      simp only [this]
    · rw [List.getElem?_set_ne (fun z => hx z.symm)] at e
      refine ⟨(c x q e).1, ?_⟩
      rw [g q _ (c x q e).1 (c x q e).2]
      have : ∀ b, wrow ps k (j + 1) x b = wrow ps k j x b := fun b => by
        unfold wrow
        by_cases z : (x : Int) < (j : Nat)
        · rw [if_pos z, if_pos (by omega)]
        · rw [if_neg z, if_neg (by omega)]
      simp only [this]
  have rowj : ∀ b, wrow ps k j j b = wsh ps k j b := fun b => if_neg (by omega)
  have rowk : ∀ b : Int, wrow ps k j k b = wsh ps k k b := fun b => by
    unfold wrow
    split
    · exact wsh_k k b
    · rfl
  refine wpB_cons ?_
  open_k with true_and
  refine r3.ex hj2 fun qa ea => ?_
  refine row_ex ea hk2 ?_
  rw [rowj]
  simp only [rowj] at ea
  open_k with true_and
  cases c : wsh ps k j k
  · open_k with true_and
    refine wpB_nil (G := G) (wpB_nil (G := G) ⟨_, _, SSub.refl, Sub.refl, _, _, rfl, s3, ?_⟩)
    obtain ⟨qs, a, b, cc⟩ := r3
    refine ⟨qs, a, b, fun x q e => ⟨(cc x q e).1, ?_⟩⟩
    rw [(cc x q e).2]
    have : ∀ b, wrow ps k (j + 1) x b = wrow ps k j x b := fun b => by
      unfold wrow
      by_cases z : (x : Int) < (j : Nat)
      · rw [if_pos z, if_pos (by omega)]
      · rw [if_neg z]
        by_cases z2 : x = j
        · subst z2
          rw [if_pos (by omega)]
          conv => lhs; unfold wsh
          rw [c]; simp
        · rw [if_neg (by omega)]
    simp only [this]
  · open_k with true_and
    refine wpB_cons ?_
    open_k with true_and
    refine ⟨z62, m62, ?_⟩
    refine ⟨fun l acc h4 => acc = (irng l).map (fun b => D.bl (wsh ps (k + 1) j b)) ∧ h4 = h3, ⟨rfl, rfl⟩, ?_⟩
    rintro l acc h4 ⟨rfl, rfl⟩
    refine ⟨trivial, ?_, ?_⟩
    · intro e q0 nq
      rw [rngD_len] at e
      obtain rfl : l = i := by omega
      obtain ⟨qs, a, b, cc⟩ := id r3
      have n1 : q0 ≠ p := (ne_none a nq).symm
      refine .inl ⟨_, by rw [aput_ne n1.symm]; exact a, j, by rw [List.length_map]; exact ixN_lit (by omega), ?_⟩
      refine wpB_nil (G := G) (wpB_nil (G := G) ⟨_, _, SSub.refl, Sub.refl, _, _, rfl, ?_, ?_⟩)
      · intro a u e
        have np2 : a ≠ p := ne_none e hp0
        rw [aput_ne np2]
        exact sub_but nq _ _ (s3 _ _ e)
      · refine upd _ q0 (fun a u n e => ?_) nq n1 ?_ ?_
        · rw [aput_ne n]; exact sub_but nq _ _ e
        · rw [aput_ne n1, aput_same]
        · intro qs2 e2
          rw [a] at e2
          rw [aput_same]
          simp only [Option.some.injEq, AO.lst.injEq] at e2
          rw [e2]
    · intro d hd
      obtain ⟨rfl, hl2⟩ := rngD_get hd
      rw [Int.sub_zero] at hl2
      have hl3 : l < i := by omega
      rw [show (0 : Int) + (l : Nat) = l by omega]
      simp only [wipeA]
      open_k with true_and
      have ll : ((irng l).map (fun b => D.bl (wsh ps (k + 1) j b))).length < sizeLine := by rw [List.length_map, irng_len, sizeLine_eq]; omega
      have nx : ((irng (l + 1)).map (fun b => D.bl (wsh ps (k + 1) j b))) = (irng l).map (fun b => D.bl (wsh ps (k + 1) j b)) ++ [.bl (wsh ps k j l || wsh ps k k l)] := by
        rw [irng_succ, List.map_append]
        congr 1
        show [D.bl (wsh ps k j l || (wsh ps k j k && wsh ps k k l))] = _
        rw [c]; rfl
      refine r3.ex hj2 fun qb eb => ?_
      refine row_ex eb hl3 ?_
      rw [rowj]
      cases c2 : wsh ps k j l
      · open_k with true_and
        refine r3.ex hk2 fun qc ec => ?_
        refine row_ex ec hl3 ?_
        rw [rowk]
        refine ⟨ll, _, Sub.refl, ?_, rfl⟩
        rw [nx, c2]; rfl
      · open_k with true_and
        refine ⟨ll, _, Sub.refl, ?_, rfl⟩
        rw [nx, c2]; rfl
end MP
/-! IN: is_number -/
namespace MP
open PySem L2
local macro_rules | `(tactic| open_k with $t) => `(tactic| simp only [wpS, wpE, wpEs, wpEo, wpT, wpTo, wpI, wpG, wpGs, forW, whlW, callW, BinO.d, CmpO.d, Bi.d, Mt.d, parQ, Tgs.len,
  add_ii, add_ss, add_tt, add_rr, sub_ii, mul_ii, mul_ri, fdiv_ii, mod_ii, pow_ii, shl_ii, shr_ii, band_ii, eq_ii, ne_ii, eq_ss, ne_ss, lt_ii, is_n, nis_n, dn_i, dn_n, dn_t, dn_b, dn_s, dn_r, ix_ti, ix_ci, ix_pi, ix_ri, ix_rs, set_ri, set_rs, ty_n, ty_b, ty_i, ty_s, ty_t, ty_c, ty_r, isiB, AO.dct.injEq, sum_t, max_t, min_t, ixN_0, ixN_1, ixN_2, ixN_3,
  len_t, len_r, len_c, abs_i, max_ii, min_ii, tup_r, tup_t, lst_r, lst_t, lst_c, int_i, int_b, app_r, pop_ri, pop_r0, ext_rr, ext_rt, ins_ri, rev_r0, isl_r, rcv_r, rcv_t, ex_some, tru_b, tru_i, tru_t, tru_r, tru_n, sq_t, sq_c, sq_r, sq_f, zp_t, zp_r, en_t, en_r, slD, revD, setSl, atI_0, atI_1, atI_2, atI_3, isL,
  List.getElem?_cons_zero, List.getElem?_cons_succ, List.set_cons_zero, List.set_cons_succ, List.length_cons, List.length_nil, List.map_cons, List.map_nil, List.zip_cons_cons, List.zip_nil_right, List.nil_append, List.cons_append, if_true, if_false, Bool.false_eq_true, if_pos, true_and, and_true,
  exists_eq_left, exists_eq_left', exists_const, reduceCtorEq, false_and, exists_false, or_false, false_or, exists_eq', Option.some.injEq, AO.lst.injEq, D.ref.injEq, aput_same, aput_aput, small_line, HT.sIx_none, List.drop_zero, Nat.sub_zero, Nat.zero_add, Nat.zero_le, Option.getD_none, Option.getD_some, Nat.reduceAdd, Nat.reduceLeDiff,
  Bool.not_true, Bool.not_false, neg_f, neg_t, adel_aput, $t:term])
local macro_rules | `(tactic| walk_at "mp") => `(tactic| try open_k with true_and)
local macro_rules | `(tactic| walk_at "mp1") => `(tactic| (refine wpB_cons ?_; try open_k with true_and))
abbrev n_is_number : List Str := ["thing"]
abbrev p_is_number : List Str := ["thing"]
def b_is_number : Ss :=
  (.cons (.ret (.and_ (.isi .int (.v 0)) (.not_ (.isi .bool (.v 0)))))
    .nil)

def c_is_number : ASp := fun vs h Q X => ∃ i : Int, vs = [.int i] ∧ Q (.bl true) h
theorem m_is_number (G : Ct) : Meets G n_is_number.length b_is_number 1 c_is_number := by
  rintro vs h Q X hl ⟨i, rfl, hq⟩
  change wpB G b_is_number _ [some _] h
  refine wpB_cons ?_
  open_k with true_and
  exact ⟨_, Sub.refl, hq⟩
/-! any plain thing -/
def tkD : D → TK
  | .non => .non
  | .bl _ => .bl
  | .int _ => .int
  | .str _ => .str
  | .tup _ => .tup
  | .pr _ => .tup
  | .cl _ => .lst
  | .ref _ => .lst
  | .exn .. => .non
  | .err .. => .non
def tyOk (h : AH) (d : D) : Prop := match d with
  | .ref a => ∃ ds, h a = some (.lst ds)
  | .exn .. => False
  | .err .. => False
  | .pr _ => False
  | .cl _ => False
  | _ => True
theorem tyD_ok {h : AH} {d : D} {R : TK → Prop} (o : tyOk h d) (q : R (tkD d)) : tyD d h R := by
  cases d with
  | ref a => exact .inl (by obtain ⟨ds, e⟩ := o; exact ⟨ds, e, q⟩)
  | exn => cases o
  | err => cases o
  | pr => cases o
  | cl => cases o
  | _ => exact q
theorem tyOk.sub {h h' : AH} {d : D} (o : tyOk h d) (s : Sub h h') : tyOk h' d := by
  cases d with
  | ref a => obtain ⟨ds, e⟩ := o; exact ⟨ds, s _ _ e⟩
  | exn => cases o
  | err => cases o
  | pr => cases o
  | cl => cases o
  | _ => trivial
/-- a tuple, or none -/
theorem tup_or {h : AH} {d : D} (o : tyOk h d) : (∃ ds, d = .tup ds) ∨ (isiB (tkD d) .tuple = false ∧ ∀ ds, d ≠ .tup ds) := by
  cases d with
  | tup ds => exact .inl ⟨ds, rfl⟩
  | pr => cases o
  | _ => exact .inr ⟨rfl, fun _ z => by cases z⟩
theorem isi_tup (ds : List D) : isiB (tkD (.tup ds)) .tuple = true := rfl
def isNum : D → Bool
  | .int _ => true
  | _ => false
theorem isNum_eq {d : D} (h : isNum d = true) : ∃ i, d = .int i := by
  cases d with
  | int i => exact ⟨i, rfl⟩
  | _ => cases h
def c_isnumD : ASp := fun vs h Q X => ∃ d : D, vs = [d] ∧ tyOk h d ∧ Q (.bl (isNum d)) h
theorem m_isnumD (G : Ct) : Meets G n_is_number.length b_is_number 1 c_isnumD := by
  rintro vs h Q X hl ⟨d, rfl, o, hq⟩
  change wpB G b_is_number _ [some _] h
  refine wpB_cons ?_
  cases d with
  | ref a =>
    obtain ⟨ds, e⟩ := o
    open_k with e
    exact ⟨_, Sub.refl, hq⟩
  | exn => cases o
  | err => cases o
  | pr => cases o
  | cl => cases o
  | _ =>
    open_k with true_and
    exact ⟨_, Sub.refl, hq⟩
end MP
/-! HD: the longest chains' heads; plain law. -/
namespace MP
open PySem L2
local macro_rules | `(tactic| open_k with $t) => `(tactic| simp only [wpS, wpE, wpEs, wpEo, wpT, wpTo, wpI, wpG, wpGs, forW, whlW, callW, BinO.d, CmpO.d, Bi.d, Mt.d, parQ, Tgs.len,
  add_ii, add_ss, add_tt, add_rr, sub_ii, mul_ii, mul_ri, fdiv_ii, mod_ii, pow_ii, shl_ii, shr_ii, band_ii, eq_ii, ne_ii, eq_ss, ne_ss, lt_ii, is_n, nis_n, dn_i, dn_n, dn_t, dn_b, dn_s, dn_r, ix_ti, ix_ci, ix_pi, ix_ri, ix_rs, set_ri, set_rs, ty_n, ty_b, ty_i, ty_s, ty_t, ty_c, ty_r, isiB, AO.dct.injEq, sum_t, max_t, min_t, ixN_0, ixN_1, ixN_2, ixN_3,
  len_t, len_r, len_c, abs_i, max_ii, min_ii, tup_r, tup_t, lst_r, lst_t, lst_c, int_i, int_b, app_r, pop_ri, pop_r0, ext_rr, ext_rt, ins_ri, rev_r0, isl_r, rcv_r, rcv_t, ex_some, tru_b, tru_i, tru_t, tru_r, tru_n, sq_t, sq_c, sq_r, sq_f, zp_t, zp_r, en_t, en_r, slD, revD, setSl, atI_0, atI_1, atI_2, atI_3, isL,
  List.getElem?_cons_zero, List.getElem?_cons_succ, List.set_cons_zero, List.set_cons_succ, List.length_cons, List.length_nil, List.map_cons, List.map_nil, List.zip_cons_cons, List.zip_nil_right, List.nil_append, List.cons_append, if_true, if_false, Bool.false_eq_true, if_pos, true_and, and_true,
  exists_eq_left, exists_eq_left', exists_const, reduceCtorEq, false_and, exists_false, or_false, false_or, exists_eq', Option.some.injEq, AO.lst.injEq, D.ref.injEq, aput_same, aput_aput, small_line, HT.sIx_none, List.drop_zero, Nat.sub_zero, Nat.zero_add, Nat.zero_le, Option.getD_none, Option.getD_some, Nat.reduceAdd, Nat.reduceLeDiff,
  Bool.not_true, Bool.not_false, neg_f, neg_t, adel_aput, $t:term])
local macro_rules | `(tactic| walk_at "mp") => `(tactic| try open_k with true_and)
local macro_rules | `(tactic| walk_at "mp1") => `(tactic| (refine wpB_cons ?_; try open_k with true_and))

def lenAt (ws : List Wk) (a : Int) : Int := (ws.getD a.toNat wk0).len
def comAt (ws : List Wk) (a : Int) : Int := (ws.getD a.toNat wk0).com
def into (ps : List (Int × Int)) (b : Int) : List (Int × Int) := ps.filter fun p => decide (p.2 = b)
theorem into_mem {ps : List (Int × Int)} {b : Int} {p : Int × Int} : p ∈ into ps b ↔ p ∈ ps ∧ p.2 = b := by unfold into; rw [List.mem_filter, decide_eq_true_iff]
def hdN (ws : List Wk) (ps : List (Int × Int)) : Nat → Int → Int
  | 0, b => comAt ws b
  | k + 1, b => ((into ps b).map fun p => hdN ws ps k p.1 + lenAt ws p.1).foldl max (comAt ws b)
def hd (ws : List Wk) (ps : List (Int × Int)) : Int → Int := hdN ws ps ws.length
def hdL (ws : List Wk) (ps : List (Int × Int)) : List Int := (irng ws.length).map (hd ws ps)
theorem hdL_len (ws : List Wk) (ps : List (Int × Int)) : (hdL ws ps).length = ws.length := by unfold hdL; rw [List.length_map, irng_len]
theorem hdN_none {ws : List Wk} {ps : List (Int × Int)} {b : Int} (h : into ps b = []) : ∀ k, hdN ws ps k b = comAt ws b
  | 0 => rfl
  | k + 1 => by unfold hdN; rw [h]; rfl
theorem hdN_stab {ws : List Wk} {ps : List (Int × Int)} {f : Int → Nat} (hf : ∀ p, p ∈ ps → f p.1 < f p.2) : ∀ (k : Nat) (b : Int), f b ≤ k → ∀ j, k ≤ j → hdN ws ps j b = hdN ws ps k b
  | 0, b, h, j, _ => by
    have : into ps b = [] := by
      unfold into
      rw [List.filter_eq_nil_iff]
      intro p hp e
      have := hf p hp
      rw [of_decide_eq_true e] at this
      omega
    rw [hdN_none this, hdN_none this]
  | k + 1, b, h, 0, hj => by omega
  | k + 1, b, h, j + 1, hj => by
    unfold hdN
    congr 1
    refine List.map_congr_left fun p hp => ?_
    obtain ⟨h1, h2⟩ := into_mem.mp hp
    have := hf p h1
    rw [h2] at this
    rw [hdN_stab hf k p.1 (by omega) j (by omega)]
theorem hd_eq {ws : List Wk} {ps : List (Int × Int)} (w : WOk ws.length ps) (b : Int) : hd ws ps b = ((into ps b).map fun p => hd ws ps p.1 + lenAt ws p.1).foldl max (comAt ws b) := by
  obtain ⟨f, hf, hm⟩ := w.acy
  show hdN ws ps ws.length b = ((into ps b).map fun p => hdN ws ps ws.length p.1 + lenAt ws p.1).foldl max (comAt ws b)
  have : hdN ws ps (ws.length + 1) b = ((into ps b).map fun p => hdN ws ps ws.length p.1 + lenAt ws p.1).foldl max (comAt ws b) := rfl
  rw [← this]
  by_cases c : into ps b = []
  · rw [hdN_none c, hdN_none c]
  · obtain ⟨p, hp⟩ := List.exists_mem_of_ne_nil _ c
    obtain ⟨h1, h2⟩ := into_mem.mp hp
    have := hm p h1
    rw [h2] at this
    exact (hdN_stab hf ws.length b (by omega) _ (by omega)).symm
theorem hd_com {ws : List Wk} {ps : List (Int × Int)} (w : WOk ws.length ps) (b : Int) : comAt ws b ≤ hd ws ps b := by
  rw [hd_eq w]
  exact foldmax_ge _ _ _ (List.mem_cons_self ..)
theorem hd_wish {ws : List Wk} {ps : List (Int × Int)} (w : WOk ws.length ps) {p : Int × Int} (h : p ∈ ps) : hd ws ps p.1 + lenAt ws p.1 ≤ hd ws ps p.2 := by
  conv => rhs; rw [hd_eq w]
  exact foldmax_ge _ _ _ (List.mem_cons_of_mem _ (List.mem_map.mpr ⟨p, into_mem.mpr ⟨h, rfl⟩, rfl⟩))
theorem hd_cases {ws : List Wk} {ps : List (Int × Int)} (w : WOk ws.length ps) (b : Int) : hd ws ps b = comAt ws b ∨ ∃ p, p ∈ ps ∧ p.2 = b ∧ hd ws ps b = hd ws ps p.1 + lenAt ws p.1 := by
  have := foldmax_mem ((into ps b).map fun p => hd ws ps p.1 + lenAt ws p.1) (comAt ws b)
  rw [← hd_eq w] at this
  rcases List.mem_cons.mp this with h | h
  · exact .inl h
  · obtain ⟨p, hp, e⟩ := List.mem_map.mp h
    obtain ⟨h1, h2⟩ := into_mem.mp hp
    exact .inr ⟨p, h1, h2, e.symm⟩
/-! by rounds of relaxing -/
def relax (ws : List Wk) (f : Int → Int) (p : Int × Int) : Int → Int := fun b => if b = p.2 then max (f b) (f p.1 + lenAt ws p.1) else f b
def roundR (ws : List Wk) (ps : List (Int × Int)) (f : Int → Int) : Int → Int := ps.foldl (relax ws) f
def relN (ws : List Wk) (ps : List (Int × Int)) : Nat → Int → Int
  | 0 => comAt ws
  | n + 1 => roundR ws ps (relN ws ps n)
theorem relax_ge (ws : List Wk) (f : Int → Int) (p : Int × Int) (b : Int) : f b ≤ relax ws f p b := by
  unfold relax; split <;> omega
theorem round_ge (ws : List Wk) : ∀ (l : List (Int × Int)) (f : Int → Int) (b : Int), f b ≤ roundR ws l f b
  | [], f, b => Int.le_refl _
  | p :: l, f, b => Int.le_trans (relax_ge ws f p b) (round_ge ws l _ b)
theorem round_le {ws : List Wk} {ps : List (Int × Int)} (w : WOk ws.length ps) : ∀ (l : List (Int × Int)) (f : Int → Int), (∀ p, p ∈ l → p ∈ ps) → (∀ b, f b ≤ hd ws ps b) → ∀ b, roundR ws l f b ≤ hd ws ps b
  | [], f, _, h, b => h b
  | p :: l, f, hl, h, b => by
    refine round_le w l (relax ws f p) (fun x hx => hl x (List.mem_cons_of_mem _ hx)) (fun b => ?_) b
    unfold relax
    split
    · rename_i e
      have := hd_wish w (hl p (List.mem_cons_self ..))
      have := h p.1
      have := h b
      rw [e] at this ⊢
      omega
    · exact h b
theorem relN_le {ws : List Wk} {ps : List (Int × Int)} (w : WOk ws.length ps) : ∀ n b, relN ws ps n b ≤ hd ws ps b
  | 0, b => hd_com w b
  | n + 1, b => round_le w ps _ (fun _ h => h) (relN_le w n) b
theorem relN_com (ws : List Wk) (ps : List (Int × Int)) : ∀ n b, comAt ws b ≤ relN ws ps n b
  | 0, b => Int.le_refl _
  | n + 1, b => Int.le_trans (relN_com ws ps n b) (round_ge ws ps _ b)
theorem round_hit {ws : List Wk} : ∀ (l : List (Int × Int)) (f : Int → Int) (p : Int × Int), p ∈ l → f p.1 + lenAt ws p.1 ≤ roundR ws l f p.2
  | q :: l, f, p, h => by
    show _ ≤ roundR ws l (relax ws f q) p.2
    rcases List.mem_cons.mp h with rfl | h
    · refine Int.le_trans ?_ (round_ge ws l _ _)
      unfold relax
      rw [if_pos rfl]
      omega
    · have := round_hit (ws := ws) l (relax ws f q) p h
      have := relax_ge ws f q p.1
      omega
theorem relN_hd {ws : List Wk} {ps : List (Int × Int)} (w : WOk ws.length ps) {f : Int → Nat} (hf : ∀ p, p ∈ ps → f p.1 < f p.2) : ∀ (n : Nat) (b : Int), (into ps b = [] ∨ f b ≤ n) → relN ws ps n b = hd ws ps b
  | n, b, h => by
    have le := relN_le w n b
    rcases hd_cases w b with e | ⟨p, h1, h2, e⟩
    · have := relN_com ws ps n b
      omega
    · cases n with
      | zero =>
        have := hf p h1
        rcases h with h | h
        · have : p ∈ into ps b := into_mem.mpr ⟨h1, h2⟩
          rw [h] at this; cases this
        · rw [h2] at this; omega
      | succ n =>
        have := hf p h1
        rcases h with h | h
        · have : p ∈ into ps b := into_mem.mpr ⟨h1, h2⟩
          rw [h] at this; cases this
        · rw [h2] at this
          have ih := relN_hd w hf n p.1 (.inr (by omega))
          have hit := round_hit (ws := ws) ps (relN ws ps n) p h1
          rw [h2, ih] at hit
          have : relN ws ps (n + 1) b = roundR ws ps (relN ws ps n) b := rfl
          omega
theorem relN_all {ws : List Wk} {ps : List (Int × Int)} (w : WOk ws.length ps) (b : Int) : relN ws ps ws.length b = hd ws ps b := by
  obtain ⟨f, hf, hm⟩ := w.acy
  refine relN_hd w hf _ b ?_
  by_cases c : into ps b = []
  · exact .inl c
  · obtain ⟨p, hp⟩ := List.exists_mem_of_ne_nil _ c
    obtain ⟨h1, h2⟩ := into_mem.mp hp
    have := hm p h1
    rw [h2] at this
    exact .inr (by omega)
/-! bounds -/
theorem hdN_bd {ws : List Wk} {ps : List (Int × Int)} {C L : Int} (hc : ∀ b, 0 ≤ comAt ws b ∧ comAt ws b ≤ C) (hl : ∀ b, 0 ≤ lenAt ws b ∧ lenAt ws b ≤ L) (hL : 0 ≤ L) : ∀ (k : Nat) (b : Int), 0 ≤ hdN ws ps k b ∧ hdN ws ps k b ≤ C + L * k
  | 0, b => by have := hc b; show 0 ≤ comAt ws b ∧ comAt ws b ≤ C + L * ((0 : Nat) : Int); simp; omega
  | k + 1, b => by
    show 0 ≤ List.foldl max _ _ ∧ List.foldl max _ _ ≤ _
    have m := foldmax_mem ((into ps b).map fun p => hdN ws ps k p.1 + lenAt ws p.1) (comAt ws b)
    have e : L * ((k + 1 : Nat) : Int) = L * k + L := by rw [Int.natCast_succ, Int.mul_add]; omega
    have z : 0 ≤ L * (k : Int) := Int.mul_nonneg hL (by omega)
    have c := hc b
    refine ⟨Int.le_trans c.1 (foldmax_ge _ _ _ (List.mem_cons_self ..)), ?_⟩
    rcases List.mem_cons.mp m with h | h
    · rw [h]; omega
    · obtain ⟨p, hp, q⟩ := List.mem_map.mp h
      rw [← q]
      have := hdN_bd (ps := ps) hc hl hL k p.1
      have := hl p.1
      omega
/-! in a tuple or in a list -/
def SeqOf (h : AH) (d : D) (ds : List D) : Prop := d = .tup ds ∨ ∃ a, d = .ref a ∧ h a = some (.lst ds)
theorem SeqOf.t {h : AH} {ds : List D} : SeqOf h (.tup ds) ds := .inl rfl
theorem SeqOf.l {h : AH} {a : Addr} {ds : List D} (e : h a = some (.lst ds)) : SeqOf h (.ref a) ds := .inr ⟨a, rfl, e⟩
theorem SeqOf.sub {h h' : AH} {d : D} {ds : List D} (s : SeqOf h d ds) (b : Sub h h') : SeqOf h' d ds := by
  rcases s with rfl | ⟨a, rfl, e⟩
  · exact .inl rfl
  · exact .inr ⟨a, rfl, b _ _ e⟩
theorem SeqOf.sq {h : AH} {d : D} {ds : List D} (s : SeqOf h d ds) {P : List D → AH → (AH → Prop) → Prop} (q : ∀ g : AH → Prop, (∀ h2, SeqOf h2 d ds → g h2) → P ds h g) : seqI false d h P := by
  rcases s with rfl | ⟨a, rfl, e⟩
  · exact q _ fun _ _ => trivial
  · refine ⟨ds, e, q _ fun h2 s2 => ?_⟩
    rcases s2 with z | ⟨b, z, e2⟩
    · cases z
    · cases z; exact e2
theorem SeqOf.len {h : AH} {d : D} {ds : List D} (s : SeqOf h d ds) {Q : AK} (q : Q (.int ds.length) h) : lenD [d] h Q := by
  rcases s with rfl | ⟨a, rfl, e⟩
  · exact q
  · exact Or.inl ⟨ds, e, q⟩
theorem SeqOf.ix {h : AH} {d x : D} {ds : List D} {i : Int} (s : SeqOf h d ds) {Q : AK} (e : atI ds i = some x) (q : Q x h) : ixD d (.int i) h Q := by
  rcases s with rfl | ⟨a, rfl, e2⟩
  · exact ⟨x, e, q⟩
  · exact Or.inl ⟨ds, e2, x, e, q⟩
theorem atW {ws : List Wk} {k : Int} (h0 : 0 ≤ k) (h1 : k < ws.length) : atI (ws.map Wk.D) k = some (ws.getD k.toNat wk0).D := by
  have : atI (ws.map Wk.D) ((k.toNat : Nat) : Int) = some (ws.getD k.toNat wk0).D := atI_nat (by
    rw [List.getElem?_map, List.getD_eq_getElem?_getD, List.getElem?_eq_getElem (by omega)]; rfl)
  rw [show ((k.toNat : Nat) : Int) = k by omega] at this
  exact this
theorem atF {n : Nat} {f : Int → Int} {k : Int} (h0 : 0 ≤ k) (h1 : k < n) : atI (((irng n).map f).map D.int) k = some (.int (f k)) := by
  have : atI (((irng n).map f).map D.int) ((k.toNat : Nat) : Int) = some (.int (f (k.toNat : Nat))) := atI_nat (by
    rw [List.getElem?_map, List.getElem?_map, irng_get (by omega)]; rfl)
  rw [show ((k.toNat : Nat) : Int) = k by omega] at this
  exact this
theorem setF {n : Nat} {f g : Int → Int} {k : Nat} (h1 : k < n) (hg : ∀ b : Int, g b = if b = k then g k else f b) : ((irng n).map f).set k (g k) = (irng n).map g := by
  refine List.ext_getElem? fun i => ?_
  by_cases e : i = k
  · subst e
    rw [List.getElem?_set_self (by rw [List.length_map, irng_len]; exact h1), List.getElem?_map, irng_get h1]; rfl
  · rw [List.getElem?_set_ne (fun z => e z.symm), List.getElem?_map, List.getElem?_map]
    by_cases l : i < n
    · rw [irng_get l]
      show some (f i) = some (g i)
      rw [hg i, if_neg (by omega)]
    · rw [List.getElem?_eq_none (by rw [irng_len]; omega)]; rfl
end MP
/-! CH: heads, by rounds of relaxing. -/
namespace MP
open PySem L2
local macro_rules | `(tactic| open_k with $t) => `(tactic| simp only [wpS, wpE, wpEs, wpEo, wpT, wpTo, wpI, wpG, wpGs, forW, whlW, callW, BinO.d, CmpO.d, Bi.d, Mt.d, parQ, Tgs.len,
  add_ii, add_ss, add_tt, add_rr, sub_ii, mul_ii, mul_ri, fdiv_ii, mod_ii, pow_ii, shl_ii, shr_ii, band_ii, eq_ii, ne_ii, eq_ss, ne_ss, lt_ii, is_n, nis_n, dn_i, dn_n, dn_t, dn_b, dn_s, dn_r, ix_ti, ix_ci, ix_pi, ix_ri, ix_rs, set_ri, set_rs, ty_n, ty_b, ty_i, ty_s, ty_t, ty_c, ty_r, isiB, AO.dct.injEq, sum_t, max_t, min_t, ixN_0, ixN_1, ixN_2, ixN_3,
  len_t, len_r, len_c, abs_i, max_ii, min_ii, tup_r, tup_t, lst_r, lst_t, lst_c, int_i, int_b, app_r, pop_ri, pop_r0, ext_rr, ext_rt, ins_ri, rev_r0, isl_r, rcv_r, rcv_t, ex_some, tru_b, tru_i, tru_t, tru_r, tru_n, sq_t, sq_c, sq_r, sq_f, zp_t, zp_r, en_t, en_r, slD, revD, setSl, atI_0, atI_1, atI_2, atI_3, isL,
  List.getElem?_cons_zero, List.getElem?_cons_succ, List.set_cons_zero, List.set_cons_succ, List.length_cons, List.length_nil, List.map_cons, List.map_nil, List.zip_cons_cons, List.zip_nil_right, List.nil_append, List.cons_append, if_true, if_false, Bool.false_eq_true, if_pos, true_and, and_true,
  exists_eq_left, exists_eq_left', exists_const, reduceCtorEq, false_and, exists_false, or_false, false_or, exists_eq', Option.some.injEq, AO.lst.injEq, D.ref.injEq, aput_same, aput_aput, small_line, HT.sIx_none, List.drop_zero, Nat.sub_zero, Nat.zero_add, Nat.zero_le, Option.getD_none, Option.getD_some, Nat.reduceAdd, Nat.reduceLeDiff,
  Bool.not_true, Bool.not_false, neg_f, neg_t, adel_aput, $t:term])
local macro_rules | `(tactic| walk_at "mp") => `(tactic| try open_k with true_and)
local macro_rules | `(tactic| walk_at "mp1") => `(tactic| (refine wpB_cons ?_; try open_k with true_and))

abbrev n_heads : List Str := ["works", "wishes", "found", "turn", "a", "b", "length", "coming", "cost"]
abbrev p_heads : List Str := ["works", "wishes"]
def b_heads : Ss :=
  (.cons (.set (.n 2) (.lc [("length", 6), ("coming", 7), ("cost", 8)] (.tup (.cons (.n 6) (.cons (.n 7) (.cons (.n 8) .nil)))) (.e false (.v 0)) .no (.v 7)))
    (.cons (.for_ (.n 3) (.rng .no (.bi .len (.cons (.v 0) .nil))) (.cons (.for_ (.tup (.cons (.n 4) (.cons (.n 5) .nil))) (.e false (.v 1)) (.cons (.set (.sub (.v 2) (.v 5)) (.bi .max (.cons (.ix (.v 2) (.v 5)) (.cons (.bin .add (.ix (.v 2) (.v 4)) (.ix (.ix (.v 0) (.v 4)) (.k (.int 0)))) .nil))))
    .nil))
    .nil))
    (.cons (.ret (.bi .tuple (.cons (.v 2) .nil)))
    .nil)))
def c_heads : ASp := fun vs h Q X => ∃ (ws : List Wk) (ps : List (Int × Int)) (dw dp : D), vs = [dw, dp] ∧ SeqOf h dw (ws.map Wk.D) ∧ SeqOf h dp (ps.map prD) ∧ WOk ws.length ps ∧ ws.length ≤ 1000 ∧ Q (.tup ((hdL ws ps).map D.int)) h
theorem coms_map (ws : List Wk) : ws.map (·.com) = (irng ws.length).map (comAt ws) := by
  refine List.ext_getElem? fun i => ?_
  rw [List.getElem?_map, List.getElem?_map]
  by_cases l : i < ws.length
  · rw [irng_get l, List.getElem?_eq_getElem l]
    show some _ = some (comAt ws i)
    unfold comAt
    rw [Int.toNat_natCast, List.getD_eq_getElem?_getD, List.getElem?_eq_getElem l]; rfl
  · rw [List.getElem?_eq_none (by omega), List.getElem?_eq_none (by rw [irng_len]; omega)]; rfl
theorem m_heads (G : Ct) : Meets G n_heads.length b_heads 2 c_heads := by
  rintro vs h Q X hl ⟨ws, ps, dw, dp, rfl, sw, sp, wk, hz, hq⟩
  change wpB G b_heads _ [some _, some _, none, none, none, none, none, none, none] h
  refine wpB_cons ?_
  open_k with true_and
  unfold lcW
  open_k with true_and
  refine sw.sq fun g hg => ?_
  refine ⟨fun i acc h' => acc = ((ws.map (·.com)).take i).map D.int ∧ h' = h, ⟨rfl, rfl⟩, ?_⟩
  rintro i acc h' ⟨rfl, rfl⟩
  refine ⟨hg _ sw, ?_, ?_⟩
  rotate_left
  · intro d hd
    obtain ⟨w, hw, rfl⟩ := map_get hd
    have hi : i < ws.length := (List.getElem?_eq_some_iff.mp hw).1
    simp only [wipeA]
    rw [Wk.D_eq]
    open_k with true_and
    refine ⟨by rw [List.length_map, List.length_take, List.length_map, sizeLine_eq]; omega, h', Sub.refl, ?_, rfl⟩
    rw [take_map1 hw, List.map_append]; rfl
  intro ei p np
  rw [List.length_map] at ei
  rw [List.take_of_length_le (by rw [List.length_map]; omega), coms_map]
  refine wpB_cons ?_
  open_k with true_and
  refine (sw.sub (sub_but np)).len ?_
  open_k with true_and
  refine ⟨⟨by decide, by decide⟩, ⟨by omega, by rw [List.length_map]; omega⟩, ?_⟩
  refine ⟨fun i s h2 => ∃ d3 d4 d5, s = [some dw, some dp, some (.ref p), d3, d4, d5, none, none, none] ∧ h2 = aput h' p (.lst (((irng ws.length).map (relN ws ps i)).map D.int)), ⟨_, _, _, rfl, rfl⟩, ?_⟩
  rintro i s h2 ⟨d3, d4, d5, rfl, rfl⟩
  refine ⟨?_, ?_⟩
  · intro e
    rw [rngD_len, List.length_map] at e
    have e2 : i = ws.length := by omega
    subst e2
    walk_at "mp1"
    refine ⟨h', sub_but np, ?_⟩
    have : (irng ws.length).map (relN ws ps ws.length) = hdL ws ps := List.map_congr_left fun b _ => relN_all wk b
    rw [this]; exact hq
  intro d hd
  refine wpB_cons ?_
  open_k with true_and
  refine (sp.sub (sub_but np)).sq fun g2 hg2 => ?_
  refine ⟨fun j s h2 => ∃ d4 d5, s = [some dw, some dp, some (.ref p), some d, d4, d5, none, none, none] ∧ h2 = aput h' p (.lst (((irng ws.length).map (roundR ws (ps.take j) (relN ws ps i))).map D.int)), ⟨_, _, rfl, rfl⟩, ?_⟩
  rintro j s h2 ⟨d4, d5, rfl, rfl⟩
  refine ⟨hg2 _ (sp.sub (sub_but np)), ?_, ?_⟩
  · intro e
    rw [List.length_map] at e
    rw [List.take_of_length_le (by omega)]
    exact wpB_nil (G := G) ⟨_, _, SSub.refl, Sub.refl, _, _, _, rfl, rfl⟩
  · intro d2 hd2
    obtain ⟨q, hq2, rfl⟩ := map_get hd2
    obtain ⟨q1, q1', q3, q3'⟩ := wk.ind q (List.mem_of_getElem? hq2)
    have nx : roundR ws (ps.take (j + 1)) (relN ws ps i) = relax ws (roundR ws (ps.take j) (relN ws ps i)) q := by
      rw [take_one hq2]; unfold roundR; rw [List.foldl_append]; rfl
    generalize roundR ws (ps.take j) (relN ws ps i) = f at nx
    rw [prD_eq]
    open_k with true_and
    refine wpB_cons ?_
    open_k with true_and
    refine ⟨_, atF q3 q3', _, atF q1 q1', ?_⟩
    refine (sw.sub (sub_but np)).ix (atW q1 q1') ?_
    rw [Wk.D_eq]
    open_k with true_and
    have e2 : ((q.2.toNat : Nat) : Int) = q.2 := by omega
    refine ⟨q.2.toNat, ?_, ?_⟩
    · rw [List.length_map, List.length_map, irng_len]
      rw [← e2]
      exact ixN_lit (by omega)
    refine wpB_nil (G := G) ⟨_, _, SSub.refl, Sub.refl, _, _, rfl, ?_⟩
    rw [nx]
    have := setF (n := ws.length) (f := f) (g := relax ws f q) (k := q.2.toNat) (by omega) (fun b => by
      rw [e2]
      unfold relax
      split
      · rename_i z; rw [z, if_pos rfl]
      · rfl)
    rw [← this, List.map_set]
    congr 3
    rw [e2]
    unfold relax
    rw [if_pos rfl]; rfl
abbrev n_raised : List Str := ["works", "wishes", "some", "t", "alone", "found", "a", "b", "length", "coming", "cost", "j"]
abbrev p_raised : List Str := ["works", "wishes", "some", "t"]
def b_raised : Ss :=
  (.cons (.set (.n 4) (.lc [("a", 6), ("b", 7)] (.tup (.cons (.n 6) (.cons (.n 7) .nil))) (.e false (.v 1)) (.yes (.and_ (.cmp .in_ (.v 6) (.v 2)) (.cmp .in_ (.v 7) (.v 2)))) (.tup (.cons (.v 6) (.cons (.v 7) .nil)))))
    (.cons (.set (.n 5) (.call "heads" (.cons (.lc [("length", 8), ("coming", 9), ("cost", 10)] (.tup (.cons (.n 8) (.cons (.n 9) (.cons (.n 10) .nil)))) (.e false (.v 0)) .no (.tup (.cons (.v 8) (.cons (.bi .max (.cons (.v 9) (.cons (.v 3) .nil))) (.cons (.v 10) .nil))))) (.cons (.v 4) .nil))))
    (.cons (.ret (.bi .tuple (.cons (.lc [("j", 11)] (.n 11) (.e false (.v 2)) .no (.ix (.v 5) (.v 11))) .nil)))
    .nil)))

def lateW (t : Int) (w : Wk) : Wk := { w with com := max w.com t }
def aloneP (ps : List (Int × Int)) (ss : List Int) : List (Int × Int) := ps.filter fun p => decide (p.1 ∈ ss) && decide (p.2 ∈ ss)
theorem WOk.sub {m : Int} {ps : List (Int × Int)} (w : WOk m ps) (f : Int × Int → Bool) : WOk m (ps.filter f) := by
  obtain ⟨g, h1, h2⟩ := w.acy
  have m := fun p (h : p ∈ ps.filter f) => (List.mem_filter.mp h).1
  exact ⟨Nat.le_trans (List.length_filter_le _ _) w.len, fun p h => w.ind p (m p h), g, fun p h => h1 p (m p h), fun p h => h2 p (m p h)⟩
def raisedV (ws : List Wk) (ps : List (Int × Int)) (ss : List Int) (t : Int) : List Int := ss.map (hd (ws.map (lateW t)) (aloneP ps ss))
def c_raised : ASp := fun vs h Q X => ∃ (ws : List Wk) (ps : List (Int × Int)) (ss : List Int) (t : Int), vs = [.tup (ws.map Wk.D), .tup (ps.map prD), .tup (ss.map D.int), .int t] ∧ WOk ws.length ps ∧ ws.length ≤ 1000 ∧ (∀ x, x ∈ ss → 0 ≤ x ∧ x < ws.length) ∧ ss.length ≤ 1000 ∧ Q (.tup ((raisedV ws ps ss t).map D.int)) h
theorem m_raised (G : Ct) (hH : G.fn "heads" = some (2, c_heads)) : Meets G n_raised.length b_raised 4 c_raised := by
  rintro vs h Q X hl ⟨ws, ps, ss, t, rfl, wk, hz, hs, hsl, hq⟩
  change wpB G b_raised _ [some _, some _, some _, some _, none, none, none, none, none, none, none, none] h
  have pl := wk.len
  refine wpB_cons ?_
  open_k with true_and
  refine ⟨fun i acc h' => acc = (aloneP (ps.take i) ss).map prD ∧ h' = h, ⟨rfl, rfl⟩, ?_⟩
  rintro i acc h' ⟨rfl, rfl⟩
  refine ⟨trivial, ?_, ?_⟩
  rotate_left
  · intro d hd
    obtain ⟨p, hp, rfl⟩ := map_get hd
    have al : (aloneP (ps.take i) ss).length ≤ 16 := by
      unfold aloneP
      refine Nat.le_trans (List.length_filter_le _ _) ?_
      rw [List.length_take]; omega
    have nx : aloneP (ps.take (i + 1)) ss = aloneP (ps.take i) ss ++ if (decide (p.1 ∈ ss) && decide (p.2 ∈ ss)) = true then [p] else [] := by
      unfold aloneP
      rw [take_one hp, List.filter_append]
      congr 1
      rw [List.filter_cons, List.filter_nil]
    rw [prD_eq]
    simp only [wipeA]
    open_k with true_and
    refine in_ints_t ?_
    by_cases c1 : p.1 ∈ ss
    · rw [decide_eq_true c1] at nx ⊢
      open_k with true_and
      refine in_ints_t ?_
      by_cases c2 : p.2 ∈ ss
      · rw [decide_eq_true c2] at nx ⊢
        open_k with true_and
        refine ⟨by rw [List.length_map, sizeLine_eq]; omega, _, Sub.refl, ?_, rfl⟩
        rw [nx, List.map_append]; rfl
      · rw [decide_eq_false c2] at nx ⊢
        open_k with true_and
        refine ⟨_, Sub.refl, ?_, rfl⟩
        rw [nx]; simp
    · rw [decide_eq_false c1] at nx ⊢
      open_k with true_and
      refine ⟨_, Sub.refl, ?_, rfl⟩
      rw [nx]; simp
  intro ei p4 np4
  rw [List.length_map] at ei
  rw [List.take_of_length_le (by omega)]
  refine wpB_cons ?_
  open_k with hH
  refine ⟨fun i acc h2 => acc = ((ws.map (lateW t)).take i).map Wk.D ∧ h2 = aput h' p4 (.lst ((aloneP ps ss).map prD)), ⟨rfl, rfl⟩, ?_⟩
  rintro i acc h2 ⟨rfl, rfl⟩
  refine ⟨trivial, ?_, ?_⟩
  rotate_left
  · intro d hd
    obtain ⟨w, hw, rfl⟩ := map_get hd
    have hi : i < ws.length := (List.getElem?_eq_some_iff.mp hw).1
    rw [Wk.D_eq]
    simp only [wipeA]
    open_k with true_and
    refine ⟨by rw [List.length_map, List.length_take, List.length_map, sizeLine_eq]; omega, _, Sub.refl, ?_, rfl⟩
    rw [take_map1 hw, List.map_append]; rfl
  intro ei p5 np5
  rw [List.length_map] at ei
  rw [List.take_of_length_le (by rw [List.length_map]; omega)]
  have n45 : p4 ≠ p5 := ne_none aput_same np5
  refine ⟨ws.map (lateW t), aloneP ps ss, .ref p5, .ref p4, rfl, .l aput_same, .l (by rw [aput_ne n45]; exact aput_same), by rw [List.length_map]; exact wk.sub _, by rw [List.length_map]; exact hz, ?_⟩
  open_k with true_and
  refine wpB_cons ?_
  open_k with true_and
  have s5 : Sub h' (aput (aput h' p4 (.lst ((aloneP ps ss).map prD))) p5 (.lst ((ws.map (lateW t)).map Wk.D))) := (sub_but np4).trans (sub_but np5)
  generalize aput (aput h' p4 (.lst ((aloneP ps ss).map prD))) p5 (.lst ((ws.map (lateW t)).map Wk.D)) = h5 at s5
  refine ⟨fun i acc h2 => acc = ((raisedV ws ps ss t).take i).map D.int ∧ h2 = h5, ⟨rfl, rfl⟩, ?_⟩
  rintro k acc h6 ⟨rfl, rfl⟩
  have rl : (raisedV ws ps ss t).length = ss.length := List.length_map _
  refine ⟨trivial, ?_, ?_⟩
  · intro e p np
    rw [List.length_map] at e
    rw [List.take_of_length_le (by omega)]
    open_k with true_and
    exact ⟨_, s5.trans (sub_but np), hq⟩
  · intro d hd
    obtain ⟨x, hx, rfl⟩ := map_get hd
    clear hd
    have hi := (List.getElem?_eq_some_iff.mp hx).1
    obtain ⟨x0, x1⟩ := hs x (List.mem_of_getElem? hx)
    simp only [wipeA]
    open_k with true_and
    refine ⟨_, atF (n := (ws.map (lateW t)).length) x0 (by rw [List.length_map]; exact x1), by rw [List.length_map, List.length_take, rl, sizeLine_eq]; omega, _, Sub.refl, ?_, rfl⟩
    rw [List.take_add_one, show (raisedV ws ps ss t)[k]? = some (hd (ws.map (lateW t)) (aloneP ps ss) x) by unfold raisedV; rw [List.getElem?_map, hx]; rfl, List.map_append]; rfl
end MP
/-! BO: the last ones of a set, its bound. -/
namespace MP
open PySem L2
local macro_rules | `(tactic| open_k with $t) => `(tactic| simp only [wpS, wpE, wpEs, wpEo, wpT, wpTo, wpI, wpG, wpGs, forW, whlW, callW, BinO.d, CmpO.d, Bi.d, Mt.d, parQ, Tgs.len,
  add_ii, add_ss, add_tt, add_rr, sub_ii, mul_ii, mul_ri, fdiv_ii, mod_ii, pow_ii, shl_ii, shr_ii, band_ii, eq_ii, ne_ii, eq_ss, ne_ss, lt_ii, is_n, nis_n, dn_i, dn_n, dn_t, dn_b, dn_s, dn_r, ix_ti, ix_ci, ix_pi, ix_ri, ix_rs, set_ri, set_rs, ty_n, ty_b, ty_i, ty_s, ty_t, ty_c, ty_r, isiB, AO.dct.injEq, sum_t, max_t, min_t, ixN_0, ixN_1, ixN_2, ixN_3,
  len_t, len_r, len_c, abs_i, max_ii, min_ii, tup_r, tup_t, lst_r, lst_t, lst_c, int_i, int_b, app_r, pop_ri, pop_r0, ext_rr, ext_rt, ins_ri, rev_r0, isl_r, rcv_r, rcv_t, ex_some, tru_b, tru_i, tru_t, tru_r, tru_n, sq_t, sq_c, sq_r, sq_f, zp_t, zp_r, en_t, en_r, slD, revD, setSl, atI_0, atI_1, atI_2, atI_3, isL,
  List.getElem?_cons_zero, List.getElem?_cons_succ, List.set_cons_zero, List.set_cons_succ, List.length_cons, List.length_nil, List.map_cons, List.map_nil, List.zip_cons_cons, List.zip_nil_right, List.nil_append, List.cons_append, if_true, if_false, Bool.false_eq_true, if_pos, true_and, and_true,
  exists_eq_left, exists_eq_left', exists_const, reduceCtorEq, false_and, exists_false, or_false, false_or, exists_eq', Option.some.injEq, AO.lst.injEq, D.ref.injEq, aput_same, aput_aput, small_line, HT.sIx_none, List.drop_zero, Nat.sub_zero, Nat.zero_add, Nat.zero_le, Option.getD_none, Option.getD_some, Nat.reduceAdd, Nat.reduceLeDiff,
  Bool.not_true, Bool.not_false, neg_f, neg_t, adel_aput, $t:term])
local macro_rules | `(tactic| walk_at "mp") => `(tactic| try open_k with true_and)
local macro_rules | `(tactic| walk_at "mp1") => `(tactic| (refine wpB_cons ?_; try open_k with true_and))
abbrev n_last_ones : List Str := ["many", "wishes", "some", "work", "other"]
abbrev p_last_ones : List Str := ["many", "wishes", "some"]
def b_last_ones : Ss :=
  (.cons (.ret (.bi .tuple (.cons (.lc [("work", 3)] (.n 3) (.e false (.v 2)) (.yes (.not_ (.e (.bi .any (.cons (.lc [("other", 4)] (.n 4) (.e true (.call "behind" (.cons (.v 0) (.cons (.v 1) (.cons (.v 3) .nil))))) .no (.cmp .in_ (.v 4) (.v 2))) .nil))))) (.v 3)) .nil)))
    .nil)

def lastB (n : Nat) (ps : List (Int × Int)) (ss : List Int) (w : Int) : Bool := !((setB n (wsh ps n w)).map fun o => decide (o ∈ ss)).any id
def lastV (n : Nat) (ps : List (Int × Int)) (ss : List Int) : List Int := ss.filter (lastB n ps ss)
theorem lastB_iff {n : Nat} {ps : List (Int × Int)} (w : WOk n ps) {ss : List Int} {x : Int} : lastB n ps ss x = true ↔ ∀ o, o ∈ ss → ¬ Rch ps x o := by
  unfold lastB
  rw [Bool.not_eq_true', List.any_eq_false]
  constructor
  · intro h o ho r
    have := h _ (List.mem_map.mpr ⟨o, setB_mem.mpr ⟨w.to r, (wsh_iff w).mpr r⟩, rfl⟩)
    simp [ho] at this
  · intro h y hy
    obtain ⟨o, ho, rfl⟩ := List.mem_map.mp hy
    have := (wsh_iff w).mp (setB_mem.mp ho).2
    intro z
    exact h o (by simpa using z) this
theorem last_some {n : Nat} {ps : List (Int × Int)} (w : WOk n ps) {ss : List Int} (h : ss ≠ []) : lastV n ps ss ≠ [] := by
  obtain ⟨f, hf, _⟩ := w.acy
  have top : ∀ (l : List Int), l ≠ [] → ∃ x, x ∈ l ∧ ∀ y, y ∈ l → f y ≤ f x := by
    intro l
    induction l with
    | nil => exact fun h => absurd rfl h
    | cons x r ih =>
      intro _
      by_cases c : r = []
      · subst c
        exact ⟨x, List.mem_cons_self .., fun y hy => by rw [List.mem_singleton.mp hy]; exact Nat.le_refl _⟩
      · obtain ⟨y, hy, hm⟩ := ih c
        by_cases c2 : f y ≤ f x
        · refine ⟨x, List.mem_cons_self .., fun z hz => ?_⟩
          rcases List.mem_cons.mp hz with rfl | hz
          · exact Nat.le_refl _
          · exact Nat.le_trans (hm z hz) c2
        · refine ⟨y, List.mem_cons_of_mem _ hy, fun z hz => ?_⟩
          rcases List.mem_cons.mp hz with rfl | hz
          · omega
          · exact hm z hz
  obtain ⟨x, hx, hm⟩ := top ss h
  intro z
  unfold lastV at z
  rw [List.filter_eq_nil_iff] at z
  refine z x hx ((lastB_iff w).mpr fun o ho r => ?_)
  have := r.rank hf
  have := hm o ho
  omega
def c_last_ones : ASp := fun vs h Q X => ∃ (n : Nat) (ps : List (Int × Int)) (ss : List Int), vs = [.int n, .tup (ps.map prD), .tup (ss.map D.int)] ∧ WOk n ps ∧ n ≤ 100 ∧ (∀ x, x ∈ ss → 0 ≤ x ∧ x < n) ∧ ss.length ≤ 1000 ∧ Q (.tup ((lastV n ps ss).map D.int)) h
theorem m_last_ones (G : Ct) (hG : G.fn "behind" = some (3, c_behind)) : Meets G n_last_ones.length b_last_ones 3 c_last_ones := by
  rintro vs h Q X hl ⟨n, ps, ss, rfl, w, hn, hs, hsl, hq⟩
  change wpB G b_last_ones _ [some _, some _, some _, none, none] h
  refine wpB_cons ?_
  open_k with true_and
  refine ⟨fun i acc h' => acc = ((ss.take i).filter (lastB n ps ss)).map D.int ∧ Sub h h', ⟨rfl, Sub.refl⟩, ?_⟩
  rintro i acc h' ⟨rfl, su⟩
  refine ⟨trivial, ?_, ?_⟩
  · intro e p np
    rw [List.length_map] at e
    rw [List.take_of_length_le (by omega)]
    open_k with true_and
    exact ⟨_, su.trans (sub_but np), hq⟩
  · intro d hd
    obtain ⟨x, hx, rfl⟩ := map_get hd
    have hi := (List.getElem?_eq_some_iff.mp hx).1
    obtain ⟨x0, x1⟩ := hs x (List.mem_of_getElem? hx)
    have fl := List.length_filter_le (lastB n ps ss) (ss.take i)
    rw [List.length_take] at fl
    have nx : (ss.take (i + 1)).filter (lastB n ps ss) = (ss.take i).filter (lastB n ps ss) ++ if lastB n ps ss x = true then [x] else [] := by
      rw [take_one hx, List.filter_append]
      congr 1
      rw [List.filter_cons, List.filter_nil]
    have sl : (setB n (wsh ps n x)).length ≤ n := Nat.le_trans (List.length_filter_le _ _) (by rw [irng_len]; exact Nat.le_refl _)
    simp only [wipeA]
    open_k with hG
    unfold lcW
    open_k with hG
    refine ⟨n, ps, x, rfl, w, hn, x0, x1, ?_⟩
    open_k with true_and
    refine ⟨fun j acc2 h2 => acc2 = (((setB n (wsh ps n x)).map fun o => decide (o ∈ ss)).take j).map D.bl ∧ h2 = h', ⟨rfl, rfl⟩, ?_⟩
    rintro j acc2 h2 ⟨rfl, rfl⟩
    refine ⟨?_, ?_⟩
    · intro e p np
      rw [List.length_map] at e
      rw [List.take_of_length_le (by rw [List.length_map]; omega)]
      refine any_bls aput_same ?_
      open_k with true_and
      have el : (!(((setB n (wsh ps n x)).map fun o => decide (o ∈ ss)).any id)) = lastB n ps ss x := rfl
      rw [el]
      cases c : lastB n ps ss x
      · open_k with true_and
        refine ⟨_, Sub.refl, ?_, su.trans (sub_but np)⟩
        rw [nx, c]; simp
      · open_k with true_and
        refine ⟨by rw [List.length_map, sizeLine_eq]; omega, _, Sub.refl, ?_, su.trans (sub_but np)⟩
        rw [nx, c, List.map_append]; rfl
    · intro d2 hd2
      obtain ⟨o, ho, rfl⟩ := map_get hd2
      have hj := (List.getElem?_eq_some_iff.mp ho).1
      simp only [wipeA]
      open_k with true_and
      refine in_ints_t ?_
      rw [neg_f]
      refine ⟨by rw [List.length_map, List.length_take, List.length_map, sizeLine_eq]; omega, _, Sub.refl, ?_, rfl⟩
      rw [take_map1 ho, List.map_append]; rfl
abbrev n_bound_of : List Str := ["works", "wishes", "some", "known", "end", "u", "j"]
abbrev p_bound_of : List Str := ["works", "wishes", "some"]
def b_bound_of : Ss :=
  (.cons (.set (.n 3) (.call "heads" (.cons (.v 0) (.cons (.v 1) .nil))))
    (.cons (.set (.n 4) (.bin .add (.bi .min (.cons (.lc [("j", 6)] (.n 6) (.e false (.v 2)) .no (.ix (.v 3) (.v 6))) .nil)) (.bi .sum (.cons (.lc [("j", 6)] (.n 6) (.e false (.v 2)) .no (.ix (.ix (.v 0) (.v 6)) (.k (.int 0)))) .nil))))
    (.cons (.ret (.bi .min (.cons (.lc [("u", 5)] (.n 5) (.e true (.call "last_ones" (.cons (.bi .len (.cons (.v 0) .nil)) (.cons (.v 1) (.cons (.v 2) .nil))))) .no (.call "cost_at" (.cons (.ix (.ix (.v 0) (.v 5)) (.k (.int 2))) (.cons (.v 4) .nil)))) .nil)))
    .nil)))

def costAt (ws : List Wk) (u t : Int) : Int := (ws.getD u.toNat wk0).cost.at t
def endV (ws : List Wk) (ps : List (Int × Int)) (ss : List Int) : Int := minI (ss.map (hd ws ps)) + (ss.map (lenAt ws)).sum
def boundV (ws : List Wk) (ps : List (Int × Int)) (ss : List Int) : Int := minI ((lastV ws.length ps ss).map fun u => costAt ws u (endV ws ps ss))
theorem minr_ints {h : AH} {Q : AK} {p : Addr} {ns : List Int} (e : h p = some (.lst (ns.map D.int))) (hn : 0 < ns.length) (q : Q (.int (minI ns)) h) : minD [.ref p] h Q := Or.inl ⟨ns, e, hn, q⟩
theorem sumr_ints {h : AH} {Q : AK} {a : Addr} {ns : List Int} (e : h a = some (.lst (ns.map D.int))) (q : Q (.int ns.sum) h) : sumD [.ref a] h Q := ⟨ns, e, q⟩
def c_bound_of : ASp := fun vs h Q X => ∃ (ws : List Wk) (ps : List (Int × Int)) (ss : List Int), vs = [.tup (ws.map Wk.D), .tup (ps.map prD), .tup (ss.map D.int)] ∧ WOk ws.length ps ∧ ws.length ≤ 100 ∧ (∀ x, x ∈ ss → 0 ≤ x ∧ x < ws.length) ∧ ss ≠ [] ∧ ss.length ≤ 1000 ∧ (∀ w, w ∈ ws → w.cost.Ok) ∧ Q (.int (boundV ws ps ss)) h
theorem wk_mem {ws : List Wk} {k : Int} (h0 : 0 ≤ k) (h1 : k < ws.length) : ws.getD k.toNat wk0 ∈ ws := by
  rw [List.getD_eq_getElem?_getD, List.getElem?_eq_getElem (by omega)]
  exact List.getElem_mem _
theorem m_bound_of (G : Ct) (hH : G.fn "heads" = some (2, c_heads)) (hL : G.fn "last_ones" = some (3, c_last_ones)) (hC : G.fn "cost_at" = some (2, c_cost_at)) : Meets G n_bound_of.length b_bound_of 3 c_bound_of := by
  rintro vs h Q X hl ⟨ws, ps, ss, rfl, wk, hn, hs, hne, hsl, hok, hq⟩
  change wpB G b_bound_of _ [some _, some _, some _, none, none, none, none] h
  have wl : (ws.map Wk.D).length = ws.length := List.length_map _
  have spos : 0 < ss.length := List.length_pos_iff.mpr hne
  refine wpB_cons ?_
  open_k with hH
  refine ⟨ws, ps, _, _, rfl, .t, .t, wk, by omega, ?_⟩
  walk_at "mp"
  refine wpB_cons ?_
  open_k with true_and
  refine ⟨fun i acc h' => acc = ((ss.map (hd ws ps)).take i).map D.int ∧ h' = h, ⟨rfl, rfl⟩, ?_⟩
  rintro i acc h1 ⟨rfl, rfl⟩
  refine ⟨trivial, ?_, ?_⟩
  rotate_left
  · intro d hdd
    obtain ⟨x, hx, rfl⟩ := map_get hdd
    have hi := (List.getElem?_eq_some_iff.mp hx).1
    obtain ⟨x0, x1⟩ := hs x (List.mem_of_getElem? hx)
    simp only [wipeA]
    open_k with true_and
    refine ⟨_, atF x0 x1, by rw [List.length_map, List.length_take, List.length_map, sizeLine_eq]; omega, _, Sub.refl, ?_, rfl⟩
    rw [take_map1 hx, List.map_append]; rfl
  intro ei p np
  rw [List.length_map] at ei
  rw [List.take_of_length_le (by rw [List.length_map]; omega)]
  refine minr_ints aput_same (by rw [List.length_map]; exact spos) ?_
  have s2 : Sub h1 (aput h1 p (.lst ((ss.map (hd ws ps)).map D.int))) := sub_but np
  generalize aput h1 p (.lst ((ss.map (hd ws ps)).map D.int)) = h2 at s2
  walk_at "mp"
  refine ⟨fun i acc h' => acc = ((ss.map (lenAt ws)).take i).map D.int ∧ h' = h2, ⟨rfl, rfl⟩, ?_⟩
  rintro j acc h3 ⟨rfl, rfl⟩
  refine ⟨trivial, ?_, ?_⟩
  rotate_left
  · intro d hdd
    obtain ⟨x, hx, rfl⟩ := map_get hdd
    have hi := (List.getElem?_eq_some_iff.mp hx).1
    obtain ⟨x0, x1⟩ := hs x (List.mem_of_getElem? hx)
    simp only [wipeA]
    open_k with true_and
    refine ⟨_, atW x0 x1, ?_⟩
    rw [Wk.D_eq]
    open_k with true_and
    refine ⟨by rw [List.length_map, List.length_take, List.length_map, sizeLine_eq]; omega, _, Sub.refl, ?_, rfl⟩
    rw [take_map1 hx, List.map_append]; rfl
  intro ej p2 np2
  rw [List.length_map] at ej
  rw [List.take_of_length_le (by rw [List.length_map]; omega)]
  refine sumr_ints aput_same ?_
  have s4 : Sub h1 (aput h3 p2 (.lst ((ss.map (lenAt ws)).map D.int))) := s2.trans (sub_but np2)
  generalize aput h3 p2 (.lst ((ss.map (lenAt ws)).map D.int)) = h4 at s4
  walk_at "mp"
  refine wpB_cons ?_
  open_k with hL
  unfold lcW
  open_k with hL
  refine ⟨ws.length, ps, ss, by rw [wl], wk, hn, hs, hsl, ?_⟩
  walk_at "mp"
  have ll : (lastV ws.length ps ss).length ≤ ss.length := List.length_filter_le _ _
  refine ⟨fun i acc h' => acc = (((lastV ws.length ps ss).map fun u => costAt ws u (endV ws ps ss)).take i).map D.int ∧ h' = h4, ⟨rfl, rfl⟩, ?_⟩
  rintro k acc h5 ⟨rfl, rfl⟩
  refine ⟨?_, ?_⟩
  · intro e p5 np5
    rw [List.length_map] at e
    rw [List.take_of_length_le (by rw [List.length_map]; omega)]
    refine minr_ints aput_same (by rw [List.length_map]; exact List.length_pos_iff.mpr (last_some wk hne)) ?_
    exact ⟨_, s4.trans (sub_but np5), hq⟩
  · intro d hdd
    obtain ⟨x, hx, rfl⟩ := map_get hdd
    have hi := (List.getElem?_eq_some_iff.mp hx).1
    obtain ⟨x0, x1⟩ := hs x (List.mem_filter.mp (List.mem_of_getElem? hx)).1
    simp only [wipeA]
    open_k with hC
    refine ⟨_, atW x0 x1, ?_⟩
    rw [Wk.D_eq]
    open_k with hC
    refine ⟨(ws.getD x.toNat wk0).cost, endV ws ps ss, rfl, hok _ (wk_mem x0 x1), ?_⟩
    refine ⟨by rw [List.length_map, List.length_take, List.length_map, sizeLine_eq]; omega, _, Sub.refl, ?_, rfl⟩
    rw [take_map1 hx, List.map_append]; rfl
end MP
/-! CM: a cost moved by days. -/
namespace MP
open PySem L2
local macro_rules | `(tactic| open_k with $t) => `(tactic| simp only [wpS, wpE, wpEs, wpEo, wpT, wpTo, wpI, wpG, wpGs, forW, whlW, callW, BinO.d, CmpO.d, Bi.d, Mt.d, parQ, Tgs.len,
  add_ii, add_ss, add_tt, add_rr, sub_ii, mul_ii, mul_ri, fdiv_ii, mod_ii, pow_ii, shl_ii, shr_ii, band_ii, eq_ii, ne_ii, eq_ss, ne_ss, lt_ii, is_n, nis_n, dn_i, dn_n, dn_t, dn_b, dn_s, dn_r, ix_ti, ix_ci, ix_pi, ix_ri, ix_rs, set_ri, set_rs, ty_n, ty_b, ty_i, ty_s, ty_t, ty_c, ty_r, isiB, AO.dct.injEq, sum_t, max_t, min_t, ixN_0, ixN_1, ixN_2, ixN_3,
  len_t, len_r, len_c, abs_i, max_ii, min_ii, tup_r, tup_t, lst_r, lst_t, lst_c, int_i, int_b, app_r, pop_ri, pop_r0, ext_rr, ext_rt, ins_ri, rev_r0, isl_r, rcv_r, rcv_t, ex_some, tru_b, tru_i, tru_t, tru_r, tru_n, sq_t, sq_c, sq_r, sq_f, zp_t, zp_r, en_t, en_r, slD, revD, setSl, atI_0, atI_1, atI_2, atI_3, isL,
  List.getElem?_cons_zero, List.getElem?_cons_succ, List.set_cons_zero, List.set_cons_succ, List.length_cons, List.length_nil, List.map_cons, List.map_nil, List.zip_cons_cons, List.zip_nil_right, List.nil_append, List.cons_append, if_true, if_false, Bool.false_eq_true, if_pos, true_and, and_true,
  exists_eq_left, exists_eq_left', exists_const, reduceCtorEq, false_and, exists_false, or_false, false_or, exists_eq', Option.some.injEq, AO.lst.injEq, D.ref.injEq, aput_same, aput_aput, small_line, HT.sIx_none, List.drop_zero, Nat.sub_zero, Nat.zero_add, Nat.zero_le, Option.getD_none, Option.getD_some, Nat.reduceAdd, Nat.reduceLeDiff,
  Bool.not_true, Bool.not_false, neg_f, neg_t, adel_aput, $t:term])
local macro_rules | `(tactic| walk_at "mp") => `(tactic| try open_k with true_and)
local macro_rules | `(tactic| walk_at "mp1") => `(tactic| (refine wpB_cons ?_; try open_k with true_and))

def Cst.mv (n : Int) : Cst → Cst
  | .late d => .late (d + n)
  | .tardy d w => .tardy (d + n) w
  | .miss d w => .miss (d + n) w
  | .ends w => .ends w
  | .steps rows => .steps (rows.map fun r => (r.1 + n, r.2))
theorem Cst.Std.mv {c : Cst} (h : c.Std) (n : Int) : (c.mv n).Std := by
  cases c with
  | late d => trivial
  | tardy d w => exact h
  | miss d w => exact h
  | ends w => exact h
  | steps rows =>
    obtain ⟨a, b, c⟩ := h
    refine ⟨fun z => a (List.map_eq_nil_iff.mp z), fun r hr => ?_, ?_⟩
    · obtain ⟨x, hx, rfl⟩ := List.mem_map.mp hr
      exact b x hx
    · rw [List.pairwise_map]
      exact c.imp fun {x y} h => ⟨by have := h.1; show x.1 + n < y.1 + n; omega, h.2⟩
theorem Cst.Sm.mv {c : Cst} (h : c.Sm) {n : Int} (h1 : -10000 ≤ n) (h2 : n ≤ 10000) : (c.mv n).Bd := by
  have add : ∀ i, sml i → mil (i + n) := fun i hi => by unfold sml at hi; unfold mil; omega
  cases c with
  | late d => exact add _ h
  | tardy d w => exact ⟨add _ h.1, h.2.mil⟩
  | miss d w => exact ⟨add _ h.1, h.2.mil⟩
  | ends w => exact sml.mil h
  | steps rows =>
    refine ⟨by rw [List.length_map]; exact h.1, fun r hr => ?_⟩
    obtain ⟨x, hx, rfl⟩ := List.mem_map.mp hr
    exact ⟨add _ (h.2 x hx).1, (h.2 x hx).2.mil⟩
theorem prD_eqs (p : Int × Int) : prD p = .tup [.int p.1, .int p.2] := rfl
theorem cDs : (∀ d, (Cst.late d).D = .tup [.str "late", .int d]) ∧ (∀ d w, (Cst.tardy d w).D = .tup [.str "tardy", .int d, .int w]) ∧ (∀ d w, (Cst.miss d w).D = .tup [.str "miss", .int d, .int w]) ∧ (∀ w, (Cst.ends w).D = .tup [.str "ends", .int w]) ∧ (∀ r, (Cst.steps r).D = .tup [.str "steps", .tup (r.map prD)]) :=
  ⟨fun _ => rfl, fun _ _ => rfl, fun _ _ => rfl, fun _ => rfl, fun _ => rfl⟩
theorem eqV_str {i j : Str} : eqV (.str i) (.str j) = decide (i = j) := by
  show (i == j) = _
  by_cases e : i = j
  · simp [e]
  · simp [e]
theorem inV_strs (k : Str) (ns : List Str) : inV (D.str k).v ((ns.map D.str).map D.v) = decide (k ∈ ns) := by
  unfold inV
  induction ns with
  | nil => rfl
  | cons n ns ih =>
    rw [List.map_cons, List.map_cons, List.any_cons, ih]
    show (eqV (.str n) (.str k) || _) = _
    rw [eqV_str]
    by_cases e : n = k
    · simp [e]
    · have e2 : ¬ k = n := fun z => e z.symm
      simp [e, e2]
theorem in_strs_t {neg : Bool} {k : Str} (ns : List Str) {h : AH} {Q : AK} (q : Q (.bl (neg != decide (k ∈ ns))) h) : inD neg (.str k) (.tup (ns.map D.str)) h Q := by
  refine Or.inl ⟨rfl, by simp [List.all_map, flatD, Function.comp_def], ?_⟩
  rw [inV_strs]; exact q
theorem dw2 : decide (("late" : Str) ∈ (["ends", "steps"] : List Str)) = false ∧ decide (("tardy" : Str) ∈ (["ends", "steps"] : List Str)) = false ∧ decide (("miss" : Str) ∈ (["ends", "steps"] : List Str)) = false ∧
    decide (("late" : Str) = "ends") = false ∧ decide (("late" : Str) = "steps") = false ∧ decide (("tardy" : Str) = "ends") = false ∧ decide (("tardy" : Str) = "steps") = false ∧ decide (("miss" : Str) = "ends") = false ∧ decide (("miss" : Str) = "steps") = false ∧ decide (("ends" : Str) = "steps") = false ∧ decide (("late" : Str) = "tardy") = false ∧ decide (("late" : Str) = "miss") = false ∧ decide (("tardy" : Str) = "miss") = false := by decide +kernel
abbrev n_later_due : List Str := ["cost", "days"]
abbrev p_later_due : List Str := ["cost", "days"]
def b_later_due : Ss :=
  (.cons (.iff (.cmp .in_ (.ix (.v 0) (.k (.int 0))) (.tup (.cons (.k (.str "ends")) (.cons (.k (.str "steps")) .nil)))) (.cons .dead
    .nil) .nil)
    (.cons (.ret (.bin .add (.tup (.cons (.ix (.v 0) (.k (.int 0))) (.cons (.bin .add (.ix (.v 0) (.k (.int 1))) (.v 1)) .nil))) (.sl (.v 0) (.yes (.k (.int 2))) .no)))
    .nil))

def c_later_due : ASp := fun vs h Q X => ∃ (c : Cst) (n : Int), vs = [c.D, .int n] ∧ c.way < 3 ∧ Q (c.mv n).D h
theorem m_later_due (G : Ct) : Meets G n_later_due.length b_later_due 2 c_later_due := by
  rintro vs h Q X hl ⟨c, n, rfl, w, hq⟩
  change wpB G b_later_due _ [some _, some _] h
  have gen : ∀ (x : Str) (ds : List D) (d : Int), decide (x ∈ (["ends", "steps"] : List Str)) = false → ds.length ≤ 5 → c.D = .tup (.str x :: .int d :: ds) → (c.mv n).D = .tup (.str x :: .int (d + n) :: ds) →
      wpB G b_later_due { nx := fun _ h1 => ∃ h2, Sub h2 h1 ∧ Q .non h2, rt := fun d h1 => ∃ h2, Sub h2 h1 ∧ Q d h2, ex := fun x _ h1 => ∃ h2, Sub h2 h1 ∧ X x h2 } [some c.D, some (.int n)] h := by
    intro x ds d hx hd e1 e2
    rw [e1]
    refine wpB_cons ?_
    open_k with true_and
    refine in_strs_t ["ends", "steps"] ?_
    rw [hx]
    open_k with true_and
    refine wpB_nil (G := G) ?_
    refine wpB_cons ?_
    open_k with true_and
    have e3 : List.take (List.length ds + 1 + 1 - HT.sIx (List.length ds + 1 + 1) 0 (some 2)) (List.drop (HT.sIx (List.length ds + 1 + 1) 0 (some 2)) (.str x :: .int d :: ds)) = ds := by
      rw [sIx_lit (by decide), show min (2 : Int).toNat (ds.length + 1 + 1) = 2 by simp]
      simp only [List.drop_succ_cons, List.drop_zero]
      exact List.take_of_length_le (by omega)
    rw [e3]
    refine ⟨by rw [sizeLine_eq]; omega, h, Sub.refl, ?_⟩
    rw [e2] at hq; exact hq
  cases c with
  | late d => exact gen "late" [] d dw2.1 (by decide) rfl rfl
  | tardy d w2 => exact gen "tardy" [.int w2] d dw2.2.1 (by simp) rfl rfl
  | miss d w2 => exact gen "miss" [.int w2] d dw2.2.2.1 (by simp) rfl rfl
  | ends w2 => exact absurd w (by show ¬ ((3 : Int) < 3); omega)
  | steps r => exact absurd w (by show ¬ ((4 : Int) < 3); omega)
abbrev n_moved_cost : List Str := ["cost", "days", "start", "told"]
abbrev p_moved_cost : List Str := ["cost", "days"]
def b_moved_cost : Ss :=
  (.cons (.iff (.cmp .eq (.ix (.v 0) (.k (.int 0))) (.k (.str "ends"))) (.cons .dead
    .nil) .nil)
    (.cons (.iff (.cmp .eq (.ix (.v 0) (.k (.int 0))) (.k (.str "steps"))) (.cons (.ret (.tup (.cons (.k (.str "steps")) (.cons (.bi .tuple (.cons (.lc [("start", 2), ("told", 3)] (.tup (.cons (.n 2) (.cons (.n 3) .nil))) (.e false (.ix (.v 0) (.k (.int 1)))) .no (.tup (.cons (.bin .add (.v 2) (.v 1)) (.cons (.v 3) .nil)))) .nil)) .nil))))
    .nil) .nil)
    (.cons (.ret (.call "later_due" (.cons (.v 0) (.cons (.v 1) .nil))))
    .nil)))

def c_moved_cost : ASp := fun vs h Q X => ∃ (c : Cst) (n : Int), vs = [c.D, .int n] ∧ c.way ≠ 3 ∧ c.Bd ∧ Q (c.mv n).D h
theorem m_moved_cost (G : Ct) (hG : G.fn "later_due" = some (2, c_later_due)) : Meets G n_moved_cost.length b_moved_cost 2 c_moved_cost := by
  rintro vs h Q X hl ⟨c, n, rfl, w, bd, hq⟩
  change wpB G b_moved_cost _ [some _, some _, none, none] h
  cases c with
  | late d =>
    refine wpB_cons ?_
    open_k with And.intro dw2 cDs
    refine wpB_nil (G := G) (wpB_cons ?_)
    open_k with dw2
    refine wpB_nil (G := G) (wpB_cons ?_)
    open_k with hG
    exact ⟨.late d, n, rfl, by show (0 : Int) < 3; omega, _, Sub.refl, hq⟩
  | tardy d w2 =>
    refine wpB_cons ?_
    open_k with And.intro dw2 cDs
    refine wpB_nil (G := G) (wpB_cons ?_)
    open_k with dw2
    refine wpB_nil (G := G) (wpB_cons ?_)
    open_k with hG
    exact ⟨.tardy d w2, n, rfl, by show (1 : Int) < 3; omega, _, Sub.refl, hq⟩
  | miss d w2 =>
    refine wpB_cons ?_
    open_k with And.intro dw2 cDs
    refine wpB_nil (G := G) (wpB_cons ?_)
    open_k with dw2
    refine wpB_nil (G := G) (wpB_cons ?_)
    open_k with hG
    exact ⟨.miss d w2, n, rfl, by show (2 : Int) < 3; omega, _, Sub.refl, hq⟩
  | ends w2 => exact absurd rfl w
  | steps rows =>
    refine wpB_cons ?_
    open_k with And.intro dw cDs
    refine wpB_nil (G := G) (wpB_cons ?_)
    open_k with dw
    refine wpB_cons ?_
    open_k with true_and
    unfold lcW
    open_k with true_and
    refine ⟨fun i acc h' => acc = ((rows.map fun r => (r.1 + n, r.2)).take i).map prD ∧ h' = h, ⟨rfl, rfl⟩, ?_⟩
    rintro i acc h' ⟨rfl, rfl⟩
    refine ⟨?_, ?_⟩
    · intro e p np
      rw [List.length_map] at e
      rw [List.take_of_length_le (by rw [List.length_map]; omega)]
      exact ⟨_, sub_but np, hq⟩
    · intro d hd
      obtain ⟨r, hr, rfl⟩ := map_get hd
      have hi := (List.getElem?_eq_some_iff.mp hr).1
      have := bd.1
      simp only [wipeA]
      unfold prD
      open_k with true_and
      refine ⟨by rw [List.length_map, List.length_take, List.length_map, sizeLine_eq]; omega, _, Sub.refl, ?_, rfl⟩
      rw [take_map1 hr, List.map_append]; rfl
end MP
/-! LC: the law's own costs (families B, D) -/
namespace MP
open PySem L2
local macro_rules | `(tactic| open_k with $t) => `(tactic| simp only [wpS, wpE, wpEs, wpEo, wpT, wpTo, wpI, wpG, wpGs, forW, whlW, callW, BinO.d, CmpO.d, Bi.d, Mt.d, parQ, Tgs.len,
  add_ii, add_ss, add_tt, add_rr, sub_ii, mul_ii, mul_ri, fdiv_ii, mod_ii, pow_ii, shl_ii, shr_ii, band_ii, eq_ii, ne_ii, eq_ss, ne_ss, lt_ii, is_n, nis_n, dn_i, dn_n, dn_t, dn_b, dn_s, dn_r, ix_ti, ix_ci, ix_pi, ix_ri, ix_rs, set_ri, set_rs, ty_n, ty_b, ty_i, ty_s, ty_t, ty_c, ty_r, isiB, AO.dct.injEq, sum_t, max_t, min_t, ixN_0, ixN_1, ixN_2, ixN_3,
  len_t, len_r, len_c, abs_i, max_ii, min_ii, tup_r, tup_t, lst_r, lst_t, lst_c, int_i, int_b, app_r, pop_ri, pop_r0, ext_rr, ext_rt, ins_ri, rev_r0, isl_r, rcv_r, rcv_t, ex_some, tru_b, tru_i, tru_t, tru_r, tru_n, sq_t, sq_c, sq_r, sq_f, zp_t, zp_r, en_t, en_r, slD, revD, setSl, atI_0, atI_1, atI_2, atI_3, isL,
  List.getElem?_cons_zero, List.getElem?_cons_succ, List.set_cons_zero, List.set_cons_succ, List.length_cons, List.length_nil, List.map_cons, List.map_nil, List.zip_cons_cons, List.zip_nil_right, List.nil_append, List.cons_append, if_true, if_false, Bool.false_eq_true, if_pos, true_and, and_true,
  exists_eq_left, exists_eq_left', exists_const, reduceCtorEq, false_and, exists_false, or_false, false_or, exists_eq', Option.some.injEq, AO.lst.injEq, D.ref.injEq, aput_same, aput_aput, small_line, HT.sIx_none, List.drop_zero, Nat.sub_zero, Nat.zero_add, Nat.zero_le, Option.getD_none, Option.getD_some, Nat.reduceAdd, Nat.reduceLeDiff,
  Bool.not_true, Bool.not_false, neg_f, neg_t, adel_aput, $t:term])
local macro_rules | `(tactic| walk_at "mp") => `(tactic| try open_k with true_and)
local macro_rules | `(tactic| walk_at "mp1") => `(tactic| (refine wpB_cons ?_; try open_k with true_and))
abbrev n_law_costs : List Str := ["_law_cost_here", "_law_t", "_law_start", "_law_height"]
abbrev p_law_costs : List Str := ["_law_cost_here", "_law_t"]
def b_law_costs : Ss :=
  (.cons (.iff (.cmp .eq (.ix (.v 0) (.k (.int 0))) (.k (.str "late"))) (.cons (.ret (.bin .sub (.v 1) (.ix (.v 0) (.k (.int 1)))))
    .nil) .nil)
    (.cons (.iff (.cmp .eq (.ix (.v 0) (.k (.int 0))) (.k (.str "tardy"))) (.cons (.ret (.bin .mul (.ix (.v 0) (.k (.int 2))) (.bi .max (.cons (.k (.int 0)) (.cons (.bin .sub (.v 1) (.ix (.v 0) (.k (.int 1)))) .nil)))))
    .nil) .nil)
    (.cons (.iff (.cmp .eq (.ix (.v 0) (.k (.int 0))) (.k (.str "miss"))) (.cons (.ret (.bin .mul (.ix (.v 0) (.k (.int 2))) (.bi .int (.cons (.cmp .gt (.v 1) (.ix (.v 0) (.k (.int 1)))) .nil))))
    .nil) .nil)
    (.cons (.iff (.cmp .eq (.ix (.v 0) (.k (.int 0))) (.k (.str "ends"))) (.cons (.ret (.bin .mul (.ix (.v 0) (.k (.int 1))) (.v 1)))
    .nil) .nil)
    (.cons (.ret (.bi .max (.cons (.bin .add (.lst (.cons (.k (.int 0)) .nil)) (.lc [("_law_start", 2), ("_law_height", 3)] (.tup (.cons (.n 2) (.cons (.n 3) .nil))) (.e false (.ix (.v 0) (.k (.int 1)))) (.yes (.cmp .le (.v 2) (.v 1))) (.v 3))) .nil)))
    .nil)))))

theorem steps_mem {t : Int} : ∀ (rows : List (Int × Int)) (f : Int), stepsAt t f rows ∈ f :: (rows.filter fun r => decide (r.1 ≤ t)).map (·.2)
  | [], f => List.mem_cons_self ..
  | r :: rs, f => by
    show stepsAt t (if r.1 ≤ t then r.2 else f) rs ∈ _
    rw [List.filter_cons]
    by_cases c : r.1 ≤ t
    · rw [if_pos c, if_pos (decide_eq_true c)]
      exact List.mem_cons_of_mem _ (steps_mem rs r.2)
    · rw [if_neg c, if_neg (by simpa using c)]
      exact steps_mem rs f
theorem steps_top {t : Int} : ∀ (rows : List (Int × Int)) (f : Int), (∀ r, r ∈ rows → f ≤ r.2) → rows.Pairwise (fun x y => x.1 < y.1 ∧ x.2 ≤ y.2) → ∀ y, y ∈ f :: (rows.filter fun r => decide (r.1 ≤ t)).map (·.2) → y ≤ stepsAt t f rows
  | [], f, _, _, y, hy => by
    simp only [List.filter_nil, List.map_nil, List.mem_cons, List.not_mem_nil, or_false] at hy
    rw [hy]; exact Int.le_refl _
  | r :: rs, f, h, pw, y, hy => by
    show y ≤ stepsAt t (if r.1 ≤ t then r.2 else f) rs
    obtain ⟨p1, p2⟩ := List.pairwise_cons.mp pw
    rw [List.filter_cons] at hy
    by_cases c : r.1 ≤ t
    · rw [if_pos c]
      rw [if_pos (decide_eq_true c)] at hy
      have ih := steps_top (t := t) rs r.2 (fun x hx => (p1 x hx).2) p2
      rcases List.mem_cons.mp hy with rfl | hy
      · exact Int.le_trans (h r (List.mem_cons_self ..)) (ih r.2 (List.mem_cons_self ..))
      · exact ih y hy
    · rw [if_neg c]
      rw [if_neg (by simpa using c)] at hy
      exact steps_top rs f (fun x hx => h x (List.mem_cons_of_mem _ hx)) p2 y hy
theorem steps_max {t : Int} {rows : List (Int × Int)} (h : (Cst.steps rows).Std) : maxI (0 :: (rows.filter fun r => decide (r.1 ≤ t)).map (·.2)) = stepsAt t 0 rows :=
  (maxI_uniq (by simp) (steps_mem rows 0) (steps_top rows 0 h.2.1 h.2.2)).symm
theorem maxr_ints {h : AH} {Q : AK} {p : Addr} {ns : List Int} (e : h p = some (.lst (ns.map D.int))) (hn : 0 < ns.length) (q : Q (.int (maxI ns)) h) : maxD [.ref p] h Q := Or.inl ⟨ns, e, hn, q⟩
def c_lcosts20 : ASp := fun vs h Q X => ∃ (c : Cst) (t : Int), vs = [c.D, .int t] ∧ c.Bd ∧ c.Std ∧ Q (.int (c.at t)) h
theorem m_lcosts20 (G : Ct) : Meets G n_law_costs.length b_law_costs 2 c_lcosts20 := by
  rintro vs h Q X hl ⟨c, t, rfl, bd, st, hq⟩
  change wpB G b_law_costs _ [some _, some _, none, none] h
  cases c with
  | late d =>
    refine wpB_cons ?_
    open_k with And.intro dw cDs
    refine wpB_cons ?_
    open_k with true_and
    exact ⟨_, Sub.refl, hq⟩
  | tardy d w =>
    refine wpB_cons ?_
    open_k with And.intro dw cDs
    refine wpB_nil (G := G) (wpB_cons ?_)
    open_k with dw
    refine wpB_cons ?_
    open_k with true_and
    exact ⟨.inl (mil_small bd.2), _, Sub.refl, hq⟩
  | miss d w =>
    refine wpB_cons ?_
    open_k with And.intro dw cDs
    refine wpB_nil (G := G) (wpB_cons ?_)
    open_k with dw
    refine wpB_nil (G := G) (wpB_cons ?_)
    open_k with dw
    refine wpB_cons ?_
    open_k with true_and
    refine ⟨.inl (mil_small bd.2), _, Sub.refl, ?_⟩
    have hq2 : Q (.int (if t > d then w else 0)) h := hq
    have : w * (if decide (d < t) = true then (1 : Int) else 0) = if t > d then w else 0 := by
      by_cases z : d < t
      · rw [if_pos (decide_eq_true z), if_pos z]; omega
      · rw [if_neg (by simpa using z), if_neg z]; omega
    rw [this]; exact hq2
  | ends w =>
    refine wpB_cons ?_
    open_k with And.intro dw cDs
    refine wpB_nil (G := G) (wpB_cons ?_)
    open_k with dw
    refine wpB_nil (G := G) (wpB_cons ?_)
    open_k with dw
    refine wpB_nil (G := G) (wpB_cons ?_)
    open_k with dw
    refine wpB_cons ?_
    open_k with true_and
    exact ⟨.inl (mil_small bd), _, Sub.refl, hq⟩
  | steps rows =>
    refine wpB_cons ?_
    open_k with And.intro dw cDs
    refine wpB_nil (G := G) (wpB_cons ?_)
    open_k with dw
    refine wpB_nil (G := G) (wpB_cons ?_)
    open_k with dw
    refine wpB_nil (G := G) (wpB_cons ?_)
    open_k with dw
    refine wpB_nil (G := G) (wpB_cons ?_)
    open_k with true_and
    intro p0 np0
    unfold lcW
    open_k with true_and
    refine ⟨fun i acc h' => acc = (((rows.take i).filter fun r => decide (r.1 ≤ t)).map (·.2)).map D.int ∧ h' = aput h p0 (.lst [.int 0]), ⟨rfl, rfl⟩, ?_⟩
    rintro i acc h' ⟨rfl, rfl⟩
    have rl := bd.1
    refine ⟨?_, ?_⟩
    · intro e p np
      rw [List.length_map] at e
      rw [List.take_of_length_le (by omega)] at *
      have fl := List.length_filter_le (fun r : Int × Int => decide (r.1 ≤ t)) rows
      have n0 : p0 ≠ p := ne_none aput_same np
      refine ⟨_, by rw [aput_ne n0]; exact aput_same, by rw [List.length_map, List.length_map, sizeLine_eq]; simp only [List.length_cons, List.length_nil]; omega, fun p2 np2 => ?_⟩
      refine maxr_ints (ns := 0 :: (rows.filter fun r => decide (r.1 ≤ t)).map (·.2)) aput_same (by simp) ?_
      rw [steps_max st]
      exact ⟨_, (sub_but np0).trans ((sub_but np).trans (sub_but np2)), hq⟩
    · intro d hd
      obtain ⟨r, hr, rfl⟩ := map_get hd
      have hi := (List.getElem?_eq_some_iff.mp hr).1
      have fl := List.length_filter_le (fun r : Int × Int => decide (r.1 ≤ t)) (rows.take i)
      rw [List.length_take] at fl
      have nx : (rows.take (i + 1)).filter (fun r => decide (r.1 ≤ t)) = (rows.take i).filter (fun r => decide (r.1 ≤ t)) ++ if decide (r.1 ≤ t) = true then [r] else [] := by
        rw [take_one hr, List.filter_append]
        congr 1
        rw [List.filter_cons, List.filter_nil]
      simp only [wipeA]
      unfold prD
      open_k with true_and
      by_cases c : r.1 ≤ t
      · rw [decide_eq_true c] at nx ⊢
        open_k with true_and
        refine ⟨by rw [List.length_map, List.length_map, sizeLine_eq]; omega, _, Sub.refl, ?_, rfl⟩
        rw [nx, List.map_append, List.map_append]; rfl
      · rw [decide_eq_false c] at nx ⊢
        open_k with true_and
        refine ⟨_, Sub.refl, ?_, rfl⟩
        rw [nx]; simp
end MP
/-! MQ: the least of pairs; costs that never fall -/
namespace MP
open PySem L2
theorem wk_get {ws : List Wk} {k : Int} (h0 : 0 ≤ k) (h1 : k < ws.length) : ws.getD k.toNat wk0 ∈ ws := by
  rw [List.getD_eq_getElem?_getD, List.getElem?_eq_getElem (by omega)]; exact List.getElem_mem _
theorem Cst.Std.mono {c : Cst} (h : c.Std) {t u : Int} (l : t ≤ u) : c.at t ≤ c.at u := by
  cases c with
  | late d => show t - d ≤ u - d; omega
  | tardy d w =>
    show w * max 0 (t - d) ≤ w * max 0 (u - d)
    exact Int.mul_le_mul_of_nonneg_left (by omega) h
  | miss d w =>
    have hw : 0 ≤ w := h
    show (if t > d then w else 0) ≤ (if u > d then w else 0)
    split
    · rw [if_pos (by omega)]; exact Int.le_refl _
    · split
      · exact hw
      · exact Int.le_refl _
  | ends w => exact Int.mul_le_mul_of_nonneg_left l h
  | steps rows =>
    show stepsAt t 0 rows ≤ stepsAt u 0 rows
    rw [← steps_max h, ← steps_max h]
    have m1 := (maxI_spec (0 :: (rows.filter fun r => decide (r.1 ≤ t)).map (·.2)) (by simp)).1
    refine (maxI_spec (0 :: (rows.filter fun r => decide (r.1 ≤ u)).map (·.2)) (by simp)).2 _ ?_
    rcases List.mem_cons.mp m1 with z | z
    · rw [z]; exact List.mem_cons_self ..
    · obtain ⟨r, hr, er⟩ := List.mem_map.mp z
      have := List.mem_filter.mp hr
      refine List.mem_cons_of_mem _ (List.mem_map.mpr ⟨r, List.mem_filter.mpr ⟨this.1, decide_eq_true ?_⟩, er⟩)
      have := of_decide_eq_true this.2
      omega
theorem sub_wrB {h h' : AH} {p : Addr} {o : AO} (s : Sub h h') (n : h p = none) : Sub h (aput h' p o) := fun b u e => by
  rw [aput_ne (fun z => by rw [z, n] at e; cases e)]; exact s b u e
/-- the first least of pairs -/
def mnP (a : Int × Int) (r : List (Int × Int)) : Int × Int := r.foldl (fun a y => if decide (y.1 < a.1 ∨ (y.1 = a.1 ∧ y.2 < a.2)) = true then y else a) a
theorem mnP_D : ∀ (r : List (Int × Int)) (a : Int × Int), PySem.W.minD (prP a) (r.map prP) = prP (mnP a r)
  | [], a => rfl
  | y :: r, a => by
    have ih := mnP_D r (if decide (y.1 < a.1 ∨ (y.1 = a.1 ∧ y.2 < a.2)) = true then y else a)
    unfold PySem.W.minD at ih ⊢
    rw [List.map_cons, List.foldl_cons]
    have e : PySem.W.dataLt (prP y) (prP a) = decide (y.1 < a.1 ∨ (y.1 = a.1 ∧ y.2 < a.2)) := PySem.W.dataLt_ii y.1 y.2 a.1 a.2
    rw [e]
    have e2 : (if decide (y.1 < a.1 ∨ (y.1 = a.1 ∧ y.2 < a.2)) = true then prP y else prP a) = prP (if decide (y.1 < a.1 ∨ (y.1 = a.1 ∧ y.2 < a.2)) = true then y else a) := by split <;> rfl
    rw [e2, ih]; rfl
theorem mnP_spec : ∀ (r : List (Int × Int)) (a : Int × Int), mnP a r ∈ a :: r ∧ ∀ q, q ∈ a :: r → (mnP a r).1 ≤ q.1
  | [], a => ⟨List.mem_cons_self .., fun q hq => by rw [List.mem_singleton.mp hq]; exact Int.le_refl _⟩
  | y :: r, a => by
    by_cases c : y.1 < a.1 ∨ (y.1 = a.1 ∧ y.2 < a.2)
    · obtain ⟨h1, h2⟩ := mnP_spec r y
      have e : mnP a (y :: r) = mnP y r := by
        unfold mnP; rw [List.foldl_cons, if_pos (decide_eq_true c)]
      rw [e]
      refine ⟨List.mem_cons_of_mem _ h1, fun q hq => ?_⟩
      rcases List.mem_cons.mp hq with rfl | hq
      · have := h2 y (List.mem_cons_self ..); omega
      · exact h2 q hq
    · obtain ⟨h1, h2⟩ := mnP_spec r a
      have e : mnP a (y :: r) = mnP a r := by
        unfold mnP; rw [List.foldl_cons, if_neg (by simpa using c)]
      rw [e]
      refine ⟨?_, fun q hq => ?_⟩
      · rcases List.mem_cons.mp h1 with z | z
        · rw [z]; exact List.mem_cons_self ..
        · exact List.mem_cons_of_mem _ (List.mem_cons_of_mem _ z)
      · rcases List.mem_cons.mp hq with rfl | hq
        · exact h2 q (List.mem_cons_self ..)
        · rcases List.mem_cons.mp hq with rfl | hq
          · have := h2 a (List.mem_cons_self ..); omega
          · exact h2 q (List.mem_cons_of_mem _ hq)
theorem min_prs {h : AH} {Q : AK} {ps : List (Int × Int)} (hne : ps ≠ []) (q : ∀ p, p ∈ ps → (∀ q, q ∈ ps → p.1 ≤ q.1) → Q (prD p) h) : minOf (ps.map prD) h Q := by
  obtain ⟨a, r, rfl⟩ := List.exists_cons_of_ne_nil hne
  have hz := (lay_prs (a :: r)).2
  rw [List.map_cons] at hz
  refine ⟨prP a, r.map prP, dats_prs (a :: r), ⟨?_, ?_⟩, by omega, ?_⟩
  · intro x hx y hy
    rw [← List.map_cons (f := prP)] at hx hy
    obtain ⟨u, _, rfl⟩ := List.mem_map.mp hx
    obtain ⟨v, _, rfl⟩ := List.mem_map.mp hy
    simp [prP, PySem.W.alike, PySem.W.alikeAll]
  · intro x hx
    rw [← List.map_cons (f := prP)] at hx
    obtain ⟨u, _, rfl⟩ := List.mem_map.mp hx
    exact fun z => by cases z
  · intro d hd dd
    rw [mnP_D] at dd
    obtain ⟨s1, s2⟩ := mnP_spec r a
    obtain ⟨u, _, rfl⟩ := List.mem_map.mp hd
    have e : u = mnP a r := by
      generalize mnP a r = m at dd
      obtain ⟨u1, u2⟩ := u
      obtain ⟨m1, m2⟩ := m
      unfold prD prP at dd
      cases dd with
      | tup e =>
        cases e with
        | cons e1 e2 =>
          cases e2 with
          | cons e3 e4 =>
            cases e1; cases e3
            rfl
    rw [e]
    exact q _ s1 s2
theorem minr_prs {h : AH} {Q : AK} {p : Addr} {ps : List (Int × Int)} (e : h p = some (.lst (ps.map prD))) (hne : ps ≠ []) (q : ∀ p, p ∈ ps → (∀ q, q ∈ ps → p.1 ≤ q.1) → Q (prD p) h) : minD [.ref p] h Q := Or.inr ⟨_, e, min_prs hne q⟩
def shD (x : Int × List Int) : D := .tup [.int x.1, .tup (x.2.map D.int)]
theorem shD_eq (x : Int × List Int) : shD x = .tup [.int x.1, .tup (x.2.map D.int)] := rfl
end MP
/-! LX: comprehensions by their elements, short ways about the heap -/
namespace MP
open PySem L2
def LcIn (vs : List Nat) (wt : AG) (wc : AT) (we : AE) (s : AS) (Q : AK) (ds : List D) (h1 : AH) (grd : AH → Prop) : Prop :=
  ∃ I : Nat → List D → AH → Prop, I 0 [] h1 ∧ ∀ i acc h2, I i acc h2 → grd h2 ∧
  (i = ds.length → ∀ p, h2 p = none → Q (.ref p) (aput h2 p (.lst acc))) ∧
  ∀ d, ds[i]? = some d → wt d (wipeA s vs) h2 (fun s3 h3 => wc s3 h3 (fun b h4 => if b = true then we s3 h4 (fun y h5 => acc.length < sizeLine ∧ ∃ h6, Sub h6 h5 ∧ I (i + 1) (acc ++ [y]) h6) noX
    else ∃ h6, Sub h6 h4 ∧ I (i + 1) acc h6) noX)
theorem lcW_eq {vs : List Nat} {wi : AI} {wt : AG} {wc : AT} {we : AE} {s : AS} {h : AH} {Q : AK} {X : AXK} :
    lcW vs wi wt wc we s h Q X = wi s h (fun ds h1 grd => LcIn vs wt wc we s Q ds h1 grd) X := rfl
/-- a comprehension whose elements leave the heap as it is (or add to it) -/
theorem lc_map {vs : List Nat} {wt : AG} {wc : AT} {we : AE} {s : AS} {Q : AK} {ds : List D} {h1 : AH} {grd : AH → Prop} {α : Type} (xs : List α) (enc : α → D) (c : α → Bool) (f : α → D)
    (e : ds = xs.map enc) (hl : xs.length ≤ 1000000) (g : grd h1)
    (step : ∀ x, x ∈ xs → ∀ (P : AK) (P2 : AH → Prop), (c x = true → ∀ h5, Sub h1 h5 → P (f x) h5) → (c x = false → ∀ h4, Sub h1 h4 → P2 h4) →
      wt (enc x) (wipeA s vs) h1 (fun s3 h3 => wc s3 h3 (fun b h4 => if b = true then we s3 h4 P noX else P2 h4) noX))
    (q : ∀ p, h1 p = none → Q (.ref p) (aput h1 p (.lst ((xs.filter c).map f)))) : LcIn vs wt wc we s Q ds h1 grd := by
  subst e
  refine ⟨fun i acc h2 => acc = ((xs.take i).filter c).map f ∧ h2 = h1, ⟨rfl, rfl⟩, ?_⟩
  rintro i acc h2 ⟨rfl, eh⟩
  obtain rfl : h1 = h2 := eh.symm
  refine ⟨g, ?_, ?_⟩
  · intro ei p np
    rw [List.length_map] at ei
    rw [List.take_of_length_le (by omega)]
    exact q p np
  · intro d hd
    obtain ⟨x, hx, rfl⟩ := map_get hd
    have fl := List.length_filter_le c (xs.take i)
    rw [List.length_take] at fl
    refine step x (List.mem_of_getElem? hx) _ _ ?_ ?_
    · intro cx h5 s5
      refine ⟨by rw [List.length_map, sizeLine_eq]; omega, h1, s5, ?_, rfl⟩
      rw [take_one hx, List.filter_append, List.map_append, List.filter_cons, if_pos cx]; rfl
    · intro cx h4 s4
      refine ⟨h1, s4, ?_, rfl⟩
      rw [take_one hx, List.filter_append, List.filter_cons, cx, if_neg (by decide), List.filter_nil, List.append_nil]
/-- the same, where all are taken -/
theorem lc_all {vs : List Nat} {wt : AG} {wc : AT} {we : AE} {s : AS} {Q : AK} {ds : List D} {h1 : AH} {grd : AH → Prop} {α : Type} (xs : List α) (enc : α → D) (f : α → D)
    (e : ds = xs.map enc) (hl : xs.length ≤ 1000000) (g : grd h1)
    (step : ∀ x, x ∈ xs → ∀ (P : AK) (P2 : AH → Prop), (∀ h5, Sub h1 h5 → P (f x) h5) →
      wt (enc x) (wipeA s vs) h1 (fun s3 h3 => wc s3 h3 (fun b h4 => if b = true then we s3 h4 P noX else P2 h4) noX))
    (q : ∀ p, h1 p = none → Q (.ref p) (aput h1 p (.lst (xs.map f)))) : LcIn vs wt wc we s Q ds h1 grd := by
  refine lc_map xs enc (fun _ => true) f e hl g (fun x hx P P2 a b => step x hx P P2 (a rfl)) fun p np => ?_
  rw [List.filter_eq_self.mpr fun _ _ => rfl]; exact q p np
theorem ixN_in {n : Nat} {k : Int} (h0 : 0 ≤ k) (h1 : k < n) : ixN n k = some k.toNat := by
  have := ixN_lit (n := n) (k := k.toNat) (by omega)
  rw [show ((k.toNat : Nat) : Int) = k by omega] at this; exact this
theorem sub_of_new {h h' : AH} {p : Addr} {o : AO} (e : aput h p o = h') (n : h p = none) : Sub h h' := by rw [← e]; exact sub_but n
theorem at_of_new {h h' : AH} {p : Addr} {o : AO} (e : aput h p o = h') : h' p = some o := by rw [← e]; exact aput_same
/-! rows of ints: is such a list void -/
def tpD (r : List Int) : D := .tup (r.map D.int)
def tpP (r : List Int) : PyData := .tuple (r.map PyData.int)
theorem dats_tps {h : AH} : ∀ rs : List (List Int), Dats h (rs.map tpD) (rs.map tpP)
  | [] => .nil
  | r :: rs => .cons (.tup (dats_ints r)) (dats_tps rs)
theorem lay_tps : ∀ rs : List (List Int), PyData.canLayAll0 (rs.map tpP) = true ∧ PyData.depthAll (rs.map tpP) ≤ 1
  | [] => ⟨by simp [PyData.canLayAll0], by simp [PyData.depthAll]⟩
  | r :: rs => by
    obtain ⟨a, b⟩ := lay_tps rs
    obtain ⟨c, d⟩ := lay_ints r
    refine ⟨by simp [PyData.canLayAll0, PyData.canLay0, tpP, a, c], ?_⟩
    simp only [List.map_cons, PyData.depthAll, PyData.depth, tpP, d]
    omega
theorem eqD_tps0 {neg : Bool} {a b : Addr} {h : AH} {Q : AK} (rs : List (List Int)) (ha : h a = some (.lst (rs.map tpD))) (hb : h b = some (.lst [])) (q : Q (.bl (neg != decide (rs = []))) h) : eqD neg (.ref a) (.ref b) h Q := by
  refine ⟨_, _, .lst ha (dats_tps rs), .lst hb .nil, ?_, rfl, ?_⟩
  · obtain ⟨a, b⟩ := lay_tps rs
    simp only [SeqAt.shaped, PyData.canLay0, a, PyData.depth, Bool.true_and]
    exact decide_eq_true (by omega)
  · have e : PyData.eqv (.list (rs.map tpP)) (.list []) = decide (rs = []) := by
      cases rs with
      | nil => simp [PyData.eqv, PyData.eqvAll]
      | cons r rs => simp [PyData.eqv, PyData.eqvAll]
    rw [e]; exact q
theorem set_last {α : Type} (l : List α) (x y : α) : (l ++ [x]).set l.length y = l ++ [y] := by
  rw [List.set_append_right _ _ (Nat.le_refl _), Nat.sub_self]; rfl
theorem ixN_last {n : Nat} (h : 0 < n) : ixN n (-1) = some (n - 1) := by
  unfold ixN
  rw [if_neg (by decide), if_pos (by omega)]
  congr 1
  omega
end MP
/-! SLI: slices by lists -/
namespace MP
open PySem L2
theorem sli_to {α : Type} {l : List α} {n d j : Nat} (h : j ≤ n) : List.take (HT.sIx n d (some ((j : Nat) : Int))) l = l.take j := by
  rw [HT.sIx_nat, Nat.min_eq_left h]
theorem sli_from {α : Type} {l : List α} {n k : Nat} (hn : n = l.length) (h : k ≤ n) : List.take (n - HT.sIx n 0 (some ((k : Nat) : Int))) (List.drop (HT.sIx n 0 (some ((k : Nat) : Int))) l) = l.drop k := by
  rw [HT.sIx_nat, Nat.min_eq_left h]
  exact List.take_of_length_le (by rw [List.length_drop]; omega)
theorem len_rep {α : Type} (n : Nat) (l : List α) : (List.replicate n l).flatten.length = n * l.length := by
  induction n with
  | zero => simp
  | succ n ih => rw [List.replicate_succ, List.flatten_cons, List.length_append, ih, Nat.succ_mul]; omega
theorem flat_repM {α β : Type} (n : Nat) (f : α → β) (l : List α) : (List.replicate n (l.map f)).flatten = (List.replicate n l).flatten.map f := by
  rw [List.map_flatten, List.map_replicate]
theorem mem_rep {α : Type} {n : Nat} {l : List α} {x : α} (h : x ∈ (List.replicate n l).flatten) : x ∈ l := by
  obtain ⟨r, hr, hx⟩ := List.mem_flatten.mp h
  rw [List.eq_of_mem_replicate hr] at hx
  exact hx
end MP
/-! TA: the tape of k01 to k17, a dict. -/
namespace MP
open PySem L2
local macro_rules | `(tactic| open_k with $t) => `(tactic| simp only [wpS, wpE, wpEs, wpEo, wpT, wpTo, wpI, wpG, wpGs, forW, whlW, callW, BinO.d, CmpO.d, Bi.d, Mt.d, parQ, Tgs.len,
  add_ii, add_ss, add_tt, add_rr, sub_ii, mul_ii, mul_ri, fdiv_ii, mod_ii, pow_ii, shl_ii, shr_ii, band_ii, eq_ii, ne_ii, eq_ss, ne_ss, lt_ii, is_n, nis_n, dn_i, dn_n, dn_t, dn_b, dn_s, dn_r, ix_ti, ix_ci, ix_pi, ix_ri, ix_rs, set_ri, set_rs, ty_n, ty_b, ty_i, ty_s, ty_t, ty_c, ty_r, isiB, AO.dct.injEq, sum_t, max_t, min_t, ixN_0, ixN_1, ixN_2, ixN_3,
  len_t, len_r, len_c, abs_i, max_ii, min_ii, tup_r, tup_t, lst_r, lst_t, lst_c, int_i, int_b, app_r, pop_ri, pop_r0, ext_rr, ext_rt, ins_ri, rev_r0, isl_r, rcv_r, rcv_t, ex_some, tru_b, tru_i, tru_t, tru_r, tru_n, sq_t, sq_c, sq_r, sq_f, zp_t, zp_r, en_t, en_r, slD, revD, setSl, atI_0, atI_1, atI_2, atI_3, isL,
  List.getElem?_cons_zero, List.getElem?_cons_succ, List.set_cons_zero, List.set_cons_succ, List.length_cons, List.length_nil, List.map_cons, List.map_nil, List.zip_cons_cons, List.zip_nil_right, List.nil_append, List.cons_append, if_true, if_false, Bool.false_eq_true, if_pos, true_and, and_true,
  exists_eq_left, exists_eq_left', exists_const, reduceCtorEq, false_and, exists_false, or_false, false_or, exists_eq', Option.some.injEq, AO.lst.injEq, D.ref.injEq, aput_same, aput_aput, small_line, HT.sIx_none, List.drop_zero, Nat.sub_zero, Nat.zero_add, Nat.zero_le, Option.getD_none, Option.getD_some, Nat.reduceAdd, Nat.reduceLeDiff,
  Bool.not_true, Bool.not_false, neg_f, neg_t, adel_aput, $t:term])
local macro_rules | `(tactic| walk_at "mp") => `(tactic| try open_k with true_and)
local macro_rules | `(tactic| walk_at "mp1") => `(tactic| (refine wpB_cons ?_; try open_k with true_and))
def tapA (c : Addr) (x y z : Int) : List (Key × D) := [(.inr "cells", .ref c), (.inr "next", .int x), (.inr "left", .int y), (.inr "turn", .int z)]
theorem gA1 {c : Addr} {x y z : Int} : getK (tapA c x y z) (.inr "cells") = some (.ref c) := rfl
theorem gA2 {c : Addr} {x y z : Int} : getK (tapA c x y z) (.inr "next") = some (.int x) := rfl
theorem gA3 {c : Addr} {x y z : Int} : getK (tapA c x y z) (.inr "left") = some (.int y) := rfl
theorem gA4 {c : Addr} {x y z : Int} : getK (tapA c x y z) (.inr "turn") = some (.int z) := rfl
theorem sA2 {c : Addr} {x y z v : Int} : setK (tapA c x y z) (.inr "next") (.int v) = tapA c v y z := rfl
theorem sA3 {c : Addr} {x y z v : Int} : setK (tapA c x y z) (.inr "left") (.int v) = tapA c x v z := rfl
theorem sA4 {c : Addr} {x y z v : Int} : setK (tapA c x y z) (.inr "turn") (.int v) = tapA c x y v := rfl
abbrev n_law_tape : List Str := ["_law_script"]
abbrev p_law_tape : List Str := ["_law_script"]
def b_law_tape : Ss :=
  (.cons (.ret (.dct [.inr "cells", .inr "next", .inr "left", .inr "turn"] (.cons (.bi .list (.cons (.sl (.v 0) .no (.yes (.k (.int 63)))) .nil)) (.cons (.k (.int 0)) (.cons (.k (.int 0)) (.cons (.k (.int 0)) .nil))))))
    .nil)
abbrev n_law_pick : List Str := ["_law_tape_here", "_law_many", "_law_cells", "_law_at", "_law_turn", "_law_cell", "_law_mixed", "_law_found"]
abbrev p_law_pick : List Str := ["_law_tape_here", "_law_many"]
def b_law_pick : Ss :=
  (.cons (.set (.sub (.v 0) (.k (.str "turn"))) (.bin .add (.ix (.v 0) (.k (.str "turn"))) (.k (.int 1))))
    (.cons (.iff (.cmp .gt (.ix (.v 0) (.k (.str "left"))) (.k (.int 0))) (.cons (.set (.n 7) (.bin .mod (.ix (.v 0) (.k (.str "left"))) (.v 1)))
    (.cons (.set (.sub (.v 0) (.k (.str "left"))) (.bin .fdiv (.ix (.v 0) (.k (.str "left"))) (.v 1)))
    (.cons (.ret (.v 7))
    .nil))) .nil)
    (.cons (.par [2, 3, 4] (.cons (.ix (.v 0) (.k (.str "cells"))) (.cons (.ix (.v 0) (.k (.str "next"))) (.cons (.ix (.v 0) (.k (.str "turn"))) .nil))))
    (.cons (.set (.n 5) (.ite (.cmp .ne (.v 2) (.lst .nil)) (.ix (.v 2) (.bin .mod (.v 3) (.bi .len (.cons (.v 2) .nil)))) (.k (.int 23))))
    (.cons (.set (.sub (.v 0) (.k (.str "next"))) (.bin .add (.v 3) (.k (.int 1))))
    (.cons (.iff (.and_ (.cmp .ge (.v 5) (.bin .pow (.k (.int 10)) (.k (.int 18)))) (.cmp .lt (.v 3) (.bi .len (.cons (.v 2) .nil)))) (.cons (.set (.sub (.v 0) (.k (.str "left"))) (.bin .fdiv (.v 5) (.v 1)))
    (.cons (.ret (.bin .mod (.v 5) (.v 1)))
    .nil)) .nil)
    (.cons (.set (.n 6) (.bin .mod (.bin .add (.bin .add (.bin .mod (.v 5) (.k (.int 2147483587))) (.bin .mul (.k (.int 104729)) (.v 4))) (.k (.int 17))) (.k (.int 2147483629))))
    (.cons (.set (.n 6) (.bin .mod (.bin .add (.bin .mul (.v 6) (.v 6)) (.bin .mul (.k (.int 48271)) (.v 4))) (.k (.int 2147483647))))
    (.cons (.set (.n 6) (.bin .mod (.bin .add (.bin .add (.bin .mul (.v 6) (.v 6)) (.bin .mul (.k (.int 7919)) (.v 6))) (.v 4)) (.k (.int 2147483629))))
    (.cons (.ret (.bin .mod (.bin .fdiv (.v 6) (.k (.int 128))) (.v 1)))
    .nil))))))))))
theorem gA : (∀ c x y z, getK (tapA c x y z) (.inr "cells") = some (.ref c)) ∧ (∀ c x y z, getK (tapA c x y z) (.inr "next") = some (.int x)) ∧ (∀ c x y z, getK (tapA c x y z) (.inr "left") = some (.int y)) ∧ (∀ c x y z, getK (tapA c x y z) (.inr "turn") = some (.int z)) ∧
    (∀ c x y z v, setK (tapA c x y z) (.inr "next") (.int v) = tapA c v y z) ∧ (∀ c x y z v, setK (tapA c x y z) (.inr "left") (.int v) = tapA c x v z) ∧ (∀ c x y z v, setK (tapA c x y z) (.inr "turn") (.int v) = tapA c x y v) ∧
    (∀ c x y z, ((tapA c x y z).length < sizeLine) = True) :=
  ⟨fun _ _ _ _ => rfl, fun _ _ _ _ => rfl, fun _ _ _ _ => rfl, fun _ _ _ _ => rfl, fun _ _ _ _ _ => rfl, fun _ _ _ _ _ => rfl, fun _ _ _ _ _ => rfl, fun _ _ _ _ => eq_true (show 4 < sizeLine by rw [sizeLine_eq]; omega)⟩
def TapeA (h : AH) (a cl : Addr) : Prop := ∃ (ns : List Int) (x y z : Int), cl ≠ a ∧ h a = some (.dct (tapA cl x y z)) ∧ h cl = some (.lst (ns.map D.int)) ∧ ns.length ≤ 63 ∧ 0 ≤ x
theorem TapeA.ne {h : AH} {a cl b : Addr} (t : TapeA h a cl) (n : h b = none) : b ≠ a ∧ b ≠ cl := by
  obtain ⟨ns, x, y, z, n1, e1, e2, e3⟩ := t
  exact ⟨(ne_none e1 n).symm, (ne_none e2 n).symm⟩
theorem TapeA.put {h : AH} {a cl b : Addr} {o : AO} (t : TapeA h a cl) (n : b ≠ a ∧ b ≠ cl) : TapeA (aput h b o) a cl := by
  obtain ⟨ns, x, y, z, n1, e1, e2, e3⟩ := t
  exact ⟨ns, x, y, z, n1, by rw [aput_ne n.1.symm]; exact e1, by rw [aput_ne n.2.symm]; exact e2, e3⟩
theorem TapeA.adel {h : AH} {a cl b : Addr} (t : TapeA h a cl) (n : b ≠ a ∧ b ≠ cl) : TapeA (adel h b) a cl := by
  obtain ⟨ns, x, y, z, n1, e1, e2, e3⟩ := t
  exact ⟨ns, x, y, z, n1, by rw [MP.adel, if_neg n.1.symm]; exact e1, by rw [MP.adel, if_neg n.2.symm]; exact e2, e3⟩
theorem TapeA.sub {h h' : AH} {a cl : Addr} (t : TapeA h a cl) (s : Sub h h') : TapeA h' a cl := by
  obtain ⟨ns, x, y, z, n1, e1, e2, e3⟩ := t
  exact ⟨ns, x, y, z, n1, s _ _ e1, s _ _ e2, e3⟩
theorem TapeA.out {h h' : AH} {a cl : Addr} (t : TapeA h a cl) (t' : TapeA h' a cl) (g : Grow a h h') : ∃ h2, Sub h2 h' ∧ TapeA h2 a cl ∧ But a h h2 := by
  obtain ⟨ns, x, y, z, n1, e1, e2, e3⟩ := t
  obtain ⟨ns', x', y', z', n1', e1', e2', e3'⟩ := t'
  refine ⟨aput h a (.dct (tapA cl x' y' z')), g.sub e1', ⟨ns', x', y', z', n1, aput_same, ?_, e3'⟩, But.put⟩
  rw [aput_ne n1, e2, ← g cl _ n1 e2, e2']
def c_tapA : ASp := fun vs h Q X => ∃ ns : List Int, vs = [.cl (ns.map D.int)] ∧ ns.length ≤ 63 ∧ ∀ a cl h', Sub h h' → h a = none → TapeA h' a cl → Q (.ref a) h'
theorem m_tapA (G : Ct) : Meets G n_law_tape.length b_law_tape 1 c_tapA := by
  rintro vs h Q X hl ⟨ns, rfl, hn, hq⟩
  change wpB G b_law_tape _ [some _] h
  walk_at "mp1"
  intro a ha p hp q hq2
  have n1 : a ≠ p := ne_none aput_same hp
  have n2 : a ≠ q := ne_none (by rw [aput_ne n1]; exact aput_same) hq2
  refine ⟨by rw [aput_ne n2, aput_ne n1, aput_same], _, Sub.refl, hq a q _ (fun b u e => ?_) ha ?_⟩
  · rw [aput_ne (ne_none e ha)]
    exact ((sub_but ha).trans ((sub_but hp).trans (sub_but hq2))) b u e
  · refine ⟨ns.take 63, 0, 0, 0, n2.symm, aput_same, ?_, ?_, by decide⟩
    · rw [aput_ne n2.symm, aput_same, sIx_lit (by decide)]
      have : ns.length ≤ 63 := hn
      simp only [List.length_map, List.map_take]
      rw [show min (63 : Int).toNat ns.length = ns.length by simp; omega, List.take_of_length_le (by simp), List.take_of_length_le (by simp; omega)]
    · simp; omega
def b_pickTailA : Ss :=
  (.cons (.set (.n 6) (.bin .mod (.bin .add (.bin .add (.bin .mod (.v 5) (.k (.int 2147483587))) (.bin .mul (.k (.int 104729)) (.v 4))) (.k (.int 17))) (.k (.int 2147483629))))
    (.cons (.set (.n 6) (.bin .mod (.bin .add (.bin .mul (.v 6) (.v 6)) (.bin .mul (.k (.int 48271)) (.v 4))) (.k (.int 2147483647))))
    (.cons (.set (.n 6) (.bin .mod (.bin .add (.bin .add (.bin .mul (.v 6) (.v 6)) (.bin .mul (.k (.int 7919)) (.v 6))) (.v 4)) (.k (.int 2147483629))))
    (.cons (.ret (.bin .mod (.bin .fdiv (.v 6) (.k (.int 128))) (.v 1)))
    .nil))))
def c_pickA : ASp := fun vs h Q X => ∃ a cl m, vs = [.ref a, .int m] ∧ TapeA h a cl ∧ 0 < m ∧ m ≤ 1000000000 ∧ ∀ r h', 0 ≤ r → r < m → TapeA h' a cl → But a h h' → Q (.int r) h'
theorem pickBits {m : Int} (h1 : m ≤ 1000000000) (h0 : 0 < m) : m.natAbs.log2 < 9000 := by
  have h2 : m.natAbs < 2 ^ 30 := by omega
  have h3 : m.natAbs ≠ 0 := by omega
  have := (Nat.log2_lt h3).mpr h2
  omega
theorem m_pickA (G : Ct) : Meets G n_law_pick.length b_law_pick 2 c_pickA := by
  rintro vs h Q X hl ⟨a, cl, m, rfl, ⟨ns, x, y, z, n1, e1, e2, e3, e4⟩, hm0, hm1, hq⟩
  change wpB G b_law_pick _ [some _, some _, none, none, none, none, none, none] h
  refine wpB_cons ?_
  open_k with And.intro e1 gA
  have bits := pickBits hm1 hm0
  have tape : ∀ x' y' z' : Int, 0 ≤ x' → TapeA (aput h a (.dct (tapA cl x' y' z'))) a cl := fun x' y' z' h0 => ⟨ns, _, _, _, n1, aput_same, by rw [aput_ne n1]; exact e2, e3, h0⟩
  refine wpB_cons ?_
  open_k with gA
  by_cases c1 : 0 < y
  · rw [if_pos (decide_eq_true c1)]
    refine wpB_cons ?_
    open_k with gA
    refine ⟨hm0, ?_⟩
    refine wpB_cons ?_
    open_k with gA
    refine ⟨hm0, bits, ?_⟩
    walk_at "mp1"
    exact ⟨_, Sub.refl, hq _ _ (Int.emod_nonneg _ (by omega)) (Int.emod_lt_of_pos _ hm0) (tape _ _ _ e4) But.put⟩
  · rw [if_neg (by simpa using c1)]
    refine wpB_nil (G := G) ?_
    refine wpB_cons ?_
    open_k with gA
    have e2' : aput h a (.dct (tapA cl x y (z + 1))) cl = some (.lst (ns.map D.int)) := by rw [aput_ne n1]; exact e2
    have fin : ∀ (c : Int) (hp : AH), Grow a h hp → hp a = some (.dct (tapA cl x y (z + 1))) → hp cl = some (.lst (ns.map D.int)) →
        wpB G (.cons (.set (.sub (.v 0) (.k (.str "next"))) (.bin .add (.v 3) (.k (.int 1)))) (.cons (.iff (.and_ (.cmp .ge (.v 5) (.bin .pow (.k (.int 10)) (.k (.int 18)))) (.cmp .lt (.v 3) (.bi .len (.cons (.v 2) .nil))))
          (.cons (.set (.sub (.v 0) (.k (.str "left"))) (.bin .fdiv (.v 5) (.v 1))) (.cons (.ret (.bin .mod (.v 5) (.v 1))) .nil)) .nil) b_pickTailA))
          { nx := fun _ h1 => ∃ h2, Sub h2 h1 ∧ Q .non h2, rt := fun d h1 => ∃ h2, Sub h2 h1 ∧ Q d h2, ex := fun x _ h1 => ∃ h2, Sub h2 h1 ∧ X x h2 }
          [some (.ref a), some (.int m), some (.ref cl), some (.int x), some (.int (z + 1)), some (.int c), none, none] hp := by
      intro c hp bt f1 f2
      refine wpB_cons ?_
      open_k with And.intro f1 gA
      have f1' : aput hp a (.dct (tapA cl (x + 1) y (z + 1))) a = some (.dct (tapA cl (x + 1) y (z + 1))) := aput_same
      have f2' : aput hp a (.dct (tapA cl (x + 1) y (z + 1))) cl = some (.lst (ns.map D.int)) := by rw [aput_ne n1]; exact f2
      refine wpB_cons ?_
      open_k with f2'
      refine ⟨by decide, by decide, by decide, ?_⟩
      have tail : wpB G b_pickTailA { nx := fun _ h1 => ∃ h2, Sub h2 h1 ∧ Q .non h2, rt := fun d h1 => ∃ h2, Sub h2 h1 ∧ Q d h2, ex := fun x _ h1 => ∃ h2, Sub h2 h1 ∧ X x h2 }
          [some (.ref a), some (.int m), some (.ref cl), some (.int x), some (.int (z + 1)), some (.int c), none, none] (aput hp a (.dct (tapA cl (x + 1) y (z + 1)))) := by
        unfold b_pickTailA
        refine wpB_cons ?_
        open_k with true_and
        refine ⟨by decide, .inl ⟨by decide, by decide⟩, by decide, ?_⟩
        generalize e5 : (c % 2147483587 + 104729 * (z + 1) + 17) % 2147483629 = c5
        have g5 : 0 ≤ c5 ∧ c5 < 2147483629 := by omega
        refine wpB_cons ?_
        open_k with true_and
        refine ⟨.inl (by constructor <;> omega), .inl ⟨by decide, by decide⟩, by decide, ?_⟩
        generalize e6 : (c5 * c5 + 48271 * (z + 1)) % 2147483647 = c6
        have g6 : 0 ≤ c6 ∧ c6 < 2147483647 := by omega
        refine wpB_cons ?_
        open_k with true_and
        refine ⟨.inl (by constructor <;> omega), .inl ⟨by decide, by decide⟩, by decide, ?_⟩
        generalize e7 : (c6 * c6 + 7919 * c6 + (z + 1)) % 2147483629 = c7
        refine wpB_cons ?_
        open_k with true_and
        refine ⟨by decide, by decide, hm0, ?_⟩
        exact ⟨_, (bt.trans Grow.put).sub f1', hq _ _ (Int.emod_nonneg _ (by omega)) (Int.emod_lt_of_pos _ hm0) (tape _ _ _ (by omega)) But.put⟩
      by_cases c2 : (10 : Int) ^ (18 : Int).toNat ≤ c
      · rw [if_pos (decide_eq_true c2)]
        by_cases c3 : x < (ns.map D.int).length
        · rw [if_pos (decide_eq_true c3)]
          refine wpB_cons ?_
          open_k with gA
          refine ⟨hm0, bits, ?_⟩
          walk_at "mp1"
          exact ⟨hm0, _, (bt.trans Grow.put).sub aput_same, hq _ _ (Int.emod_nonneg _ (by omega)) (Int.emod_lt_of_pos _ hm0) (tape _ _ _ (by omega)) But.put⟩
        · rw [if_neg (by simpa using c3)]
          exact wpB_nil tail
      · rw [if_neg (by simpa using c2)]
        exact wpB_nil tail
    refine wpB_cons ?_
    open_k with e2'
    intro p hp
    have npa : a ≠ p := ne_none aput_same hp
    have npc : cl ≠ p := ne_none e2' hp
    have f2 : aput (aput h a (.dct (tapA cl x y (z + 1)))) p (.lst []) cl = some (.lst (ns.map D.int)) := by rw [aput_ne npc]; exact e2'
    have f1 : aput (aput h a (.dct (tapA cl x y (z + 1)))) p (.lst []) a = some (.dct (tapA cl x y (z + 1))) := by rw [aput_ne npa, aput_same]
    refine eqD_ints ns [] f2 aput_same ?_
    have bt : Grow a h (aput (aput h a (.dct (tapA cl x y (z + 1)))) p (.lst [])) := Grow.put.trans (Grow.new hp)
    by_cases c4 : ns = []
    · rw [decide_eq_true c4]
      walk_at "mp"
      exact fin 23 _ bt f1 f2
    · rw [decide_eq_false c4]
      open_k with f2
      have hpos : 0 < ns.length := List.length_pos_iff.mpr c4
      refine ⟨by simpa using hpos, ?_⟩
      have hx0 : 0 ≤ x % (ns.map D.int).length := Int.emod_nonneg _ (by simp; omega)
      have hx1 : x % (ns.map D.int).length < (ns.map D.int).length := Int.emod_lt_of_pos _ (by simpa using hpos)
      refine ⟨_, atI_in hx0 hx1, ?_⟩
      rw [List.getElem_map]
      exact fin _ _ bt f1 f2
end MP
/-! TG: things of any kind: numbers, texts, tuples and lists of them -/
namespace MP
open PySem PySem.Spec PyProof.Rows L2
local macro_rules | `(tactic| open_k with $t) => `(tactic| simp only [wpS, wpE, wpEs, wpEo, wpT, wpTo, wpI, wpG, wpGs, forW, whlW, callW, BinO.d, CmpO.d, Bi.d, Mt.d, parQ, Tgs.len,
  add_ii, add_ss, add_tt, add_rr, sub_ii, mul_ii, mul_ri, fdiv_ii, mod_ii, pow_ii, shl_ii, shr_ii, band_ii, eq_ii, ne_ii, eq_ss, ne_ss, lt_ii, is_n, nis_n, dn_i, dn_n, dn_t, dn_b, dn_s, dn_r, ix_ti, ix_ci, ix_pi, ix_ri, ix_rs, set_ri, set_rs, ty_n, ty_b, ty_i, ty_s, ty_t, ty_c, ty_r, isiB, AO.dct.injEq, sum_t, max_t, min_t, ixN_0, ixN_1, ixN_2, ixN_3,
  len_t, len_r, len_c, abs_i, max_ii, min_ii, tup_r, tup_t, lst_r, lst_t, lst_c, int_i, int_b, app_r, pop_ri, pop_r0, ext_rr, ext_rt, ins_ri, rev_r0, isl_r, rcv_r, rcv_t, ex_some, tru_b, tru_i, tru_t, tru_r, tru_n, sq_t, sq_c, sq_r, sq_f, zp_t, zp_r, en_t, en_r, slD, revD, setSl, atI_0, atI_1, atI_2, atI_3, isL,
  List.getElem?_cons_zero, List.getElem?_cons_succ, List.set_cons_zero, List.set_cons_succ, List.length_cons, List.length_nil, List.map_cons, List.map_nil, List.zip_cons_cons, List.zip_nil_right, List.nil_append, List.cons_append, if_true, if_false, Bool.false_eq_true, if_pos, true_and, and_true,
  exists_eq_left, exists_eq_left', exists_const, reduceCtorEq, false_and, exists_false, or_false, false_or, exists_eq', Option.some.injEq, AO.lst.injEq, D.ref.injEq, aput_same, aput_aput, small_line, HT.sIx_none, List.drop_zero, Nat.sub_zero, Nat.zero_add, Nat.zero_le, Option.getD_none, Option.getD_some, Nat.reduceAdd, Nat.reduceLeDiff,
  Bool.not_true, Bool.not_false, neg_f, neg_t, adel_aput, $t:term])
local macro_rules | `(tactic| walk_at "mp") => `(tactic| try open_k with true_and)
local macro_rules | `(tactic| walk_at "mp1") => `(tactic| (refine wpB_cons ?_; try open_k with true_and))
/-! data of bounded parts -/
def asc (x : Str) : Prop := ∀ c, c ∈ x.cps.toList → c < 128
mutual
def fineP (L : Nat) : PyData → Prop
  | .none => True
  | .bool _ => True
  | .int i => i.natAbs < 2 ^ L
  | .str x => x.length ≤ L ∧ asc x
  | .list ps => finePs L ps
  | .tuple ps => finePs L ps
  | .dict _ => False
def finePs (L : Nat) : List PyData → Prop
  | [] => True
  | p :: ps => fineP L p ∧ finePs L ps
end
mutual
def wP : PyData → Nat
  | .none => 10
  | .bool _ => 10
  | .int _ => 2000
  | .str x => 4 * x.length + 10
  | .list ps => wPs ps + 10
  | .tuple ps => wPs ps + 10
  | .dict _ => 0
def wPs : List PyData → Nat
  | [] => 0
  | p :: ps => wP p + 2 + wPs ps
end
theorem finePs_app {L : Nat} : ∀ {a b : List PyData}, finePs L (a ++ b) ↔ finePs L a ∧ finePs L b
  | [], b => by simp [finePs]
  | p :: a, b => by
    rw [List.cons_append, finePs, finePs, finePs_app (a := a)]
    exact ⟨fun ⟨x, y, z⟩ => ⟨⟨x, y⟩, z⟩, fun ⟨⟨x, y⟩, z⟩ => ⟨x, y, z⟩⟩
theorem wPs_app : ∀ {a b : List PyData}, wPs (a ++ b) = wPs a + wPs b
  | [], b => by simp [wPs]
  | p :: a, b => by
    rw [List.cons_append, wPs, wPs, wPs_app (a := a)]; omega
theorem dpAll_app : ∀ {a b : List PyData}, PyData.depthAll (a ++ b) = max (PyData.depthAll a) (PyData.depthAll b)
  | [], b => by simp [PyData.depthAll]
  | p :: a, b => by
    rw [List.cons_append]
    simp only [PyData.depthAll]
    rw [dpAll_app (a := a)]; omega
theorem dats_app {h : AH} : ∀ {a b : List D} {ps qs : List PyData}, Dats h a ps → Dats h b qs → Dats h (a ++ b) (ps ++ qs)
  | _, _, _, _, .nil, q => q
  | _, _, _, _, .cons x y, q => .cons x (dats_app y q)
theorem dats_cut {h : AH} : ∀ {a b : List D} {ps : List PyData}, Dats h (a ++ b) ps → ∃ p1 p2, ps = p1 ++ p2 ∧ Dats h a p1 ∧ Dats h b p2
  | [], b, ps, q => ⟨[], ps, rfl, .nil, q⟩
  | d :: a, b, ps, q => by
    cases q with
    | cons x y =>
      obtain ⟨p1, p2, e, r1, r2⟩ := dats_cut y
      exact ⟨_ :: p1, p2, by rw [e]; rfl, .cons x r1, r2⟩
/-- what is shown of a text -/
theorem chr_len : ∀ c : Fin 128, (Builtin.Str.reprChar 39 c.val).length ≤ 4 ∧ (Builtin.Str.reprChar 34 c.val).length ≤ 4 := by decide +kernel
theorem rq (x : Str) : reprQuote x = 39 ∨ reprQuote x = 34 := by
  unfold reprQuote
  split <;> first | exact .inl rfl | exact .inr rfl
theorem fold_len {q : Nat} (hq : q = 39 ∨ q = 34) : ∀ (cs : List Nat) (acc : Array Nat), (∀ c, c ∈ cs → c < 128) → (cs.foldl (fun out c => out ++ (Builtin.Str.reprChar q c).toArray) acc).size ≤ acc.size + 4 * cs.length
  | [], acc, _ => by show acc.size ≤ _; omega
  | c :: cs, acc, h => by
    have h1 := fold_len hq cs (acc ++ (Builtin.Str.reprChar q c).toArray) fun x hx => h x (List.mem_cons_of_mem _ hx)
    have h2 : (Builtin.Str.reprChar q c).length ≤ 4 := by
      have z := chr_len ⟨c, h c (List.mem_cons_self ..)⟩
      rcases hq with rfl | rfl
      · exact z.1
      · exact z.2
    have h3 : (acc ++ (Builtin.Str.reprChar q c).toArray).size = acc.size + (Builtin.Str.reprChar q c).length := by simp
    rw [h3] at h1
    rw [List.foldl_cons, List.length_cons]
    omega
theorem rep_len (x : Str) (h : asc x) : (reprText x).length ≤ 4 * x.length + 2 := by
  unfold reprText
  show (Array.push _ _).size ≤ _
  rw [Array.size_push, ← Array.foldl_toList]
  have := fold_len (rq x) x.cps.toList #[reprQuote x] h
  have e : x.cps.toList.length = x.length := Array.length_toList
  have e2 : (#[reprQuote x] : Array Nat).size = 1 := rfl
  omega
theorem log_ltP {i : Int} {L : Nat} (h : i.natAbs < 2 ^ L) (hL : L ≤ 1500) : i.natAbs.log2 < 1920 := by
  have h : i.natAbs < 2 ^ 1920 := Nat.lt_of_lt_of_le h (Nat.pow_le_pow_right (by decide) (by omega))
  by_cases z : i.natAbs = 0
  · rw [z]; decide
  · exact (Nat.log2_lt z).mpr h
theorem asc_ok {x : Str} (h : asc x) : PyData.strOk x = true := by
  unfold PyData.strOk
  rw [Array.all_eq_true_iff_forall_mem]
  intro c hc
  have := h c (Array.mem_toList_iff.mpr hc)
  exact decide_eq_true (by omega)
mutual
theorem fine_all {L : Nat} (hL : L ≤ 1500) : ∀ {p : PyData}, fineP L p → p.showable = true ∧ p.hasDict = false ∧ p.shown.length ≤ wP p ∧ p.canLay0 = true
  | .none, _ => by unfold wP; refine ⟨by simp [PyData.showable], by simp [PyData.hasDict], ?_, by simp [PyData.canLay0]⟩; simp only [PyData.shown]; decide
  | .bool b, _ => by unfold wP; refine ⟨by simp [PyData.showable], by simp [PyData.hasDict], ?_, by simp [PyData.canLay0]⟩; simp only [PyData.shown]; cases b <;> decide
  | .int i, q => by
    unfold fineP at q
    have lg := log_ltP q hL
    unfold wP; refine ⟨by simp [PyData.showable, lg], by simp [PyData.hasDict], ?_, by simp [PyData.canLay0]⟩; simp only [PyData.shown]
    have := int_len lg
    omega
  | .str x, q => by
    unfold fineP at q
    unfold wP; refine ⟨by simp [PyData.showable], by simp [PyData.hasDict], ?_, by simp [PyData.canLay0, asc_ok q.2]⟩; simp only [PyData.shown]
    have := rep_len x q.2
    omega
  | .list ps, q => by
    unfold fineP at q
    obtain ⟨a, b, c, e⟩ := fines_all hL q
    unfold wP; refine ⟨by simpa [PyData.showable] using a, by simpa [PyData.hasDict] using b, ?_, by simpa [PyData.canLay0] using e⟩
    simp only [PyData.shown]
    have := list_len (PyData.shownAll ps)
    omega
  | .tuple ps, q => by
    unfold fineP at q
    obtain ⟨a, b, c, e⟩ := fines_all hL q
    unfold wP; refine ⟨by simpa [PyData.showable] using a, by simpa [PyData.hasDict] using b, ?_, by simpa [PyData.canLay0] using e⟩
    simp only [PyData.shown]
    have := tup_len (PyData.shownAll ps)
    omega
  | .dict _, q => by unfold fineP at q; exact q.elim
theorem fines_all {L : Nat} (hL : L ≤ 1500) : ∀ {ps : List PyData}, finePs L ps → PyData.showableAll ps = true ∧ PyData.hasDictAll ps = false ∧ piled (PyData.shownAll ps) ≤ wPs ps ∧ PyData.canLayAll0 ps = true
  | [], _ => ⟨by simp [PyData.showableAll], by simp [PyData.hasDictAll], by simp [PyData.shownAll, piled], by simp [PyData.canLayAll0]⟩
  | p :: ps, q => by
    unfold finePs at q
    obtain ⟨a, b, c, e⟩ := fine_all hL q.1
    obtain ⟨a2, b2, c2, e2⟩ := fines_all hL q.2
    refine ⟨by simp [PyData.showableAll, a, a2], by simp [PyData.hasDictAll, b, b2], ?_, by simp [PyData.canLayAll0, e, e2]⟩
    have : piled (PyData.shownAll (p :: ps)) = p.shown.length + 2 + piled (PyData.shownAll ps) := by simp [PyData.shownAll, piled]
    rw [this]
    unfold wPs
    omega
end
mutual
theorem fine_up {L M : Nat} (h : L ≤ M) : ∀ {p : PyData}, fineP L p → fineP M p
  | .none, _ => by unfold fineP; trivial
  | .bool b, _ => by unfold fineP; trivial
  | .int i, q => by unfold fineP at q ⊢; exact Nat.lt_of_lt_of_le q (Nat.pow_le_pow_right (by decide) h)
  | .str x, q => by unfold fineP at q ⊢; exact ⟨by omega, q.2⟩
  | .list ps, q => by unfold fineP at q ⊢; exact fines_up h q
  | .tuple ps, q => by unfold fineP at q ⊢; exact fines_up h q
  | .dict _, q => by unfold fineP at q; exact q.elim
theorem fines_up {L M : Nat} (h : L ≤ M) : ∀ {ps : List PyData}, finePs L ps → finePs M ps
  | [], _ => by unfold finePs; trivial
  | p :: ps, q => by unfold finePs at q ⊢; exact ⟨fine_up h q.1, fines_up h q.2⟩
end
/-! lists stay -/
def LKeep (h h' : AH) : Prop := ∀ p ds, h p = some (.lst ds) → h' p = some (.lst ds)
theorem Sub.lk {h h' : AH} (s : Sub h h') : LKeep h h' := fun p ds e => s p _ e
theorem LKeep.trans {h h' h2 : AH} (a : LKeep h h') (b : LKeep h' h2) : LKeep h h2 := fun p ds e => b p ds (a p ds e)
theorem LKeep.refl {h : AH} : LKeep h h := fun _ _ e => e
mutual
theorem dat_sub {h h' : AH} (s : LKeep h h') : ∀ {d : D} {p : PyData}, Dat h d p → Dat h' d p
  | _, _, .non => .non
  | _, _, .bl b => .bl b
  | _, _, .int i => .int i
  | _, _, .str x => .str x
  | _, _, .tup q => .tup (dats_sub s q)
  | _, _, .lst l q => .lst (s _ _ l) (dats_sub s q)
theorem dats_sub {h h' : AH} (s : LKeep h h') : ∀ {ds : List D} {ps : List PyData}, Dats h ds ps → Dats h' ds ps
  | _, _, .nil => .nil
  | _, _, .cons a b => .cons (dat_sub s a) (dats_sub s b)
end
/-! things -/
structure Kd (h : AH) (L n m : Nat) (d : D) : Prop where
  ex : ∃ p, Dat h d p ∧ fineP L p ∧ p.depth ≤ n ∧ wP p ≤ m
structure Kds (h : AH) (L n m : Nat) (ds : List D) : Prop where
  ex : ∃ ps, Dats h ds ps ∧ finePs L ps ∧ PyData.depthAll ps ≤ n ∧ wPs ps ≤ m
section
variable {h h' : AH} {L n m L' n' m' k : Nat} {d : D} {ds es : List D}
theorem Kd.mono (t : Kd h L n m d) (a : L ≤ L') (b : n ≤ n') (c : m ≤ m') : Kd h L' n' m' d := by
  obtain ⟨p, q1, q2, q3, q4⟩ := t.ex
  exact ⟨p, q1, fine_up a q2, by omega, by omega⟩
theorem Kds.mono (t : Kds h L n m ds) (a : L ≤ L') (b : n ≤ n') (c : m ≤ m') : Kds h L' n' m' ds := by
  obtain ⟨p, q1, q2, q3, q4⟩ := t.ex
  exact ⟨p, q1, fines_up a q2, by omega, by omega⟩
theorem Kd.keep (t : Kd h L n m d) (s : LKeep h h') : Kd h' L n m d := by
  obtain ⟨p, q1, q⟩ := t.ex
  exact ⟨p, dat_sub s q1, q⟩
theorem Kds.keep (t : Kds h L n m ds) (s : LKeep h h') : Kds h' L n m ds := by
  obtain ⟨p, q1, q⟩ := t.ex
  exact ⟨p, dats_sub s q1, q⟩
theorem tg_non : Kd h 0 0 10 .non := ⟨.none, .non, by unfold fineP; trivial, by simp [PyData.depth], by unfold wP; omega⟩
theorem tg_bl (b : Bool) : Kd h 0 0 10 (.bl b) := ⟨.bool b, .bl b, by unfold fineP; trivial, by simp [PyData.depth], by unfold wP; omega⟩
theorem tg_int {i : Int} (hi : i.natAbs < 2 ^ L) : Kd h L 0 2000 (.int i) := ⟨.int i, .int i, by unfold fineP; exact hi, by simp [PyData.depth], by unfold wP; omega⟩
theorem tg_str {x : Str} (hx : x.length ≤ L) (a : asc x) : Kd h L 0 (4 * L + 10) (.str x) := ⟨.str x, .str x, by unfold fineP; exact ⟨hx, a⟩, by simp [PyData.depth], by unfold wP; omega⟩
theorem tg_tup (t : Kds h L n m ds) : Kd h L (n + 1) (m + 10) (.tup ds) := by
  obtain ⟨ps, q1, q2, q3, q4⟩ := t.ex
  exact ⟨.tuple ps, .tup q1, by unfold fineP; exact q2, by simp only [PyData.depth]; omega, by unfold wP; omega⟩
theorem tg_lst {a : Addr} (e : h a = some (.lst ds)) (t : Kds h L n m ds) : Kd h L (n + 1) (m + 10) (.ref a) := by
  obtain ⟨ps, q1, q2, q3, q4⟩ := t.ex
  exact ⟨.list ps, .lst e q1, by unfold fineP; exact q2, by simp only [PyData.depth]; omega, by unfold wP; omega⟩
theorem Kd.tup (t : Kd h L n m (.tup ds)) : Kds h L (n - 1) (m - 10) ds ∧ 1 ≤ n ∧ 10 ≤ m := by
  obtain ⟨p, q1, q2, q3, q4⟩ := t.ex
  cases q1 with
  | tup q =>
    unfold fineP at q2
    unfold wP at q4
    simp only [PyData.depth] at q3
    exact ⟨⟨_, q, q2, by omega, by omega⟩, by omega, by omega⟩
theorem Kd.lst {a : Addr} (t : Kd h L n m (.ref a)) : ∃ ds, h a = some (.lst ds) ∧ Kds h L (n - 1) (m - 10) ds := by
  obtain ⟨p, q1, q2, q3, q4⟩ := t.ex
  cases q1 with
  | lst e q =>
    unfold fineP at q2
    unfold wP at q4
    simp only [PyData.depth] at q3
    exact ⟨_, e, _, q, q2, by omega, by omega⟩
theorem tgs_nil : Kds h L n 0 [] := ⟨[], .nil, by unfold finePs; trivial, by simp [PyData.depthAll], by unfold wPs; omega⟩
theorem tgs_cons (t : Kd h L n m d) (u : Kds h L n m' ds) : Kds h L n (m + 2 + m') (d :: ds) := by
  obtain ⟨p, q1, q2, q3, q4⟩ := t.ex
  obtain ⟨ps, r1, r2, r3, r4⟩ := u.ex
  exact ⟨p :: ps, .cons q1 r1, by unfold finePs; exact ⟨q2, r2⟩, by simp only [PyData.depthAll]; omega, by unfold wPs; omega⟩
theorem tgs_one (t : Kd h L n m d) : Kds h L n (m + 2) [d] := (tgs_cons t tgs_nil).mono (Nat.le_refl _) (Nat.le_refl _) (by omega)
theorem Kds.app (t : Kds h L n m ds) (u : Kds h L n m' es) : Kds h L n (m + m') (ds ++ es) := by
  obtain ⟨p, q1, q2, q3, q4⟩ := t.ex
  obtain ⟨ps, r1, r2, r3, r4⟩ := u.ex
  exact ⟨p ++ ps, dats_app q1 r1, finePs_app.mpr ⟨q2, r2⟩, by rw [dpAll_app]; omega, by rw [wPs_app]; omega⟩
/-- cut in two: the weights add up -/
theorem Kds.cut (t : Kds h L n m (ds ++ es)) : ∃ m1 m2, m1 + m2 ≤ m ∧ Kds h L n m1 ds ∧ Kds h L n m2 es := by
  obtain ⟨p, q1, q2, q3, q4⟩ := t.ex
  obtain ⟨p1, p2, rfl, r1, r2⟩ := dats_cut q1
  rw [dpAll_app] at q3
  rw [wPs_app] at q4
  obtain ⟨f1, f2⟩ := finePs_app.mp q2
  exact ⟨wPs p1, wPs p2, q4, ⟨p1, r1, f1, by omega, Nat.le_refl _⟩, ⟨p2, r2, f2, by omega, Nat.le_refl _⟩⟩
theorem Kds.take (t : Kds h L n m ds) : Kds h L n m (ds.take k) := by
  rw [← List.take_append_drop k ds] at t
  obtain ⟨m1, m2, hm, a, b⟩ := t.cut
  exact a.mono (Nat.le_refl _) (Nat.le_refl _) (by omega)
theorem Kds.drop (t : Kds h L n m ds) : Kds h L n m (ds.drop k) := by
  rw [← List.take_append_drop k ds] at t
  obtain ⟨m1, m2, hm, a, b⟩ := t.cut
  exact b.mono (Nat.le_refl _) (Nat.le_refl _) (by omega)
theorem Kds.head (t : Kds h L n m (d :: ds)) : Kd h L n m d ∧ Kds h L n m ds := by
  obtain ⟨p, q1, q2, q3, q4⟩ := t.ex
  cases q1 with
  | cons x y =>
    unfold finePs at q2
    unfold wPs at q4
    simp only [PyData.depthAll] at q3
    exact ⟨⟨_, x, q2.1, by omega, by omega⟩, ⟨_, y, q2.2, by omega, by omega⟩⟩
theorem Kds.mem : ∀ {ds : List D}, Kds h L n m ds → ∀ d, d ∈ ds → Kd h L n m d
  | [], _, _, z => by cases z
  | e :: es, t, d, z => by
    obtain ⟨a, b⟩ := t.head
    rcases List.mem_cons.mp z with rfl | z
    · exact a
    · exact b.mem d z
theorem Kds.rev : ∀ {ds : List D} {m : Nat}, Kds h L n m ds → Kds h L n m ds.reverse
  | [], m, t => t
  | e :: es, m, t => by
    rw [List.reverse_cons]
    obtain ⟨m1, m2, hm, a, b⟩ := Kds.cut (ds := [e]) (es := es) t
    exact (b.rev.app a).mono (Nat.le_refl _) (Nat.le_refl _) (by omega)
theorem dat_w : ∀ {d : D} {p : PyData}, Dat h d p → 10 ≤ wP p
  | _, _, .non => by rw [wP]; omega
  | _, _, .bl b => by rw [wP]; omega
  | _, _, .int i => by rw [wP]; omega
  | _, _, .str x => by rw [wP]; omega
  | _, _, .tup q => by rw [wP]; omega
  | _, _, .lst l q => by rw [wP]; omega
theorem dats_len : ∀ {ds : List D} {ps : List PyData}, Dats h ds ps → 12 * ds.length ≤ wPs ps
  | _, _, .nil => by simp [wPs]
  | _, _, .cons a b => by
    have := dats_len b
    have := dat_w a
    rw [wPs, List.length_cons]; omega
theorem Kds.len (t : Kds h L n m ds) : 12 * ds.length ≤ m := by
  obtain ⟨p, q1, q2, q3, q4⟩ := t.ex
  have := dats_len q1
  omega
theorem Kd.ty (t : Kd h L n m d) : tyOk h d := by
  obtain ⟨p, q1, _⟩ := t.ex
  cases q1 with
  | lst e _ => exact ⟨_, e⟩
  | _ => trivial
/-- shown: the same at all times while the lists stay -/
theorem Kd.repr (t : Kd h L n m d) (hL : L ≤ 1500) (hn : n ≤ 60) (hm : m ≤ 16000000) : ∃ x : Str, ∀ h', LKeep h h' → ∀ Q : AK, Q (.str x) h' → reprD [d] h' Q := by
  obtain ⟨p, q1, q2, q3, q4⟩ := t.ex
  obtain ⟨a, b, c, e⟩ := fine_all hL q2
  exact ⟨p.shown, fun h' s Q q => ⟨p, dat_sub s q1, a, b, by omega, by rw [sizeLine_eq]; omega, q⟩⟩
/-- laid: it can be compared -/
theorem Kd.laid (t : Kd h L n m d) (hL : L ≤ 1500) (hn : n ≤ 60) : ∃ p, Dat h d p ∧ SeqAt.shaped p = true := by
  obtain ⟨p, q1, q2, q3, q4⟩ := t.ex
  obtain ⟨a, b, c, e⟩ := fine_all hL q2
  exact ⟨p, q1, by unfold SeqAt.shaped; rw [e, Bool.true_and]; exact decide_eq_true (by omega)⟩
end
end MP
/-! IB: a truth in a list of truths -/
namespace MP
open PySem L2
theorem eqV_bl {i j : Bool} : eqV (.bl i) (.bl j) = decide (i = j) := by cases i <;> cases j <;> rfl
theorem inV_bls (k : Bool) (ns : List Bool) : inV (D.bl k).v ((ns.map D.bl).map D.v) = decide (k ∈ ns) := by
  unfold inV
  induction ns with
  | nil => rfl
  | cons n ns ih =>
    rw [List.map_cons, List.map_cons, List.any_cons, ih]
    show (eqV (.bl n) (.bl k) || _) = _
    rw [eqV_bl]
    by_cases e : n = k
    · simp [e]
    · have e2 : ¬ k = n := fun z => e z.symm
      simp [e, e2]
theorem in_bls_r {neg : Bool} {k : Bool} {ns : List Bool} {a : Addr} {h : AH} {Q : AK} (e : h a = some (.lst (ns.map D.bl))) (q : Q (.bl (neg != decide (k ∈ ns))) h) : inD neg (.bl k) (.ref a) h Q := by
  refine Or.inl ⟨_, e, Or.inl ⟨rfl, by simp [List.all_map, flatD, Function.comp_def], ?_⟩⟩
  rw [inV_bls]; exact q
end MP
/-! BN: strange things, things bent at any place -/
namespace MP
open PySem PySem.Spec PyProof.Rows L2
local macro_rules | `(tactic| open_k with $t) => `(tactic| simp only [wpS, wpE, wpEs, wpEo, wpT, wpTo, wpI, wpG, wpGs, forW, whlW, callW, BinO.d, CmpO.d, Bi.d, Mt.d, parQ, Tgs.len,
  add_ii, add_ss, add_tt, add_rr, sub_ii, mul_ii, mul_ri, fdiv_ii, mod_ii, pow_ii, shl_ii, shr_ii, band_ii, eq_ii, ne_ii, eq_ss, ne_ss, lt_ii, is_n, nis_n, dn_i, dn_n, dn_t, dn_b, dn_s, dn_r, ix_ti, ix_ci, ix_pi, ix_ri, ix_rs, set_ri, set_rs, ty_n, ty_b, ty_i, ty_s, ty_t, ty_c, ty_r, isiB, AO.dct.injEq, sum_t, max_t, min_t, ixN_0, ixN_1, ixN_2, ixN_3,
  len_t, len_r, len_c, abs_i, max_ii, min_ii, tup_r, tup_t, lst_r, lst_t, lst_c, int_i, int_b, app_r, pop_ri, pop_r0, ext_rr, ext_rt, ins_ri, rev_r0, isl_r, rcv_r, rcv_t, ex_some, tru_b, tru_i, tru_t, tru_r, tru_n, sq_t, sq_c, sq_r, sq_f, zp_t, zp_r, en_t, en_r, slD, revD, setSl, atI_0, atI_1, atI_2, atI_3, isL,
  List.getElem?_cons_zero, List.getElem?_cons_succ, List.set_cons_zero, List.set_cons_succ, List.length_cons, List.length_nil, List.map_cons, List.map_nil, List.zip_cons_cons, List.zip_nil_right, List.nil_append, List.cons_append, if_true, if_false, Bool.false_eq_true, if_pos, true_and, and_true,
  exists_eq_left, exists_eq_left', exists_const, reduceCtorEq, false_and, exists_false, or_false, false_or, exists_eq', Option.some.injEq, AO.lst.injEq, D.ref.injEq, aput_same, aput_aput, small_line, HT.sIx_none, List.drop_zero, Nat.sub_zero, Nat.zero_add, Nat.zero_le, Option.getD_none, Option.getD_some, Nat.reduceAdd, Nat.reduceLeDiff,
  Bool.not_true, Bool.not_false, neg_f, neg_t, adel_aput, $t:term])
local macro_rules | `(tactic| walk_at "mp") => `(tactic| try open_k with true_and)
local macro_rules | `(tactic| walk_at "mp1") => `(tactic| (refine wpB_cons ?_; try open_k with true_and))
/-! texts of figures and letters -/
theorem nat_asc (n : Nat) : ∀ c, c ∈ (Nat.repr n).toList → c.toNat < 128 := by
  intro c hc
  unfold Nat.repr at hc
  rw [String.toList_ofList] at hc
  have := Nat.isDigit_of_mem_toDigits (by decide) (by decide) hc
  unfold Char.isDigit at this
  simp only [Bool.and_eq_true, decide_eq_true_eq] at this
  have h2 := this.2
  show c.val.toNat < 128
  have : c.val.toNat ≤ 57 := h2
  omega
theorem int_asc (i : Int) : ∀ c, c ∈ (toString i).toList → c.toNat < 128 := by
  intro c hc
  have e : toString i = Int.repr i := rfl
  rw [e] at hc
  cases i with
  | ofNat m => exact nat_asc m c hc
  | negSucc m =>
    have e2 : Int.repr (Int.negSucc m) = "-" ++ m.succ.repr := rfl
    rw [e2, String.toList_append] at hc
    rcases List.mem_append.mp hc with z | z
    · have e3 : "-".toList = ['-'] := rfl
      rw [e3, List.mem_singleton] at z
      rw [z]; decide
    · exact nat_asc _ c z
theorem asc_int (i : Int) : asc (Str.ofString (toString i)) := by
  intro c hc
  rw [Str.ofString_eq_toList] at hc
  have hc : c ∈ List.map Char.toNat (toString i).toList := hc
  obtain ⟨x, hx, rfl⟩ := List.mem_map.mp hc
  exact int_asc i x hx
theorem len_intS {i : Int} {L : Nat} (h : i.natAbs < 2 ^ L) (hL : 0 < L) : (Str.ofString (toString i)).length ≤ L + 1 := by
  have lg : i.natAbs.log2 < L := by
    by_cases z : i.natAbs = 0
    · rw [z]; exact hL
    · exact (Nat.log2_lt z).mpr h
  have h1 := PySem.int_text_length_le hL lg
  rw [PySem.ofString_length]; omega
theorem asc_app {a b : Str} (ha : asc a) (hb : asc b) : asc (a ++ b) := by
  intro c hc
  have e : (a ++ b).cps.toList = a.cps.toList ++ b.cps.toList := by
    show (a.cps ++ b.cps).toList = _
    rw [Array.toList_append]
  rw [e] at hc
  rcases List.mem_append.mp hc with z | z
  · exact ha c z
  · exact hb c z
theorem asc_rev {a : Str} (ha : asc a) : asc (revS a) ∧ (revS a).length = a.length := by
  refine ⟨fun c hc => ?_, ?_⟩
  · have hc : c ∈ a.cps.toList.reverse := hc
    exact ha c (List.mem_reverse.mp hc)
  · show a.cps.toList.reverse.toArray.size = a.cps.size
    rw [List.size_toArray, List.length_reverse, Array.length_toList]
theorem asc_slice {a : Str} (ha : asc a) (lo hi : Option Int) : asc (Txt.slice a lo hi) ∧ (Txt.slice a lo hi).length ≤ a.length := by
  rw [← C8.cutS_slice]
  refine ⟨fun c hc => ?_, ?_⟩
  · unfold cutS at hc
    exact ha c (List.mem_of_mem_drop (List.mem_of_mem_take hc))
  · unfold cutS
    show (List.toArray _).size ≤ a.cps.size
    rw [List.size_toArray, List.length_take, List.length_drop, Array.length_toList]
    omega
theorem up128 : ∀ c : Fin 128, (Unicode.upperOf c.val).length = 1 ∧ ∀ x, x ∈ Unicode.upperOf c.val → x < 128 := by decide +kernel
theorem flat_one : ∀ (l : List (Array Nat)), (∀ a, a ∈ l → a.size = 1) → l.toArray.flatten.size = l.length
  | [], _ => rfl
  | a :: l, h => by
    have e : (a :: l).toArray.flatten = a ++ l.toArray.flatten := by
      simp
    rw [e, Array.size_append, flat_one l fun x hx => h x (List.mem_cons_of_mem _ hx), h a (List.mem_cons_self ..), List.length_cons]; omega
theorem asc_up {a : Str} (ha : asc a) : asc (Txt.upper a) ∧ (Txt.upper a).length ≤ a.length := by
  have hmem : ∀ i, ∀ h : i < a.cps.size, a.cps[i] < 128 := fun i h => ha _ (by rw [Array.mem_toList_iff]; exact Array.getElem_mem h)
  have hs : ∀ x, x ∈ (Array.mapIdx (fun (i : Nat) c => (Unicode.upperOf c).toArray) a.cps).toList → x.size = 1 ∧ ∀ c, c ∈ x → c < 128 := by
    intro x hx
    rw [Array.mem_toList_iff] at hx
    obtain ⟨i, hi, e⟩ := Array.mem_mapIdx.mp hx
    have z := up128 ⟨_, hmem i hi⟩
    rw [← e]
    refine ⟨by rw [List.size_toArray]; exact z.1, fun c hc => z.2 c (by rwa [List.mem_toArray] at hc)⟩
  refine ⟨fun c hc => ?_, ?_⟩
  · have hc : c ∈ (Array.mapIdx (fun (i : Nat) c => (Unicode.upperOf c).toArray) a.cps).flatten := by rw [← Array.mem_toList_iff]; exact hc
    obtain ⟨x, hx, hcx⟩ := Array.mem_flatten.mp hc
    exact (hs x (by rw [Array.mem_toList_iff]; exact hx)).2 c hcx
  · show ((Array.mapIdx (fun (i : Nat) c => (Unicode.upperOf c).toArray) a.cps).flatten).size ≤ a.cps.size
    have e : (Array.mapIdx (fun (i : Nat) c => (Unicode.upperOf c).toArray) a.cps) = (Array.mapIdx (fun (i : Nat) c => (Unicode.upperOf c).toArray) a.cps).toList.toArray := rfl
    rw [e, flat_one _ fun x hx => (hs x hx).1, Array.length_toList, Array.size_mapIdx]
    exact Nat.le_refl _
theorem at_mem {l : List D} {r : Int} (h0 : 0 ≤ r) (h1 : r < l.length) : ∃ d, atI l r = some d ∧ d ∈ l := ⟨l[r.toNat]'(by omega), atI_in h0 h1, List.getElem_mem _⟩
theorem sub_grow {h h' : AH} {a : Addr} (s : Sub h h') : Grow a h h' := fun b u _ e => s b u e
theorem Grow.lkA {h h' : AH} {a cl : Addr} (t : TapeA h a cl) (g : Grow a h h') : LKeep h h' := fun p ds e => g p _ (fun z => by
  obtain ⟨_, _, _, _, _, e1, _⟩ := t
  rw [z, e1] at e; cases e) e
section
variable {h : AH} {L n m n' m' : Nat} {ds : List D}
theorem kd_non (hm : 10 ≤ m) : Kd h L n m .non := tg_non.mono (by omega) (by omega) hm
theorem kd_bl {b : Bool} (hm : 10 ≤ m) : Kd h L n m (.bl b) := (tg_bl b).mono (by omega) (by omega) hm
theorem kd_int {i : Int} (hi : i.natAbs < 2 ^ L) (hm : 2000 ≤ m) : Kd h L n m (.int i) := (tg_int hi).mono (Nat.le_refl _) (by omega) hm
theorem kd_str {x : Str} (hx : x.length ≤ L) (ha : asc x) (hm : 4 * x.length + 10 ≤ m) : Kd h L n m (.str x) := (tg_str (Nat.le_refl _) ha).mono hx (by omega) hm
theorem kd_tup (t : Kds h L n m ds) (hn : n + 1 ≤ n') (hm : m + 10 ≤ m') : Kd h L n' m' (.tup ds) := (tg_tup t).mono (Nat.le_refl _) hn hm
theorem kd_lst {p : Addr} (e : h p = some (.lst ds)) (t : Kds h L n m ds) (hn : n + 1 ≤ n') (hm : m + 10 ≤ m') : Kd h L n' m' (.ref p) := (tg_lst e t).mono (Nat.le_refl _) hn hm
theorem Kds.sole {d : D} (t : Kds h L n m [d]) : ∃ m2, Kd h L n m2 d ∧ m2 + 2 ≤ m := by
  obtain ⟨p, q1, q2, q3, q4⟩ := t.ex
  cases q1 with
  | cons x y =>
    cases y
    unfold finePs at q2
    unfold wPs at q4
    simp only [PyData.depthAll] at q3
    exact ⟨_, ⟨_, x, q2.1, by omega, Nat.le_refl _⟩, by omega⟩
theorem sIx_to {n : Nat} {i : Int} (h0 : 0 ≤ i) (h1 : i ≤ n) : HT.sIx n n (some i) = i.toNat := by
  unfold HT.sIx
  simp only
  split <;> omega
theorem sIx_from {n : Nat} {i : Int} (h0 : 0 ≤ i) (h1 : i ≤ n) : HT.sIx n 0 (some i) = i.toNat := by
  unfold HT.sIx
  simp only
  split <;> omega
theorem Kds.sl {i j : Nat} (t : Kds h L n m ds) : Kds h L n m ((ds.drop i).take j) := t.drop.take
end
/-! strange things -/
abbrev n_law_strange : List Str := ["_law_tape_here", "_law_some"]
abbrev p_law_strange : List Str := ["_law_tape_here"]
def b_law_strange : Ss :=
  (.cons (.set (.n 1) (.lst (.cons (.k .non) (.cons (.k (.bl true)) (.cons (.k (.bl false)) (.cons (.k (.str "")) (.cons (.k (.str "late")) (.cons (.k (.str "0")) (.cons (.tup .nil) (.cons (.lst .nil) (.cons (.tup (.cons (.k (.int 0)) .nil)) (.cons (.lst (.cons (.k (.int 2)) .nil)) (.cons (.neg (.k (.int 1))) (.cons (.k (.int 0)) (.cons (.k (.int 1)) (.cons (.k (.int 3)) (.cons (.bin .pow (.k (.int 10)) (.k (.int 50))) (.cons (.tup (.cons (.tup .nil) .nil)) (.cons (.tup (.cons (.k (.int 0)) (.cons (.k (.int 1)) .nil))) (.cons (.tup (.cons (.k (.str "ends")) (.cons (.k (.int 2)) .nil))) .nil))))))))))))))))))))
    (.cons (.ret (.ix (.v 1) (.call "_law_pick" (.cons (.v 0) (.cons (.k (.int 18)) .nil)))))
    .nil))
def c_strange : ASp := fun vs h Q X => ∃ a cl, vs = [.ref a] ∧ TapeA h a cl ∧ ∀ d h', Kd h' 200 2 5000 d → TapeA h' a cl → Grow a h h' → Q d h'
theorem m_strange (G : Ct) (hG : G.fn "_law_pick" = some (2, c_pickA)) : Meets G n_law_strange.length b_law_strange 1 c_strange := by
  rintro vs h Q X hl ⟨a, cl, rfl, t, hq⟩
  change wpB G b_law_strange _ [some _, none] h
  refine wpB_cons ?_
  open_k with true_and
  intro p1 np1 p2 np2
  refine ⟨by decide, by decide, by decide, fun p3 np3 => ?_⟩
  have a1 := t.ne np1
  have t1 := t.put (o := .lst []) a1
  have a2 := t1.ne np2
  have t2 := t1.put (o := .lst [.int 2]) a2
  have a3 := t2.ne np3
  have s1 : Sub h (aput h p1 (.lst [])) := sub_but np1
  have s2 : Sub (aput h p1 (.lst [])) (aput (aput h p1 (.lst [])) p2 (.lst [.int 2])) := sub_but np2
  have e1 : aput (aput h p1 (.lst [])) p2 (.lst [.int 2]) p1 = some (.lst []) := s2 _ _ aput_same
  have e2 : aput (aput h p1 (.lst [])) p2 (.lst [.int 2]) p2 = some (.lst [.int 2]) := aput_same
  generalize aput (aput h p1 (.lst [])) p2 (.lst [.int 2]) = h2 at np3 t2 s2 e1 e2
  have t3 := t2.put (o := .lst [.non, .bl true, .bl false, .str "", .str "late", .str "0", .tup [], .ref p1, .tup [.int 0], .ref p2, .int (-1), .int 0, .int 1, .int 3, .int (10 ^ Int.toNat 50), .tup [.tup []], .tup [.int 0, .int 1], .tup [.str "ends", .int 2]]) a3
  have s3 : Sub h2 (aput h2 p3 (.lst [.non, .bl true, .bl false, .str "", .str "late", .str "0", .tup [], .ref p1, .tup [.int 0], .ref p2, .int (-1), .int 0, .int 1, .int 3, .int (10 ^ Int.toNat 50), .tup [.tup []], .tup [.int 0, .int 1], .tup [.str "ends", .int 2]])) := sub_but np3
  have e3 : aput h2 p3 (.lst [.non, .bl true, .bl false, .str "", .str "late", .str "0", .tup [], .ref p1, .tup [.int 0], .ref p2, .int (-1), .int 0, .int 1, .int 3, .int (10 ^ Int.toNat 50), .tup [.tup []], .tup [.int 0, .int 1], .tup [.str "ends", .int 2]]) p3 = some (.lst [.non, .bl true, .bl false, .str "", .str "late", .str "0", .tup [], .ref p1, .tup [.int 0], .ref p2, .int (-1), .int 0, .int 1, .int 3, .int (10 ^ Int.toNat 50), .tup [.tup []], .tup [.int 0, .int 1], .tup [.str "ends", .int 2]]) := aput_same
  generalize aput h2 p3 (.lst [.non, .bl true, .bl false, .str "", .str "late", .str "0", .tup [], .ref p1, .tup [.int 0], .ref p2, .int (-1), .int 0, .int 1, .int 3, .int (10 ^ Int.toNat 50), .tup [.tup []], .tup [.int 0, .int 1], .tup [.str "ends", .int 2]]) = h3 at t3 s3 e3
  refine wpB_cons ?_
  open_k with hG
  refine ⟨a, cl, 18, rfl, t3, by decide, by decide, fun r h4 r0 r1 t4 b4 => ?_⟩
  have f3 : h4 p3 = _ := (b4 p3 a3.1).trans e3
  have f1 : h4 p1 = some (.lst []) := (b4 p1 a1.1).trans (s3 _ _ e1)
  have f2 : h4 p2 = some (.lst [.int 2]) := (b4 p2 a2.1).trans (s3 _ _ e2)
  open_k with f3
  obtain ⟨d, ed, md⟩ := at_mem (l := [.non, .bl true, .bl false, .str "", .str "late", .str "0", .tup [], .ref p1, .tup [.int 0], .ref p2, .int (-1), .int 0, .int 1, .int 3, .int (10 ^ Int.toNat 50), .tup [.tup []], .tup [.int 0, .int 1], .tup [.str "ends", .int 2]]) r0 (by exact r1)
  refine ⟨d, ed, h4, Sub.refl, hq d h4 ?_ t4 ((sub_grow ((s1.trans s2).trans s3)).bt b4)⟩
  have i0 : ∀ (h : AH) (i : Int), i.natAbs < 2 ^ 200 → Kd h 200 2 4000 (.int i) := fun h i hi => kd_int hi (by decide)
  simp only [List.mem_cons, List.not_mem_nil, or_false] at md
  rcases md with rfl | rfl | rfl | rfl | rfl | rfl | rfl | rfl | rfl | rfl | rfl | rfl | rfl | rfl | rfl | rfl | rfl | rfl
  · exact kd_non (by decide)
  · exact kd_bl (by decide)
  · exact kd_bl (by decide)
  · exact kd_str (by decide +kernel) (by unfold asc; decide +kernel) (by decide +kernel)
  · exact kd_str (by decide +kernel) (by unfold asc; decide +kernel) (by decide +kernel)
  · exact kd_str (by decide +kernel) (by unfold asc; decide +kernel) (by decide +kernel)
  · exact kd_tup (n := 0) tgs_nil (by decide) (by decide)
  · exact kd_lst (n := 0) f1 tgs_nil (by decide) (by decide)
  · exact kd_tup (n := 0) (tgs_one (kd_int (m := 2000) (by decide) (by decide))) (by decide) (by decide)
  · exact kd_lst (n := 0) f2 (tgs_one (kd_int (m := 2000) (by decide) (by decide))) (by decide) (by decide)
  · exact kd_int (by decide) (by decide)
  · exact kd_int (by decide) (by decide)
  · exact kd_int (by decide) (by decide)
  · exact kd_int (by decide) (by decide)
  · exact kd_int (by decide +kernel) (by decide)
  · exact kd_tup (n := 1) (m := 100) (tgs_one (m := 50) (kd_tup (n := 0) tgs_nil (by decide) (by decide)) |>.mono (Nat.le_refl _) (Nat.le_refl _) (by decide)) (by decide) (by decide)
  · exact kd_tup (n := 0) (tgs_cons (kd_int (m := 2000) (by decide) (by decide)) (tgs_one (kd_int (m := 2000) (by decide) (by decide)))) (by decide) (by decide)
  · exact kd_tup (n := 0) (tgs_cons (kd_str (m := 100) (by decide +kernel) (by unfold asc; decide +kernel) (by decide +kernel)) (tgs_one (kd_int (m := 2000) (by decide) (by decide)))) (by decide) (by decide)
/-! bent -/
abbrev n_law_bent_3 : List Str := ["_law_tape_here", "_law_thing", "_law_deep", "_law_way", "_law_odd", "_law_at", "_law_some"]
abbrev p_law_bent_3 : List Str := ["_law_tape_here", "_law_thing", "_law_deep"]
def b_law_bent_3 : Ss :=
  (.cons (.iff (.and_ (.e (.isi .tuple (.v 1))) (.and_ (.cmp .ne (.v 1) (.tup .nil)) (.and_ (.cmp .gt (.v 2) (.k (.int 0))) (.cmp .gt (.call "_law_pick" (.cons (.v 0) (.cons (.k (.int 5)) .nil))) (.k (.int 0)))))) (.cons (.set (.n 5) (.call "_law_pick" (.cons (.v 0) (.cons (.bi .len (.cons (.v 1) .nil)) .nil))))
    (.cons (.ret (.bin .add (.bin .add (.sl (.v 1) .no (.yes (.v 5))) (.tup (.cons (.call "_law_bent" (.cons (.v 0) (.cons (.ix (.v 1) (.v 5)) (.cons (.bin .sub (.v 2) (.k (.int 1))) .nil)))) .nil))) (.sl (.v 1) (.yes (.bin .add (.v 5) (.k (.int 1)))) .no)))
    .nil)) .nil)
    (.cons (.set (.n 3) (.call "_law_pick" (.cons (.v 0) (.cons (.k (.int 7)) .nil))))
    (.cons (.set (.n 4) (.call "_law_strange" (.cons (.v 0) .nil)))
    (.cons (.iff (.e (.isi .tuple (.v 1))) (.cons (.set (.n 5) (.call "_law_pick" (.cons (.v 0) (.cons (.bin .add (.bi .len (.cons (.v 1) .nil)) (.k (.int 1))) .nil))))
    (.cons (.set (.n 6) (.lst (.cons (.bi .list (.cons (.v 1) .nil)) (.cons (.bin .add (.bin .add (.sl (.v 1) .no (.yes (.v 5))) (.tup (.cons (.v 4) .nil))) (.sl (.v 1) (.yes (.v 5)) .no)) (.cons (.bin .add (.sl (.v 1) .no (.yes (.v 5))) (.sl (.v 1) (.yes (.bin .add (.v 5) (.k (.int 1)))) .no)) (.cons (.bin .add (.sl (.v 1) .no (.yes (.bin .add (.v 5) (.k (.int 1))))) (.sl (.v 1) (.yes (.v 5)) .no)) .nil))))))
    (.cons (.ret (.ix (.bin .add (.v 6) (.lst (.cons (.bin .add (.bin .add (.sl (.v 1) .no (.yes (.v 5))) (.rev (.sl (.v 1) (.yes (.v 5)) (.yes (.bin .add (.v 5) (.k (.int 2))))))) (.sl (.v 1) (.yes (.bin .add (.v 5) (.k (.int 2)))) .no)) (.cons (.rev (.v 1)) (.cons (.v 4) .nil))))) (.v 3)))
    .nil))) .nil)
    (.cons (.iff (.e (.isi .bool (.v 1))) (.cons (.ret (.ix (.lst (.cons (.not_ (.v 1)) (.cons (.bi .int (.cons (.v 1) .nil)) (.cons (.bi .str (.cons (.v 1) .nil)) (.cons (.tup (.cons (.v 1) .nil)) (.cons (.k .non) (.cons (.lst (.cons (.v 1) .nil)) (.cons (.v 4) .nil)))))))) (.v 3)))
    .nil) .nil)
    (.cons (.iff (.e (.isi .int (.v 1))) (.cons (.ret (.ix (.lst (.cons (.bin .add (.v 1) (.k (.int 1))) (.cons (.bin .sub (.v 1) (.k (.int 1))) (.cons (.bin .sub (.k (.int 0)) (.v 1)) (.cons (.cmp .eq (.v 1) (.k (.int 1))) (.cons (.bi .str (.cons (.v 1) .nil)) (.cons (.tup (.cons (.v 1) .nil)) (.cons (.v 4) .nil)))))))) (.v 3)))
    .nil) .nil)
    (.cons (.iff (.e (.isi .str (.v 1))) (.cons (.ret (.ix (.lst (.cons (.bin .add (.v 1) (.k (.str "s"))) (.cons (.sl (.v 1) .no (.yes (.neg (.k (.int 1))))) (.cons (.up (.v 1)) (.cons (.rev (.v 1)) (.cons (.tup (.cons (.v 1) .nil)) (.cons (.k (.str "steps")) (.cons (.v 4) .nil)))))))) (.v 3)))
    .nil) .nil)
    (.cons (.ret (.v 4))
    .nil))))))))
def tlbn : Ss :=
  (.cons (.set (.n 3) (.call "_law_pick" (.cons (.v 0) (.cons (.k (.int 7)) .nil))))
    (.cons (.set (.n 4) (.call "_law_strange" (.cons (.v 0) .nil)))
    (.cons (.iff (.e (.isi .tuple (.v 1))) (.cons (.set (.n 5) (.call "_law_pick" (.cons (.v 0) (.cons (.bin .add (.bi .len (.cons (.v 1) .nil)) (.k (.int 1))) .nil))))
    (.cons (.set (.n 6) (.lst (.cons (.bi .list (.cons (.v 1) .nil)) (.cons (.bin .add (.bin .add (.sl (.v 1) .no (.yes (.v 5))) (.tup (.cons (.v 4) .nil))) (.sl (.v 1) (.yes (.v 5)) .no)) (.cons (.bin .add (.sl (.v 1) .no (.yes (.v 5))) (.sl (.v 1) (.yes (.bin .add (.v 5) (.k (.int 1)))) .no)) (.cons (.bin .add (.sl (.v 1) .no (.yes (.bin .add (.v 5) (.k (.int 1))))) (.sl (.v 1) (.yes (.v 5)) .no)) .nil))))))
    (.cons (.ret (.ix (.bin .add (.v 6) (.lst (.cons (.bin .add (.bin .add (.sl (.v 1) .no (.yes (.v 5))) (.rev (.sl (.v 1) (.yes (.v 5)) (.yes (.bin .add (.v 5) (.k (.int 2))))))) (.sl (.v 1) (.yes (.bin .add (.v 5) (.k (.int 2)))) .no)) (.cons (.rev (.v 1)) (.cons (.v 4) .nil))))) (.v 3)))
    .nil))) .nil)
    (.cons (.iff (.e (.isi .bool (.v 1))) (.cons (.ret (.ix (.lst (.cons (.not_ (.v 1)) (.cons (.bi .int (.cons (.v 1) .nil)) (.cons (.bi .str (.cons (.v 1) .nil)) (.cons (.tup (.cons (.v 1) .nil)) (.cons (.k .non) (.cons (.lst (.cons (.v 1) .nil)) (.cons (.v 4) .nil)))))))) (.v 3)))
    .nil) .nil)
    (.cons (.iff (.e (.isi .int (.v 1))) (.cons (.ret (.ix (.lst (.cons (.bin .add (.v 1) (.k (.int 1))) (.cons (.bin .sub (.v 1) (.k (.int 1))) (.cons (.bin .sub (.k (.int 0)) (.v 1)) (.cons (.cmp .eq (.v 1) (.k (.int 1))) (.cons (.bi .str (.cons (.v 1) .nil)) (.cons (.tup (.cons (.v 1) .nil)) (.cons (.v 4) .nil)))))))) (.v 3)))
    .nil) .nil)
    (.cons (.iff (.e (.isi .str (.v 1))) (.cons (.ret (.ix (.lst (.cons (.bin .add (.v 1) (.k (.str "s"))) (.cons (.sl (.v 1) .no (.yes (.neg (.k (.int 1))))) (.cons (.up (.v 1)) (.cons (.rev (.v 1)) (.cons (.tup (.cons (.v 1) .nil)) (.cons (.k (.str "steps")) (.cons (.v 4) .nil)))))))) (.v 3)))
    .nil) .nil)
    (.cons (.ret (.v 4))
    .nil)))))))
def tlbn2 : Ss :=
  (.cons (.ret (.ix (.bin .add (.v 6) (.lst (.cons (.bin .add (.bin .add (.sl (.v 1) .no (.yes (.v 5))) (.rev (.sl (.v 1) (.yes (.v 5)) (.yes (.bin .add (.v 5) (.k (.int 2))))))) (.sl (.v 1) (.yes (.bin .add (.v 5) (.k (.int 2)))) .no)) (.cons (.rev (.v 1)) (.cons (.v 4) .nil))))) (.v 3)))
    .nil)
theorem bent_tl2 (G : Ct) {R : SD} {h : AH} {a p2 : Addr} {ds l4 : List D} {o : D} {L n m : Nat} {y r j : Int} (e : h p2 = some (.lst l4)) (l4l : l4.length = 4) (hk : ∀ u, u ∈ l4 → Kd h (L + 2) (n + 3) (3 * m + 10000) u) (k : Kds h L (n - 1) (m - 10) ds) (n1 : 1 ≤ n) (m10 : 10 ≤ m) (ko : Kd h (L + 2) (n + 3) (3 * m + 10000) o) (y0 : 0 ≤ y) (y1 : y < 7) (m1 : m ≤ 4000000)
    (fin : ∀ h' u, Sub h h' → Kd h' (L + 2) (n + 3) (3 * m + 10000) u → R.rt u h') : wpB G tlbn2 R [some (.ref a), some (.tup ds), some (.int j), some (.int y), some o, some (.int r), some (.ref p2)] h := by
  have dl := k.len
  unfold tlbn2
  refine wpB_cons ?_
  open_k with e
  have sl := sizeLine_eq
  refine ⟨by simp only [List.length_append, List.length_take, List.length_drop, List.length_reverse]; omega, by simp only [List.length_append, List.length_take, List.length_drop, List.length_reverse]; omega, fun p3 np3 => ?_⟩
  have s3 := fun o => sub_but (o := o) np3
  refine ⟨l4, s3 _ _ _ e, by omega, fun p4 np4 => ?_⟩
  have s4 := fun o => sub_but (o := o) np4
  generalize hA : List.take (HT.sIx ds.length ds.length (some r)) ds = A at *
  generalize hB : (List.take (HT.sIx ds.length ds.length (some (r + 2)) - HT.sIx ds.length 0 (some r)) (List.drop (HT.sIx ds.length 0 (some r)) ds)).reverse = B at *
  generalize hC : List.take (ds.length - HT.sIx ds.length 0 (some (r + 2))) (List.drop (HT.sIx ds.length 0 (some (r + 2))) ds) = C at *
  have kA : Kds h L (n - 1) (m - 10) A := hA ▸ k.take
  have kB : Kds h L (n - 1) (m - 10) B := hB ▸ (k.sl).rev
  have kC : Kds h L (n - 1) (m - 10) C := hC ▸ k.sl
  obtain ⟨u, eu, mu⟩ := at_mem (l := l4 ++ [.tup (A ++ B ++ C), .tup ds.reverse, o]) y0 (by rw [List.length_append, l4l]; exact y1)
  refine ⟨u, eu, fin _ u ((s3 _).trans (s4 _)) (Kd.keep ?_ ((s3 _).trans (s4 _)).lk)⟩
  rcases List.mem_append.mp mu with mu | mu
  · exact hk u mu
  simp only [List.mem_cons, List.not_mem_nil, or_false] at mu
  rcases mu with rfl | rfl | rfl
  · exact kd_tup (((kA.app kB).app kC).mono (by omega) (Nat.le_refl _) (Nat.le_refl _)) (by omega) (by omega)
  · exact kd_tup (k.rev.mono (by omega) (Nat.le_refl _) (Nat.le_refl _)) (by omega) (by omega)
  · exact ko
theorem bent_tl (G : Ct) (hG : G.fn "_law_pick" = some (2, c_pickA)) (hS : G.fn "_law_strange" = some (1, c_strange)) {R : SD} {h : AH} {a cl : Addr} {d : D} {L n m : Nat} {j : Int} (k : Kd h L n m d) (L0 : 200 ≤ L) (L1 : L ≤ 1000) (m1 : m ≤ 4000000) (t : TapeA h a cl)
    (fin : ∀ d' h', Kd h' (L + 2) (n + 3) (3 * m + 10000) d' → TapeA h' a cl → Grow a h h' → R.rt d' h') : wpB G tlbn R [some (.ref a), some d, some (.int j), none, none, none, none] h := by
  unfold tlbn
  refine wpB_cons ?_
  open_k with hG
  refine ⟨a, cl, 7, rfl, t, by decide, by decide, fun y h1 y0 y1 t1 b1 => ?_⟩
  refine wpB_cons ?_
  open_k with hS
  refine ⟨a, cl, rfl, t1, fun o h2 ko t2 g2 => ?_⟩
  have gA : Grow a h h2 := b1.grow.trans g2
  have kA := k.keep (Grow.lkA t gA)
  obtain ⟨p, q1, q2, q3, q4⟩ := k.ex
  have ko' : Kd h2 (L + 2) (n + 3) (3 * m + 10000) o := ko.mono (by omega) (by omega) (by omega)
  -- a list of seven, one of them told
  have out : ∀ (h3 : AH) (p : Addr) (l : List D), Sub h2 h3 → h3 p = some (.lst l) → l.length = 7 → (∀ u, u ∈ l → Kd h3 (L + 2) (n + 3) (3 * m + 10000) u) → ∃ u, atI l y = some u ∧ R.rt u h3 := fun h3 p l s e hl hk => by
    obtain ⟨u, eu, mu⟩ := at_mem (l := l) y0 (by omega)
    exact ⟨u, eu, fin u h3 (hk u mu) (t2.sub s) (gA.trans (sub_grow s))⟩
  cases q1 with
  | non =>
    refine wpB_cons ?_
    open_k with true_and
    refine wpB_nil (G := G) (wpB_cons ?_)
    open_k with true_and
    refine wpB_nil (G := G) (wpB_cons ?_)
    open_k with true_and
    refine wpB_nil (G := G) (wpB_cons ?_)
    open_k with true_and
    refine wpB_nil (G := G) (wpB_cons ?_)
    open_k with true_and
    exact fin o h2 ko' t2 gA
  | bl b =>
    refine wpB_cons ?_
    open_k with true_and
    refine wpB_nil (G := G) (wpB_cons ?_)
    open_k with true_and
    refine wpB_cons ?_
    open_k with true_and
    change ∀ p : Addr, h2 p = none → _
    intro p np p2 np2
    have s1 := sub_but (o := .lst [.bl b]) np
    have s2 := sub_but (o := .lst [.bl !b, .int (if b = true then 1 else 0), .str (if b = true then "True" else "False"), .tup [.bl b], .non, .ref p, o]) np2
    refine out _ p2 _ (s1.trans s2) aput_same rfl fun u hu => ?_
    have ep := s2 _ _ (aput_same (h := h2) (a := p) (o := .lst [.bl b]))
    simp only [List.mem_cons, List.not_mem_nil, or_false] at hu
    have pw : 2 ^ 8 ≤ 2 ^ (L + 2) := Nat.pow_le_pow_right (by decide) (by omega)
    rcases hu with rfl | rfl | rfl | rfl | rfl | rfl | rfl
    · exact kd_bl (by omega)
    · refine kd_int ?_ (by omega)
      have : (if b = true then (1 : Int) else 0).natAbs ≤ 1 := by split <;> decide
      omega
    · cases b with
      | true => exact kd_str (Nat.le_trans (show (("True" : String) : Str).length ≤ 4 by decide +kernel) (by omega)) (show asc ("True" : String) by unfold asc; decide +kernel) (Nat.le_trans (show 4 * (("True" : String) : Str).length + 10 ≤ 50 by decide +kernel) (by omega))
      | false => exact kd_str (Nat.le_trans (show (("False" : String) : Str).length ≤ 5 by decide +kernel) (by omega)) (show asc ("False" : String) by unfold asc; decide +kernel) (Nat.le_trans (show 4 * (("False" : String) : Str).length + 10 ≤ 50 by decide +kernel) (by omega))
    · exact kd_tup (n := 0) (tgs_one (kd_bl (m := 10) (by omega))) (by omega) (by omega)
    · exact kd_non (by omega)
    · exact kd_lst (n := 0) ep (tgs_one (kd_bl (m := 10) (by omega))) (by omega) (by omega)
    · exact ko'.keep (s1.trans s2).lk
  | int i =>
    unfold fineP at q2
    refine wpB_cons ?_
    open_k with true_and
    refine wpB_nil (G := G) (wpB_cons ?_)
    open_k with true_and
    refine wpB_nil (G := G) (wpB_cons ?_)
    open_k with true_and
    refine wpB_cons ?_
    open_k with true_and
    change i.natAbs.log2 < 1920 ∧ ∀ p : Addr, h2 p = none → _
    refine ⟨log_ltP q2 (by omega), fun p np => ?_⟩
    have s1 := sub_but (o := .lst [.int (i + 1), .int (i - 1), .int (0 - i), .bl (decide (i = 1)), .str (toString i), .tup [.int i], o]) np
    refine out _ p _ s1 aput_same rfl fun u hu => ?_
    have pw : 2 ^ (L + 2) = 2 ^ L * 4 := Nat.pow_add ..
    have mi : 2000 ≤ m := by unfold wP at q4; exact q4
    simp only [List.mem_cons, List.not_mem_nil, or_false] at hu
    rcases hu with rfl | rfl | rfl | rfl | rfl | rfl | rfl
    · exact kd_int (by omega) (by omega)
    · exact kd_int (by omega) (by omega)
    · exact kd_int (by omega) (by omega)
    · exact kd_bl (by omega)
    · have := len_intS q2 (by omega)
      exact kd_str (by omega) (asc_int i) (by omega)
    · exact kd_tup (n := 0) (tgs_one (kd_int (L := L + 2) (m := 2000) (by omega) (by omega))) (by omega) (by omega)
    · exact ko'.keep s1.lk
  | str x =>
    unfold fineP at q2
    refine wpB_cons ?_
    open_k with true_and
    refine wpB_nil (G := G) (wpB_cons ?_)
    open_k with true_and
    refine wpB_nil (G := G) (wpB_cons ?_)
    open_k with true_and
    refine wpB_nil (G := G) (wpB_cons ?_)
    open_k with true_and
    refine wpB_cons ?_
    open_k with true_and
    have l1 : (Str.ofString "s").length = 1 := by decide +kernel
    have a1 : asc (Str.ofString "s") := by unfold asc; decide +kernel
    obtain ⟨x1, xa⟩ := q2
    refine ⟨by rw [sizeLine_eq]; omega, by rw [sizeLine_eq]; omega, (by omega : x.length ≤ 5592405), by rw [sizeLine_eq]; omega, fun p np => ?_⟩
    have s1 := sub_but (o := .lst [.str (x ++ Str.ofString "s"), .str (Txt.slice x none (some (-1))), .str (Txt.upper x), .str (revS x), .tup [.str x], .str (Str.ofString "steps"), o]) np
    refine out _ p _ s1 aput_same rfl fun u hu => ?_
    simp only [List.mem_cons, List.not_mem_nil, or_false] at hu
    rcases hu with rfl | rfl | rfl | rfl | rfl | rfl | rfl
    · have la : (x ++ Str.ofString "s").length = x.length + 1 := by rw [strLen_append, l1]
      exact kd_str (by omega) (asc_app xa a1) (by omega)
    · have z := asc_slice xa none (some (-1))
      exact kd_str (by omega) z.1 (by omega)
    · have z := asc_up xa
      exact kd_str (by omega) z.1 (by omega)
    · have z := asc_rev xa
      exact kd_str (by omega) z.1 (by omega)
    · exact kd_tup (n := 0) (tgs_one (kd_str (L := L + 2) (m := 4 * x.length + 10) (by omega) xa (by omega))) (by omega) (by omega)
    · exact kd_str (Nat.le_trans (show (Str.ofString "steps").length ≤ 5 by decide +kernel) (by omega)) (show asc (Str.ofString "steps") by unfold asc; decide +kernel) (Nat.le_trans (show 4 * (Str.ofString "steps").length + 10 ≤ 50 by decide +kernel) (by omega))
    · exact ko'.keep s1.lk
  | lst e q =>
    have e2 := Grow.lkA t gA _ _ e
    refine wpB_cons ?_
    open_k with e2
    refine wpB_nil (G := G) (wpB_cons ?_)
    open_k with e2
    refine wpB_nil (G := G) (wpB_cons ?_)
    open_k with e2
    refine wpB_nil (G := G) (wpB_cons ?_)
    open_k with e2
    refine wpB_nil (G := G) (wpB_cons ?_)
    open_k with e2
    exact fin o h2 ko' t2 gA
  | tup q =>
    rename_i ds ps
    have kt := kA.tup
    have kl := kt.1.len
    refine wpB_cons ?_
    open_k with true_and
    refine wpB_cons ?_
    open_k with hG
    refine ⟨a, cl, ds.length + 1, rfl, t2, by omega, by omega, fun r h3 r0 r1 t3 b3 => ?_⟩
    refine wpB_cons ?_
    open_k with true_and
    have dl : ds.length ≤ 2000000 := by omega
    intro p np
    refine ⟨by simp only [List.length_take]; omega, by simp only [List.length_append, List.length_take, List.length_drop, List.length_singleton]; rw [sizeLine_eq]; omega, by simp only [List.length_append, List.length_take, List.length_drop, List.length_singleton]; rw [sizeLine_eq]; omega, by simp only [List.length_append, List.length_take, List.length_drop, List.length_singleton]; rw [sizeLine_eq]; omega, fun p2 np2 => ?_⟩
    have s1 := sub_but (o := .lst ds) np
    have k3 : Kds h3 L (n - 1) (m - 10) ds := kt.1.keep (Grow.lkA t2 b3.grow)
    have n1 := kt.2.1
    have m10 := kt.2.2
    have kp : ∀ l : List D, Kds h3 (L + 2) (n + 2) (3 * m + 9900) l → Kd (aput h3 p (.lst ds)) (L + 2) (n + 3) (3 * m + 10000) (.tup l) := fun l kl => kd_tup (kl.keep s1.lk) (by omega) (by omega)
    have ka : ∀ l1 l2 : List D, Kds h3 L (n - 1) (m - 10) l1 → Kds h3 L (n - 1) (m - 10) l2 → Kds h3 (L + 2) (n + 2) (3 * m + 9900) (l1 ++ l2) := fun l1 l2 u v => (u.app v).mono (by omega) (by omega) (by omega)
    have e1 : aput h3 p (.lst ds) p = some (.lst ds) := aput_same
    refine bent_tl2 G (L := L) (n := n) (m := m) (h := aput (aput h3 p (.lst ds)) p2 _) (ds := ds) (o := o) aput_same rfl (fun u hu => ?_) (k3.keep (s1.trans (sub_but np2)).lk) n1 m10 (ko'.keep ((Grow.lkA t2 b3.grow).trans (s1.trans (sub_but np2)).lk)) y0 y1 m1 fun h' u s ku => fin u h' ku ((t3.sub (s1.trans (sub_but np2))).sub s) ((gA.bt b3).trans (sub_grow ((s1.trans (sub_but np2)).trans s)))
    refine Kd.keep ?_ (sub_but np2).lk
    simp only [List.mem_cons, List.not_mem_nil, or_false] at hu
    rcases hu with rfl | rfl | rfl | rfl
    · exact kd_lst e1 (k3.keep s1.lk) (by omega) (by omega) |>.mono (by omega) (Nat.le_refl _) (Nat.le_refl _)
    · refine kp _ ?_
      exact ((((k3.take.mono (by omega) (by omega) (Nat.le_refl _) : Kds h3 (L + 2) (n + 2) (m - 10) _)).app (tgs_one ((ko.mono (by omega) (by omega) (Nat.le_refl _)).keep (Grow.lkA t2 b3.grow)))).app (k3.sl.mono (by omega) (by omega) (Nat.le_refl _))).mono (Nat.le_refl _) (Nat.le_refl _) (by omega)
    · exact kp _ (ka _ _ k3.take k3.sl)
    · exact kp _ (ka _ _ k3.take k3.sl)
def c_bent (k : Nat) : ASp := fun vs h Q X => ∃ a cl, ∃ (j : Int) (d : D) (L n m : Nat), vs = [.ref a, d, .int j] ∧ TapeA h a cl ∧ 0 ≤ j ∧ j ≤ k ∧ Kd h L n m d ∧ 200 ≤ L ∧ L ≤ 1000 ∧ n ≤ 50 ∧ m ≤ 4000000 ∧
  ∀ d' h', Kd h' (L + 2) (n + 3) (3 * m + 10000) d' → TapeA h' a cl → Grow a h h' → Q d' h'
theorem m_bentG (k : Nat) (G : Ct) (hG : G.fn "_law_pick" = some (2, c_pickA)) (hS : G.fn "_law_strange" = some (1, c_strange)) (hB : 0 < k → G.fn "_law_bent" = some (3, c_bent (k - 1))) : Meets G n_law_bent_3.length b_law_bent_3 3 (c_bent k) := by
  rintro vs h Q X hl ⟨a, cl, j, d, L, n, m, rfl, t, j0, jk, k0, L0, L1, n1, m1, hq⟩
  change wpB G b_law_bent_3 _ [some _, some _, some _, none, none, none, none] h
  have tail : ∀ hA, TapeA hA a cl → Grow a h hA → wpB G tlbn { nx := fun _ h1 => ∃ h2, Sub h2 h1 ∧ Q .non h2, rt := fun d h1 => ∃ h2, Sub h2 h1 ∧ Q d h2, ex := fun x _ h1 => ∃ h2, Sub h2 h1 ∧ X x h2 } [some (.ref a), some d, some (.int j), none, none, none, none] hA := fun hA tA gA =>
    bent_tl G hG hS (k0.keep (Grow.lkA t gA)) L0 L1 m1 tA fun d' h' kd td gd => ⟨h', Sub.refl, hq d' h' kd td (gA.trans gd)⟩
  have lay := k0.laid (by omega) (by omega)
  obtain ⟨p, q1, q2, q3, q4⟩ := k0.ex
  refine wpB_cons ?_
  cases q1 with
  | non => open_k with true_and; exact wpB_nil (G := G) (tail h t Grow.refl)
  | bl b => open_k with true_and; exact wpB_nil (G := G) (tail h t Grow.refl)
  | int i => open_k with true_and; exact wpB_nil (G := G) (tail h t Grow.refl)
  | str x => open_k with true_and; exact wpB_nil (G := G) (tail h t Grow.refl)
  | lst e q => open_k with e; exact wpB_nil (G := G) (tail h t Grow.refl)
  | tup q =>
    rename_i ds ps
    obtain ⟨p2, dp, sp⟩ := lay
    open_k with true_and
    refine ⟨p2, .tuple [], dp, .tup .nil, sp, by decide, ?_⟩
    have ev : PyData.eqv p2 (.tuple []) = decide (ds = []) := by
      cases dp with
      | tup qq =>
        cases qq with
        | nil => simp [PyData.eqv, PyData.eqvAll]
        | cons x y => simp [PyData.eqv, PyData.eqvAll]
    rw [ev]
    by_cases dn : ds = []
    · rw [decide_eq_true dn]
      open_k with true_and
      exact wpB_nil (G := G) (tail h t Grow.refl)
    rw [decide_eq_false dn]
    open_k with true_and
    by_cases jp : (0 : Int) < j
    rotate_left
    · rw [decide_eq_false jp]
      open_k with true_and
      exact wpB_nil (G := G) (tail h t Grow.refl)
    rw [decide_eq_true jp]
    open_k with hG
    refine ⟨a, cl, 5, rfl, t, by decide, by decide, fun y h1 y0 y1 t1 b1 => ?_⟩
    open_k with true_and
    by_cases yp : (0 : Int) < y
    rotate_left
    · rw [decide_eq_false yp]
      open_k with true_and
      exact wpB_nil (G := G) (tail h1 t1 b1.grow)
    rw [decide_eq_true yp]
    open_k with true_and
    have kl := k0.tup.1.len
    have dpos : 0 < ds.length := List.length_pos_iff.mpr dn
    refine wpB_cons ?_
    open_k with hG
    refine ⟨a, cl, ds.length, rfl, t1, by omega, by omega, fun r h2 r0 r1 t2 b2 => ?_⟩
    obtain ⟨i, rfl⟩ : ∃ i : Nat, r = i := ⟨r.toNat, by omega⟩
    have gi : (i : Nat) < ds.length := by omega
    have ei : atI ds (i : Int) = some ds[i] := atI_nat (List.getElem?_eq_getElem gi)
    refine wpB_cons ?_
    open_k with And.intro ei (hB (by omega))
    have dsp : ds = ds.take i ++ ds[i] :: ds.drop (i + 1) := by rw [List.getElem_cons_drop, List.take_append_drop]
    have kt := k0.tup
    have kk := kt.1
    rw [dsp] at kk
    obtain ⟨ma, mb, hm, kA, kB⟩ := kk.cut
    obtain ⟨mx, mc, hm2, kX, kC⟩ := Kds.cut (ds := [ds[i]]) (es := ds.drop (i + 1)) kB
    obtain ⟨mx2, kX2, hm3⟩ := kX.sole
    have g2 := b1.grow.bt b2
    refine ⟨a, cl, j - 1, ds[i], L, n - 1, mx2, rfl, t2, by omega, by omega, kX2.keep (Grow.lkA t g2), L0, L1, by omega, by omega, fun d' h3 kd td gd => ?_⟩
    have g3 := g2.trans gd
    have lk := Grow.lkA t g3
    have sl := sizeLine_eq
    have lt := sIx_to (n := ds.length) (i := (i : Int)) (by omega) (by omega)
    have lf := sIx_from (n := ds.length) (i := (i : Int) + 1) (by omega) (by omega)
    rw [lt, lf]
    refine ⟨by simp only [List.length_take]; omega, by simp only [List.length_append, List.length_take, List.length_drop, List.length_singleton]; omega, h3, Sub.refl, ?_⟩
    refine hq _ h3 ?_ td g3
    have e1 : ((i : Int)).toNat = i := by omega
    have e2 : ((i : Int) + 1).toNat = i + 1 := by omega
    rw [e1, e2, List.take_of_length_le (l := List.drop (i + 1) ds) (by rw [List.length_drop]; omega)]
    have n1' := kt.2.1
    have m10 := kt.2.2
    have KA : Kds h3 (L + 2) (n + 2) ma (ds.take i) := (kA.keep lk).mono (by omega) (by omega) (Nat.le_refl _)
    have KC : Kds h3 (L + 2) (n + 2) mc (ds.drop (i + 1)) := (kC.keep lk).mono (by omega) (by omega) (Nat.le_refl _)
    have KD : Kds h3 (L + 2) (n + 2) (3 * mx2 + 10000 + 2) [d'] := tgs_one (kd.mono (Nat.le_refl _) (by omega) (Nat.le_refl _))
    exact kd_tup ((KA.app KD).app KC) (by omega) (by omega)
theorem m_bent0 (G : Ct) (hG : G.fn "_law_pick" = some (2, c_pickA)) (hS : G.fn "_law_strange" = some (1, c_strange)) : Meets G n_law_bent_3.length b_law_bent_3 3 (c_bent 0) := m_bentG 0 G hG hS fun z => absurd z (by decide)
theorem m_bent1 (G : Ct) (hG : G.fn "_law_pick" = some (2, c_pickA)) (hS : G.fn "_law_strange" = some (1, c_strange)) (hB : G.fn "_law_bent" = some (3, c_bent 0)) : Meets G n_law_bent_3.length b_law_bent_3 3 (c_bent 1) := m_bentG 1 G hG hS fun _ => hB
theorem m_bent2 (G : Ct) (hG : G.fn "_law_pick" = some (2, c_pickA)) (hS : G.fn "_law_strange" = some (1, c_strange)) (hB : G.fn "_law_bent" = some (3, c_bent 1)) : Meets G n_law_bent_3.length b_law_bent_3 3 (c_bent 2) := m_bentG 2 G hG hS fun _ => hB
theorem m_bent3 (G : Ct) (hG : G.fn "_law_pick" = some (2, c_pickA)) (hS : G.fn "_law_strange" = some (1, c_strange)) (hB : G.fn "_law_bent" = some (3, c_bent 2)) : Meets G n_law_bent_3.length b_law_bent_3 3 (c_bent 3) := m_bentG 3 G hG hS fun _ => hB
theorem m_bent4 (G : Ct) (hG : G.fn "_law_pick" = some (2, c_pickA)) (hS : G.fn "_law_strange" = some (1, c_strange)) (hB : G.fn "_law_bent" = some (3, c_bent 3)) : Meets G n_law_bent_3.length b_law_bent_3 3 (c_bent 4) := m_bentG 4 G hG hS fun _ => hB
theorem m_bent5 (G : Ct) (hG : G.fn "_law_pick" = some (2, c_pickA)) (hS : G.fn "_law_strange" = some (1, c_strange)) (hB : G.fn "_law_bent" = some (3, c_bent 4)) : Meets G n_law_bent_3.length b_law_bent_3 3 (c_bent 5) := m_bentG 5 G hG hS fun _ => hB
abbrev c_bent0 : ASp := c_bent 0
abbrev c_bent1 : ASp := c_bent 1
abbrev c_bent2 : ASp := c_bent 2
abbrev c_bent3 : ASp := c_bent 3
abbrev c_bent4 : ASp := c_bent 4
abbrev c_bent5 : ASp := c_bent 5
end MP
/-! K01a: fractions by the program -/
namespace MP
open PySem L2
local macro_rules | `(tactic| open_k with $t) => `(tactic| simp only [wpS, wpE, wpEs, wpEo, wpT, wpTo, wpI, wpG, wpGs, forW, whlW, callW, BinO.d, CmpO.d, Bi.d, Mt.d, parQ, Tgs.len,
  add_ii, add_ss, add_tt, add_rr, sub_ii, mul_ii, mul_ri, fdiv_ii, mod_ii, pow_ii, shl_ii, shr_ii, band_ii, eq_ii, ne_ii, eq_ss, ne_ss, lt_ii, is_n, nis_n, dn_i, dn_n, dn_t, dn_b, dn_s, dn_r, ix_ti, ix_ci, ix_pi, ix_ri, ix_rs, set_ri, set_rs, ty_n, ty_b, ty_i, ty_s, ty_t, ty_c, ty_r, isiB, AO.dct.injEq, sum_t, max_t, min_t, ixN_0, ixN_1, ixN_2, ixN_3,
  len_t, len_r, len_c, abs_i, max_ii, min_ii, tup_r, tup_t, lst_r, lst_t, lst_c, int_i, int_b, app_r, pop_ri, pop_r0, ext_rr, ext_rt, ins_ri, rev_r0, isl_r, rcv_r, rcv_t, ex_some, tru_b, tru_i, tru_t, tru_r, tru_n, sq_t, sq_c, sq_r, sq_f, zp_t, zp_r, en_t, en_r, slD, revD, setSl, atI_0, atI_1, atI_2, atI_3, isL,
  List.getElem?_cons_zero, List.getElem?_cons_succ, List.set_cons_zero, List.set_cons_succ, List.length_cons, List.length_nil, List.map_cons, List.map_nil, List.zip_cons_cons, List.zip_nil_right, List.nil_append, List.cons_append, if_true, if_false, Bool.false_eq_true, if_pos, true_and, and_true,
  exists_eq_left, exists_eq_left', exists_const, reduceCtorEq, false_and, exists_false, or_false, false_or, exists_eq', Option.some.injEq, AO.lst.injEq, D.ref.injEq, aput_same, aput_aput, small_line, HT.sIx_none, List.drop_zero, Nat.sub_zero, Nat.zero_add, Nat.zero_le, Option.getD_none, Option.getD_some, Nat.reduceAdd, Nat.reduceLeDiff,
  Bool.not_true, Bool.not_false, neg_f, neg_t, adel_aput, $t:term])
local macro_rules | `(tactic| walk_at "mp") => `(tactic| try open_k with true_and)
local macro_rules | `(tactic| walk_at "mp1") => `(tactic| (refine wpB_cons ?_; try open_k with true_and))
/-- so many bits -/
def Wd (k : Nat) (i : Int) : Prop := i.natAbs < 2 ^ k
theorem Wd.mono {k m : Nat} {i : Int} (h : Wd k i) (e : k ≤ m) : Wd m i := Nat.lt_of_lt_of_le h (Nat.pow_le_pow_right (by decide) e)
theorem Wd.mul {a b : Nat} {i j : Int} (h : Wd a i) (g : Wd b j) : Wd (a + b) (i * j) := by
  unfold Wd
  rw [Int.natAbs_mul, Nat.pow_add]
  exact Nat.mul_lt_mul'' h g
theorem Wd.add {k : Nat} {i j : Int} (h : Wd k i) (g : Wd k j) : Wd (k + 1) (i + j) := by
  unfold Wd at h g ⊢
  rw [Nat.pow_succ]
  have := Int.natAbs_add_le i j
  omega
theorem Wd.neg {k : Nat} {i : Int} (h : Wd k i) : Wd k (-i) := by unfold Wd at h ⊢; rw [Int.natAbs_neg]; exact h
theorem Wd.sub {k : Nat} {i j : Int} (h : Wd k i) (g : Wd k j) : Wd (k + 1) (i - j) := by rw [Int.sub_eq_add_neg]; exact h.add g.neg
theorem Wd.log {k m : Nat} {i : Int} (h : Wd k i) (e : k ≤ m) (h0 : 0 < m) : i.natAbs.log2 < m := by
  by_cases z : i.natAbs = 0
  · rw [z]; exact h0
  · exact (Nat.log2_lt z).mpr (Nat.lt_of_lt_of_le h (Nat.pow_le_pow_right (by decide) e))
theorem Wd.ok {a b : Nat} {i j : Int} (h : Wd a i) (g : Wd b j) (ha : a ≤ 9000 := by decide) (hb : b ≤ 9000 := by decide) : mulOk i j := by
  have h1 := h.log ha (by decide)
  have h2 := g.log hb (by decide)
  exact .inr (.inr (by omega))
/-- a fraction, of any thing -/
def isFrB : D → Bool
  | .tup [.int t, .int b] => decide (0 < b) && decide (Int.gcd t b = 1)
  | _ => false
abbrev n_common_divisor : List Str := ["one", "other"]
abbrev p_common_divisor : List Str := ["one", "other"]
def b_common_divisor : Ss :=
  (.cons (.whl (.cmp .gt (.v 1) (.k (.int 0))) (.cons (.par [0, 1] (.cons (.v 1) (.cons (.bin .mod (.v 0) (.v 1)) .nil)))
    .nil))
    (.cons (.ret (.v 0))
    .nil))
def c_cdiv : ASp := fun vs h Q X => ∃ a b : Int, vs = [.int a, .int b] ∧ 0 ≤ a ∧ 0 ≤ b ∧ Q (.int (Int.gcd a b : Nat)) h
theorem gcd_step {x y : Int} (hx : 0 ≤ x) (hy : 0 ≤ y) : Int.gcd y (x % y) = Int.gcd x y := by
  obtain ⟨a, rfl⟩ := Int.eq_ofNat_of_zero_le hx
  obtain ⟨b, rfl⟩ := Int.eq_ofNat_of_zero_le hy
  rw [← Int.natCast_emod]
  show Nat.gcd b (a % b) = Nat.gcd a b
  rw [Nat.gcd_comm b, ← Nat.gcd_rec, Nat.gcd_comm]
theorem m_cdiv (G : Ct) : Meets G n_common_divisor.length b_common_divisor 2 c_cdiv := by
  rintro vs h Q X hl ⟨a, b, rfl, ha, hb, hq⟩
  change wpB G b_common_divisor _ [some _, some _] h
  refine wpB_cons ?_
  refine ⟨fun n s h' => ∃ x y : Int, s = [some (.int x), some (.int y)] ∧ 0 ≤ x ∧ 0 ≤ y ∧ Int.gcd x y = Int.gcd a b ∧ n = y.toNat ∧ h' = h, ⟨_, a, b, rfl, ha, hb, rfl, rfl, rfl⟩, ?_⟩
  rintro n s h' ⟨x, y, rfl, hx, hy, e, rfl, rfl⟩
  open_k with true_and
  by_cases c : 0 < y
  · rw [decide_eq_true c]
    open_k with true_and
    refine wpB_cons ?_
    open_k with true_and
    refine ⟨c, ?_⟩
    have m0 := Int.emod_nonneg x (show y ≠ 0 by omega)
    have m1 := Int.emod_lt_of_pos x c
    refine wpB_nil (G := G) ⟨(x % y).toNat, _, _, by omega, SSub.refl, Sub.refl, y, x % y, rfl, hy, m0, ?_, rfl, rfl⟩
    rw [← e]; exact gcd_step hx hy
  · rw [decide_eq_false c]
    open_k with true_and
    have : y = 0 := by omega
    subst this
    rw [Int.gcd_zero_right] at e
    refine wpB_cons ?_
    open_k with true_and
    have ex : (Int.gcd a b : Nat) = x := by omega
    rw [ex] at hq
    exact ⟨_, Sub.refl, hq⟩
abbrev n_is_fraction : List Str := ["thing"]
abbrev p_is_fraction : List Str := ["thing"]
def b_is_fraction : Ss :=
  (.cons (.iff (.or_ (.not_ (.e (.isi .tuple (.v 0)))) (.or_ (.cmp .ne (.bi .len (.cons (.v 0) .nil)) (.k (.int 2))) (.or_ (.not_ (.e (.call "is_number" (.cons (.ix (.v 0) (.k (.int 0))) .nil)))) (.not_ (.e (.call "is_number" (.cons (.ix (.v 0) (.k (.int 1))) .nil))))))) (.cons (.ret (.k (.bl false)))
    .nil) .nil)
    (.cons (.ret (.and_ (.cmp .gt (.ix (.v 0) (.k (.int 1))) (.k (.int 0))) (.cmp .eq (.call "common_divisor" (.cons (.bi .abs (.cons (.ix (.v 0) (.k (.int 0))) .nil)) (.cons (.ix (.v 0) (.k (.int 1))) .nil))) (.k (.int 1)))))
    .nil))
def c_isfr1 : ASp := fun vs h Q X => ∃ (d : D) (L n m : Nat), vs = [d] ∧ Kd h L n m d ∧ Q (.bl (isFrB d)) h
theorem gcd_abs1 (t b : Int) : Int.gcd (t.natAbs : Int) b = Int.gcd t b := by simp [Int.gcd]
theorem m_isfr1 (G : Ct) (hN : G.fn "is_number" = some (1, c_isnumD)) (hC : G.fn "common_divisor" = some (2, c_cdiv)) : Meets G n_is_fraction.length b_is_fraction 1 c_isfr1 := by
  rintro vs h Q X hl ⟨d, L, n, m, rfl, kd, hq⟩
  change wpB G b_is_fraction _ [some _] h
  have kd0 := kd
  obtain ⟨p, q1, qq⟩ := kd.ex
  refine wpB_cons ?_
  cases q1 with
  | non => open_k with true_and; refine wpB_cons ?_; open_k with true_and; exact ⟨h, Sub.refl, hq⟩
  | bl b => open_k with true_and; refine wpB_cons ?_; open_k with true_and; exact ⟨h, Sub.refl, hq⟩
  | int i => open_k with true_and; refine wpB_cons ?_; open_k with true_and; exact ⟨h, Sub.refl, hq⟩
  | str x => open_k with true_and; refine wpB_cons ?_; open_k with true_and; exact ⟨h, Sub.refl, hq⟩
  | lst e q => open_k with e; refine wpB_cons ?_; open_k with true_and; exact ⟨h, Sub.refl, hq⟩
  | tup q =>
    rename_i ds ps2
    have km := kd0.tup.1.mem
    match ds, hq, km with
    | [], hq, _ => open_k with true_and; refine wpB_cons ?_; open_k with true_and; exact ⟨h, Sub.refl, hq⟩
    | [x], hq, _ =>
      have e : isFrB (.tup [x]) = false := by unfold isFrB; cases x <;> rfl
      rw [e] at hq
      open_k with true_and; refine wpB_cons ?_; open_k with true_and; exact ⟨h, Sub.refl, hq⟩
    | x :: y :: z :: r, hq, _ =>
      have e : isFrB (.tup (x :: y :: z :: r)) = false := by unfold isFrB; cases x <;> cases y <;> rfl
      rw [e] at hq
      open_k with true_and
      rw [decide_eq_false (by omega)]
      open_k with true_and
      refine wpB_cons ?_; open_k with true_and; exact ⟨h, Sub.refl, hq⟩
    | [x, y], hq, km =>
      open_k with true_and
      rw [show decide (((2 : Nat) : Int) = 2) = true by decide]
      open_k with hN
      refine ⟨x, rfl, (km x (List.mem_cons_self ..)).ty, ?_⟩
      cases cx : isNum x with
      | false =>
        have e : isFrB (.tup [x, y]) = false := by unfold isFrB; cases x <;> first | rfl | cases cx
        rw [e] at hq
        open_k with true_and
        refine wpB_cons ?_; open_k with true_and
        exact ⟨h, Sub.refl, hq⟩
      | true =>
      obtain ⟨i, rfl⟩ := isNum_eq cx
      open_k with hN
      refine ⟨y, rfl, (km y (List.mem_cons_of_mem _ (List.mem_cons_self ..))).ty, ?_⟩
      cases cy : isNum y with
      | false =>
        have e : isFrB (.tup [.int i, y]) = false := by unfold isFrB; cases y <;> first | rfl | cases cy
        rw [e] at hq
        open_k with true_and
        refine wpB_cons ?_; open_k with true_and
        exact ⟨h, Sub.refl, hq⟩
      | true =>
      obtain ⟨j, rfl⟩ := isNum_eq cy
      have hq : Q (.bl (decide (0 < j) && decide (Int.gcd i j = 1))) h := hq
      open_k with true_and
      refine wpB_nil (G := G) (wpB_cons ?_)
      open_k with true_and
      by_cases c1 : j > 0
      rotate_left
      · rw [decide_eq_false c1]
        rw [decide_eq_false (p := 0 < j) c1] at hq
        open_k with true_and
        exact ⟨h, Sub.refl, hq⟩
      rw [decide_eq_true c1]
      rw [decide_eq_true (p := 0 < j) c1, Bool.true_and] at hq
      open_k with hC
      refine ⟨_, _, rfl, by omega, by omega, ?_⟩
      rw [gcd_abs1]
      open_k with true_and
      have e : decide (((Int.gcd i j : Nat) : Int) = 1) = decide (Int.gcd i j = 1) := by
        rw [decide_eq_decide]; omega
      rw [e]
      exact ⟨h, Sub.refl, hq⟩
/-! the fraction top over bottom -/
def sgG (t b : Int) : Int := if b < 0 then -(Int.gcd t b : Nat) else (Int.gcd t b : Nat)
def frN (t b : Int) : Int × Int := (t.fdiv (sgG t b), b.fdiv (sgG t b))
theorem sgG_ne {t b : Int} (hb : b ≠ 0) : sgG t b ≠ 0 := by
  have : Int.gcd t b ≠ 0 := fun z => hb (Int.gcd_eq_zero_iff.mp z).2
  unfold sgG
  split <;> omega
theorem frN_ex {t b : Int} (hb : b ≠ 0) : t = sgG t b * (frN t b).1 ∧ b = sgG t b * (frN t b).2 := by
  have s0 := sgG_ne (t := t) hb
  have d1 : sgG t b ∣ t := by
    unfold sgG
    split
    · exact Int.neg_dvd.mpr (Int.gcd_dvd_left ..)
    · exact Int.gcd_dvd_left ..
  have d2 : sgG t b ∣ b := by
    unfold sgG
    split
    · exact Int.neg_dvd.mpr (Int.gcd_dvd_right ..)
    · exact Int.gcd_dvd_right ..
  obtain ⟨x, hx⟩ := d1
  obtain ⟨y, hy⟩ := d2
  have e1 : t.fdiv (sgG t b) = x := by
    conv => lhs; rw [hx]
    rw [← hx]
    conv => lhs; arg 1; rw [hx]
    exact Int.mul_fdiv_cancel_left x s0
  have e2 : b.fdiv (sgG t b) = y := by
    conv => lhs; arg 1; rw [hy]
    exact Int.mul_fdiv_cancel_left y s0
  unfold frN
  rw [e1, e2]
  exact ⟨hx, hy⟩
theorem frN_ok {t b : Int} (hb : b ≠ 0) : 0 < (frN t b).2 ∧ Int.gcd (frN t b).1 (frN t b).2 = 1 ∧ (frN t b).1 * b = t * (frN t b).2 := by
  obtain ⟨h1, h2⟩ := frN_ex (t := t) hb
  have gp : 0 < Int.gcd t b := Nat.pos_of_ne_zero fun z => hb (Int.gcd_eq_zero_iff.mp z).2
  have sn : (sgG t b).natAbs = Int.gcd t b := by unfold sgG; split <;> omega
  generalize hx : (frN t b).1 = x at h1 ⊢
  generalize hy : (frN t b).2 = y at h2 ⊢
  refine ⟨?_, ?_, ?_⟩
  · rcases Int.lt_trichotomy y 0 with c | c | c
    · exfalso
      by_cases z : b < 0
      · have : sgG t b < 0 := by unfold sgG; rw [if_pos z]; omega
        have := Int.mul_pos_of_neg_of_neg this c
        omega
      · have : 0 < sgG t b := by unfold sgG; rw [if_neg z]; omega
        have := Int.mul_neg_of_pos_of_neg this c
        omega
    · rw [c, Int.mul_zero] at h2; exact absurd h2 hb
    · exact c
  · have e : Int.gcd t b = (sgG t b).natAbs * Int.gcd x y := by
      generalize sgG t b = s at h1 h2
      conv => lhs; rw [h1, h2]
      exact Int.gcd_mul_left ..
    rw [sn] at e
    have : Int.gcd t b * 1 = Int.gcd t b * Int.gcd x y := by rw [Nat.mul_one]; exact e
    exact (Nat.eq_of_mul_eq_mul_left gp this).symm
  · conv => lhs; rw [h2]
    conv => rhs; rw [h1]
    generalize sgG t b = s
    rw [← Int.mul_assoc, Int.mul_comm x, Int.mul_assoc]
    try rw [Int.mul_assoc]
abbrev n_fraction : List Str := ["top", "bottom", "common"]
abbrev p_fraction : List Str := ["top", "bottom"]
def b_fraction : Ss :=
  (.cons (.set (.n 2) (.call "common_divisor" (.cons (.bi .abs (.cons (.v 0) .nil)) (.cons (.bi .abs (.cons (.v 1) .nil)) .nil))))
    (.cons (.iff (.cmp .lt (.v 1) (.k (.int 0))) (.cons (.set (.n 2) (.bin .sub (.k (.int 0)) (.v 2)))
    .nil) .nil)
    (.cons (.ret (.tup (.cons (.bin .fdn (.v 0) (.v 2)) (.cons (.bin .fdn (.v 1) (.v 2)) .nil))))
    .nil)))
def c_frac1 : ASp := fun vs h Q X => ∃ t b : Int, vs = [.int t, .int b] ∧ b ≠ 0 ∧ Wd 8000 b ∧ Q (prD (frN t b)) h
theorem m_frac1 (G : Ct) (hG : G.fn "common_divisor" = some (2, c_cdiv)) : Meets G n_fraction.length b_fraction 2 c_frac1 := by
  rintro vs h Q X hl ⟨t, b, rfl, hb, hz, hq⟩
  change wpB G b_fraction _ [some _, some _, none] h
  have lg : (sgG t b).natAbs.log2 < 9000 := by
    have sn : (sgG t b).natAbs = Int.gcd t b := by unfold sgG; split <;> omega
    have : Int.gcd t b ≤ b.natAbs := Nat.le_of_dvd (by omega) (Int.gcd_dvd_natAbs_right ..)
    exact Wd.log (k := 8000) (show (sgG t b).natAbs < 2 ^ 8000 by unfold Wd at hz; omega) (by decide) (by decide)
  have s0 := sgG_ne (t := t) hb
  refine wpB_cons ?_
  open_k with hG
  refine ⟨_, _, rfl, by omega, by omega, ?_⟩
  have e : Int.gcd (t.natAbs : Int) (b.natAbs : Int) = Int.gcd t b := by simp [Int.gcd]
  rw [e]
  refine wpB_cons ?_
  open_k with true_and
  by_cases c : b < 0
  · rw [decide_eq_true c]
    have es : (0 : Int) - (Int.gcd t b : Nat) = sgG t b := by unfold sgG; rw [if_pos c]; omega
    open_k with true_and
    refine wpB_cons ?_
    open_k with true_and
    rw [es]
    refine wpB_nil (G := G) (wpB_cons ?_)
    open_k with fdn_ii
    exact ⟨s0, lg, s0, lg, _, Sub.refl, hq⟩
  · rw [decide_eq_false c]
    have es : ((Int.gcd t b : Nat) : Int) = sgG t b := by unfold sgG; rw [if_neg c]
    open_k with true_and
    rw [es]
    refine wpB_nil (G := G) (wpB_cons ?_)
    open_k with fdn_ii
    exact ⟨s0, lg, s0, lg, _, Sub.refl, hq⟩
def Fp (k : Nat) (p : Int × Int) : Prop := Wd k p.1 ∧ Wd k p.2 ∧ 0 < p.2
abbrev n_plus : List Str := ["one", "other"]
abbrev p_plus : List Str := ["one", "other"]
def b_plus : Ss :=
  (.cons (.ret (.call "fraction" (.cons (.bin .add (.bin .mul (.ix (.v 0) (.k (.int 0))) (.ix (.v 1) (.k (.int 1)))) (.bin .mul (.ix (.v 1) (.k (.int 0))) (.ix (.v 0) (.k (.int 1))))) (.cons (.bin .mul (.ix (.v 0) (.k (.int 1))) (.ix (.v 1) (.k (.int 1)))) .nil))))
    .nil)
def c_plus1 : ASp := fun vs h Q X => ∃ p q : Int × Int, vs = [prD p, prD q] ∧ Fp 2000 p ∧ Fp 2000 q ∧ Q (prD (frN (p.1 * q.2 + q.1 * p.2) (p.2 * q.2))) h
theorem m_plus1 (G : Ct) (hF : G.fn "fraction" = some (2, c_frac1)) : Meets G n_plus.length b_plus 2 c_plus1 := by
  rintro vs h Q X hl ⟨p, q, rfl, ⟨p1, p2, p0⟩, ⟨q1, q2, q0⟩, hq⟩
  change wpB G b_plus _ [some (prD p), some (prD q)] h
  rw [prD_eq, prD_eq]
  refine wpB_cons ?_
  open_k with hF
  have := Int.mul_pos p0 q0
  exact ⟨p1.ok q2, q1.ok p2, p2.ok q2, _, _, rfl, by omega, (p2.mul q2).mono (by decide), _, Sub.refl, hq⟩
abbrev n_minus : List Str := ["one", "other"]
abbrev p_minus : List Str := ["one", "other"]
def b_minus : Ss :=
  (.cons (.ret (.call "fraction" (.cons (.bin .sub (.bin .mul (.ix (.v 0) (.k (.int 0))) (.ix (.v 1) (.k (.int 1)))) (.bin .mul (.ix (.v 1) (.k (.int 0))) (.ix (.v 0) (.k (.int 1))))) (.cons (.bin .mul (.ix (.v 0) (.k (.int 1))) (.ix (.v 1) (.k (.int 1)))) .nil))))
    .nil)
def c_minus1 : ASp := fun vs h Q X => ∃ p q : Int × Int, vs = [prD p, prD q] ∧ Fp 2000 p ∧ Fp 2000 q ∧ Q (prD (frN (p.1 * q.2 - q.1 * p.2) (p.2 * q.2))) h
theorem m_minus1 (G : Ct) (hF : G.fn "fraction" = some (2, c_frac1)) : Meets G n_minus.length b_minus 2 c_minus1 := by
  rintro vs h Q X hl ⟨p, q, rfl, ⟨p1, p2, p0⟩, ⟨q1, q2, q0⟩, hq⟩
  change wpB G b_minus _ [some (prD p), some (prD q)] h
  rw [prD_eq, prD_eq]
  refine wpB_cons ?_
  open_k with hF
  have := Int.mul_pos p0 q0
  exact ⟨p1.ok q2, q1.ok p2, p2.ok q2, _, _, rfl, by omega, (p2.mul q2).mono (by decide), _, Sub.refl, hq⟩
abbrev n_times : List Str := ["one", "other"]
abbrev p_times : List Str := ["one", "other"]
def b_times : Ss :=
  (.cons (.ret (.call "fraction" (.cons (.bin .mul (.ix (.v 0) (.k (.int 0))) (.ix (.v 1) (.k (.int 0)))) (.cons (.bin .mul (.ix (.v 0) (.k (.int 1))) (.ix (.v 1) (.k (.int 1)))) .nil))))
    .nil)
def c_times1 : ASp := fun vs h Q X => ∃ p q : Int × Int, vs = [prD p, prD q] ∧ Fp 2000 p ∧ Fp 2000 q ∧ Q (prD (frN (p.1 * q.1) (p.2 * q.2))) h
theorem m_times1 (G : Ct) (hF : G.fn "fraction" = some (2, c_frac1)) : Meets G n_times.length b_times 2 c_times1 := by
  rintro vs h Q X hl ⟨p, q, rfl, ⟨p1, p2, p0⟩, ⟨q1, q2, q0⟩, hq⟩
  change wpB G b_times _ [some (prD p), some (prD q)] h
  rw [prD_eq, prD_eq]
  refine wpB_cons ?_
  open_k with hF
  have := Int.mul_pos p0 q0
  exact ⟨p1.ok q1, p2.ok q2, _, _, rfl, by omega, (p2.mul q2).mono (by decide), _, Sub.refl, hq⟩
abbrev n_less : List Str := ["one", "other"]
abbrev p_less : List Str := ["one", "other"]
def b_less : Ss :=
  (.cons (.ret (.cmp .lt (.bin .mul (.ix (.v 0) (.k (.int 0))) (.ix (.v 1) (.k (.int 1)))) (.bin .mul (.ix (.v 1) (.k (.int 0))) (.ix (.v 0) (.k (.int 1))))))
    .nil)
def c_less1 : ASp := fun vs h Q X => ∃ p q : Int × Int, vs = [prD p, prD q] ∧ Fp 2000 p ∧ Fp 2000 q ∧ Q (.bl (decide (p.1 * q.2 < q.1 * p.2))) h
theorem m_less1 (G : Ct) : Meets G n_less.length b_less 2 c_less1 := by
  rintro vs h Q X hl ⟨p, q, rfl, ⟨p1, p2, p0⟩, ⟨q1, q2, q0⟩, hq⟩
  change wpB G b_less _ [some (prD p), some (prD q)] h
  rw [prD_eq, prD_eq]
  refine wpB_cons ?_
  open_k with true_and
  exact ⟨p1.ok q2, q1.ok p2, _, Sub.refl, hq⟩
end MP
/-! K01b: the law's own reckoning -/
namespace MP
open PySem L2
local macro_rules | `(tactic| open_k with $t) => `(tactic| simp only [wpS, wpE, wpEs, wpEo, wpT, wpTo, wpI, wpG, wpGs, forW, whlW, callW, BinO.d, CmpO.d, Bi.d, Mt.d, parQ, Tgs.len,
  add_ii, add_ss, add_tt, add_rr, sub_ii, mul_ii, mul_ri, fdiv_ii, mod_ii, pow_ii, shl_ii, shr_ii, band_ii, eq_ii, ne_ii, eq_ss, ne_ss, lt_ii, is_n, nis_n, dn_i, dn_n, dn_t, dn_b, dn_s, dn_r, ix_ti, ix_ci, ix_pi, ix_ri, ix_rs, set_ri, set_rs, ty_n, ty_b, ty_i, ty_s, ty_t, ty_c, ty_r, isiB, AO.dct.injEq, sum_t, max_t, min_t, ixN_0, ixN_1, ixN_2, ixN_3,
  len_t, len_r, len_c, abs_i, max_ii, min_ii, tup_r, tup_t, lst_r, lst_t, lst_c, int_i, int_b, app_r, pop_ri, pop_r0, ext_rr, ext_rt, ins_ri, rev_r0, isl_r, rcv_r, rcv_t, ex_some, tru_b, tru_i, tru_t, tru_r, tru_n, sq_t, sq_c, sq_r, sq_f, zp_t, zp_r, en_t, en_r, slD, revD, setSl, atI_0, atI_1, atI_2, atI_3, isL,
  List.getElem?_cons_zero, List.getElem?_cons_succ, List.set_cons_zero, List.set_cons_succ, List.length_cons, List.length_nil, List.map_cons, List.map_nil, List.zip_cons_cons, List.zip_nil_right, List.nil_append, List.cons_append, if_true, if_false, Bool.false_eq_true, if_pos, true_and, and_true,
  exists_eq_left, exists_eq_left', exists_const, reduceCtorEq, false_and, exists_false, or_false, false_or, exists_eq', Option.some.injEq, AO.lst.injEq, D.ref.injEq, aput_same, aput_aput, small_line, HT.sIx_none, List.drop_zero, Nat.sub_zero, Nat.zero_add, Nat.zero_le, Option.getD_none, Option.getD_some, Nat.reduceAdd, Nat.reduceLeDiff,
  Bool.not_true, Bool.not_false, neg_f, neg_t, adel_aput, $t:term])
local macro_rules | `(tactic| walk_at "mp") => `(tactic| try open_k with true_and)
local macro_rules | `(tactic| walk_at "mp1") => `(tactic| (refine wpB_cons ?_; try open_k with true_and))
abbrev n_law_wide : List Str := ["_law_tape_here", "_law_pieces", "_law_found", "_law_k"]
abbrev p_law_wide : List Str := ["_law_tape_here", "_law_pieces"]
def b_law_wide : Ss :=
  (.cons (.set (.n 2) (.k (.int 0)))
    (.cons (.for_ (.n 3) (.rng .no (.v 1)) (.cons (.set (.n 2) (.bin .add (.bin .mul (.v 2) (.bin .pow (.k (.int 10)) (.k (.int 6)))) (.call "_law_pick" (.cons (.v 0) (.cons (.bin .pow (.k (.int 10)) (.k (.int 6))) .nil)))))
    .nil))
    (.cons (.ret (.v 2))
    .nil)))
def c_wide1 : ASp := fun vs h Q X => ∃ a cl, ∃ k : Nat, vs = [.ref a, .int k] ∧ TapeA h a cl ∧ k ≤ 33 ∧ ∀ (r : Int) h', 0 ≤ r → r < 10 ^ (6 * k) → TapeA h' a cl → But a h h' → Q (.int r) h'
theorem m_wide1 (G : Ct) (hG : G.fn "_law_pick" = some (2, c_pickA)) : Meets G n_law_wide.length b_law_wide 2 c_wide1 := by
  rintro vs h Q X hl ⟨a, cl, k, rfl, t, hk, hq⟩
  change wpB G b_law_wide _ [some _, some _, none, none] h
  refine wpB_cons ?_
  open_k with true_and
  refine wpB_cons ?_
  open_k with true_and
  refine ⟨⟨by decide, by decide⟩, ⟨by omega, by omega⟩, ?_⟩
  refine ⟨fun i s h' => ∃ (r : Int) (d3 : Option D), s = [some (.ref a), some (.int k), some (.int r), d3] ∧ TapeA h' a cl ∧ But a h h' ∧ 0 ≤ r ∧ r < 10 ^ (6 * i), ⟨0, none, rfl, t, fun _ _ => rfl, by decide, by decide⟩, ?_⟩
  rintro i s h1 ⟨r, d3, rfl, t1, b1, r0, r1⟩
  refine ⟨?_, ?_⟩
  · intro ei
    rw [rngD_len] at ei
    have : i = k := by omega
    subst this
    refine wpB_cons ?_
    open_k with true_and
    exact ⟨h1, Sub.refl, hq r h1 r0 r1 t1 b1⟩
  intro d hd
  refine wpB_cons ?_
  open_k with hG
  have e6 : (10 : Int) ^ Int.toNat 6 = 1000000 := by decide
  rw [e6]
  refine ⟨by decide, by decide, by decide, .inr (.inl (by unfold small64; decide)), ?_⟩
  refine ⟨by decide, by decide, by decide, ?_⟩
  refine ⟨a, cl, 1000000, rfl, t1, by decide, by decide, fun z h2 z0 z1 t2 b2 => ?_⟩
  open_k with true_and
  refine wpB_nil (G := G) ⟨_, _, SSub.refl, Sub.refl, _, _, rfl, t2, fun b n => by rw [b2 b n, b1 b n], by omega, ?_⟩
  rw [show 6 * (i + 1) = 6 * i + 6 by omega, Int.pow_add, show (10 : Int) ^ 6 = 1000000 by decide]
  omega
/-! the greatest that divides both, by halves -/
theorem odd_half {k y : Int} (hk : 0 ≤ k) (hy : 0 ≤ y) (o : y % 2 = 1) : Int.gcd (2 * k) y = Int.gcd k y := by
  obtain ⟨a, rfl⟩ := Int.eq_ofNat_of_zero_le hk
  obtain ⟨b, rfl⟩ := Int.eq_ofNat_of_zero_le hy
  show Nat.gcd (2 * (a : Int)).natAbs b = Nat.gcd a b
  rw [show (2 * (a : Int)).natAbs = 2 * a by omega]
  have c : Nat.Coprime 2 b := by
    have e : b % 2 = 1 := by omega
    unfold Nat.Coprime
    rw [Nat.gcd_rec, e]
    rfl
  exact c.gcd_mul_left_cancel a
theorem gcd_two {x y : Int} (hx : x % 2 = 0) (hy : y % 2 = 0) : Int.gcd x y = 2 * Int.gcd (x / 2) (y / 2) := by
  have e1 : x = 2 * (x / 2) := by omega
  have e2 : y = 2 * (y / 2) := by omega
  conv => lhs; rw [e1, e2]
  exact Int.gcd_mul_left ..
theorem gcd_diff {x y : Int} (hx : 0 < x) (hy : 0 < y) : Int.gcd (min x y) ((x - y).natAbs : Int) = Int.gcd x y := by
  obtain ⟨a, rfl⟩ := Int.eq_ofNat_of_zero_le (Int.le_of_lt hx)
  obtain ⟨b, rfl⟩ := Int.eq_ofNat_of_zero_le (Int.le_of_lt hy)
  rcases Nat.le_total a b with c | c
  · rw [Int.min_eq_left (by omega)]
    show Nat.gcd a ((a : Int) - b).natAbs = Nat.gcd a b
    rw [show ((a : Int) - b).natAbs = b - a by omega]
    exact Nat.gcd_sub_self_right c
  · rw [Int.min_eq_right (by omega)]
    show Nat.gcd b ((a : Int) - b).natAbs = Nat.gcd a b
    rw [show ((a : Int) - b).natAbs = a - b by omega, Nat.gcd_comm a b]
    exact Nat.gcd_sub_self_right c
abbrev n_law_common : List Str := ["_law_one", "_law_other_here", "_law_twos"]
abbrev p_law_common : List Str := ["_law_one", "_law_other_here"]
def b_law_common : Ss :=
  (.cons (.iff (.or_ (.cmp .eq (.v 0) (.k (.int 0))) (.cmp .eq (.v 1) (.k (.int 0)))) (.cons (.ret (.bin .add (.v 0) (.v 1)))
    .nil) .nil)
    (.cons (.set (.n 2) (.k (.int 1)))
    (.cons (.whl (.and_ (.cmp .eq (.bin .mod (.v 0) (.k (.int 2))) (.k (.int 0))) (.cmp .eq (.bin .mod (.v 1) (.k (.int 2))) (.k (.int 0)))) (.cons (.par [0, 1, 2] (.cons (.bin .fdiv (.v 0) (.k (.int 2))) (.cons (.bin .fdiv (.v 1) (.k (.int 2))) (.cons (.bin .mul (.k (.int 2)) (.v 2)) .nil))))
    .nil))
    (.cons (.whl (.cmp .eq (.bin .mod (.v 0) (.k (.int 2))) (.k (.int 0))) (.cons (.set (.n 0) (.bin .fdiv (.v 0) (.k (.int 2))))
    .nil))
    (.cons (.whl (.cmp .gt (.v 1) (.k (.int 0))) (.cons (.whl (.cmp .eq (.bin .mod (.v 1) (.k (.int 2))) (.k (.int 0))) (.cons (.set (.n 1) (.bin .fdiv (.v 1) (.k (.int 2))))
    .nil))
    (.cons (.par [0, 1] (.cons (.bi .min (.cons (.v 0) (.cons (.v 1) .nil))) (.cons (.bi .abs (.cons (.bin .sub (.v 0) (.v 1)) .nil)) .nil)))
    .nil)))
    (.cons (.ret (.bin .mul (.v 0) (.v 2)))
    .nil))))))
def c_comm1 : ASp := fun vs h Q X => ∃ x y : Int, vs = [.int x, .int y] ∧ 0 ≤ x ∧ 0 ≤ y ∧ Wd 4000 x ∧ Wd 4000 y ∧ Q (.int (Int.gcd x y : Nat)) h
theorem m_comm1 (G : Ct) : Meets G n_law_common.length b_law_common 2 c_comm1 := by
  rintro vs h Q X hl ⟨x, y, rfl, hx, hy, wx, wy, hq⟩
  change wpB G b_law_common _ [some _, some _, none] h
  refine wpB_cons ?_
  open_k with true_and
  by_cases cx : x = 0
  · subst cx
    rw [decide_eq_true rfl]
    open_k with true_and
    refine wpB_cons ?_
    open_k with true_and
    rw [show (0 : Int) + y = ((Int.gcd 0 y : Nat) : Int) by rw [Int.gcd_zero_left]; omega]
    exact ⟨h, Sub.refl, hq⟩
  rw [decide_eq_false cx]
  open_k with true_and
  by_cases cy : y = 0
  · subst cy
    rw [decide_eq_true rfl]
    open_k with true_and
    refine wpB_cons ?_
    open_k with true_and
    rw [show x + 0 = ((Int.gcd x 0 : Nat) : Int) by rw [Int.gcd_zero_right]; omega]
    exact ⟨h, Sub.refl, hq⟩
  rw [decide_eq_false cy]
  open_k with true_and
  refine wpB_nil (G := G) (wpB_cons ?_)
  open_k with true_and
  refine wpB_cons ?_
  have gx : Int.gcd x y ≤ x.natAbs := Nat.le_of_dvd (by omega) (Int.gcd_dvd_natAbs_left ..)
  have gw : Wd 4000 (Int.gcd x y : Nat) := by unfold Wd at wx ⊢; omega
  generalize hg : Int.gcd x y = g at hq gw
  have l2 : Nat.log2 2 < 9000 := by decide
  have rest : ∀ u v w : Int, 0 < u → 0 < v → 0 < w → (u % 2 = 1 ∨ v % 2 = 1) → (Int.gcd u v : Int) * w = g → wpB G (match b_law_common with | .cons _ (.cons _ (.cons _ r)) => r | _ => .nil)
      { nx := fun _ h1 => ∃ h2, Sub h2 h1 ∧ Q .non h2, rt := fun d h1 => ∃ h2, Sub h2 h1 ∧ Q d h2, ex := fun x _ h1 => ∃ h2, Sub h2 h1 ∧ X x h2 } [some (.int u), some (.int v), some (.int w)] h := by
    intro u v w hu hv hw od e
    unfold b_law_common
    refine wpB_cons ?_
    refine ⟨fun n s h' => ∃ u v : Int, s = [some (.int u), some (.int v), some (.int w)] ∧ 0 < u ∧ 0 < v ∧ (u % 2 = 1 ∨ v % 2 = 1) ∧ (Int.gcd u v : Int) * w = g ∧ n = u.toNat ∧ h' = h, ⟨_, u, v, rfl, hu, hv, od, e, rfl, rfl⟩, ?_⟩
    clear hu hv od e
    rintro n s h' ⟨u, v, rfl, hu, hv, od, e, rfl, rfl⟩
    open_k with true_and
    refine ⟨by decide, ?_⟩
    by_cases c : u % 2 = 0
    · rw [decide_eq_true c]
      open_k with true_and
      refine wpB_cons ?_
      open_k with true_and
      have vo : v % 2 = 1 := by omega
      have eg := odd_half (k := u / 2) (y := v) (by omega) (by omega) vo
      rw [show 2 * (u / 2) = u by omega] at eg
      exact ⟨by decide, l2, wpB_nil (G := G) ⟨(u / 2).toNat, _, _, by omega, SSub.refl, Sub.refl, u / 2, v, rfl, by omega, hv, .inr vo, by rw [← eg]; exact e, rfl, rfl⟩⟩
    rw [decide_eq_false c]
    open_k with true_and
    have uo : u % 2 = 1 := by omega
    refine wpB_cons ?_
    refine ⟨fun n s h'' => ∃ u v : Int, s = [some (.int u), some (.int v), some (.int w)] ∧ 0 < u ∧ 0 ≤ v ∧ u % 2 = 1 ∧ (Int.gcd u v : Int) * w = g ∧ n = (u + v).toNat ∧ h'' = h', ⟨_, u, v, rfl, hu, by omega, uo, e, rfl, rfl⟩, ?_⟩
    clear hu hv od uo c e
    rintro n s h'' ⟨u, v, rfl, hu, hv, uo, e, rfl, rfl⟩
    open_k with true_and
    by_cases c : v > 0
    rotate_left
    · rw [decide_eq_false c]
      open_k with true_and
      have : v = 0 := by omega
      subst this
      rw [Int.gcd_zero_right] at e
      have e : u * w = g := by rw [show ((u.natAbs : Nat) : Int) = u by omega] at e; exact e
      refine wpB_cons ?_
      open_k with true_and
      have u4 : Wd 4000 u := by
        unfold Wd at gw ⊢
        have : u.natAbs * w.natAbs = g := by rw [← Int.natAbs_mul, e]; omega
        have : u.natAbs ≤ u.natAbs * w.natAbs := Nat.le_mul_of_pos_right _ (by omega)
        omega
      have w4 : Wd 4000 w := by
        unfold Wd at gw ⊢
        have : u.natAbs * w.natAbs = g := by rw [← Int.natAbs_mul, e]; omega
        have : w.natAbs ≤ u.natAbs * w.natAbs := Nat.le_mul_of_pos_left _ (by omega)
        omega
      rw [e]
      exact ⟨u4.ok w4, _, Sub.refl, hq⟩
    rw [decide_eq_true c]
    open_k with true_and
    refine wpB_cons ?_
    refine ⟨fun n s h3 => ∃ v' : Int, s = [some (.int u), some (.int v'), some (.int w)] ∧ 0 < v' ∧ v' ≤ v ∧ (Int.gcd u v' : Int) * w = g ∧ n = v'.toNat ∧ h3 = h'', ⟨_, v, rfl, c, by omega, e, rfl, rfl⟩, ?_⟩
    rintro n s h3 ⟨v', rfl, hv', lv, e', rfl, rfl⟩
    open_k with true_and
    refine ⟨by decide, ?_⟩
    by_cases c2 : v' % 2 = 0
    · rw [decide_eq_true c2]
      open_k with true_and
      refine wpB_cons ?_
      open_k with true_and
      have eg := odd_half (k := v' / 2) (y := u) (by omega) (by omega) uo
      rw [show 2 * (v' / 2) = v' by omega, Int.gcd_comm v', Int.gcd_comm (v' / 2)] at eg
      exact ⟨by decide, l2, wpB_nil (G := G) ⟨(v' / 2).toNat, _, _, by omega, SSub.refl, Sub.refl, v' / 2, rfl, by omega, by omega, by rw [← eg]; exact e', rfl, rfl⟩⟩
    rw [decide_eq_false c2]
    open_k with true_and
    refine wpB_cons ?_
    open_k with true_and
    have em : (if u ≤ v' then u else v') = min u v' := by omega
    refine wpB_nil (G := G) ⟨(min u v' + ((u - v').natAbs : Int)).toNat, _, _, by omega, SSub.refl, Sub.refl, min u v', ((u - v').natAbs : Int), rfl, by omega, by omega, by omega, by rw [gcd_diff hu hv']; exact e', rfl, rfl⟩
  refine ⟨fun n s h' => ∃ u v w : Int, s = [some (.int u), some (.int v), some (.int w)] ∧ 0 < u ∧ 0 < v ∧ 0 < w ∧ (Int.gcd u v : Int) * w = g ∧ n = u.toNat ∧ h' = h, ⟨_, x, y, 1, rfl, by omega, by omega, by decide, by rw [hg]; omega, rfl, rfl⟩, ?_⟩
  rintro n s h' ⟨u, v, w, rfl, hu, hv, hw, e, rfl, rfl⟩
  open_k with true_and
  refine ⟨by decide, ?_⟩
  by_cases c : u % 2 = 0
  · rw [decide_eq_true c]
    open_k with true_and
    refine ⟨by decide, ?_⟩
    by_cases c2 : v % 2 = 0
    · rw [decide_eq_true c2]
      open_k with true_and
      refine wpB_cons ?_
      open_k with true_and
      have eg := gcd_two c c2
      refine ⟨by decide, l2, by decide, l2, .inl (by unfold small64; decide), wpB_nil (G := G) ⟨(u / 2).toNat, _, _, by omega, SSub.refl, Sub.refl, u / 2, v / 2, 2 * w, rfl, by omega, by omega, by omega, ?_, rfl, rfl⟩⟩
      rw [eg, Int.natCast_mul] at e
      rw [← e, ← Int.mul_assoc, Int.mul_comm _ 2]
      rfl
    · rw [decide_eq_false c2]
      open_k with true_and
      exact rest u v w hu hv hw (.inr (by omega)) e
  · rw [decide_eq_false c]
    open_k with true_and
    exact rest u v w hu hv hw (.inl (by omega)) e
theorem kd_wd {h : AH} {L n m : Nat} {i : Int} (k : Kd h L n m (.int i)) : Wd L i := by
  obtain ⟨p, q1, q2, _⟩ := k.ex
  cases q1 with
  | int => unfold fineP at q2; exact q2
abbrev n_law_is_number : List Str := ["_law_thing"]
abbrev p_law_is_number : List Str := ["_law_thing"]
def b_law_is_number : Ss :=
  (.cons (.ret (.and_ (.isi .int (.v 0)) (.not_ (.isi .bool (.v 0)))))
    .nil)
theorem m_lisnum01 (G : Ct) : Meets G n_law_is_number.length b_law_is_number 1 c_isnumD := m_isnumD G
abbrev n_law_is_fraction : List Str := ["_law_thing", "_law_one"]
abbrev p_law_is_fraction : List Str := ["_law_thing"]
def b_law_is_fraction : Ss :=
  (.cons (.iff (.or_ (.not_ (.e (.isi .tuple (.v 0)))) (.or_ (.cmp .ne (.bi .len (.cons (.v 0) .nil)) (.k (.int 2))) (.cmp .in_ (.k (.bl false)) (.lc [("_law_one", 1)] (.n 1) (.e false (.v 0)) .no (.call "_law_is_number" (.cons (.v 1) .nil)))))) (.cons (.ret (.k (.bl false)))
    .nil) .nil)
    (.cons (.ret (.and_ (.cmp .ge (.ix (.v 0) (.k (.int 1))) (.k (.int 1))) (.cmp .eq (.call "_law_common" (.cons (.bi .abs (.cons (.ix (.v 0) (.k (.int 0))) .nil)) (.cons (.ix (.v 0) (.k (.int 1))) .nil))) (.k (.int 1)))))
    .nil))
def c_lisfr1 : ASp := fun vs h Q X => ∃ (d : D) (L n m : Nat), vs = [d] ∧ Kd h L n m d ∧ L ≤ 4000 ∧ ∀ h', Sub h h' → Q (.bl (isFrB d)) h'
theorem m_lisfr1 (G : Ct) (hN : G.fn "_law_is_number" = some (1, c_isnumD)) (hC : G.fn "_law_common" = some (2, c_comm1)) : Meets G n_law_is_fraction.length b_law_is_fraction 1 c_lisfr1 := by
  rintro vs h Q X hl ⟨d, L, n, m, rfl, kd, l1, hq⟩
  change wpB G b_law_is_fraction _ [some _, none] h
  have kd0 := kd
  obtain ⟨p, q1, qq⟩ := kd.ex
  refine wpB_cons ?_
  cases q1 with
  | non => open_k with true_and; refine wpB_cons ?_; open_k with true_and; exact ⟨h, Sub.refl, hq _ Sub.refl⟩
  | bl b => open_k with true_and; refine wpB_cons ?_; open_k with true_and; exact ⟨h, Sub.refl, hq _ Sub.refl⟩
  | int i => open_k with true_and; refine wpB_cons ?_; open_k with true_and; exact ⟨h, Sub.refl, hq _ Sub.refl⟩
  | str x => open_k with true_and; refine wpB_cons ?_; open_k with true_and; exact ⟨h, Sub.refl, hq _ Sub.refl⟩
  | lst e q => open_k with e; refine wpB_cons ?_; open_k with true_and; exact ⟨h, Sub.refl, hq _ Sub.refl⟩
  | tup q =>
    rename_i ds ps2
    have km := kd0.tup.1.mem
    match ds, hq, km with
    | [], hq, _ => open_k with true_and; refine wpB_cons ?_; open_k with true_and; exact ⟨h, Sub.refl, hq _ Sub.refl⟩
    | [x], hq, _ =>
      have e : isFrB (.tup [x]) = false := by unfold isFrB; cases x <;> rfl
      rw [e] at hq
      open_k with true_and; refine wpB_cons ?_; open_k with true_and; exact ⟨h, Sub.refl, hq _ Sub.refl⟩
    | x :: y :: z :: r, hq, _ =>
      have e : isFrB (.tup (x :: y :: z :: r)) = false := by unfold isFrB; cases x <;> cases y <;> rfl
      rw [e] at hq
      open_k with true_and
      rw [decide_eq_false (by omega)]
      open_k with true_and
      refine wpB_cons ?_; open_k with true_and; exact ⟨h, Sub.refl, hq _ Sub.refl⟩
    | [x, y], hq, km =>
      open_k with true_and
      rw [show decide (((2 : Nat) : Int) = 2) = true by decide]
      open_k with true_and
      rw [lcW_eq]
      open_k with hN
      refine lc_all [x, y] id (fun x => .bl (isNum x)) (List.map_id _).symm (by simp) trivial (fun x hx P P2 hP => ?_) (fun p1 np1 => ?_)
      · simp only [wipeA]
        open_k with hN
        exact ⟨x, rfl, (km x hx).ty, hP _ Sub.refl⟩
      refine in_bls_r (ns := [isNum x, isNum y]) aput_same ?_
      rw [neg_f]
      have s1 : Sub h (aput h p1 (.lst ([x, y].map fun x => D.bl (isNum x)))) := sub_but np1
      generalize aput h p1 (.lst ([x, y].map fun x => D.bl (isNum x))) = h1 at s1
      cases cx : isNum x with
      | false =>
        have e : isFrB (.tup [x, y]) = false := by unfold isFrB; cases x <;> first | rfl | cases cx
        rw [e] at hq
        rw [decide_eq_true (by simp)]
        open_k with true_and
        refine wpB_cons ?_; open_k with true_and
        exact ⟨_, Sub.refl, hq _ s1⟩
      | true =>
      obtain ⟨i, rfl⟩ := isNum_eq cx
      cases cy : isNum y with
      | false =>
        have e : isFrB (.tup [.int i, y]) = false := by unfold isFrB; cases y <;> first | rfl | cases cy
        rw [e] at hq
        rw [decide_eq_true (by simp)]
        open_k with true_and
        refine wpB_cons ?_; open_k with true_and
        exact ⟨_, Sub.refl, hq _ s1⟩
      | true =>
      obtain ⟨j, rfl⟩ := isNum_eq cy
      have wi := kd_wd (km (.int i) (List.mem_cons_self ..))
      have wj := kd_wd (km (.int j) (List.mem_cons_of_mem _ (List.mem_cons_self ..)))
      have hq : ∀ h', Sub h h' → Q (.bl (decide (0 < j) && decide (Int.gcd i j = 1))) h' := hq
      rw [decide_eq_false (by simp)]
      open_k with true_and
      refine wpB_nil (G := G) (wpB_cons ?_)
      open_k with true_and
      by_cases c1 : 1 ≤ j
      rotate_left
      · rw [decide_eq_false c1]
        rw [decide_eq_false (p := 0 < j) (by omega)] at hq
        open_k with true_and
        exact ⟨_, Sub.refl, hq _ s1⟩
      rw [decide_eq_true c1]
      rw [decide_eq_true (p := 0 < j) (by omega)] at hq
      open_k with hC
      refine ⟨_, _, rfl, by omega, by omega, ?_, wj.mono l1, ?_⟩
      · have := wi.mono l1
        unfold Wd at this ⊢
        omega
      rw [gcd_abs1]
      open_k with true_and
      have e : decide (((Int.gcd i j : Nat) : Int) = 1) = decide (Int.gcd i j = 1) := by
        rw [decide_eq_decide]; omega
      rw [e]
      exact ⟨_, Sub.refl, hq _ s1⟩
abbrev n_law_as_much : List Str := ["_law_told", "_law_top_here", "_law_bottom"]
abbrev p_law_as_much : List Str := ["_law_told", "_law_top_here", "_law_bottom"]
def b_law_as_much : Ss :=
  (.cons (.ret (.and_ (.call "_law_is_fraction" (.cons (.v 0) .nil)) (.cmp .eq (.bin .mul (.ix (.v 0) (.k (.int 0))) (.v 2)) (.bin .mul (.v 1) (.ix (.v 0) (.k (.int 1)))))))
    .nil)
def c_much1 : ASp := fun vs h Q X => ∃ (p : Int × Int) (t b : Int), vs = [prD p, .int t, .int b] ∧ Wd 4000 p.1 ∧ Wd 4000 p.2 ∧ Wd 4000 t ∧ Wd 4000 b ∧ 0 < p.2 ∧ Int.gcd p.1 p.2 = 1 ∧ p.1 * b = t * p.2 ∧ ∀ h', Sub h h' → Q (.bl true) h'
theorem m_much1 (G : Ct) (hF : G.fn "_law_is_fraction" = some (1, c_lisfr1)) : Meets G n_law_as_much.length b_law_as_much 3 c_much1 := by
  rintro vs h Q X hl ⟨p, t, b, rfl, p1, p2, wt, wb, p0, g1, e, hq⟩
  change wpB G b_law_as_much _ [some _, some _, some _] h
  refine wpB_cons ?_
  rw [prD_eq]
  open_k with hF
  have kp : Kd h 4000 1 4014 (.tup [.int p.1, .int p.2]) := kd_tup (n := 0) (tgs_cons (kd_int (m := 2000) p1 (by decide)) (tgs_one (kd_int (m := 2000) p2 (by decide)))) (by decide) (by decide)
  refine ⟨_, _, _, _, rfl, kp, by decide, fun h1 s1 => ?_⟩
  have ef : isFrB (.tup [.int p.1, .int p.2]) = true := by
    show (decide (0 < p.2) && decide (Int.gcd p.1 p.2 = 1)) = true
    rw [decide_eq_true p0, decide_eq_true g1]; rfl
  rw [ef]
  open_k with true_and
  refine ⟨p1.ok wb, wt.ok p2, ?_⟩
  rw [decide_eq_true e]
  exact ⟨h1, Sub.refl, hq _ s1⟩
end MP
/-! K01c: which side; numbers drawn; reckoned -/
namespace MP
open PySem L2
local macro_rules | `(tactic| open_k with $t) => `(tactic| simp only [wpS, wpE, wpEs, wpEo, wpT, wpTo, wpI, wpG, wpGs, forW, whlW, callW, BinO.d, CmpO.d, Bi.d, Mt.d, parQ, Tgs.len,
  add_ii, add_ss, add_tt, add_rr, sub_ii, mul_ii, mul_ri, fdiv_ii, mod_ii, pow_ii, shl_ii, shr_ii, band_ii, eq_ii, ne_ii, eq_ss, ne_ss, lt_ii, is_n, nis_n, dn_i, dn_n, dn_t, dn_b, dn_s, dn_r, ix_ti, ix_ci, ix_pi, ix_ri, ix_rs, set_ri, set_rs, ty_n, ty_b, ty_i, ty_s, ty_t, ty_c, ty_r, isiB, AO.dct.injEq, sum_t, max_t, min_t, ixN_0, ixN_1, ixN_2, ixN_3,
  len_t, len_r, len_c, abs_i, max_ii, min_ii, tup_r, tup_t, lst_r, lst_t, lst_c, int_i, int_b, app_r, pop_ri, pop_r0, ext_rr, ext_rt, ins_ri, rev_r0, isl_r, rcv_r, rcv_t, ex_some, tru_b, tru_i, tru_t, tru_r, tru_n, sq_t, sq_c, sq_r, sq_f, zp_t, zp_r, en_t, en_r, slD, revD, setSl, atI_0, atI_1, atI_2, atI_3, isL,
  List.getElem?_cons_zero, List.getElem?_cons_succ, List.set_cons_zero, List.set_cons_succ, List.length_cons, List.length_nil, List.map_cons, List.map_nil, List.zip_cons_cons, List.zip_nil_right, List.nil_append, List.cons_append, if_true, if_false, Bool.false_eq_true, if_pos, true_and, and_true,
  exists_eq_left, exists_eq_left', exists_const, reduceCtorEq, false_and, exists_false, or_false, false_or, exists_eq', Option.some.injEq, AO.lst.injEq, D.ref.injEq, aput_same, aput_aput, small_line, HT.sIx_none, List.drop_zero, Nat.sub_zero, Nat.zero_add, Nat.zero_le, Option.getD_none, Option.getD_some, Nat.reduceAdd, Nat.reduceLeDiff,
  Bool.not_true, Bool.not_false, neg_f, neg_t, adel_aput, $t:term])
local macro_rules | `(tactic| walk_at "mp") => `(tactic| try open_k with true_and)
local macro_rules | `(tactic| walk_at "mp1") => `(tactic| (refine wpB_cons ?_; try open_k with true_and))
theorem fl_facts {a b : Int} (hb : 0 < b) : a / b * b ≤ a ∧ a < a / b * b + b := by
  have h1 := Int.emod_nonneg a (show b ≠ 0 by omega)
  have h2 := Int.emod_lt_of_pos a hb
  have h3 := Int.mul_ediv_add_emod a b
  rw [Int.mul_comm] at h3
  omega
/-- the greater whole part is the greater fraction -/
theorem side_gt {a b c d : Int} (hb : 0 < b) (hd : 0 < d) (h : c / d < a / b) : 0 < a * d - c * b := by
  obtain ⟨f1, f2⟩ := fl_facts (a := a) hb
  obtain ⟨g1, g2⟩ := fl_facts (a := c) hd
  have e1 : (c / d + 1) * (b * d) ≤ (a / b) * (b * d) := Int.mul_le_mul_of_nonneg_right (by omega) (Int.le_of_lt (Int.mul_pos hb hd))
  have e2 : (a / b * b) * d ≤ a * d := Int.mul_le_mul_of_nonneg_right f1 (Int.le_of_lt hd)
  have e3 : c * b < (c / d * d + d) * b := Int.mul_lt_mul_of_pos_right g2 hb
  have e4 : (a / b * b) * d = (a / b) * (b * d) := Int.mul_assoc ..
  have e5 : (c / d * d + d) * b = (c / d + 1) * (b * d) := by
    rw [Int.add_mul (c / d) 1, Int.one_mul, Int.add_mul, Int.mul_assoc, Int.mul_comm d b]
  omega
def SgR (sg X F : Int) : Prop := (sg = 1 ∧ (X < 0 ↔ F < 0)) ∨ (sg = -1 ∧ (X < 0 ↔ 0 < F))
abbrev n_law_side : List Str := ["_law_one", "_law_other_here", "_law_side_here", "_law_turn", "_law_mine", "_law_theirs"]
abbrev p_law_side : List Str := ["_law_one", "_law_other_here"]
def b_law_side : Ss :=
  (.cons (.set (.n 2) (.k (.int 1)))
    (.cons (.for_ (.n 3) (.rng .no (.k (.int 2000))) (.cons (.par [4, 5] (.cons (.bin .fdiv (.ix (.v 0) (.k (.int 0))) (.ix (.v 0) (.k (.int 1)))) (.cons (.bin .fdiv (.ix (.v 1) (.k (.int 0))) (.ix (.v 1) (.k (.int 1)))) .nil)))
    (.cons (.iff (.cmp .ne (.v 4) (.v 5)) (.cons (.ret (.ite (.cmp .gt (.v 4) (.v 5)) (.v 2) (.bin .sub (.k (.int 0)) (.v 2))))
    .nil) .nil)
    (.cons (.par [0, 1] (.cons (.tup (.cons (.ix (.v 0) (.k (.int 1))) (.cons (.bin .sub (.ix (.v 0) (.k (.int 0))) (.bin .mul (.v 4) (.ix (.v 0) (.k (.int 1))))) .nil))) (.cons (.tup (.cons (.ix (.v 1) (.k (.int 1))) (.cons (.bin .sub (.ix (.v 1) (.k (.int 0))) (.bin .mul (.v 5) (.ix (.v 1) (.k (.int 1))))) .nil))) .nil)))
    (.cons (.iff (.or_ (.cmp .eq (.ix (.v 0) (.k (.int 1))) (.k (.int 0))) (.cmp .eq (.ix (.v 1) (.k (.int 1))) (.k (.int 0)))) (.cons (.ret (.bin .mul (.v 2) (.bin .sub (.bi .int (.cons (.cmp .eq (.ix (.v 1) (.k (.int 1))) (.k (.int 0))) .nil)) (.bi .int (.cons (.cmp .eq (.ix (.v 0) (.k (.int 1))) (.k (.int 0))) .nil)))))
    .nil) .nil)
    (.cons (.set (.n 2) (.bin .sub (.k (.int 0)) (.v 2)))
    .nil))))))
    (.cons (.ret (.k (.int 0)))
    .nil)))
def c_side1 : ASp := fun vs h Q X => ∃ p q : Int × Int, vs = [prD p, prD q] ∧ Fp 900 p ∧ Fp 900 q ∧ ∀ v : Int, (v < 0 ↔ p.1 * q.2 < q.1 * p.2) → Q (.int v) h
theorem m_side1 (G : Ct) : Meets G n_law_side.length b_law_side 2 c_side1 := by
  rintro vs h Q X hl ⟨p, q, rfl, fp, fq, hq⟩
  change wpB G b_law_side _ [some (prD p), some (prD q), none, none, none, none] h
  refine wpB_cons ?_
  open_k with true_and
  refine wpB_cons ?_
  open_k with true_and
  refine ⟨⟨by decide, by decide⟩, ⟨by decide, by decide⟩, ?_⟩
  generalize hX : p.1 * q.2 - q.1 * p.2 = Y at *
  have hq : ∀ v : Int, (v < 0 ↔ Y < 0) → Q (.int v) h := fun v e => hq v (by rw [e, ← hX]; omega)
  refine ⟨fun i s h' => ∃ (p q : Int × Int) (sg : Int) (d3 d4 d5 : Option D), s = [some (prD p), some (prD q), some (.int sg), d3, d4, d5] ∧ h' = h ∧ Fp 900 p ∧ Fp 900 q ∧ SgR sg Y (p.1 * q.2 - q.1 * p.2) ∧ (i = 0 ∨ p.2 < p.1 ∧ p.1.natAbs * p.2.natAbs * 2 ^ (i - 1) ≤ 2 ^ 1800), ⟨p, q, 1, none, none, none, rfl, rfl, fp, fq, .inl ⟨rfl, by rw [hX]⟩, .inl rfl⟩, ?_⟩
  clear hX fp fq
  rintro i s h' ⟨p, q, sg, d3, d4, d5, rfl, rfl, fp, fq, sr, pg⟩
  obtain ⟨p1, p2, p0⟩ := fp
  obtain ⟨q1, q2, q0⟩ := fq
  refine ⟨?_, ?_⟩
  · intro ei
    have ei : i = 2000 := ei
    subst ei
    exfalso
    rcases pg with z | ⟨z, g⟩
    · cases z
    · have : 0 < p.1.natAbs * p.2.natAbs := Nat.mul_pos (by omega) (by omega)
      have h2 : 2 ^ 1999 ≤ p.1.natAbs * p.2.natAbs * 2 ^ (2000 - 1) := Nat.le_mul_of_pos_left _ this
      have h3 : (2 : Nat) ^ 1800 < 2 ^ 1999 := Nat.pow_lt_pow_right (by decide) (by decide)
      omega
  intro d hd
  have hi : (i : Int) < 2000 := (rngD_get hd).2
  rw [prD_eq, prD_eq]
  have lp := p2.log (m := 9000) (by decide) (by decide)
  have lq := q2.log (m := 9000) (by decide) (by decide)
  refine wpB_cons ?_
  open_k with true_and
  refine ⟨p0, lp, q0, lq, ?_⟩
  refine wpB_cons ?_
  open_k with true_and
  have sgs : small64 sg := by unfold small64; rcases sr with ⟨rfl, _⟩ | ⟨rfl, _⟩ <;> decide
  by_cases c : p.1 / p.2 = q.1 / q.2
  rotate_left
  · rw [decide_eq_false c]
    open_k with true_and
    refine wpB_cons ?_
    open_k with true_and
    by_cases c2 : p.1 / p.2 > q.1 / q.2
    · rw [decide_eq_true c2]
      open_k with true_and
      have := side_gt p0 q0 c2
      refine ⟨h', Sub.refl, hq _ ?_⟩
      rcases sr with ⟨rfl, e⟩ | ⟨rfl, e⟩
      · rw [e]; omega
      · rw [e]; omega
    · rw [decide_eq_false c2]
      open_k with true_and
      have := side_gt q0 p0 (show p.1 / p.2 < q.1 / q.2 by omega)
      refine ⟨h', Sub.refl, hq _ ?_⟩
      rcases sr with ⟨rfl, e⟩ | ⟨rfl, e⟩
      · rw [e]; omega
      · rw [e]; omega
  rw [decide_eq_true c]
  open_k with true_and
  refine wpB_nil (G := G) (wpB_cons ?_)
  open_k with true_and
  have wm : Wd 900 (p.1 / p.2) := Nat.lt_of_le_of_lt (Int.natAbs_ediv_le_natAbs ..) p1
  have wt : Wd 900 (q.1 / q.2) := Nat.lt_of_le_of_lt (Int.natAbs_ediv_le_natAbs ..) q1
  refine ⟨wm.ok p2, wt.ok q2, ?_⟩
  obtain ⟨f1, f2⟩ := fl_facts (a := p.1) p0
  obtain ⟨g1, g2⟩ := fl_facts (a := q.1) q0
  rw [← c] at g1 g2 ⊢
  generalize hm : p.1 / p.2 = m at *
  generalize hr : p.1 - m * p.2 = r at *
  generalize hz : q.1 - m * q.2 = z at *
  have eF : p.1 * q.2 - q.1 * p.2 = r * q.2 - z * p.2 := by
    have a1 : p.1 = m * p.2 + r := by omega
    have a2 : q.1 = m * q.2 + z := by omega
    rw [a1, a2, Int.add_mul, Int.add_mul, Int.mul_assoc, Int.mul_assoc, Int.mul_comm p.2 q.2]
    omega
  rw [eF] at sr
  refine wpB_cons ?_
  open_k with true_and
  have r0 : 0 ≤ r := by omega
  have r1 : r < p.2 := by omega
  have z0 : 0 ≤ z := by omega
  have z1 : z < q.2 := by omega
  have szp : 0 < z → 0 < z * p.2 := fun h => Int.mul_pos h p0
  have srq : 0 < r → 0 < r * q.2 := fun h => Int.mul_pos h q0
  by_cases cr : r = 0
  · subst cr
    rw [Int.zero_mul] at sr
    rw [decide_eq_true rfl]
    open_k with true_and
    refine wpB_cons ?_
    open_k with true_and
    by_cases cz : z = 0
    · subst cz
      rw [Int.zero_mul] at sr
      simp only [decide_true, if_true]
      refine ⟨.inl sgs, h', Sub.refl, hq _ ?_⟩
      rcases sr with ⟨rfl, e⟩ | ⟨rfl, e⟩
      · rw [e]; decide
      · rw [e]; decide
    · have := szp (by omega)
      rw [decide_eq_false cz]
      refine ⟨.inl sgs, h', Sub.refl, hq _ ?_⟩
      rcases sr with ⟨rfl, e⟩ | ⟨rfl, e⟩
      · rw [e]
        exact ⟨fun _ => by omega, fun _ => by decide⟩
      · rw [e]
        exact ⟨fun h => absurd h (by decide), fun h => by omega⟩
  rw [decide_eq_false cr]
  open_k with true_and
  have rp := srq (by omega)
  by_cases cz : z = 0
  · subst cz
    rw [Int.zero_mul] at sr
    rw [decide_eq_true rfl]
    open_k with true_and
    refine wpB_cons ?_
    open_k with true_and
    rw [decide_eq_false cr]
    refine ⟨.inl sgs, h', Sub.refl, hq _ ?_⟩
    rcases sr with ⟨rfl, e⟩ | ⟨rfl, e⟩
    · rw [e]
      exact ⟨fun h => absurd h (by decide), fun h => by omega⟩
    · rw [e]
      exact ⟨fun _ => by omega, fun _ => by decide⟩
  rw [decide_eq_false cz]
  open_k with true_and
  refine wpB_nil (G := G) (wpB_cons ?_)
  open_k with true_and
  refine wpB_nil (G := G) ⟨_, _, SSub.refl, Sub.refl, (p.2, r), (q.2, z), 0 - sg, _, _, _, rfl, rfl, ⟨p2, ?_, by show 0 < r; omega⟩, ⟨q2, ?_, by show 0 < z; omega⟩, ?_, r1, ?_⟩
  · show r.natAbs < 2 ^ 900
    exact Nat.lt_of_le_of_lt (by omega) p2
  · show z.natAbs < 2 ^ 900
    exact Nat.lt_of_le_of_lt (by omega) q2
  · show SgR (0 - sg) Y (p.2 * z - q.2 * r)
    rw [Int.mul_comm p.2 z, Int.mul_comm q.2 r]
    rcases sr with ⟨rfl, e⟩ | ⟨rfl, e⟩
    · exact .inr ⟨rfl, by rw [e]; omega⟩
    · exact .inl ⟨rfl, by rw [e]; omega⟩
  · show p.2.natAbs * r.natAbs * 2 ^ (i + 1 - 1) ≤ 2 ^ 1800
    rw [Nat.add_sub_cancel]
    rcases pg with rfl | ⟨g3, g4⟩
    · rw [Nat.pow_zero, Nat.mul_one]
      have := Nat.mul_le_mul (Nat.le_of_lt p2) (show r.natAbs ≤ 2 ^ 900 from Nat.le_trans (by omega) (Nat.le_of_lt p2))
      rw [← Nat.pow_add] at this
      exact this
    · by_cases i0 : i = 0
      · subst i0
        rw [Nat.pow_zero, Nat.mul_one]
        have := Nat.mul_le_mul (Nat.le_of_lt p2) (show r.natAbs ≤ 2 ^ 900 from Nat.le_trans (by omega) (Nat.le_of_lt p2))
        rw [← Nat.pow_add] at this
        exact this
      · obtain ⟨k, rfl⟩ : ∃ k, i = k + 1 := ⟨i - 1, by omega⟩
        rw [Nat.add_sub_cancel] at g4
        have m1 : p.2 ≤ m * p.2 := by
          have : 1 ≤ m := by
            rcases Int.lt_or_le m 1 with z | z
            · exfalso
              have : m * p.2 ≤ 0 * p.2 := Int.mul_le_mul_of_nonneg_right (by omega) (Int.le_of_lt p0)
              omega
            · exact z
          have := Int.mul_le_mul_of_nonneg_right this (Int.le_of_lt p0)
          omega
        have h2 : 2 * r.natAbs ≤ p.1.natAbs := by omega
        refine Nat.le_trans ?_ g4
        rw [Nat.pow_succ, ← Nat.mul_assoc, Nat.mul_right_comm, Nat.mul_assoc p.2.natAbs, Nat.mul_comm r.natAbs, Nat.mul_comm p.2.natAbs]
        exact Nat.mul_le_mul_right _ (Nat.mul_le_mul_right _ h2)
end MP
/-! FL: things written out; a growing list of things of any kind -/
namespace MP
open PySem L2
local macro_rules | `(tactic| open_k with $t) => `(tactic| simp only [wpS, wpE, wpEs, wpEo, wpT, wpTo, wpI, wpG, wpGs, forW, whlW, callW, BinO.d, CmpO.d, Bi.d, Mt.d, parQ, Tgs.len,
  add_ii, add_ss, add_tt, add_rr, sub_ii, mul_ii, mul_ri, fdiv_ii, mod_ii, pow_ii, shl_ii, shr_ii, band_ii, eq_ii, ne_ii, eq_ss, ne_ss, lt_ii, is_n, nis_n, dn_i, dn_n, dn_t, dn_b, dn_s, dn_r, ix_ti, ix_ci, ix_pi, ix_ri, ix_rs, set_ri, set_rs, ty_n, ty_b, ty_i, ty_s, ty_t, ty_c, ty_r, isiB, AO.dct.injEq, sum_t, max_t, min_t, ixN_0, ixN_1, ixN_2, ixN_3,
  len_t, len_r, len_c, abs_i, max_ii, min_ii, tup_r, tup_t, lst_r, lst_t, lst_c, int_i, int_b, app_r, pop_ri, pop_r0, ext_rr, ext_rt, ins_ri, rev_r0, isl_r, rcv_r, rcv_t, ex_some, tru_b, tru_i, tru_t, tru_r, tru_n, sq_t, sq_c, sq_r, sq_f, zp_t, zp_r, en_t, en_r, slD, revD, setSl, atI_0, atI_1, atI_2, atI_3, isL,
  List.getElem?_cons_zero, List.getElem?_cons_succ, List.set_cons_zero, List.set_cons_succ, List.length_cons, List.length_nil, List.map_cons, List.map_nil, List.zip_cons_cons, List.zip_nil_right, List.nil_append, List.cons_append, if_true, if_false, Bool.false_eq_true, if_pos, true_and, and_true,
  exists_eq_left, exists_eq_left', exists_const, reduceCtorEq, false_and, exists_false, or_false, false_or, exists_eq', Option.some.injEq, AO.lst.injEq, D.ref.injEq, aput_same, aput_aput, small_line, HT.sIx_none, List.drop_zero, Nat.sub_zero, Nat.zero_add, Nat.zero_le, Option.getD_none, Option.getD_some, Nat.reduceAdd, Nat.reduceLeDiff,
  Bool.not_true, Bool.not_false, neg_f, neg_t, adel_aput, $t:term])
local macro_rules | `(tactic| walk_at "mp") => `(tactic| try open_k with true_and)
local macro_rules | `(tactic| walk_at "mp1") => `(tactic| (refine wpB_cons ?_; try open_k with true_and))
mutual
def wD : D → Nat
  | .non => 10
  | .bl _ => 10
  | .int _ => 2000
  | .str x => 4 * x.length + 10
  | .tup ds => wDs ds + 10
  | _ => 0
def wDs : List D → Nat
  | [] => 0
  | d :: ds => wD d + 2 + wDs ds
end
mutual
def dphD : D → Nat
  | .tup ds => dphDs ds + 1
  | _ => 0
def dphDs : List D → Nat
  | [] => 0
  | d :: ds => max (dphD d) (dphDs ds)
end
mutual
def flD : D → Bool
  | .non => true
  | .bl _ => true
  | .int i => decide (i.natAbs < 2 ^ 250)
  | .str x => decide (x.length ≤ 250) && x.cps.toList.all fun c => decide (c < 128)
  | .tup ds => flDs ds
  | _ => false
def flDs : List D → Bool
  | [] => true
  | d :: ds => flD d && flDs ds
end
mutual
theorem fl_dat {h : AH} : ∀ {d : D}, flD d = true → ∃ p, Dat h d p ∧ fineP 250 p ∧ p.depth ≤ dphD d ∧ wP p ≤ wD d
  | .non, _ => ⟨_, .non, by unfold fineP; trivial, by simp [PyData.depth], by unfold wP wD; omega⟩
  | .bl b, _ => ⟨_, .bl b, by unfold fineP; trivial, by simp [PyData.depth], by unfold wP wD; omega⟩
  | .int i, q => ⟨_, .int i, by unfold fineP; unfold flD at q; exact of_decide_eq_true q, by simp [PyData.depth], by unfold wP wD; omega⟩
  | .str x, q => by
    unfold flD at q
    rw [Bool.and_eq_true, List.all_eq_true] at q
    exact ⟨_, .str x, by unfold fineP; exact ⟨of_decide_eq_true q.1, fun c hc => of_decide_eq_true (q.2 c hc)⟩, by simp [PyData.depth], by unfold wP wD; omega⟩
  | .tup ds, q => by
    unfold flD at q
    obtain ⟨ps, a, b, c, e⟩ := fl_dats (h := h) q
    refine ⟨_, .tup a, by unfold fineP; exact b, ?_, by unfold wP wD; omega⟩
    unfold dphD
    simp only [PyData.depth]
    omega
  | .pr _, q => by unfold flD at q; cases q
  | .ref _, q => by unfold flD at q; cases q
  | .cl _, q => by unfold flD at q; cases q
  | .exn .., q => by unfold flD at q; cases q
  | .err .., q => by unfold flD at q; cases q
theorem fl_dats {h : AH} : ∀ {ds : List D}, flDs ds = true → ∃ ps, Dats h ds ps ∧ finePs 250 ps ∧ PyData.depthAll ps ≤ dphDs ds ∧ wPs ps ≤ wDs ds
  | [], _ => ⟨_, .nil, by unfold finePs; trivial, by simp [PyData.depthAll], by unfold wPs; omega⟩
  | d :: ds, q => by
    unfold flDs at q
    rw [Bool.and_eq_true] at q
    obtain ⟨p, a, b, c, e⟩ := fl_dat (h := h) q.1
    obtain ⟨ps, a', b', c', e'⟩ := fl_dats (h := h) q.2
    refine ⟨_, .cons a a', by unfold finePs; exact ⟨b, b'⟩, ?_, by unfold wPs wDs; omega⟩
    unfold dphDs
    simp only [PyData.depthAll]
    omega
end
def okF (n m : Nat) (d : D) : Bool := flD d && decide (dphD d ≤ n) && decide (wD d ≤ m)
theorem kd_ok {h : AH} {n m : Nat} {d : D} (q : okF n m d = true) : Kd h 250 n m d := by
  unfold okF at q
  rw [Bool.and_eq_true, Bool.and_eq_true, decide_eq_true_iff, decide_eq_true_iff] at q
  obtain ⟨p, a, b, c, e⟩ := fl_dat (h := h) q.1.1
  exact ⟨p, a, b, by omega, by omega⟩
theorem kd_oks {h : AH} {n m : Nat} {ds : List D} (q : ds.all (okF n m) = true) : ∀ d, d ∈ ds → Kd h 250 n m d := fun d hd => kd_ok (List.all_eq_true.mp q d hd)
theorem put_none {h : AH} {p q : Addr} {o : AO} (e : aput h p o q = none) : h q = none := by
  unfold aput at e
  split at e
  · cases e
  · exact e
/-! the heap without one cell -/
def wo (h : AH) (p : Addr) : AH := fun q => if q = p then none else h q
theorem wo_lk {h : AH} {p : Addr} : LKeep (wo h p) h := fun q ds e => by
  unfold wo at e
  split at e
  · cases e
  · exact e
theorem lk_wo {h h' : AH} {p : Addr} (s : LKeep h h') (n : h p = none) : LKeep h (wo h' p) := fun q ds e => by
  unfold wo
  rw [if_neg (ne_none e n)]
  exact s q ds e
theorem wo_put {h : AH} {p : Addr} {o : AO} : wo (aput h p o) p = wo h p := by
  funext q
  unfold wo
  split
  · rfl
  · rename_i c; exact aput_ne c
theorem wo_mono {h h' : AH} {p : Addr} (s : LKeep h h') : LKeep (wo h p) (wo h' p) := fun q ds e => by
  unfold wo at e ⊢
  split at e
  · cases e
  · rename_i c; rw [if_neg c]; exact s q ds e
/-- a list of things of any kind, beside the tape -/
structure TL (L n m : Nat) (h : AH) (a cl p : Addr) (T : List D) (N : Nat) : Prop where
  t : TapeA h a cl
  e : h p = some (.lst T)
  ne : p ≠ a ∧ p ≠ cl
  l : T.length ≤ N
  k : ∀ d, d ∈ T → Kd (wo h p) L n m d
section
variable {L n m : Nat} {h : AH} {a cl p : Addr} {T : List D} {N : Nat}
theorem TL.all (H : TL L n m h a cl p T N) : ∀ d, d ∈ T → Kd h L n m d := fun d hd => (H.k d hd).keep wo_lk
theorem TL.mk0 {ds : List D} (t : TapeA h a cl) (np : h p = none) (k : ∀ d, d ∈ ds → Kd h L n m d) : TL L n m (aput h p (.lst ds)) a cl p ds ds.length :=
  ⟨t.put (t.ne np), aput_same, t.ne np, Nat.le_refl _, fun d hd => (k d hd).keep (lk_wo (sub_but np).lk np)⟩
theorem TL.sub {h' : AH} (H : TL L n m h a cl p T N) (s : Sub h h') : TL L n m h' a cl p T N :=
  ⟨H.t.sub s, s _ _ H.e, H.ne, H.l, fun d hd => (H.k d hd).keep (wo_mono s.lk)⟩
theorem TL.grow {h' : AH} (H : TL L n m h a cl p T N) (t : TapeA h' a cl) (g : Grow a h h') : TL L n m h' a cl p T N :=
  ⟨t, g _ _ H.ne.1 H.e, H.ne, H.l, fun d hd => (H.k d hd).keep (wo_mono (Grow.lkA H.t g))⟩
/-- a display behind it: the list stands anew -/
theorem TL.add {p1 p2 : Addr} {ds : List D} (H : TL L n m h a cl p T N) (np1 : h p1 = none) (np2 : aput h p1 (.lst ds) p2 = none) (k : ∀ d, d ∈ ds → Kd h L n m d) :
    TL L n m (aput (aput h p1 (.lst ds)) p2 (.lst (T ++ ds))) a cl p2 (T ++ ds) (N + ds.length) := by
  have s1 : Sub h (aput h p1 (.lst ds)) := sub_but np1
  have t1 := H.t.put (o := .lst ds) (H.t.ne np1)
  refine ⟨t1.put (t1.ne np2), aput_same, t1.ne np2, by have := H.l; rw [List.length_append]; omega, fun d hd => ?_⟩
  refine Kd.keep (h := aput h p1 (.lst ds)) ?_ (lk_wo (sub_but np2).lk np2)
  refine Kd.keep (h := h) ?_ s1.lk
  rcases List.mem_append.mp hd with hd | hd
  · exact H.all d hd
  · exact k d hd
/-- one more thing in place -/
theorem TL.app {d : D} (H : TL L n m h a cl p T N) (k : Kd (wo h p) L n m d) : TL L n m (aput h p (.lst (T ++ [d]))) a cl p (T ++ [d]) (N + 1) := by
  refine ⟨H.t.put H.ne, aput_same, H.ne, by have := H.l; rw [List.length_append, List.length_singleton]; omega, fun x hx => ?_⟩
  rw [wo_put]
  rcases List.mem_append.mp hx with hx | hx
  · exact H.k x hx
  · rw [List.mem_singleton.mp hx]; exact k
theorem TL.go0 {P : AH → Prop} {ds : List D} (t : TapeA h a cl) (np : h p = none) (k : ∀ d, d ∈ ds → Kd h L n m d) (q : ∀ h', Sub h h' → TL L n m h' a cl p ds ds.length → P h') : P (aput h p (.lst ds)) := q _ (sub_but np) (.mk0 t np k)
theorem TL.go {P : AH → Prop} {p1 p2 : Addr} {ds : List D} (H : TL L n m h a cl p T N) (np1 : h p1 = none) (np2 : aput h p1 (.lst ds) p2 = none) (k : ∀ d, d ∈ ds → Kd h L n m d)
    (q : ∀ T' h', Sub h h' → TL L n m h' a cl p2 T' (N + ds.length) → P h') : P (aput (aput h p1 (.lst ds)) p2 (.lst (T ++ ds))) := q _ _ ((sub_but np1).trans (sub_but np2)) (H.add np1 np2 k)
theorem TL.goA {P : AH → Prop} {d : D} (H : TL L n m h a cl p T N) (k : Kd (wo h p) L n m d) (q : ∀ T' h', TL L n m h' a cl p T' (N + 1) → P h') : P (aput h p (.lst (T ++ [d]))) := q _ _ (H.app k)
theorem TL.goS {P : AH → Prop} {ds : List D} (t : TapeA h a cl) (np : h p = none) (k : ∀ d, d ∈ ds → Kd h L n m d) (q : ∀ T' h', Sub h h' → TL L n m h' a cl p T' ds.length → P h') : P (aput h p (.lst ds)) := q _ _ (sub_but np) (.mk0 t np k)
theorem TL.goB {P : AH → Prop} {d : D} (H : TL L n m h a cl p T N) (k : Kd (wo h p) L n m d) (q : ∀ T' h', (∀ b, b ≠ p → h' b = h b) → TL L n m h' a cl p T' (N + 1) → P h') : P (aput h p (.lst (T ++ [d]))) := q _ _ (fun _ n => aput_ne n) (H.app k)
theorem Grow.off {h0 h1 : AH} (g : Grow a h0 h) (n : h0 p = none) (b : ∀ b, b ≠ p → h1 b = h b) : Grow a h0 h1 := fun c u nc e => by rw [b c (ne_none e n)]; exact g c u nc e
end
end MP
/-! K01d: numbers drawn; reckoned -/
namespace MP
open PySem L2
local macro_rules | `(tactic| open_k with $t) => `(tactic| simp only [wpS, wpE, wpEs, wpEo, wpT, wpTo, wpI, wpG, wpGs, forW, whlW, callW, BinO.d, CmpO.d, Bi.d, Mt.d, parQ, Tgs.len,
  add_ii, add_ss, add_tt, add_rr, sub_ii, mul_ii, mul_ri, fdiv_ii, mod_ii, pow_ii, shl_ii, shr_ii, band_ii, eq_ii, ne_ii, eq_ss, ne_ss, lt_ii, is_n, nis_n, dn_i, dn_n, dn_t, dn_b, dn_s, dn_r, ix_ti, ix_ci, ix_pi, ix_ri, ix_rs, set_ri, set_rs, ty_n, ty_b, ty_i, ty_s, ty_t, ty_c, ty_r, isiB, AO.dct.injEq, sum_t, max_t, min_t, ixN_0, ixN_1, ixN_2, ixN_3,
  len_t, len_r, len_c, abs_i, max_ii, min_ii, tup_r, tup_t, lst_r, lst_t, lst_c, int_i, int_b, app_r, pop_ri, pop_r0, ext_rr, ext_rt, ins_ri, rev_r0, isl_r, rcv_r, rcv_t, ex_some, tru_b, tru_i, tru_t, tru_r, tru_n, sq_t, sq_c, sq_r, sq_f, zp_t, zp_r, en_t, en_r, slD, revD, setSl, atI_0, atI_1, atI_2, atI_3, isL,
  List.getElem?_cons_zero, List.getElem?_cons_succ, List.set_cons_zero, List.set_cons_succ, List.length_cons, List.length_nil, List.map_cons, List.map_nil, List.zip_cons_cons, List.zip_nil_right, List.nil_append, List.cons_append, if_true, if_false, Bool.false_eq_true, if_pos, true_and, and_true,
  exists_eq_left, exists_eq_left', exists_const, reduceCtorEq, false_and, exists_false, or_false, false_or, exists_eq', Option.some.injEq, AO.lst.injEq, D.ref.injEq, aput_same, aput_aput, small_line, HT.sIx_none, List.drop_zero, Nat.sub_zero, Nat.zero_add, Nat.zero_le, Option.getD_none, Option.getD_some, Nat.reduceAdd, Nat.reduceLeDiff,
  Bool.not_true, Bool.not_false, neg_f, neg_t, adel_aput, $t:term])
local macro_rules | `(tactic| walk_at "mp") => `(tactic| try open_k with true_and)
local macro_rules | `(tactic| walk_at "mp1") => `(tactic| (refine wpB_cons ?_; try open_k with true_and))
theorem ten_wd {r : Int} (k : Nat) (h0 : 0 ≤ r) (h1 : r < 10 ^ (6 * k)) (hk : k ≤ 33) : Wd 658 r := by
  have e : (10 : Int) ^ (6 * k) ≤ 10 ^ 198 := by
    have := Nat.pow_le_pow_right (n := 10) (by decide) (show 6 * k ≤ 198 by omega)
    have h2 : (((10 ^ (6 * k) : Nat)) : Int) ≤ ((10 ^ 198 : Nat) : Int) := by omega
    rwa [Int.natCast_pow, Int.natCast_pow] at h2
  have e2 : (10 : Int) ^ 198 < 2 ^ 658 := by decide +kernel
  unfold Wd
  have : (((2 ^ 658 : Nat)) : Int) = 2 ^ 658 := by rw [Int.natCast_pow]; rfl
  omega
abbrev n_law_size : List Str := ["_law_tape_here", "_law_great"]
abbrev p_law_size : List Str := ["_law_tape_here", "_law_great"]
def b_law_size : Ss :=
  (.cons (.iff (.e (.v 1)) (.cons (.ret (.call "_law_wide" (.cons (.v 0) (.cons (.k (.int 33)) .nil))))
    .nil) .nil)
    (.cons (.ret (.ite (.cmp .gt (.call "_law_pick" (.cons (.v 0) (.cons (.k (.int 3)) .nil))) (.k (.int 0))) (.call "_law_pick" (.cons (.v 0) (.cons (.k (.int 100)) .nil))) (.call "_law_wide" (.cons (.v 0) (.cons (.bin .add (.k (.int 1)) (.call "_law_pick" (.cons (.v 0) (.cons (.k (.int 6)) .nil)))) .nil)))))
    .nil))
def c_size1 : ASp := fun vs h Q X => ∃ a cl, ∃ g : Bool, vs = [.ref a, .bl g] ∧ TapeA h a cl ∧ ∀ (r : Int) h', 0 ≤ r → Wd 658 r → TapeA h' a cl → But a h h' → Q (.int r) h'
theorem m_size1 (G : Ct) (hG : G.fn "_law_pick" = some (2, c_pickA)) (hW : G.fn "_law_wide" = some (2, c_wide1)) : Meets G n_law_size.length b_law_size 2 c_size1 := by
  rintro vs h Q X hl ⟨a, cl, g, rfl, t, hq⟩
  change wpB G b_law_size _ [some _, some _] h
  refine wpB_cons ?_
  open_k with true_and
  cases g with
  | true =>
    open_k with true_and
    refine wpB_cons ?_
    open_k with hW
    exact ⟨a, cl, 33, rfl, t, by decide, fun r h1 r0 r1 t1 b1 => ⟨h1, Sub.refl, hq r h1 r0 (ten_wd 33 r0 r1 (by decide)) t1 b1⟩⟩
  | false =>
    open_k with true_and
    refine wpB_nil (G := G) (wpB_cons ?_)
    open_k with And.intro hG hW
    refine ⟨a, cl, 3, rfl, t, by decide, by decide, fun x h1 x0 x1 t1 b1 => ?_⟩
    open_k with And.intro hG hW
    by_cases c : x > 0
    · rw [decide_eq_true c]
      open_k with And.intro hG hW
      refine ⟨a, cl, 100, rfl, t1, by decide, by decide, fun r h2 r0 r1 t2 b2 => ⟨h2, Sub.refl, hq r h2 r0 ?_ t2 fun b n => by rw [b2 b n, b1 b n]⟩⟩
      have : Wd 7 r := by unfold Wd; omega
      exact this.mono (by decide)
    · rw [decide_eq_false c]
      open_k with And.intro hG hW
      refine ⟨a, cl, 6, rfl, t1, by decide, by decide, fun y h2 y0 y1 t2 b2 => ?_⟩
      open_k with true_and
      obtain ⟨k, hk⟩ : ∃ k : Nat, 1 + y = k := ⟨(1 + y).toNat, by omega⟩
      rw [hk]
      refine ⟨a, cl, k, rfl, t2, by omega, fun r h3 r0 r1 t3 b3 => ⟨h3, Sub.refl, hq r h3 r0 (ten_wd k r0 r1 (by omega)) t3 fun b n => by rw [b3 b n, b2 b n, b1 b n]⟩⟩
theorem one_at {r : Int} (h0 : 0 ≤ r) (h1 : r < 2) : ∃ v, atI [D.int 1, .int (-1)] r = some (.int v) ∧ (v = 1 ∨ v = -1) := by
  have : r = 0 ∨ r = 1 := by omega
  rcases this with rfl | rfl
  · exact ⟨1, atI_0, .inl rfl⟩
  · exact ⟨-1, atI_1, .inr rfl⟩
abbrev n_law_top : List Str := ["_law_tape_here", "_law_great"]
abbrev p_law_top : List Str := ["_law_tape_here", "_law_great"]
def b_law_top : Ss :=
  (.cons (.ret (.bin .mul (.call "_law_size" (.cons (.v 0) (.cons (.v 1) .nil))) (.ix (.lst (.cons (.k (.int 1)) (.cons (.neg (.k (.int 1))) .nil))) (.call "_law_pick" (.cons (.v 0) (.cons (.k (.int 2)) .nil))))))
    .nil)
def c_top1 : ASp := fun vs h Q X => ∃ a cl, ∃ g : Bool, vs = [.ref a, .bl g] ∧ TapeA h a cl ∧ ∀ (r : Int) h', Wd 658 r → TapeA h' a cl → Grow a h h' → Q (.int r) h'
theorem m_top1 (G : Ct) (hG : G.fn "_law_pick" = some (2, c_pickA)) (hS : G.fn "_law_size" = some (2, c_size1)) : Meets G n_law_top.length b_law_top 2 c_top1 := by
  rintro vs h Q X hl ⟨a, cl, g, rfl, t, hq⟩
  change wpB G b_law_top _ [some _, some _] h
  refine wpB_cons ?_
  open_k with And.intro hG hS
  refine ⟨a, cl, g, rfl, t, fun r h1 r0 rw1 t1 b1 => ?_⟩
  intro p np
  have ap := t1.ne np
  refine ⟨a, cl, 2, rfl, t1.put ap, by decide, by decide, fun x h2 x0 x1 t2 b2 => ?_⟩
  have e : h2 p = some (.lst [.int 1, .int (-1)]) := by rw [b2 p ap.1]; exact aput_same
  open_k with e
  obtain ⟨v, hv, vv⟩ := one_at x0 x1
  have g2 : Grow a h h2 := (b1.grow.nw np).bt b2
  refine ⟨_, hv, ?_⟩
  open_k with true_and
  have wv : Wd 658 (r * v) := by
    rcases vv with rfl | rfl
    · rw [Int.mul_one]; exact rw1
    · rw [Int.mul_neg, Int.mul_one]; exact rw1.neg
  refine ⟨.inr (.inl (by unfold small64; rcases vv with rfl | rfl <;> decide)), h2, Sub.refl, hq _ h2 wv t2 g2⟩
abbrev n_law_low_2 : List Str := ["_law_top_here", "_law_bottom", "_law_common_here"]
abbrev p_law_low_2 : List Str := ["_law_top_here", "_law_bottom"]
def b_law_low_2 : Ss :=
  (.cons (.set (.n 2) (.call "_law_common" (.cons (.bi .abs (.cons (.v 0) .nil)) (.cons (.v 1) .nil))))
    (.cons (.ret (.tup (.cons (.bin .fdiv (.v 0) (.v 2)) (.cons (.bin .fdiv (.v 1) (.v 2)) .nil))))
    .nil))
def c_low1 : ASp := fun vs h Q X => ∃ (t b : Int) (k : Nat), vs = [.int t, .int b] ∧ 0 < b ∧ Wd k t ∧ Wd k b ∧ k ≤ 4000 ∧ ∀ p : Int × Int, Fp k p → Q (prD p) h
theorem m_low1 (G : Ct) (hC : G.fn "_law_common" = some (2, c_comm1)) : Meets G n_law_low_2.length b_law_low_2 2 c_low1 := by
  rintro vs h Q X hl ⟨t, b, k, rfl, b0, wt, wb, hk, hq⟩
  change wpB G b_law_low_2 _ [some _, some _, none] h
  refine wpB_cons ?_
  open_k with hC
  have wa : Wd k (t.natAbs : Int) := by unfold Wd at wt ⊢; omega
  refine ⟨_, _, rfl, by omega, by omega, wa.mono hk, wb.mono hk, ?_⟩
  rw [gcd_abs1]
  have g0 : 0 < Int.gcd t b := Int.gcd_pos_of_ne_zero_right _ (by omega)
  have gd : ((Int.gcd t b : Nat) : Int) ∣ b := Int.gcd_dvd_right ..
  have gl : ((Int.gcd t b : Nat) : Int) ≤ b := Int.le_of_dvd b0 gd
  have wg : Wd k ((Int.gcd t b : Nat) : Int) := by unfold Wd at wb ⊢; omega
  have lg := (wg.mono hk).log (m := 9000) (by decide) (by decide)
  generalize Int.gcd t b = g at *
  refine wpB_cons ?_
  open_k with true_and
  refine ⟨by omega, lg, by omega, lg, h, Sub.refl, hq (t / g, b / g) ⟨?_, ?_, ?_⟩⟩
  · exact Nat.lt_of_le_of_lt (Int.natAbs_ediv_le_natAbs ..) wt
  · exact Nat.lt_of_le_of_lt (Int.natAbs_ediv_le_natAbs ..) wb
  · exact Int.ediv_pos_of_pos_of_dvd b0 (by omega) gd
abbrev n_law_other_2 : List Str := ["_law_tape_here", "_law_one", "_law_great", "_law_way"]
abbrev p_law_other_2 : List Str := ["_law_tape_here", "_law_one", "_law_great"]
def b_law_other_2 : Ss :=
  (.cons (.set (.n 3) (.call "_law_pick" (.cons (.v 0) (.cons (.k (.int 4)) .nil))))
    (.cons (.iff (.cmp .eq (.v 3) (.k (.int 0))) (.cons (.ret (.v 1))
    .nil) .nil)
    (.cons (.iff (.cmp .eq (.v 3) (.k (.int 1))) (.cons (.ret (.call "_law_low" (.cons (.bin .add (.ix (.v 1) (.k (.int 0))) (.ix (.lst (.cons (.k (.int 1)) (.cons (.neg (.k (.int 1))) .nil))) (.call "_law_pick" (.cons (.v 0) (.cons (.k (.int 2)) .nil))))) (.cons (.ix (.v 1) (.k (.int 1))) .nil))))
    .nil) .nil)
    (.cons (.ret (.call "_law_low" (.cons (.call "_law_top" (.cons (.v 0) (.cons (.v 2) .nil))) (.cons (.ite (.cmp .eq (.v 3) (.k (.int 2))) (.ix (.v 1) (.k (.int 1))) (.bin .add (.k (.int 1)) (.call "_law_size" (.cons (.v 0) (.cons (.v 2) .nil))))) .nil))))
    .nil))))
def c_other1 : ASp := fun vs h Q X => ∃ a cl, ∃ (p : Int × Int) (g : Bool), vs = [.ref a, prD p, .bl g] ∧ TapeA h a cl ∧ Fp 660 p ∧ ∀ (q : Int × Int) h', Fp 661 q → TapeA h' a cl → Grow a h h' → Q (prD q) h'
theorem m_other1 (G : Ct) (hG : G.fn "_law_pick" = some (2, c_pickA)) (hS : G.fn "_law_size" = some (2, c_size1)) (hT : G.fn "_law_top" = some (2, c_top1)) (hL : G.fn "_law_low" = some (2, c_low1)) : Meets G n_law_other_2.length b_law_other_2 3 c_other1 := by
  rintro vs h Q X hl ⟨a, cl, p, g, rfl, t, fp, hq⟩
  change wpB G b_law_other_2 _ [some _, some _, some _, none] h
  have fp1 : Fp 661 p := ⟨fp.1.mono (by decide), fp.2.1.mono (by decide), fp.2.2⟩
  refine wpB_cons ?_
  open_k with hG
  refine ⟨a, cl, 4, rfl, t, by decide, by decide, fun w h1 w0 w1 t1 b1 => ?_⟩
  refine wpB_cons ?_
  open_k with true_and
  by_cases c : w = 0
  · rw [decide_eq_true c]
    open_k with true_and
    refine wpB_cons ?_
    open_k with true_and
    exact ⟨h1, Sub.refl, hq p h1 fp1 t1 b1.grow⟩
  rw [decide_eq_false c]
  open_k with true_and
  refine wpB_nil (G := G) (wpB_cons ?_)
  open_k with true_and
  by_cases c1 : w = 1
  · rw [decide_eq_true c1]
    open_k with true_and
    refine wpB_cons ?_
    rw [prD_eq]
    open_k with And.intro hG hL
    intro pa np
    have ap := t1.ne np
    refine ⟨a, cl, 2, rfl, t1.put ap, by decide, by decide, fun x h2 x0 x1 t2 b2 => ?_⟩
    have e : h2 pa = some (.lst [.int 1, .int (-1)]) := by rw [b2 pa ap.1]; exact aput_same
    open_k with And.intro e hL
    obtain ⟨v, hv, vv⟩ := one_at x0 x1
    have g2 : Grow a h h2 := (b1.grow.nw np).bt b2
    refine ⟨_, hv, ?_⟩
    open_k with hL
    have wv : Wd 660 v := by unfold Wd; rcases vv with rfl | rfl <;> decide +kernel
    exact ⟨_, _, 661, rfl, fp.2.2, fp.1.add wv, fp1.2.1, by decide, fun q fq => ⟨h2, Sub.refl, hq q h2 fq t2 g2⟩⟩
  rw [decide_eq_false c1]
  open_k with true_and
  refine wpB_nil (G := G) (wpB_cons ?_)
  open_k with And.intro hT hL
  refine ⟨a, cl, g, rfl, t1, fun tp h2 wtp t2 g2 => ?_⟩
  open_k with true_and
  by_cases c2 : w = 2
  · rw [decide_eq_true c2, prD_eq]
    open_k with hL
    exact ⟨_, _, 661, rfl, fp.2.2, wtp.mono (by decide), fp1.2.1, by decide, fun q fq => ⟨h2, Sub.refl, hq q h2 fq t2 (b1.grow.trans g2)⟩⟩
  · rw [decide_eq_false c2]
    open_k with And.intro hS hL
    refine ⟨a, cl, g, rfl, t2, fun r h3 r0 wr t3 b3 => ?_⟩
    open_k with hL
    have w1 : Wd 660 (1 + r) := by
      have : Wd 659 (1 + r) := Wd.add (k := 658) (by unfold Wd; decide +kernel) wr
      exact this.mono (by decide)
    exact ⟨_, _, 661, rfl, by omega, wtp.mono (by decide), w1.mono (by decide), by decide, fun q fq => ⟨h3, Sub.refl, hq q h3 fq t3 ((b1.grow.trans g2).bt b3)⟩⟩
abbrev n_law_reckoned : List Str := ["_law_one", "_law_other_here", "_law_a", "_law_b", "_law_c", "_law_d"]
abbrev p_law_reckoned : List Str := ["_law_one", "_law_other_here"]
def b_law_reckoned : Ss :=
  (.cons (.set (.tup (.cons (.tup (.cons (.n 2) (.cons (.n 3) .nil))) (.cons (.tup (.cons (.n 4) (.cons (.n 5) .nil))) .nil))) (.tup (.cons (.v 0) (.cons (.v 1) .nil))))
    (.cons (.iff (.not_ (.e (.call "_law_as_much" (.cons (.call "plus" (.cons (.v 0) (.cons (.v 1) .nil))) (.cons (.bin .add (.bin .mul (.v 2) (.v 5)) (.bin .mul (.v 4) (.v 3))) (.cons (.bin .mul (.v 3) (.v 5)) .nil)))))) (.cons (.ret (.k (.bl false)))
    .nil) .nil)
    (.cons (.iff (.not_ (.e (.call "_law_as_much" (.cons (.call "minus" (.cons (.v 0) (.cons (.v 1) .nil))) (.cons (.bin .sub (.bin .mul (.v 2) (.v 5)) (.bin .mul (.v 4) (.v 3))) (.cons (.bin .mul (.v 3) (.v 5)) .nil)))))) (.cons (.ret (.k (.bl false)))
    .nil) .nil)
    (.cons (.ret (.and_ (.call "_law_as_much" (.cons (.call "times" (.cons (.v 0) (.cons (.v 1) .nil))) (.cons (.bin .mul (.v 2) (.v 4)) (.cons (.bin .mul (.v 3) (.v 5)) .nil)))) (.cmp .eq (.bi .repr (.cons (.call "less" (.cons (.v 0) (.cons (.v 1) .nil))) .nil)) (.bi .repr (.cons (.cmp .lt (.call "_law_side" (.cons (.v 0) (.cons (.v 1) .nil))) (.k (.int 0))) .nil)))))
    .nil))))
def c_reck1 : ASp := fun vs h Q X => ∃ p q : Int × Int, vs = [prD p, prD q] ∧ Fp 700 p ∧ Fp 700 q ∧ ∀ h', Sub h h' → Q (.bl true) h'
theorem frN_wd {t b : Int} {k : Nat} (hb : b ≠ 0) (wt : Wd k t) (wb : Wd k b) : Wd k (frN t b).1 ∧ Wd k (frN t b).2 := by
  obtain ⟨h1, h2⟩ := frN_ex (t := t) hb
  have s0 := sgG_ne (t := t) hb
  unfold Wd at *
  have e1 : t.natAbs = (sgG t b).natAbs * (frN t b).1.natAbs := by rw [← Int.natAbs_mul, ← h1]
  have e2 : b.natAbs = (sgG t b).natAbs * (frN t b).2.natAbs := by rw [← Int.natAbs_mul, ← h2]
  have l1 : (frN t b).1.natAbs ≤ (sgG t b).natAbs * (frN t b).1.natAbs := Nat.le_mul_of_pos_left _ (by omega)
  have l2 : (frN t b).2.natAbs ≤ (sgG t b).natAbs * (frN t b).2.natAbs := Nat.le_mul_of_pos_left _ (by omega)
  omega
theorem m_reck1 (G : Ct) (hP : G.fn "plus" = some (2, c_plus1)) (hM : G.fn "minus" = some (2, c_minus1)) (hT : G.fn "times" = some (2, c_times1)) (hL : G.fn "less" = some (2, c_less1)) (hA : G.fn "_law_as_much" = some (3, c_much1)) (hS : G.fn "_law_side" = some (2, c_side1)) : Meets G n_law_reckoned.length b_law_reckoned 2 c_reck1 := by
  rintro vs h Q X hl ⟨p, q, rfl, fp, fq, hq⟩
  change wpB G b_law_reckoned _ [some (prD p), some (prD q), none, none, none, none] h
  obtain ⟨p1, p2, p0⟩ := fp
  obtain ⟨q1, q2, q0⟩ := fq
  have F2 : Fp 2000 p := ⟨p1.mono (by decide), p2.mono (by decide), p0⟩
  have G2 : Fp 2000 q := ⟨q1.mono (by decide), q2.mono (by decide), q0⟩
  have bp := Int.mul_pos p0 q0
  have bn : p.2 * q.2 ≠ 0 := by omega
  have wb : Wd 1401 (p.2 * q.2) := (p2.mul q2).mono (by decide)
  have go : ∀ t : Int, Wd 1401 t → Wd 4000 (frN t (p.2 * q.2)).1 ∧ Wd 4000 (frN t (p.2 * q.2)).2 ∧ Wd 4000 t ∧ Wd 4000 (p.2 * q.2) ∧ 0 < (frN t (p.2 * q.2)).2 ∧ Int.gcd (frN t (p.2 * q.2)).1 (frN t (p.2 * q.2)).2 = 1 ∧ (frN t (p.2 * q.2)).1 * (p.2 * q.2) = t * (frN t (p.2 * q.2)).2 := fun t wt => by
    obtain ⟨a1, a2⟩ := frN_wd bn wt wb
    obtain ⟨b1, b2, b3⟩ := frN_ok (t := t) bn
    exact ⟨a1.mono (by decide), a2.mono (by decide), wt.mono (by decide), wb.mono (by decide), b1, b2, b3⟩
  have wx : Wd 1400 (p.1 * q.2) := (p1.mul q2).mono (by decide)
  have wy : Wd 1400 (q.1 * p.2) := (q1.mul p2).mono (by decide)
  have pe := prD_eq p
  have qe := prD_eq q
  refine wpB_cons ?_
  rw [prD_eq, prD_eq]
  open_k with true_and
  refine wpB_cons ?_
  open_k with And.intro hP hA
  refine ⟨p, q, rfl, F2, G2, ?_⟩
  refine ⟨p1.ok q2, q1.ok p2, p2.ok q2, ?_⟩
  obtain ⟨g1, g2, g3, g4, g5, g6, g7⟩ := go _ (wx.add wy)
  refine ⟨_, _, _, rfl, g1, g2, g3, g4, g5, g6, g7, fun h1 s1 => ?_⟩
  open_k with true_and
  refine wpB_nil (G := G) (wpB_cons ?_)
  open_k with And.intro hM hA
  refine ⟨p, q, rfl, F2, G2, ?_⟩
  refine ⟨p1.ok q2, q1.ok p2, p2.ok q2, ?_⟩
  obtain ⟨g1, g2, g3, g4, g5, g6, g7⟩ := go _ (wx.sub wy)
  refine ⟨_, _, _, rfl, g1, g2, g3, g4, g5, g6, g7, fun h2 s2 => ?_⟩
  open_k with true_and
  refine wpB_nil (G := G) (wpB_cons ?_)
  open_k with And.intro hT (And.intro hA (And.intro hL hS))
  refine ⟨p, q, rfl, F2, G2, ?_⟩
  refine ⟨p1.ok q1, p2.ok q2, ?_⟩
  obtain ⟨g1, g2, g3, g4, g5, g6, g7⟩ := go _ ((p1.mul q1).mono (m := 1401) (by decide))
  refine ⟨_, _, _, rfl, g1, g2, g3, g4, g5, g6, g7, fun h3 s3 => ?_⟩
  open_k with And.intro hL hS
  refine ⟨p, q, rfl, F2, G2, ?_⟩
  obtain ⟨x, hx⟩ := (kd_bl (h := h3) (L := 0) (n := 0) (m := 10) (b := decide (p.1 * q.2 < q.1 * p.2)) (by decide)).repr (by decide) (by decide) (by decide)
  refine hx h3 LKeep.refl _ ?_
  refine ⟨p, q, rfl, ⟨p1.mono (by decide), p2.mono (by decide), p0⟩, ⟨q1.mono (by decide), q2.mono (by decide), q0⟩, fun v ev => ?_⟩
  open_k with true_and
  rw [show decide (v < 0) = decide (p.1 * q.2 < q.1 * p.2) by rw [decide_eq_decide]; exact ev]
  refine hx h3 LKeep.refl _ ?_
  open_k with true_and
  rw [decide_eq_true trivial]
  exact ⟨h3, Sub.refl, hq _ (s1.trans (s2.trans s3))⟩
end MP
/-! K01e: things near a drawn fraction -/
namespace MP
open PySem L2
local macro_rules | `(tactic| open_k with $t) => `(tactic| simp only [wpS, wpE, wpEs, wpEo, wpT, wpTo, wpI, wpG, wpGs, forW, whlW, callW, BinO.d, CmpO.d, Bi.d, Mt.d, parQ, Tgs.len,
  add_ii, add_ss, add_tt, add_rr, sub_ii, mul_ii, mul_ri, fdiv_ii, mod_ii, pow_ii, shl_ii, shr_ii, band_ii, eq_ii, ne_ii, eq_ss, ne_ss, lt_ii, is_n, nis_n, dn_i, dn_n, dn_t, dn_b, dn_s, dn_r, ix_ti, ix_ci, ix_pi, ix_ri, ix_rs, set_ri, set_rs, ty_n, ty_b, ty_i, ty_s, ty_t, ty_c, ty_r, isiB, AO.dct.injEq, sum_t, max_t, min_t, ixN_0, ixN_1, ixN_2, ixN_3,
  len_t, len_r, len_c, abs_i, max_ii, min_ii, tup_r, tup_t, lst_r, lst_t, lst_c, int_i, int_b, app_r, pop_ri, pop_r0, ext_rr, ext_rt, ins_ri, rev_r0, isl_r, rcv_r, rcv_t, ex_some, tru_b, tru_i, tru_t, tru_r, tru_n, sq_t, sq_c, sq_r, sq_f, zp_t, zp_r, en_t, en_r, slD, revD, setSl, atI_0, atI_1, atI_2, atI_3, isL,
  List.getElem?_cons_zero, List.getElem?_cons_succ, List.set_cons_zero, List.set_cons_succ, List.length_cons, List.length_nil, List.map_cons, List.map_nil, List.zip_cons_cons, List.zip_nil_right, List.nil_append, List.cons_append, if_true, if_false, Bool.false_eq_true, if_pos, true_and, and_true,
  exists_eq_left, exists_eq_left', exists_const, reduceCtorEq, false_and, exists_false, or_false, false_or, exists_eq', Option.some.injEq, AO.lst.injEq, D.ref.injEq, aput_same, aput_aput, small_line, HT.sIx_none, List.drop_zero, Nat.sub_zero, Nat.zero_add, Nat.zero_le, Option.getD_none, Option.getD_some, Nat.reduceAdd, Nat.reduceLeDiff,
  Bool.not_true, Bool.not_false, neg_f, neg_t, adel_aput, $t:term])
local macro_rules | `(tactic| walk_at "mp") => `(tactic| try open_k with true_and)
local macro_rules | `(tactic| walk_at "mp1") => `(tactic| (refine wpB_cons ?_; try open_k with true_and))
theorem frN_zero {u : Int} (hu : u ≠ 0) : frN 0 u = (0, 1) := by
  obtain ⟨h1, h2, h3⟩ := frN_ok (t := 0) hu
  rw [Int.zero_mul] at h3
  have a0 : (frN 0 u).1 = 0 := by
    rcases Int.mul_eq_zero.mp h3 with z | z
    · exact z
    · exact absurd z hu
  rw [a0, Int.gcd_zero_left] at h2
  have b1 : (frN 0 u).2 = 1 := by omega
  exact Prod.ext a0 b1
theorem repr_01 {h : AH} {Q : AK} (q : Q (.str "(0, 1)") h) : reprD [.tup [.int 0, .int 1]] h Q := by
  refine ⟨.tuple [.int 0, .int 1], .tup (.cons (.int 0) (.cons (.int 1) .nil)), by decide +kernel, by decide +kernel, by decide +kernel, by decide +kernel, ?_⟩
  rw [show PyData.shown (.tuple [.int 0, .int 1]) = ("(0, 1)" : Str) by decide +kernel]
  exact q
theorem kd_fp {h : AH} {k n : Nat} {p : Int × Int} (f : Fp k p) (hn : 1 ≤ n) : Kd h k n 4014 (.tup [.int p.1, .int p.2]) := kd_tup (n := 0) (tgs_cons (kd_int (m := 2000) f.1 (by decide)) (tgs_one (kd_int (m := 2000) f.2.1 (by decide)))) hn (by decide)
theorem kd_pw {h : AH} {k n : Nat} {x y : Int} (f : Wd k x) (g : Wd k y) (hn : 1 ≤ n) : Kd h k n 4014 (.tup [.int x, .int y]) := kd_tup (n := 0) (tgs_cons (kd_int (m := 2000) f (by decide)) (tgs_one (kd_int (m := 2000) g (by decide)))) hn (by decide)
abbrev n_law_round : List Str := ["_law_tape_here", "_law_great", "_law_top_here", "_law_bottom", "_law_one", "_law_other_here", "_law_under", "_law_here", "_law_there", "_law_many", "_law_bent_here", "_law_found"]
abbrev p_law_round : List Str := ["_law_tape_here", "_law_great"]
def b_law_round : Ss :=
  (.cons (.par [2, 3] (.cons (.call "_law_top" (.cons (.v 0) (.cons (.v 1) .nil))) (.cons (.bin .add (.k (.int 1)) (.call "_law_size" (.cons (.v 0) (.cons (.v 1) .nil)))) .nil)))
    (.cons (.set (.n 4) (.call "_law_low" (.cons (.v 2) (.cons (.v 3) .nil))))
    (.cons (.set (.n 5) (.call "_law_other" (.cons (.v 0) (.cons (.v 4) (.cons (.v 1) .nil)))))
    (.cons (.set (.n 6) (.bin .mul (.v 3) (.ix (.lst (.cons (.k (.int 1)) (.cons (.neg (.k (.int 1))) .nil))) (.call "_law_pick" (.cons (.v 0) (.cons (.k (.int 2)) .nil))))))
    (.cons (.iff (.or_ (.not_ (.e (.call "_law_as_much" (.cons (.call "fraction" (.cons (.v 2) (.cons (.v 6) .nil))) (.cons (.v 2) (.cons (.v 6) .nil)))))) (.cmp .ne (.bi .repr (.cons (.call "fraction" (.cons (.k (.int 0)) (.cons (.v 6) .nil))) .nil)) (.k (.str "(0, 1)")))) (.cons (.ret (.k .non))
    .nil) .nil)
    (.cons (.for_ (.tup (.cons (.n 7) (.cons (.n 8) .nil))) (.e true (.tup (.cons (.tup (.cons (.v 4) (.cons (.v 5) .nil))) (.cons (.tup (.cons (.v 5) (.cons (.v 4) .nil))) (.cons (.tup (.cons (.v 4) (.cons (.v 4) .nil))) (.cons (.tup (.cons (.v 4) (.cons (.tup (.cons (.k (.int 0)) (.cons (.k (.int 1)) .nil))) .nil))) (.cons (.tup (.cons (.tup (.cons (.k (.int 0)) (.cons (.k (.int 1)) .nil))) (.cons (.v 4) .nil))) .nil))))))) (.cons (.iff (.not_ (.e (.call "_law_reckoned" (.cons (.v 7) (.cons (.v 8) .nil))))) (.cons (.ret (.k .non))
    .nil) .nil)
    .nil))
    (.cons (.set (.n 9) (.bin .add (.k (.int 2)) (.call "_law_pick" (.cons (.v 0) (.cons (.k (.int 98)) .nil)))))
    (.cons (.set (.n 10) (.call "_law_bent" (.cons (.v 0) (.cons (.v 4) (.cons (.k (.int 2)) .nil)))))
    (.cons (.set (.n 11) (.lst (.cons (.v 4) (.cons (.tup (.cons (.v 2) (.cons (.v 3) .nil))) (.cons (.tup (.cons (.ix (.v 4) (.k (.int 0))) (.cons (.bin .sub (.k (.int 0)) (.ix (.v 4) (.k (.int 1)))) .nil))) (.cons (.rev (.v 4)) (.cons (.bin .add (.v 4) (.tup (.cons (.k (.int 1)) .nil))) (.cons (.bi .list (.cons (.v 4) .nil)) (.cons (.v 10) (.cons (.v 5) .nil))))))))))
    (.cons (.iff (.not_ (.e (.v 1))) (.cons (.ex (.mt .append (.v 11) (.cons (.tup (.cons (.bin .mul (.ix (.v 4) (.k (.int 0))) (.v 9)) (.cons (.bin .mul (.ix (.v 4) (.k (.int 1))) (.v 9)) .nil))) .nil)))
    .nil) .nil)
    (.cons (.ret (.bin .add (.v 11) (.lst (.cons (.call "_law_bent" (.cons (.v 0) (.cons (.v 10) (.cons (.k (.int 2)) .nil)))) (.cons (.call "_law_strange" (.cons (.v 0) .nil)) .nil)))))
    .nil)))))))))))
def c_round1 : ASp := fun vs h Q X => ∃ a cl, ∃ g : Bool, vs = [.ref a, .bl g] ∧ TapeA h a cl ∧ ∀ (found : List D) (q : Addr) (h' : AH), TL 700 8 100000 h' a cl q found 20 → Grow a h h' → Q (.ref q) h'
theorem m_round1 (G : Ct) (hG : G.fn "_law_pick" = some (2, c_pickA)) (hT : G.fn "_law_top" = some (2, c_top1)) (hS : G.fn "_law_size" = some (2, c_size1)) (hL : G.fn "_law_low" = some (2, c_low1)) (hO : G.fn "_law_other" = some (3, c_other1)) (hA : G.fn "_law_as_much" = some (3, c_much1)) (hF : G.fn "fraction" = some (2, c_frac1)) (hR : G.fn "_law_reckoned" = some (2, c_reck1))
    (hBt : G.fn "_law_bent" = some (3, c_bent2)) (hSt : G.fn "_law_strange" = some (1, c_strange)) : Meets G n_law_round.length b_law_round 2 c_round1 := by
  rintro vs h Q X hl ⟨a, cl, g, rfl, t0, hq⟩
  change wpB G b_law_round _ [some _, some _, none, none, none, none, none, none, none, none, none, none] h
  have sl := sizeLine_eq
  refine wpB_cons ?_
  open_k with And.intro hT hS
  refine ⟨a, cl, g, rfl, t0, fun t h1 wt t1 g1 => ?_⟩
  refine ⟨a, cl, g, rfl, t1, fun s h2 s0 ws t2 b2 => ?_⟩
  open_k with true_and
  have g2 : Grow a h h2 := g1.bt b2
  have wb : Wd 659 (1 + s) := Wd.add (k := 658) (by unfold Wd; decide +kernel) ws
  have b0 : 0 < 1 + s := by omega
  generalize 1 + s = b at wb b0
  refine wpB_cons ?_
  open_k with hL
  refine ⟨_, _, 660, rfl, b0, wt.mono (by decide), wb.mono (by decide), by decide, fun one f1 => ?_⟩
  refine wpB_cons ?_
  open_k with hO
  refine ⟨a, cl, one, g, rfl, t2, f1, fun other h3 f2 t3 g3 => ?_⟩
  have G3 := g2.trans g3
  refine wpB_cons ?_
  open_k with hG
  intro pa np
  have ap := t3.ne np
  refine ⟨a, cl, 2, rfl, t3.put ap, by decide, by decide, fun x h4 x0 x1 t4 b4 => ?_⟩
  have e : h4 pa = some (.lst [.int 1, .int (-1)]) := by rw [b4 pa ap.1]; exact aput_same
  open_k with e
  obtain ⟨v, hv, vv⟩ := one_at x0 x1
  have G4 : Grow a h h4 := (G3.nw np).bt b4
  refine ⟨_, hv, ?_⟩
  open_k with true_and
  refine ⟨.inr (.inl (by unfold small64; rcases vv with rfl | rfl <;> decide)), ?_⟩
  have wu : Wd 660 (b * v) := by
    rcases vv with rfl | rfl
    · rw [Int.mul_one]; exact wb.mono (by decide)
    · rw [Int.mul_neg, Int.mul_one]; exact (wb.mono (by decide)).neg
  have un : b * v ≠ 0 := by
    rcases vv with rfl | rfl
    · rw [Int.mul_one]; omega
    · rw [Int.mul_neg, Int.mul_one]; omega
  generalize b * v = u at wu un
  clear e hv vv
  refine wpB_cons ?_
  open_k with And.intro hA hF
  refine ⟨_, _, rfl, un, wu.mono (by decide), ?_⟩
  obtain ⟨a1, a2⟩ := frN_wd un (wt.mono (m := 660) (by decide)) wu
  obtain ⟨b1, b2, b3⟩ := frN_ok (t := t) un
  refine ⟨_, _, _, rfl, a1.mono (by decide), a2.mono (by decide), wt.mono (by decide), wu.mono (by decide), b1, b2, b3, fun h5 s5 => ?_⟩
  have t5 := t4.sub s5
  have G5 := G4.trans (sub_grow s5)
  open_k with hF
  refine ⟨_, _, rfl, un, wu.mono (by decide), ?_⟩
  rw [frN_zero un, prD_eq]
  refine repr_01 ?_
  open_k with true_and
  rw [decide_eq_true trivial]
  open_k with true_and
  refine wpB_nil (G := G) (wpB_cons ?_)
  open_k with true_and
  have F1 : Fp 700 one := ⟨f1.1.mono (by decide), f1.2.1.mono (by decide), f1.2.2⟩
  have F2 : Fp 700 other := ⟨f2.1.mono (by decide), f2.2.1.mono (by decide), f2.2.2⟩
  have F0 : Fp 700 (0, 1) := ⟨by unfold Wd; decide +kernel, by unfold Wd; decide +kernel, by decide⟩
  refine ⟨fun i s h' => ∃ d7 d8 : Option D, s = [some (.ref a), some (.bl g), some (.int t), some (.int b), some (.tup [.int one.1, .int one.2]), some (prD other), some (.int u), d7, d8, none, none, none] ∧ Sub h5 h', ⟨_, _, rfl, Sub.refl⟩, ?_⟩
  rintro i s h6 ⟨d7, d8, rfl, s6⟩
  refine ⟨?_, ?_⟩
  rotate_left
  · intro d hd
    obtain ⟨p, q, rfl, fp, fq⟩ : ∃ p q : Int × Int, d = .tup [prD p, prD q] ∧ Fp 700 p ∧ Fp 700 q := by
      have hm := List.mem_of_getElem? hd
      simp only [List.mem_cons, List.not_mem_nil, or_false] at hm
      rcases hm with rfl | rfl | rfl | rfl | rfl
      · exact ⟨one, other, rfl, F1, F2⟩
      · exact ⟨other, one, rfl, F2, F1⟩
      · exact ⟨one, one, rfl, F1, F1⟩
      · exact ⟨one, (0, 1), rfl, F1, F0⟩
      · exact ⟨(0, 1), one, rfl, F0, F1⟩
    open_k with true_and
    refine wpB_cons ?_
    open_k with hR
    refine ⟨p, q, rfl, fp, fq, fun h7 s7 => ?_⟩
    open_k with true_and
    exact wpB_nil (G := G) (wpB_nil (G := G) ⟨_, _, SSub.refl, Sub.refl, _, _, rfl, s6.trans s7⟩)
  intro _
  have t6 := t5.sub s6
  have G6 := G5.trans (sub_grow s6)
  refine wpB_cons ?_
  open_k with hG
  refine ⟨a, cl, 98, rfl, t6, by decide, by decide, fun m h7 m0 m1 t7 b7 => ?_⟩
  have G7 := G6.bt b7
  open_k with true_and
  have k1 : ∀ h, Kd h 660 1 4014 (.tup [.int one.1, .int one.2]) := fun h => kd_fp f1 (by decide)
  have k2 : ∀ h, Kd h 700 8 100000 (prD other) := fun h => (kd_fp (n := 1) f2 (by decide)).mono (by decide) (by decide) (by decide)
  refine wpB_cons ?_
  open_k with hBt
  refine ⟨a, cl, 2, _, 660, 1, 4014, rfl, t7, by decide, by decide, k1 _, by decide, by decide, by decide, by decide, fun bd h8 kb t8 g8 => ?_⟩
  have G8 := G7.trans g8
  refine wpB_cons ?_
  open_k with true_and
  intro p1 np1 p2 np2
  have t9 := t8.put (o := .lst [.int one.1, .int one.2]) (t8.ne np1)
  have e1 : aput h8 p1 (.lst [.int one.1, .int one.2]) p1 = some (.lst [.int one.1, .int one.2]) := aput_same
  have s9 : Sub h8 (aput h8 p1 (.lst [.int one.1, .int one.2])) := sub_but np1
  generalize aput h8 p1 (.lst [.int one.1, .int one.2]) = h9 at np2 t9 e1 s9
  have G9 := G8.trans (sub_grow s9)
  have up : ∀ (h : AH) (d : D) (L n m : Nat), Kd h L n m d → L ≤ 700 → n ≤ 8 → m ≤ 100000 → Kd h 700 8 100000 d := fun h d L n m k a b c => k.mono a b c
  refine TL.goS t9 np2 (L := 700) (n := 8) (m := 100000) (fun d hd => ?_) fun T1 hA SA H1 => ?_
  · simp only [List.mem_cons, List.not_mem_nil, or_false] at hd
    rcases hd with rfl | rfl | rfl | rfl | rfl | rfl | rfl | rfl
    · exact up _ _ _ _ _ (k1 _) (by decide) (by decide) (by decide)
    · exact up _ _ _ _ _ (kd_pw (n := 1) (wt.mono (m := 660) (by decide)) (wb.mono (by decide)) (by decide)) (by decide) (by decide) (by decide)
    · exact up _ _ _ _ _ (kd_pw (k := 661) (n := 1) (f1.1.mono (by decide)) (Wd.sub (k := 660) (by unfold Wd; decide +kernel) f1.2.1) (by decide)) (by decide) (by decide) (by decide)
    · exact up _ _ _ _ _ (kd_pw (k := 660) (n := 1) f1.2.1 f1.1 (by decide)) (by decide) (by decide) (by decide)
    · exact up _ _ _ _ _ (kd_tup (n := 0) (n' := 1) (m' := 7000) ((k1 h9).tup.1.app (tgs_one (kd_int (m := 2000) (show Wd 660 1 by unfold Wd; decide +kernel) (by decide)))) (by decide) (by decide)) (by decide) (by decide) (by decide)
    · exact up _ _ _ _ _ (kd_lst (n := 0) (n' := 1) (m' := 4014) e1 (k1 h9).tup.1 (by decide) (by decide)) (by decide) (by decide) (by decide)
    · exact up _ _ _ _ _ (kb.keep s9.lk) (by decide) (by decide) (by decide)
    · exact k2 _
  have H1 : TL 700 8 100000 hA a cl p2 T1 8 := H1
  have GA := G9.trans (sub_grow SA)
  have kbA := (kb.keep s9.lk).keep SA.lk
  have kbw := (kb.keep s9.lk).keep (lk_wo SA.lk np2)
  have p2n : h p2 = none := G9.nn H1.ne.1 np2
  clear k2 SA s9 e1
  refine wpB_cons ?_
  open_k with true_and
  have fin : ∀ (T : List D) (hZ : AH), TL 700 8 100000 hZ a cl p2 T 9 → LKeep (wo hA p2) (wo hZ p2) → Grow a h hZ → Kd hZ 662 4 22042 bd → wpB G (.cons (.ret (.bin .add (.v 11) (.lst (.cons (.call "_law_bent" (.cons (.v 0) (.cons (.v 10) (.cons (.k (.int 2)) .nil)))) (.cons (.call "_law_strange" (.cons (.v 0) .nil)) .nil))))) .nil)
      { nx := fun _ h1 => ∃ h2, Sub h2 h1 ∧ Q .non h2, rt := fun d h1 => ∃ h2, Sub h2 h1 ∧ Q d h2, ex := fun x _ h1 => ∃ h2, Sub h2 h1 ∧ X x h2 }
      [some (.ref a), some (.bl g), some (.int t), some (.int b), some (.tup [.int one.1, .int one.2]), some (prD other), some (.int u), d7, d8, some (.int (2 + m)), some bd, some (.ref p2)] hZ := by
    intro T hZ HZ _ GZ kz
    refine wpB_cons ?_
    open_k with And.intro hBt (And.intro hSt HZ.e)
    refine ⟨a, cl, 2, _, _, _, _, rfl, HZ.t, by decide, by decide, kz, by decide, by decide, by decide, by decide, fun x1 hb kx tb gb => ?_⟩
    have HB := HZ.grow tb gb
    refine ⟨a, cl, rfl, tb, fun x2 hc kx2 tc gc => ?_⟩
    have HC := HB.grow tc gc
    have kx' := kx.keep (Grow.lkA tb gc)
    intro p3 np3
    refine ⟨_, (sub_but np3) _ _ HC.e, by have := HC.l; omega, fun p4 np4 => ?_⟩
    have GC := (GZ.trans gb).trans gc
    have H5 := HC.add np3 np4 (fun d hd => by
      simp only [List.mem_cons, List.not_mem_nil, or_false] at hd
      rcases hd with rfl | rfl
      · exact kx'.mono (by decide) (by decide) (by decide)
      · exact kx2.mono (by decide) (by decide) (by decide))
    exact ⟨_, Sub.refl, hq _ p4 _ ⟨H5.t, H5.e, H5.ne, by have := H5.l; simp only [List.length_cons, List.length_nil] at this; omega, H5.k⟩ (GC.trans (sub_grow ((sub_but np3).trans (sub_but np4))))⟩
  cases g with
  | true =>
    open_k with true_and
    refine wpB_nil (G := G) ?_
    exact fin T1 hA ⟨H1.t, H1.e, H1.ne, by have := H1.l; omega, H1.k⟩ LKeep.refl GA kbA
  | false =>
    open_k with true_and
    refine wpB_cons ?_
    open_k with H1.e
    have wm : Wd 40 (2 + m) := by unfold Wd; omega
    refine ⟨f1.1.ok wm, f1.2.1.ok wm, by have := H1.l; omega, ?_⟩
    refine H1.goB (d := .tup [.int (one.1 * (2 + m)), .int (one.2 * (2 + m))]) (up _ _ _ _ _ (kd_pw (n := 1) (f1.1.mul wm) (f1.2.1.mul wm) (by decide)) (by decide) (by decide) (by decide)) fun T2 hY BY H2 => ?_
    refine wpB_nil (G := G) ?_
    refine fin T2 hY H2 ?_ (GA.off p2n BY) (kbw.keep ?_)
    · exact fun q ds e => by
        unfold wo at e ⊢
        split at e
        · cases e
        · rename_i c; rw [if_neg c, BY q c]; exact e
    · exact fun q ds e => by
        unfold wo at e
        split at e
        · cases e
        · rename_i c; rw [BY q c]; exact e
end MP
/-! K01f: the row 1, 1, 2, 3, 5 and on -/
namespace MP
open PySem L2
local macro_rules | `(tactic| open_k with $t) => `(tactic| simp only [wpS, wpE, wpEs, wpEo, wpT, wpTo, wpI, wpG, wpGs, forW, whlW, callW, BinO.d, CmpO.d, Bi.d, Mt.d, parQ, Tgs.len,
  add_ii, add_ss, add_tt, add_rr, sub_ii, mul_ii, mul_ri, fdiv_ii, mod_ii, pow_ii, shl_ii, shr_ii, band_ii, eq_ii, ne_ii, eq_ss, ne_ss, lt_ii, is_n, nis_n, dn_i, dn_n, dn_t, dn_b, dn_s, dn_r, ix_ti, ix_ci, ix_pi, ix_ri, ix_rs, set_ri, set_rs, ty_n, ty_b, ty_i, ty_s, ty_t, ty_c, ty_r, isiB, AO.dct.injEq, sum_t, max_t, min_t, ixN_0, ixN_1, ixN_2, ixN_3,
  len_t, len_r, len_c, abs_i, max_ii, min_ii, tup_r, tup_t, lst_r, lst_t, lst_c, int_i, int_b, app_r, pop_ri, pop_r0, ext_rr, ext_rt, ins_ri, rev_r0, isl_r, rcv_r, rcv_t, ex_some, tru_b, tru_i, tru_t, tru_r, tru_n, sq_t, sq_c, sq_r, sq_f, zp_t, zp_r, en_t, en_r, slD, revD, setSl, atI_0, atI_1, atI_2, atI_3, isL,
  List.getElem?_cons_zero, List.getElem?_cons_succ, List.set_cons_zero, List.set_cons_succ, List.length_cons, List.length_nil, List.map_cons, List.map_nil, List.zip_cons_cons, List.zip_nil_right, List.nil_append, List.cons_append, if_true, if_false, Bool.false_eq_true, if_pos, true_and, and_true,
  exists_eq_left, exists_eq_left', exists_const, reduceCtorEq, false_and, exists_false, or_false, false_or, exists_eq', Option.some.injEq, AO.lst.injEq, D.ref.injEq, aput_same, aput_aput, small_line, HT.sIx_none, List.drop_zero, Nat.sub_zero, Nat.zero_add, Nat.zero_le, Option.getD_none, Option.getD_some, Nat.reduceAdd, Nat.reduceLeDiff,
  Bool.not_true, Bool.not_false, neg_f, neg_t, adel_aput, $t:term])
local macro_rules | `(tactic| walk_at "mp") => `(tactic| try open_k with true_and)
local macro_rules | `(tactic| walk_at "mp1") => `(tactic| (refine wpB_cons ?_; try open_k with true_and))
def fibP : Nat → Nat × Nat
  | 0 => (0, 1)
  | n + 1 => ((fibP n).2, (fibP n).1 + (fibP n).2)
def fibN (n : Nat) : Nat := (fibP n).1
def fibI (n : Nat) : Int := (fibN n : Nat)
theorem fibI_step (n : Nat) : fibI n + fibI (n + 1) = fibI (n + 2) := by
  unfold fibI fibN
  show (((fibP n).1 : Nat) : Int) + ((fibP n).2 : Nat) = (((fibP n).1 + (fibP n).2 : Nat) : Int)
  omega
/-- the same by a loop that the kernel runs quickly -/
def fibL (n : Nat) : Nat × Nat := Nat.rec (motive := fun _ => Nat × Nat) (0, 1) (fun _ p => (p.2, p.1 + p.2)) n
theorem fibL_eq (n : Nat) : fibL n = fibP n := by
  induction n with
  | zero => rfl
  | succ n ih =>
    show ((fibL n).2, (fibL n).1 + (fibL n).2) = _
    rw [ih]; rfl
def bigF : Bool :=
  let a := fibL 714
  let b := fibL 715
  let c := fibL 477
  let d := fibL 1430
  (a.2 == b.1) && (b.1 * (a.1 + b.2) == d.1) && (d.2 % c.1 == 0) && decide (d.2 < 2 ^ 1000) && decide (0 < c.1) && decide (0 < d.2 / c.1)
theorem bigF_ok : bigF = true := by decide +kernel
theorem at_neg2 {α : Type} (l : List α) (x y : α) : atI (l ++ [x, y]) (-2) = some x := by
  unfold atI ixN
  rw [if_neg (by decide), if_pos (by rw [List.length_append]; simp; omega)]
  show (l ++ [x, y])[(-2 + (((l ++ [x, y]).length : Nat) : Int)).toNat]? = some x
  rw [show (-2 + (((l ++ [x, y]).length : Nat) : Int)).toNat = l.length by rw [List.length_append]; simp; omega]
  rw [List.getElem?_append_right (Nat.le_refl _), Nat.sub_self]; rfl
theorem at_neg1F {α : Type} (l : List α) (x : α) : atI (l ++ [x]) (-1) = some x := by
  unfold atI ixN
  rw [if_neg (by decide), if_pos (by rw [List.length_append]; simp; omega)]
  show (l ++ [x])[(-1 + (((l ++ [x]).length : Nat) : Int)).toNat]? = some x
  rw [show (-1 + (((l ++ [x]).length : Nat) : Int)).toNat = l.length by rw [List.length_append]; simp; omega]
  rw [List.getElem?_append_right (Nat.le_refl _), Nat.sub_self]; rfl
def rowF (k : Nat) : List D := (List.range k).map fun n => D.int (fibI n)
theorem rowF_succ (k : Nat) : rowF (k + 1) = rowF k ++ [.int (fibI k)] := by unfold rowF; rw [List.range_succ, List.map_append]; rfl
theorem rowF_at {k n : Nat} (h : n < k) : atI (rowF k) (n : Int) = some (.int (fibI n)) := atI_nat (by unfold rowF; rw [List.getElem?_map, List.getElem?_range h]; rfl)
theorem row_neg2 (k : Nat) : atI (rowF (k + 2)) (-2) = some (.int (fibI k)) := by
  rw [rowF_succ, rowF_succ, List.append_assoc]; exact at_neg2 _ _ _
theorem row_neg1 (k : Nat) : atI (rowF (k + 2)) (-1) = some (.int (fibI (k + 1))) := by
  rw [rowF_succ]; exact at_neg1F _ _
theorem big_facts : fibI 715 * (fibI 714 + fibI 716) = fibI 1430 ∧ fibI 477 * (fibI 1431 / fibI 477) = fibI 1431 ∧ 0 < fibI 477 ∧ 0 < fibI 1431 / fibI 477 ∧ fibI 1431 < 2 ^ 1000 := by
  have b := bigF_ok
  unfold bigF at b
  simp only [fibL_eq, Bool.and_eq_true, beq_iff_eq, decide_eq_true_iff] at b
  obtain ⟨⟨⟨⟨⟨b1, b2⟩, b3⟩, b4⟩, b5⟩, b6⟩ := b
  have e716 : (fibP 715).2 = fibN 716 := rfl
  have e1431 : (fibP 1430).2 = fibN 1431 := rfl
  rw [e716] at b2
  rw [e1431] at b3 b4 b6
  have b2 : fibN 715 * (fibN 714 + fibN 716) = fibN 1430 := b2
  have b3 : fibN 1431 % fibN 477 = 0 := b3
  have b5 : 0 < fibN 477 := b5
  have b6 : 0 < fibN 1431 / fibN 477 := b6
  unfold fibI
  refine ⟨?_, ?_, by omega, ?_, ?_⟩
  · rw [← b2, Int.natCast_mul, Int.natCast_add]
  · rw [← Int.natCast_ediv, ← Int.natCast_mul]
    rw [Nat.mul_div_cancel' (Nat.dvd_of_mod_eq_zero b3)]
  · rw [← Int.natCast_ediv]; omega
  · have : (((2 ^ 1000 : Nat)) : Int) = 2 ^ 1000 := by rw [Int.natCast_pow]; rfl
    omega
theorem fibI_nn (n : Nat) : 0 ≤ fibI n := by unfold fibI; omega
theorem fibI_mono : ∀ {m n : Nat}, m ≤ n → 1 ≤ m → fibI m ≤ fibI n := by
  intro m n h h1
  induction n with
  | zero => omega
  | succ n ih =>
    by_cases c : m = n + 1
    · subst c; omega
    · have := ih (by omega)
      obtain ⟨k, rfl⟩ : ∃ k, n = k + 1 := ⟨n - 1, by omega⟩
      have e : fibI k + fibI (k + 1) = fibI (k + 1 + 1) := fibI_step k
      have := fibI_nn k
      omega
theorem fibI_wd {n : Nat} (h : n ≤ 1431) : Wd 1000 (fibI n) := by
  obtain ⟨_, _, _, _, f⟩ := big_facts
  have f0 := fibI_nn n
  have f1 : fibI n ≤ fibI 1431 := by
    by_cases c : 1 ≤ n
    · exact fibI_mono h c
    · have : n = 0 := by omega
      subst this
      exact fibI_nn _
  unfold Wd
  have : (((2 ^ 1000 : Nat)) : Int) = 2 ^ 1000 := by rw [Int.natCast_pow]; rfl
  omega
abbrev n_law_long_right : List Str := ["_law_row", "_law_k", "_law_one", "_law_other_here", "_law_here", "_law_there"]
abbrev p_law_long_right : List Str := []
def b_law_long_right : Ss :=
  (.cons (.set (.n 0) (.lst (.cons (.k (.int 0)) (.cons (.k (.int 1)) .nil))))
    (.cons (.for_ (.n 1) (.rng .no (.k (.int 1430))) (.cons (.ex (.mt .append (.v 0) (.cons (.bin .add (.ix (.v 0) (.neg (.k (.int 2)))) (.ix (.v 0) (.neg (.k (.int 1))))) .nil)))
    .nil))
    (.cons (.par [2, 3] (.cons (.tup (.cons (.ix (.v 0) (.k (.int 715))) (.cons (.ix (.v 0) (.k (.int 477))) .nil))) (.cons (.tup (.cons (.bin .add (.ix (.v 0) (.k (.int 714))) (.ix (.v 0) (.k (.int 716)))) (.cons (.bin .fdiv (.ix (.v 0) (.k (.int 1431))) (.ix (.v 0) (.k (.int 477)))) .nil))) .nil)))
    (.cons (.for_ (.tup (.cons (.n 4) (.cons (.n 5) .nil))) (.e true (.tup (.cons (.tup (.cons (.v 2) (.cons (.v 3) .nil))) (.cons (.tup (.cons (.v 3) (.cons (.v 2) .nil))) .nil)))) (.cons (.iff (.not_ (.e (.call "_law_as_much" (.cons (.call "times" (.cons (.v 4) (.cons (.v 5) .nil))) (.cons (.ix (.v 0) (.k (.int 1430))) (.cons (.ix (.v 0) (.k (.int 1431))) .nil)))))) (.cons (.ret (.k (.bl false)))
    .nil) .nil)
    .nil))
    (.cons (.ret (.k (.bl true)))
    .nil)))))
def c_long1 : ASp := fun vs h Q X => vs = [] ∧ ∀ h', Sub h h' → Q (.bl true) h'
theorem m_long1 (G : Ct) (hT : G.fn "times" = some (2, c_times1)) (hA : G.fn "_law_as_much" = some (3, c_much1)) : Meets G n_law_long_right.length b_law_long_right 0 c_long1 := by
  rintro vs h Q X hl ⟨rfl, hq⟩
  change wpB G b_law_long_right _ [none, none, none, none, none, none] h
  have sl := sizeLine_eq
  refine wpB_cons ?_
  open_k with true_and
  intro p np
  refine wpB_cons ?_
  open_k with true_and
  refine ⟨⟨by decide, by decide⟩, ⟨by decide, by decide⟩, ?_⟩
  refine ⟨fun i s h' => ∃ d1 : Option D, s = [some (.ref p), d1, none, none, none, none] ∧ h' p = some (.lst (rowF (i + 2))) ∧ Sub h h', ⟨none, rfl, by rw [aput_same]; rfl, sub_but np⟩, ?_⟩
  rintro i s h1 ⟨d1, rfl, e1, s1⟩
  refine ⟨?_, ?_⟩
  rotate_left
  · intro d hd
    have hi := (rngD_get hd).2
    have ll : (rowF (i + 2)).length = i + 2 := by unfold rowF; rw [List.length_map, List.length_range]
    refine wpB_cons ?_
    open_k with e1
    refine ⟨_, row_neg2 i, _, row_neg1 i, ?_⟩
    open_k with e1
    refine ⟨by omega, ?_⟩
    rw [fibI_step, ← rowF_succ]
    exact wpB_nil (G := G) ⟨_, _, SSub.refl, Sub.refl, _, rfl, aput_same, fun b u e => by rw [aput_ne (ne_none e np)]; exact s1 b u e⟩
  intro ei
  have ei : i = 1430 := ei
  subst ei
  have f715 : atI (rowF 1432) 715 = some (.int (fibI 715)) := rowF_at (n := 715) (by decide)
  have f477 : atI (rowF 1432) 477 = some (.int (fibI 477)) := rowF_at (n := 477) (by decide)
  have f714 : atI (rowF 1432) 714 = some (.int (fibI 714)) := rowF_at (n := 714) (by decide)
  have f716 : atI (rowF 1432) 716 = some (.int (fibI 716)) := rowF_at (n := 716) (by decide)
  have f1431 : atI (rowF 1432) 1431 = some (.int (fibI 1431)) := rowF_at (n := 1431) (by decide)
  have f1430 : atI (rowF 1432) 1430 = some (.int (fibI 1430)) := rowF_at (n := 1430) (by decide)
  obtain ⟨q1, q2, q3, q4, _⟩ := big_facts
  have w477 := fibI_wd (n := 477) (by decide)
  have w715 := fibI_wd (n := 715) (by decide)
  have w714 := fibI_wd (n := 714) (by decide)
  have w716 := fibI_wd (n := 716) (by decide)
  have w1430 := fibI_wd (n := 1430) (by decide)
  have w1431 := fibI_wd (n := 1431) (by decide)
  have wr : Wd 1000 (fibI 1431 / fibI 477) := Nat.lt_of_le_of_lt (Int.natAbs_ediv_le_natAbs ..) w1431
  have p1431 : 0 < fibI 1431 := by rw [← q2]; exact Int.mul_pos q3 q4
  generalize fibI 715 = A at *
  generalize fibI 477 = B at *
  generalize fibI 714 = C at *
  generalize fibI 716 = E at *
  generalize fibI 1430 = T at *
  generalize fibI 1431 = U at *
  refine wpB_cons ?_
  open_k with And.intro e1 (And.intro f715 (And.intro f477 (And.intro f714 (And.intro f716 f1431))))
  refine ⟨q3, w477.log (by decide) (by decide), ?_⟩
  generalize U / B = R at *
  refine wpB_cons ?_
  open_k with true_and
  have wl : Wd 1001 (C + E) := w714.add w716
  generalize C + E = L at *
  refine ⟨fun i s h' => ∃ d4 d5 : Option D, s = [some (.ref p), d1, some (.tup [.int A, .int B]), some (.tup [.int L, .int R]), d4, d5] ∧ h' p = some (.lst (rowF 1432)) ∧ Sub h h', ⟨none, none, rfl, e1, s1⟩, ?_⟩
  rintro i s h2 ⟨d4, d5, rfl, e2, s2⟩
  refine ⟨?_, ?_⟩
  · intro _
    refine wpB_cons ?_
    open_k with true_and
    exact ⟨h2, Sub.refl, hq _ s2⟩
  intro d hd
  have U0 : U ≠ 0 := by omega
  obtain ⟨x, y, rfl, fx, fy, ex, ey⟩ : ∃ x y : Int × Int, d = .tup [prD x, prD y] ∧ Fp 2000 x ∧ Fp 2000 y ∧ x.1 * y.1 = T ∧ x.2 * y.2 = U := by
    have F1 : Fp 2000 (A, B) := ⟨w715.mono (by decide), w477.mono (by decide), q3⟩
    have F2 : Fp 2000 (L, R) := ⟨wl.mono (by decide), wr.mono (by decide), q4⟩
    have hm := List.mem_of_getElem? hd
    simp only [List.mem_cons, List.not_mem_nil, or_false] at hm
    rcases hm with rfl | rfl
    · exact ⟨(A, B), (L, R), rfl, F1, F2, q1, q2⟩
    · exact ⟨(L, R), (A, B), rfl, F2, F1, by show L * A = T; rw [Int.mul_comm]; exact q1, by show R * B = U; rw [Int.mul_comm]; exact q2⟩
  open_k with true_and
  refine wpB_cons ?_
  open_k with And.intro hT (And.intro hA (And.intro e2 (And.intro f1430 f1431)))
  refine ⟨x, y, rfl, fx, fy, ?_⟩
  rw [ex, ey]
  open_k with And.intro hA (And.intro e2 (And.intro f1430 f1431))
  have w1 := w1430.mono (m := 1001) (by decide)
  obtain ⟨a1, a2⟩ := frN_wd U0 w1430 w1431
  obtain ⟨b1, b2, b3⟩ := frN_ok (t := T) U0
  refine ⟨_, _, _, rfl, a1.mono (by decide), a2.mono (by decide), w1430.mono (by decide), w1431.mono (by decide), b1, b2, b3, fun h3 s3 => ?_⟩
  open_k with true_and
  exact wpB_nil (G := G) (wpB_nil (G := G) ⟨_, _, SSub.refl, Sub.refl, _, _, rfl, s3 _ _ e2, s2.trans s3⟩)
end MP
/-! K01g: the law -/
namespace MP
open PySem L2
local macro_rules | `(tactic| open_k with $t) => `(tactic| simp only [wpS, wpE, wpEs, wpEo, wpT, wpTo, wpI, wpG, wpGs, forW, whlW, callW, BinO.d, CmpO.d, Bi.d, Mt.d, parQ, Tgs.len,
  add_ii, add_ss, add_tt, add_rr, sub_ii, mul_ii, mul_ri, fdiv_ii, mod_ii, pow_ii, shl_ii, shr_ii, band_ii, eq_ii, ne_ii, eq_ss, ne_ss, lt_ii, is_n, nis_n, dn_i, dn_n, dn_t, dn_b, dn_s, dn_r, ix_ti, ix_ci, ix_pi, ix_ri, ix_rs, set_ri, set_rs, ty_n, ty_b, ty_i, ty_s, ty_t, ty_c, ty_r, isiB, AO.dct.injEq, sum_t, max_t, min_t, ixN_0, ixN_1, ixN_2, ixN_3,
  len_t, len_r, len_c, abs_i, max_ii, min_ii, tup_r, tup_t, lst_r, lst_t, lst_c, int_i, int_b, app_r, pop_ri, pop_r0, ext_rr, ext_rt, ins_ri, rev_r0, isl_r, rcv_r, rcv_t, ex_some, tru_b, tru_i, tru_t, tru_r, tru_n, sq_t, sq_c, sq_r, sq_f, zp_t, zp_r, en_t, en_r, slD, revD, setSl, atI_0, atI_1, atI_2, atI_3, isL,
  List.getElem?_cons_zero, List.getElem?_cons_succ, List.set_cons_zero, List.set_cons_succ, List.length_cons, List.length_nil, List.map_cons, List.map_nil, List.zip_cons_cons, List.zip_nil_right, List.nil_append, List.cons_append, if_true, if_false, Bool.false_eq_true, if_pos, true_and, and_true,
  exists_eq_left, exists_eq_left', exists_const, reduceCtorEq, false_and, exists_false, or_false, false_or, exists_eq', Option.some.injEq, AO.lst.injEq, D.ref.injEq, aput_same, aput_aput, small_line, HT.sIx_none, List.drop_zero, Nat.sub_zero, Nat.zero_add, Nat.zero_le, Option.getD_none, Option.getD_some, Nat.reduceAdd, Nat.reduceLeDiff,
  Bool.not_true, Bool.not_false, neg_f, neg_t, adel_aput, $t:term])
local macro_rules | `(tactic| walk_at "mp") => `(tactic| try open_k with true_and)
local macro_rules | `(tactic| walk_at "mp1") => `(tactic| (refine wpB_cons ?_; try open_k with true_and))
theorem b942 : decide ((fibL 942).1 < 2 ^ 655) = true := by decide +kernel
theorem w942 : Wd 655 (fibI 942) ∧ Wd 655 (fibI 941) ∧ 0 < fibI 942 := by
  have b := of_decide_eq_true b942
  rw [fibL_eq] at b
  have b : fibN 942 < 2 ^ 655 := b
  have m := fibI_mono (m := 941) (n := 942) (by decide) (by decide)
  have m2 := fibI_mono (m := 1) (n := 942) (by decide) (by decide)
  have e1 : fibI 1 = 1 := rfl
  have n1 := fibI_nn 941
  unfold Wd
  unfold fibI at *
  refine ⟨by omega, by omega, by omega⟩
abbrev n_law_47 : List Str := ["_law_script", "_law_tape_here", "_law_things", "_law_far", "_law_k", "_law_thing", "_law_more", "_law_one", "_law_other_here", "_law_kept"]
abbrev p_law_47 : List Str := ["_law_script"]
def b_law_47 : Ss :=
  (.cons (.set (.n 1) (.call "_law_tape" (.cons (.v 0) .nil)))
    (.cons (.set (.n 2) (.lst (.cons (.tup (.cons (.k (.int 0)) (.cons (.k (.int 1)) .nil))) (.cons (.tup (.cons (.k (.int 0)) (.cons (.k (.int 2)) .nil))) (.cons (.tup (.cons (.k (.int 0)) (.cons (.neg (.k (.int 1))) .nil))) (.cons (.tup (.cons (.k (.int 0)) (.cons (.k (.int 0)) .nil))) (.cons (.tup (.cons (.k (.int 1)) (.cons (.k (.int 0)) .nil))) (.cons (.tup (.cons (.k (.int 1)) (.cons (.k (.int 1)) .nil))) (.cons (.tup (.cons (.neg (.k (.int 1))) (.cons (.k (.int 1)) .nil))) (.cons (.tup (.cons (.k (.int 1)) (.cons (.neg (.k (.int 1))) .nil))) (.cons (.tup (.cons (.k (.int 2)) (.cons (.k (.int 4)) .nil))) (.cons (.tup (.cons (.k (.int 9)) (.cons (.k (.int 3)) .nil))) (.cons (.tup (.cons (.neg (.k (.int 6))) (.cons (.k (.int 4)) .nil))) (.cons (.tup (.cons (.k (.bl true)) (.cons (.k (.int 1)) .nil))) (.cons (.tup .nil) .nil)))))))))))))))
    (.cons (.set (.n 2) (.bin .add (.v 2) (.lst (.cons (.tup (.cons (.k (.int 1)) (.cons (.k (.bl true)) .nil))) (.cons (.tup (.cons (.k (.bl false)) (.cons (.k (.int 1)) .nil))) (.cons (.tup (.cons (.k (.int 0)) (.cons (.k (.bl true)) .nil))) (.cons (.tup (.cons (.k .non) (.cons (.k (.int 1)) .nil))) (.cons (.tup (.cons (.k (.int 1)) (.cons (.k .non) .nil))) (.cons (.tup (.cons (.k (.str "1")) (.cons (.k (.int 1)) .nil))) (.cons (.tup (.cons (.k (.int 1)) (.cons (.k (.str "2")) .nil))) (.cons (.tup (.cons (.tup (.cons (.k (.int 1)) (.cons (.k (.int 2)) .nil))) (.cons (.k (.int 3)) .nil))) (.cons (.tup (.cons (.k (.int 1)) .nil)) (.cons (.k (.int 0)) .nil)))))))))))))
    (.cons (.set (.n 2) (.bin .add (.v 2) (.lst (.cons (.tup (.cons (.k (.int 1)) (.cons (.k (.int 2)) (.cons (.k (.int 3)) .nil)))) (.cons (.lst (.cons (.k (.int 1)) (.cons (.k (.int 2)) .nil))) (.cons (.k .non) (.cons (.k (.int 1)) (.cons (.k (.bl true)) (.cons (.k (.str "1/2")) (.cons (.tup (.cons (.k (.int 1)) (.cons (.tup (.cons (.k (.int 2)) .nil)) .nil))) (.cons (.tup (.cons (.lst (.cons (.k (.int 1)) .nil)) (.cons (.k (.int 2)) .nil))) .nil)))))))))))
    (.cons (.set (.n 3) (.call "_law_pick" (.cons (.v 1) (.cons (.k (.int 6)) .nil))))
    (.cons (.for_ (.n 4) (.rng .no (.k (.int 4))) (.cons (.set (.n 6) (.call "_law_round" (.cons (.v 1) (.cons (.and_ (.cmp .eq (.v 3) (.k (.int 0))) (.cmp .eq (.v 4) (.k (.int 0)))) .nil))))
    (.cons (.iff (.cmp .is_ (.v 6) (.k .non)) (.cons (.ret (.k (.bl false)))
    .nil) .nil)
    (.cons (.set (.n 2) (.bin .add (.v 2) (.v 6)))
    .nil))))
    (.cons (.iff (.cmp .eq (.v 3) (.k (.int 1))) (.cons (.set (.tup (.cons (.n 7) (.cons (.n 8) .nil))) (.tup (.cons (.k (.int 1)) (.cons (.k (.int 1)) .nil))))
    (.cons (.for_ (.n 4) (.rng .no (.k (.int 940))) (.cons (.par [7, 8] (.cons (.v 8) (.cons (.bin .add (.v 7) (.v 8)) .nil)))
    .nil))
    (.cons (.set (.n 2) (.bin .add (.v 2) (.lst (.cons (.tup (.cons (.v 7) (.cons (.v 8) .nil))) (.cons (.tup (.cons (.bin .mul (.k (.int 2)) (.v 7)) (.cons (.bin .mul (.k (.int 2)) (.v 8)) .nil))) (.cons (.tup (.cons (.v 8) (.cons (.v 7) .nil))) (.cons (.tup (.cons (.bin .sub (.k (.int 0)) (.v 7)) (.cons (.v 8) .nil))) .nil)))))))
    (.cons (.iff (.not_ (.e (.call "_law_as_much" (.cons (.call "fraction" (.cons (.bin .mul (.k (.int 3)) (.v 7)) (.cons (.bin .sub (.k (.int 0)) (.bin .mul (.k (.int 3)) (.v 8))) .nil))) (.cons (.bin .sub (.k (.int 0)) (.v 7)) (.cons (.v 8) .nil)))))) (.cons (.ret (.k (.bl false)))
    .nil) .nil)
    (.cons (.iff (.not_ (.e (.call "_law_long_right" .nil))) (.cons (.ret (.k (.bl false)))
    .nil) .nil)
    .nil))))) .nil)
    (.cons (.for_ (.n 5) (.e false (.v 2)) (.cons (.set (.n 9) (.bi .repr (.cons (.v 5) .nil)))
    (.cons (.iff (.or_ (.cmp .ne (.bi .repr (.cons (.call "is_fraction" (.cons (.v 5) .nil)) .nil)) (.bi .repr (.cons (.call "_law_is_fraction" (.cons (.v 5) .nil)) .nil))) (.cmp .ne (.bi .repr (.cons (.v 5) .nil)) (.v 9))) (.cons (.ret (.k (.bl false)))
    .nil) .nil)
    .nil)))
    (.cons (.ret (.k (.bl true)))
    .nil)))))))))
theorem m_law01 (G : Ct) (h1 : G.fn "_law_tape" = some (1, c_tapA)) (hG : G.fn "_law_pick" = some (2, c_pickA)) (hR : G.fn "_law_round" = some (2, c_round1)) (hA : G.fn "_law_as_much" = some (3, c_much1)) (hF : G.fn "fraction" = some (2, c_frac1)) (hLo : G.fn "_law_long_right" = some (0, c_long1)) (hI : G.fn "is_fraction" = some (1, c_isfr1)) (hL : G.fn "_law_is_fraction" = some (1, c_lisfr1)) : Meets G n_law_47.length b_law_47 1 c_lawT := by
  rintro vs h Q X hl ⟨ns, rfl, hn, hq⟩
  change wpB G b_law_47 _ [some _, none, none, none, none, none, none, none, none, none] h
  refine wpB_cons ?_
  open_k with h1
  refine ⟨ns, rfl, hn, fun a cl hA0 sA nA tA => ?_⟩
  have sl := sizeLine_eq
  have st : ∀ (h : AH) (ds : List D), ds.all (okF 5 20000) = true → ∀ d, d ∈ ds → Kd h 700 8 100000 d := fun h ds q d hd => (kd_oks q d hd).mono (by decide) (by decide) (by decide)
  refine wpB_cons ?_
  open_k with true_and
  intro p1 np1
  refine TL.goS tA np1 (L := 700) (n := 8) (m := 100000) (st hA0 _ (by decide +kernel)) fun T1 h2 S2 H1 => ?_
  have H1 : TL 700 8 100000 h2 a cl p1 T1 13 := H1
  refine wpB_cons ?_
  open_k with H1.e
  intro p2 np2
  refine ⟨_, (sub_but np2) _ _ H1.e, by have := H1.l; omega, fun p3 np3 => ?_⟩
  refine H1.go np2 np3 (st h2 _ (by decide +kernel)) fun T2 h3 S3 H2 => ?_
  have H2 : TL 700 8 100000 h3 a cl p3 T2 23 := H2
  refine wpB_cons ?_
  open_k with H2.e
  intro p4 np4 p5 np5 p6 np6
  have e4 : aput h3 p4 (.lst [.int 1, .int 2]) p4 = some (.lst [.int 1, .int 2]) := aput_same
  have s4 : Sub h3 (aput h3 p4 (.lst [.int 1, .int 2])) := sub_but np4
  generalize aput h3 p4 (.lst [.int 1, .int 2]) = h4 at np5 np6 e4 s4
  have e5 : aput h4 p5 (.lst [.int 1]) p5 = some (.lst [.int 1]) := aput_same
  have s5 : Sub h4 (aput h4 p5 (.lst [.int 1])) := sub_but np5
  generalize aput h4 p5 (.lst [.int 1]) = h5 at np6 e5 s5
  have H3 := (H2.sub s4).sub s5
  have e45 := s5 _ _ e4
  refine ⟨_, (sub_but np6) _ _ H3.e, by have := H3.l; omega, fun p7 np7 => ?_⟩
  have ki : ∀ (h : AH) (x : Int), x.natAbs < 2 ^ 250 → Kd h 250 0 2000 (.int x) := fun h x hx => kd_int hx (by decide)
  refine H3.go np6 np7 (fun d hd => ?_) fun T3 h6 S6 H4 => ?_
  · simp only [List.mem_cons, List.not_mem_nil, or_false] at hd
    rcases hd with rfl | rfl | rfl | rfl | rfl | rfl | rfl | rfl
    · exact st h5 [_] (by decide +kernel) _ (List.mem_singleton_self _)
    · exact (kd_lst (n := 0) (n' := 1) (m' := 9000) e45 (tgs_cons (ki _ 1 (by decide +kernel)) (tgs_one (ki _ 2 (by decide +kernel)))) (by decide) (by decide)).mono (by decide) (by decide) (by decide)
    · exact st h5 [_] (by decide +kernel) _ (List.mem_singleton_self _)
    · exact st h5 [_] (by decide +kernel) _ (List.mem_singleton_self _)
    · exact st h5 [_] (by decide +kernel) _ (List.mem_singleton_self _)
    · exact st h5 [_] (by decide +kernel) _ (List.mem_singleton_self _)
    · exact st h5 [_] (by decide +kernel) _ (List.mem_singleton_self _)
    · have k1 : Kd h5 250 1 9000 (.ref p5) := kd_lst (n := 0) e5 (tgs_one (ki _ 1 (by decide +kernel))) (by decide) (by decide)
      exact (kd_tup (n := 1) (n' := 2) (m' := 20000) (tgs_cons k1 (tgs_one ((ki _ 2 (by decide +kernel)).mono (Nat.le_refl _) (by decide) (Nat.le_refl _)))) (by decide) (by decide)).mono (by decide) (by decide) (by decide)
  have H4 : TL 700 8 100000 h6 a cl p7 T3 31 := H4
  clear H1 H2 H3 e45 e4 e5 S2 S3 S6
  refine wpB_cons ?_
  open_k with hG
  refine ⟨a, cl, 6, rfl, H4.t, by decide, by decide, fun far h7 f0 f1 t7 b7 => ?_⟩
  have H5 := H4.grow t7 b7.grow
  refine wpB_cons ?_
  open_k with true_and
  refine ⟨⟨by decide, by decide⟩, ⟨by decide, by decide⟩, ?_⟩
  refine ⟨fun i s h' => ∃ (p : Addr) (T : List D) (d4 d6 : Option D), s = [some (.cl (ns.map D.int)), some (.ref a), some (.ref p), some (.int far), d4, none, d6, none, none, none] ∧ TL 700 8 100000 h' a cl p T (31 + 20 * i), ⟨_, _, _, _, rfl, H5⟩, ?_⟩
  clear H4 H5
  rintro i s hB ⟨q0, T, d4, d6, rfl, HB⟩
  refine ⟨?_, ?_⟩
  rotate_left
  · intro dd hdd
    obtain ⟨rfl, hi⟩ := rngD_get hdd
    have hi : (i : Int) < 4 := hi
    refine wpB_cons ?_
    open_k with hR
    have step : ∀ (g : Bool) (R : SD) (EX : AXK), (∀ (p : Addr) (T : List D) (d6 : Option D) h5, TL 700 8 100000 h5 a cl p T (31 + 20 * (i + 1)) → R.nx [some (.cl (ns.map D.int)), some (.ref a), some (.ref p), some (.int far), some (.int (0 + (i : Int))), none, d6, none, none, none] h5) →
        c_round1 [.ref a, .bl g] hB (fun d h1 => wpB G (match b_law_47 with | .cons _ (.cons _ (.cons _ (.cons _ (.cons _ (.cons (.for_ _ _ (.cons _ r)) _))))) => r | _ => .nil) R
        [some (.cl (ns.map D.int)), some (.ref a), some (.ref q0), some (.int far), some (.int (0 + (i : Int))), none, some d, none, none, none] h1) EX := by
      intro g R EX fin
      refine ⟨a, cl, g, rfl, HB.t, fun nf q1 h1' H1 g1 => ?_⟩
      have H2 := HB.grow H1.t g1
      unfold b_law_47
      refine wpB_cons ?_
      open_k with true_and
      refine wpB_nil (G := G) (wpB_cons ?_)
      open_k with true_and
      refine ⟨T, H2.e, nf, H1.e, by have := H2.l; have := H1.l; omega, fun p23 np23 => ?_⟩
      have HF := TL.mk0 (L := 700) (n := 8) (m := 100000) H1.t np23 (ds := T ++ nf) (fun d hd => by
        rcases List.mem_append.mp hd with hd | hd
        · exact H2.all d hd
        · exact H1.all d hd)
      exact wpB_nil (G := G) (fin _ _ _ _ ⟨HF.t, HF.e, HF.ne, by rw [List.length_append]; have := H2.l; have := H1.l; omega, HF.k⟩)
    by_cases cf : far = 0
    · rw [decide_eq_true cf]
      open_k with hR
      exact step _ _ _ fun p T d6 h5 H => ⟨_, _, SSub.refl, Sub.refl, _, _, _, _, rfl, H⟩
    · rw [decide_eq_false cf]
      open_k with hR
      exact step _ _ _ fun p T d6 h5 H => ⟨_, _, SSub.refl, Sub.refl, _, _, _, _, rfl, H⟩
  intro ei
  have i4 : i = 4 := ei
  subst i4
  clear ei
  have HB : TL 700 8 100000 hB a cl q0 T 111 := HB
  have tail : ∀ (p : Addr) (T : List D) (d4 d6 d7 d8 : Option D) (hZ : AH), TL 700 8 100000 hZ a cl p T 120 → wpB G (match b_law_47 with | .cons _ (.cons _ (.cons _ (.cons _ (.cons _ (.cons _ (.cons _ r)))))) => r | _ => .nil)
      { nx := fun _ h1 => ∃ h2, Sub h2 h1 ∧ Q .non h2, rt := fun d h1 => ∃ h2, Sub h2 h1 ∧ Q d h2, ex := fun x _ h1 => ∃ h2, Sub h2 h1 ∧ X x h2 }
      [some (.cl (ns.map D.int)), some (.ref a), some (.ref p), some (.int far), d4, none, d6, d7, d8, none] hZ := by
    intro p T d4 d6 d7 d8 hZ HZ
    have kall := HZ.all
    have e2 := HZ.e
    clear HZ HB
    unfold b_law_47
    refine wpB_cons ?_
    open_k with e2
    refine ⟨fun k s h' => ∃ d5 d9 : Option D, s = [some (.cl (ns.map D.int)), some (.ref a), some (.ref p), some (.int far), d4, d5, d6, d7, d8, d9] ∧ Sub hZ h', ⟨_, _, rfl, Sub.refl⟩, ?_⟩
    rintro k s h' ⟨d5, d9, rfl, sj⟩
    refine ⟨sj _ _ e2, ?_, ?_⟩
    · intro _
      refine wpB_cons ?_
      open_k with true_and
      exact ⟨_, Sub.refl, hq _⟩
    intro d hd
    have kd := (kall d (List.mem_of_getElem? hd)).keep sj.lk
    obtain ⟨x, hx⟩ := kd.repr (by decide) (by decide) (by decide)
    obtain ⟨y, hy⟩ := (kd_bl (h := h') (L := 0) (n := 0) (m := 10) (b := isFrB d) (by decide)).repr (by decide) (by decide) (by decide)
    refine wpB_cons ?_
    open_k with true_and
    refine hx h' LKeep.refl _ ?_
    refine wpB_cons ?_
    open_k with And.intro hI hL
    refine ⟨d, _, _, _, rfl, kd, ?_⟩
    refine hy h' LKeep.refl _ ?_
    refine ⟨d, _, _, _, rfl, kd, by decide, fun g2 s2 => ?_⟩
    refine hy g2 s2.lk _ ?_
    open_k with true_and
    rw [decide_eq_true trivial]
    open_k with true_and
    refine hx g2 s2.lk _ ?_
    open_k with true_and
    rw [decide_eq_true trivial]
    open_k with true_and
    exact wpB_nil (G := G) (wpB_nil (G := G) ⟨_, _, SSub.refl, Sub.refl, _, _, rfl, sj.trans s2⟩)
  refine wpB_cons ?_
  open_k with true_and
  by_cases cf : far = 1
  rotate_left
  · rw [decide_eq_false cf]
    open_k with true_and
    refine wpB_nil (G := G) ?_
    exact tail q0 T d4 d6 none none hB ⟨HB.t, HB.e, HB.ne, by have := HB.l; omega, HB.k⟩
  rw [decide_eq_true cf]
  open_k with true_and
  refine wpB_cons ?_
  open_k with true_and
  refine wpB_cons ?_
  open_k with true_and
  refine ⟨⟨by decide, by decide⟩, ⟨by decide, by decide⟩, ?_⟩
  refine ⟨fun i s h' => ∃ d4 : Option D, s = [some (.cl (ns.map D.int)), some (.ref a), some (.ref q0), some (.int far), d4, none, d6, some (.int (fibI (i + 1))), some (.int (fibI (i + 2))), none] ∧ h' = hB, ⟨_, rfl, rfl⟩, ?_⟩
  rintro i s h' ⟨d4', rfl, rfl⟩
  refine ⟨?_, ?_⟩
  rotate_left
  · intro d hd
    refine wpB_cons ?_
    open_k with true_and
    rw [fibI_step]
    exact wpB_nil (G := G) ⟨_, _, SSub.refl, Sub.refl, _, rfl, rfl⟩
  intro ei
  have i4 : i = 940 := ei
  subst i4
  clear ei
  obtain ⟨wy, wx, y0⟩ := w942
  rw [show fibI (940 + 1) = fibI 941 from rfl, show fibI (940 + 2) = fibI 942 from rfl]
  generalize fibI 941 = x at *
  generalize fibI 942 = y at *
  have sm2 : ∀ z : Int, mulOk 2 z := fun z => .inl (by unfold small64; decide)
  have sm3 : ∀ z : Int, mulOk 3 z := fun z => .inl (by unfold small64; decide)
  refine wpB_cons ?_
  open_k with HB.e
  refine ⟨sm2 _, sm2 _, fun p8 np8 => ?_⟩
  refine ⟨_, (sub_but np8) _ _ HB.e, by have := HB.l; omega, fun p9 np9 => ?_⟩
  have w2 : Wd 3 2 := by unfold Wd; decide
  have w0 : Wd 655 0 := by unfold Wd; decide +kernel
  refine HB.go np8 np9 (fun d hd => ?_) fun T8 hZ SZ HZ => ?_
  · simp only [List.mem_cons, List.not_mem_nil, or_false] at hd
    rcases hd with rfl | rfl | rfl | rfl
    · exact (kd_pw (k := 655) (n := 1) wx wy (by decide)).mono (by decide) (by decide) (by decide)
    · exact (kd_pw (k := 658) (n := 1) (w2.mul wx) (w2.mul wy) (by decide)).mono (by decide) (by decide) (by decide)
    · exact (kd_pw (k := 655) (n := 1) wy wx (by decide)).mono (by decide) (by decide) (by decide)
    · exact (kd_pw (k := 656) (n := 1) (w0.sub wx) (wy.mono (by decide)) (by decide)).mono (by decide) (by decide) (by decide)
  have HZ : TL 700 8 100000 hZ a cl p9 T8 115 := HZ
  clear HB SZ
  refine wpB_cons ?_
  open_k with And.intro hF hA
  have w3 : Wd 3 3 := by unfold Wd; decide
  have wt : Wd 660 (3 * x) := (w3.mul wx).mono (by decide)
  have wu : Wd 660 (0 - 3 * y) := (Wd.sub (k := 658) (w0.mono (by decide)) (w3.mul wy)).mono (by decide)
  have un : 0 - 3 * y ≠ 0 := by omega
  refine ⟨sm3 _, sm3 _, _, _, rfl, un, wu.mono (by decide), ?_⟩
  obtain ⟨a1, a2⟩ := frN_wd un wt wu
  obtain ⟨b1, b2, b3⟩ := frN_ok (t := 3 * x) un
  have b4 : (frN (3 * x) (0 - 3 * y)).1 * y = (0 - x) * (frN (3 * x) (0 - 3 * y)).2 := by
    generalize (frN (3 * x) (0 - 3 * y)).1 = u at b3 ⊢
    generalize (frN (3 * x) (0 - 3 * y)).2 = v at b3 ⊢
    rw [Int.mul_sub, Int.mul_zero, Int.mul_left_comm, Int.mul_assoc] at b3
    rw [Int.sub_mul, Int.zero_mul]
    omega
  refine ⟨_, _, _, rfl, a1.mono (by decide), a2.mono (by decide), (w0.sub wx).mono (by decide), wy.mono (by decide), b1, b2, b4, fun hY sY => ?_⟩
  have HY := HZ.sub sY
  open_k with true_and
  refine wpB_nil (G := G) (wpB_cons ?_)
  open_k with hLo
  refine ⟨rfl, fun hX sX => ?_⟩
  have HX := HY.sub sX
  open_k with true_and
  refine wpB_nil (G := G) (wpB_nil (G := G) ?_)
  exact tail p9 T8 d4' d6 _ _ hX ⟨HX.t, HX.e, HX.ne, by have := HX.l; omega, HX.k⟩
end MP
namespace MP
open PySem L2
def topS (i : Nat) : Stmt := PySem.Challenge.pw_benchdays_k01_fractions.main.body.getD i (.Pass ⟨0, 0, 0, 0⟩)
theorem k_is_number : chkD n_is_number p_is_number (topS 1) b_is_number = true := by decide +kernel
theorem k_common_divisor : chkD n_common_divisor p_common_divisor (topS 2) b_common_divisor = true := by decide +kernel
theorem k_is_fraction : chkD n_is_fraction p_is_fraction (topS 3) b_is_fraction = true := by decide +kernel
theorem k_fraction : chkD n_fraction p_fraction (topS 4) b_fraction = true := by decide +kernel
theorem k_plus : chkD n_plus p_plus (topS 5) b_plus = true := by decide +kernel
theorem k_minus : chkD n_minus p_minus (topS 6) b_minus = true := by decide +kernel
theorem k_times : chkD n_times p_times (topS 7) b_times = true := by decide +kernel
theorem k_less : chkD n_less p_less (topS 8) b_less = true := by decide +kernel
theorem k_law_tape : chkD n_law_tape p_law_tape (topS 10) b_law_tape = true := by decide +kernel
theorem k_law_pick : chkD n_law_pick p_law_pick (topS 11) b_law_pick = true := by decide +kernel
theorem k_law_strange : chkD n_law_strange p_law_strange (topS 12) b_law_strange = true := by decide +kernel
theorem k_law_bent_3 : chkD n_law_bent_3 p_law_bent_3 (topS 13) b_law_bent_3 = true := by decide +kernel
theorem k_law_wide : chkD n_law_wide p_law_wide (topS 14) b_law_wide = true := by decide +kernel
theorem k_law_is_number : chkD n_law_is_number p_law_is_number (topS 15) b_law_is_number = true := by decide +kernel
theorem k_law_common : chkD n_law_common p_law_common (topS 16) b_law_common = true := by decide +kernel
theorem k_law_is_fraction : chkD n_law_is_fraction p_law_is_fraction (topS 17) b_law_is_fraction = true := by decide +kernel
theorem k_law_as_much : chkD n_law_as_much p_law_as_much (topS 18) b_law_as_much = true := by decide +kernel
theorem k_law_side : chkD n_law_side p_law_side (topS 19) b_law_side = true := by decide +kernel
theorem k_law_size : chkD n_law_size p_law_size (topS 20) b_law_size = true := by decide +kernel
theorem k_law_top : chkD n_law_top p_law_top (topS 21) b_law_top = true := by decide +kernel
theorem k_law_low_2 : chkD n_law_low_2 p_law_low_2 (topS 22) b_law_low_2 = true := by decide +kernel
theorem k_law_other_2 : chkD n_law_other_2 p_law_other_2 (topS 23) b_law_other_2 = true := by decide +kernel
theorem k_law_reckoned : chkD n_law_reckoned p_law_reckoned (topS 24) b_law_reckoned = true := by decide +kernel
theorem k_law_round : chkD n_law_round p_law_round (topS 25) b_law_round = true := by decide +kernel
theorem k_law_long_right : chkD n_law_long_right p_law_long_right (topS 26) b_law_long_right = true := by decide +kernel
theorem k_law_47 : chkD n_law_47 p_law_47 (topS 27) b_law_47 = true := by decide +kernel
end MP
namespace MP
open PySem PySem.Spec PyProof.Rows L2
def g0 : Ct := { fn := fun _ => none }
def g1 : Ct := Ct.add g0 "_law_tape" 1 c_tapA
def g2 : Ct := Ct.add g1 "_law_pick" 2 c_pickA
def g3 : Ct := Ct.add g2 "_law_strange" 1 c_strange
def g4 : Ct := Ct.add g3 "_law_bent" 3 c_bent0
def g5 : Ct := Ct.add g4 "_law_bent" 3 c_bent1
def g6 : Ct := Ct.add g5 "_law_bent" 3 c_bent2
def g7 : Ct := Ct.add g6 "_law_wide" 2 c_wide1
def g8 : Ct := Ct.add g7 "_law_is_number" 1 c_isnumD
def g9 : Ct := Ct.add g8 "_law_common" 2 c_comm1
def g10 : Ct := Ct.add g9 "_law_is_fraction" 1 c_lisfr1
def g11 : Ct := Ct.add g10 "_law_as_much" 3 c_much1
def g12 : Ct := Ct.add g11 "_law_side" 2 c_side1
def g13 : Ct := Ct.add g12 "_law_size" 2 c_size1
def g14 : Ct := Ct.add g13 "_law_top" 2 c_top1
def g15 : Ct := Ct.add g14 "_law_low" 2 c_low1
def g16 : Ct := Ct.add g15 "_law_other" 3 c_other1
def g17 : Ct := Ct.add g16 "is_number" 1 c_isnumD
def g18 : Ct := Ct.add g17 "common_divisor" 2 c_cdiv
def g19 : Ct := Ct.add g18 "is_fraction" 1 c_isfr1
def g20 : Ct := Ct.add g19 "fraction" 2 c_frac1
def g21 : Ct := Ct.add g20 "plus" 2 c_plus1
def g22 : Ct := Ct.add g21 "minus" 2 c_minus1
def g23 : Ct := Ct.add g22 "times" 2 c_times1
def g24 : Ct := Ct.add g23 "less" 2 c_less1
def g25 : Ct := Ct.add g24 "_law_reckoned" 2 c_reck1
def g26 : Ct := Ct.add g25 "_law_round" 2 c_round1
def g27 : Ct := Ct.add g26 "_law_long_right" 0 c_long1
theorem all_mk {P : Program} {w : World} {K : PySem.W.Frag} {h : Heap} {mg : Str → Option Value} {fa : Addr} (X : K.In h) (hns : h.Ns mainGlobals mg) (hfa : mg "law" = some (.ref fa)) (nb : NoBi K)
    (d0 : At K "_law_tape" (topS 10) p_law_tape)
    (d1 : At K "_law_pick" (topS 11) p_law_pick)
    (d2 : At K "_law_strange" (topS 12) p_law_strange)
    (d3 : At K "_law_bent" (topS 13) p_law_bent_3)
    (d4 : At K "_law_bent" (topS 13) p_law_bent_3)
    (d5 : At K "_law_bent" (topS 13) p_law_bent_3)
    (d6 : At K "_law_wide" (topS 14) p_law_wide)
    (d7 : At K "_law_is_number" (topS 15) p_law_is_number)
    (d8 : At K "_law_common" (topS 16) p_law_common)
    (d9 : At K "_law_is_fraction" (topS 17) p_law_is_fraction)
    (d10 : At K "_law_as_much" (topS 18) p_law_as_much)
    (d11 : At K "_law_side" (topS 19) p_law_side)
    (d12 : At K "_law_size" (topS 20) p_law_size)
    (d13 : At K "_law_top" (topS 21) p_law_top)
    (d14 : At K "_law_low" (topS 22) p_law_low_2)
    (d15 : At K "_law_other" (topS 23) p_law_other_2)
    (d16 : At K "is_number" (topS 1) p_is_number)
    (d17 : At K "common_divisor" (topS 2) p_common_divisor)
    (d18 : At K "is_fraction" (topS 3) p_is_fraction)
    (d19 : At K "fraction" (topS 4) p_fraction)
    (d20 : At K "plus" (topS 5) p_plus)
    (d21 : At K "minus" (topS 6) p_minus)
    (d22 : At K "times" (topS 7) p_times)
    (d23 : At K "less" (topS 8) p_less)
    (d24 : At K "_law_reckoned" (topS 24) p_law_reckoned)
    (d25 : At K "_law_round" (topS 25) p_law_round)
    (d26 : At K "_law_long_right" (topS 26) p_law_long_right)
    (d27 : At K "law" (topS 27) p_law_47)
    : ∃ fd : FuncData, (∀ (s : Shared) (u : Value), BindsTo s fd ⟨[u], []⟩ [("_law_script", u)]) ∧ ∀ base : Heap, K.In base → base.Ns mainGlobals mg → FnG P w K mg base 30 fa fd ["_law_script"] (spOf K mg 1 (c_lawT)) := by
  refine law_of (G := g27) (k := 29) X hns hfa d27 "_law_script" rfl (fun base h1 h2 => ?_) k_law_47 (m_law01 g27 (Ct.add_ne (by decide +kernel) (Ct.add_ne (by decide +kernel) (Ct.add_ne (by decide +kernel) (Ct.add_ne (by decide +kernel) (Ct.add_ne (by decide +kernel) (Ct.add_ne (by decide +kernel) (Ct.add_ne (by decide +kernel) (Ct.add_ne (by decide +kernel) (Ct.add_ne (by decide +kernel) (Ct.add_ne (by decide +kernel) (Ct.add_ne (by decide +kernel) (Ct.add_ne (by decide +kernel) (Ct.add_ne (by decide +kernel) (Ct.add_ne (by decide +kernel) (Ct.add_ne (by decide +kernel) (Ct.add_ne (by decide +kernel) (Ct.add_ne (by decide +kernel) (Ct.add_ne (by decide +kernel) (Ct.add_ne (by decide +kernel) (Ct.add_ne (by decide +kernel) (Ct.add_ne (by decide +kernel) (Ct.add_ne (by decide +kernel) (Ct.add_ne (by decide +kernel) (Ct.add_ne (by decide +kernel) (Ct.add_ne (by decide +kernel) (Ct.add_ne (by decide +kernel) Ct.add_same)))))))))))))))))))))))))) (Ct.add_ne (by decide +kernel) (Ct.add_ne (by decide +kernel) (Ct.add_ne (by decide +kernel) (Ct.add_ne (by decide +kernel) (Ct.add_ne (by decide +kernel) (Ct.add_ne (by decide +kernel) (Ct.add_ne (by decide +kernel) (Ct.add_ne (by decide +kernel) (Ct.add_ne (by decide +kernel) (Ct.add_ne (by decide +kernel) (Ct.add_ne (by decide +kernel) (Ct.add_ne (by decide +kernel) (Ct.add_ne (by decide +kernel) (Ct.add_ne (by decide +kernel) (Ct.add_ne (by decide +kernel) (Ct.add_ne (by decide +kernel) (Ct.add_ne (by decide +kernel) (Ct.add_ne (by decide +kernel) (Ct.add_ne (by decide +kernel) (Ct.add_ne (by decide +kernel) (Ct.add_ne (by decide +kernel) (Ct.add_ne (by decide +kernel) (Ct.add_ne (by decide +kernel) (Ct.add_ne (by decide +kernel) (Ct.add_ne (by decide +kernel) Ct.add_same))))))))))))))))))))))))) (Ct.add_ne (by decide +kernel) Ct.add_same) (Ct.add_ne (by decide +kernel) (Ct.add_ne (by decide +kernel) (Ct.add_ne (by decide +kernel) (Ct.add_ne (by decide +kernel) (Ct.add_ne (by decide +kernel) (Ct.add_ne (by decide +kernel) (Ct.add_ne (by decide +kernel) (Ct.add_ne (by decide +kernel) (Ct.add_ne (by decide +kernel) (Ct.add_ne (by decide +kernel) (Ct.add_ne (by decide +kernel) (Ct.add_ne (by decide +kernel) (Ct.add_ne (by decide +kernel) (Ct.add_ne (by decide +kernel) (Ct.add_ne (by decide +kernel) (Ct.add_ne (by decide +kernel) Ct.add_same)))))))))))))))) (Ct.add_ne (by decide +kernel) (Ct.add_ne (by decide +kernel) (Ct.add_ne (by decide +kernel) (Ct.add_ne (by decide +kernel) (Ct.add_ne (by decide +kernel) (Ct.add_ne (by decide +kernel) (Ct.add_ne (by decide +kernel) Ct.add_same))))))) Ct.add_same (Ct.add_ne (by decide +kernel) (Ct.add_ne (by decide +kernel) (Ct.add_ne (by decide +kernel) (Ct.add_ne (by decide +kernel) (Ct.add_ne (by decide +kernel) (Ct.add_ne (by decide +kernel) (Ct.add_ne (by decide +kernel) (Ct.add_ne (by decide +kernel) Ct.add_same)))))))) (Ct.add_ne (by decide +kernel) (Ct.add_ne (by decide +kernel) (Ct.add_ne (by decide +kernel) (Ct.add_ne (by decide +kernel) (Ct.add_ne (by decide +kernel) (Ct.add_ne (by decide +kernel) (Ct.add_ne (by decide +kernel) (Ct.add_ne (by decide +kernel) (Ct.add_ne (by decide +kernel) (Ct.add_ne (by decide +kernel) (Ct.add_ne (by decide +kernel) (Ct.add_ne (by decide +kernel) (Ct.add_ne (by decide +kernel) (Ct.add_ne (by decide +kernel) (Ct.add_ne (by decide +kernel) (Ct.add_ne (by decide +kernel) (Ct.add_ne (by decide +kernel) Ct.add_same))))))))))))))))))
  have f0 : Facts P w K mg base g0 2 := Facts.start h1 h2 nb (fun _ _ e => by cases e) rfl
  have f1 : Facts P w K mg base g1 3 := f0.add h1 h2 d0 k_law_tape (m_tapA g0)
  have f2 : Facts P w K mg base g2 4 := f1.add h1 h2 d1 k_law_pick (m_pickA g1)
  have f3 : Facts P w K mg base g3 5 := f2.add h1 h2 d2 k_law_strange (m_strange g2 Ct.add_same)
  have f4 : Facts P w K mg base g4 6 := f3.add h1 h2 d3 k_law_bent_3 (m_bent0 g3 (Ct.add_ne (by decide +kernel) Ct.add_same) Ct.add_same)
  have f5 : Facts P w K mg base g5 7 := f4.add h1 h2 d4 k_law_bent_3 (m_bent1 g4 (Ct.add_ne (by decide +kernel) (Ct.add_ne (by decide +kernel) Ct.add_same)) (Ct.add_ne (by decide +kernel) Ct.add_same) Ct.add_same)
  have f6 : Facts P w K mg base g6 8 := f5.add h1 h2 d5 k_law_bent_3 (m_bent2 g5 (Ct.add_ne (by decide +kernel) (Ct.add_ne (by decide +kernel) (Ct.add_ne (by decide +kernel) Ct.add_same))) (Ct.add_ne (by decide +kernel) (Ct.add_ne (by decide +kernel) Ct.add_same)) Ct.add_same)
  have f7 : Facts P w K mg base g7 9 := f6.add h1 h2 d6 k_law_wide (m_wide1 g6 (Ct.add_ne (by decide +kernel) (Ct.add_ne (by decide +kernel) (Ct.add_ne (by decide +kernel) (Ct.add_ne (by decide +kernel) Ct.add_same)))))
  have f8 : Facts P w K mg base g8 10 := f7.add h1 h2 d7 k_law_is_number (m_lisnum01 g7)
  have f9 : Facts P w K mg base g9 11 := f8.add h1 h2 d8 k_law_common (m_comm1 g8)
  have f10 : Facts P w K mg base g10 12 := f9.add h1 h2 d9 k_law_is_fraction (m_lisfr1 g9 (Ct.add_ne (by decide +kernel) Ct.add_same) Ct.add_same)
  have f11 : Facts P w K mg base g11 13 := f10.add h1 h2 d10 k_law_as_much (m_much1 g10 Ct.add_same)
  have f12 : Facts P w K mg base g12 14 := f11.add h1 h2 d11 k_law_side (m_side1 g11)
  have f13 : Facts P w K mg base g13 15 := f12.add h1 h2 d12 k_law_size (m_size1 g12 (Ct.add_ne (by decide +kernel) (Ct.add_ne (by decide +kernel) (Ct.add_ne (by decide +kernel) (Ct.add_ne (by decide +kernel) (Ct.add_ne (by decide +kernel) (Ct.add_ne (by decide +kernel) (Ct.add_ne (by decide +kernel) (Ct.add_ne (by decide +kernel) (Ct.add_ne (by decide +kernel) (Ct.add_ne (by decide +kernel) Ct.add_same)))))))))) (Ct.add_ne (by decide +kernel) (Ct.add_ne (by decide +kernel) (Ct.add_ne (by decide +kernel) (Ct.add_ne (by decide +kernel) (Ct.add_ne (by decide +kernel) Ct.add_same))))))
  have f14 : Facts P w K mg base g14 16 := f13.add h1 h2 d13 k_law_top (m_top1 g13 (Ct.add_ne (by decide +kernel) (Ct.add_ne (by decide +kernel) (Ct.add_ne (by decide +kernel) (Ct.add_ne (by decide +kernel) (Ct.add_ne (by decide +kernel) (Ct.add_ne (by decide +kernel) (Ct.add_ne (by decide +kernel) (Ct.add_ne (by decide +kernel) (Ct.add_ne (by decide +kernel) (Ct.add_ne (by decide +kernel) (Ct.add_ne (by decide +kernel) Ct.add_same))))))))))) Ct.add_same)
  have f15 : Facts P w K mg base g15 17 := f14.add h1 h2 d14 k_law_low_2 (m_low1 g14 (Ct.add_ne (by decide +kernel) (Ct.add_ne (by decide +kernel) (Ct.add_ne (by decide +kernel) (Ct.add_ne (by decide +kernel) (Ct.add_ne (by decide +kernel) Ct.add_same))))))
  have f16 : Facts P w K mg base g16 18 := f15.add h1 h2 d15 k_law_other_2 (m_other1 g15 (Ct.add_ne (by decide +kernel) (Ct.add_ne (by decide +kernel) (Ct.add_ne (by decide +kernel) (Ct.add_ne (by decide +kernel) (Ct.add_ne (by decide +kernel) (Ct.add_ne (by decide +kernel) (Ct.add_ne (by decide +kernel) (Ct.add_ne (by decide +kernel) (Ct.add_ne (by decide +kernel) (Ct.add_ne (by decide +kernel) (Ct.add_ne (by decide +kernel) (Ct.add_ne (by decide +kernel) (Ct.add_ne (by decide +kernel) Ct.add_same))))))))))))) (Ct.add_ne (by decide +kernel) (Ct.add_ne (by decide +kernel) Ct.add_same)) (Ct.add_ne (by decide +kernel) Ct.add_same) Ct.add_same)
  have f17 : Facts P w K mg base g17 19 := f16.add h1 h2 d16 k_is_number (m_isnumD g16)
  have f18 : Facts P w K mg base g18 20 := f17.add h1 h2 d17 k_common_divisor (m_cdiv g17)
  have f19 : Facts P w K mg base g19 21 := f18.add h1 h2 d18 k_is_fraction (m_isfr1 g18 (Ct.add_ne (by decide +kernel) Ct.add_same) Ct.add_same)
  have f20 : Facts P w K mg base g20 22 := f19.add h1 h2 d19 k_fraction (m_frac1 g19 (Ct.add_ne (by decide +kernel) Ct.add_same))
  have f21 : Facts P w K mg base g21 23 := f20.add h1 h2 d20 k_plus (m_plus1 g20 Ct.add_same)
  have f22 : Facts P w K mg base g22 24 := f21.add h1 h2 d21 k_minus (m_minus1 g21 (Ct.add_ne (by decide +kernel) Ct.add_same))
  have f23 : Facts P w K mg base g23 25 := f22.add h1 h2 d22 k_times (m_times1 g22 (Ct.add_ne (by decide +kernel) (Ct.add_ne (by decide +kernel) Ct.add_same)))
  have f24 : Facts P w K mg base g24 26 := f23.add h1 h2 d23 k_less (m_less1 g23)
  have f25 : Facts P w K mg base g25 27 := f24.add h1 h2 d24 k_law_reckoned (m_reck1 g24 (Ct.add_ne (by decide +kernel) (Ct.add_ne (by decide +kernel) (Ct.add_ne (by decide +kernel) Ct.add_same))) (Ct.add_ne (by decide +kernel) (Ct.add_ne (by decide +kernel) Ct.add_same)) (Ct.add_ne (by decide +kernel) Ct.add_same) Ct.add_same (Ct.add_ne (by decide +kernel) (Ct.add_ne (by decide +kernel) (Ct.add_ne (by decide +kernel) (Ct.add_ne (by decide +kernel) (Ct.add_ne (by decide +kernel) (Ct.add_ne (by decide +kernel) (Ct.add_ne (by decide +kernel) (Ct.add_ne (by decide +kernel) (Ct.add_ne (by decide +kernel) (Ct.add_ne (by decide +kernel) (Ct.add_ne (by decide +kernel) (Ct.add_ne (by decide +kernel) (Ct.add_ne (by decide +kernel) Ct.add_same))))))))))))) (Ct.add_ne (by decide +kernel) (Ct.add_ne (by decide +kernel) (Ct.add_ne (by decide +kernel) (Ct.add_ne (by decide +kernel) (Ct.add_ne (by decide +kernel) (Ct.add_ne (by decide +kernel) (Ct.add_ne (by decide +kernel) (Ct.add_ne (by decide +kernel) (Ct.add_ne (by decide +kernel) (Ct.add_ne (by decide +kernel) (Ct.add_ne (by decide +kernel) (Ct.add_ne (by decide +kernel) Ct.add_same)))))))))))))
  have f26 : Facts P w K mg base g26 28 := f25.add h1 h2 d25 k_law_round (m_round1 g25 (Ct.add_ne (by decide +kernel) (Ct.add_ne (by decide +kernel) (Ct.add_ne (by decide +kernel) (Ct.add_ne (by decide +kernel) (Ct.add_ne (by decide +kernel) (Ct.add_ne (by decide +kernel) (Ct.add_ne (by decide +kernel) (Ct.add_ne (by decide +kernel) (Ct.add_ne (by decide +kernel) (Ct.add_ne (by decide +kernel) (Ct.add_ne (by decide +kernel) (Ct.add_ne (by decide +kernel) (Ct.add_ne (by decide +kernel) (Ct.add_ne (by decide +kernel) (Ct.add_ne (by decide +kernel) (Ct.add_ne (by decide +kernel) (Ct.add_ne (by decide +kernel) (Ct.add_ne (by decide +kernel) (Ct.add_ne (by decide +kernel) (Ct.add_ne (by decide +kernel) (Ct.add_ne (by decide +kernel) (Ct.add_ne (by decide +kernel) (Ct.add_ne (by decide +kernel) Ct.add_same))))))))))))))))))))))) (Ct.add_ne (by decide +kernel) (Ct.add_ne (by decide +kernel) (Ct.add_ne (by decide +kernel) (Ct.add_ne (by decide +kernel) (Ct.add_ne (by decide +kernel) (Ct.add_ne (by decide +kernel) (Ct.add_ne (by decide +kernel) (Ct.add_ne (by decide +kernel) (Ct.add_ne (by decide +kernel) (Ct.add_ne (by decide +kernel) (Ct.add_ne (by decide +kernel) Ct.add_same))))))))))) (Ct.add_ne (by decide +kernel) (Ct.add_ne (by decide +kernel) (Ct.add_ne (by decide +kernel) (Ct.add_ne (by decide +kernel) (Ct.add_ne (by decide +kernel) (Ct.add_ne (by decide +kernel) (Ct.add_ne (by decide +kernel) (Ct.add_ne (by decide +kernel) (Ct.add_ne (by decide +kernel) (Ct.add_ne (by decide +kernel) (Ct.add_ne (by decide +kernel) (Ct.add_ne (by decide +kernel) Ct.add_same)))))))))))) (Ct.add_ne (by decide +kernel) (Ct.add_ne (by decide +kernel) (Ct.add_ne (by decide +kernel) (Ct.add_ne (by decide +kernel) (Ct.add_ne (by decide +kernel) (Ct.add_ne (by decide +kernel) (Ct.add_ne (by decide +kernel) (Ct.add_ne (by decide +kernel) (Ct.add_ne (by decide +kernel) (Ct.add_ne (by decide +kernel) Ct.add_same)))))))))) (Ct.add_ne (by decide +kernel) (Ct.add_ne (by decide +kernel) (Ct.add_ne (by decide +kernel) (Ct.add_ne (by decide +kernel) (Ct.add_ne (by decide +kernel) (Ct.add_ne (by decide +kernel) (Ct.add_ne (by decide +kernel) (Ct.add_ne (by decide +kernel) (Ct.add_ne (by decide +kernel) Ct.add_same))))))))) (Ct.add_ne (by decide +kernel) (Ct.add_ne (by decide +kernel) (Ct.add_ne (by decide +kernel) (Ct.add_ne (by decide +kernel) (Ct.add_ne (by decide +kernel) (Ct.add_ne (by decide +kernel) (Ct.add_ne (by decide +kernel) (Ct.add_ne (by decide +kernel) (Ct.add_ne (by decide +kernel) (Ct.add_ne (by decide +kernel) (Ct.add_ne (by decide +kernel) (Ct.add_ne (by decide +kernel) (Ct.add_ne (by decide +kernel) (Ct.add_ne (by decide +kernel) Ct.add_same)))))))))))))) (Ct.add_ne (by decide +kernel) (Ct.add_ne (by decide +kernel) (Ct.add_ne (by decide +kernel) (Ct.add_ne (by decide +kernel) (Ct.add_ne (by decide +kernel) Ct.add_same))))) Ct.add_same (Ct.add_ne (by decide +kernel) (Ct.add_ne (by decide +kernel) (Ct.add_ne (by decide +kernel) (Ct.add_ne (by decide +kernel) (Ct.add_ne (by decide +kernel) (Ct.add_ne (by decide +kernel) (Ct.add_ne (by decide +kernel) (Ct.add_ne (by decide +kernel) (Ct.add_ne (by decide +kernel) (Ct.add_ne (by decide +kernel) (Ct.add_ne (by decide +kernel) (Ct.add_ne (by decide +kernel) (Ct.add_ne (by decide +kernel) (Ct.add_ne (by decide +kernel) (Ct.add_ne (by decide +kernel) (Ct.add_ne (by decide +kernel) (Ct.add_ne (by decide +kernel) (Ct.add_ne (by decide +kernel) (Ct.add_ne (by decide +kernel) Ct.add_same))))))))))))))))))) (Ct.add_ne (by decide +kernel) (Ct.add_ne (by decide +kernel) (Ct.add_ne (by decide +kernel) (Ct.add_ne (by decide +kernel) (Ct.add_ne (by decide +kernel) (Ct.add_ne (by decide +kernel) (Ct.add_ne (by decide +kernel) (Ct.add_ne (by decide +kernel) (Ct.add_ne (by decide +kernel) (Ct.add_ne (by decide +kernel) (Ct.add_ne (by decide +kernel) (Ct.add_ne (by decide +kernel) (Ct.add_ne (by decide +kernel) (Ct.add_ne (by decide +kernel) (Ct.add_ne (by decide +kernel) (Ct.add_ne (by decide +kernel) (Ct.add_ne (by decide +kernel) (Ct.add_ne (by decide +kernel) (Ct.add_ne (by decide +kernel) (Ct.add_ne (by decide +kernel) (Ct.add_ne (by decide +kernel) (Ct.add_ne (by decide +kernel) Ct.add_same)))))))))))))))))))))))
  have f27 : Facts P w K mg base g27 29 := f26.add h1 h2 d26 k_law_long_right (m_long1 g26 (Ct.add_ne (by decide +kernel) (Ct.add_ne (by decide +kernel) (Ct.add_ne (by decide +kernel) Ct.add_same))) (Ct.add_ne (by decide +kernel) (Ct.add_ne (by decide +kernel) (Ct.add_ne (by decide +kernel) (Ct.add_ne (by decide +kernel) (Ct.add_ne (by decide +kernel) (Ct.add_ne (by decide +kernel) (Ct.add_ne (by decide +kernel) (Ct.add_ne (by decide +kernel) (Ct.add_ne (by decide +kernel) (Ct.add_ne (by decide +kernel) (Ct.add_ne (by decide +kernel) (Ct.add_ne (by decide +kernel) (Ct.add_ne (by decide +kernel) (Ct.add_ne (by decide +kernel) (Ct.add_ne (by decide +kernel) Ct.add_same))))))))))))))))
  exact f27
end MP
open PySem PySem.W PyProof.Rows
set_option maxHeartbeats 0 in
theorem PySem.Challenge.cw_benchdays_k01_fractions_holds : PySem.Challenge.rw_benchdays_k01_fractions.Holds := by
  w_on; o_law; k_head; (case hw => w_witness2)
  k_fill
  refine MP.walkG (l := PySem.Challenge.rw_benchdays_k01_fractions) (k := 30) (x := "_law_script") (sp := fun K mg => MP.spOf K mg 1 MP.c_lawT) rfl rfl ⟨rfl, by decide, by decide⟩ (fun w h Y => PySem.W.kIn_of Y) ?F (fun K mg H a ns hl _ hS => MP.law_sp hS fun h Q X hq => ⟨ns, rfl, hl, hq⟩)
  case F =>
    intro w mg fa h KX G hmg
    refine' MP.all_mk KX G hmg ?nb ?d0 ?d1 ?d2 ?d3 ?d4 ?d5 ?d6 ?d7 ?d8 ?d9 ?d10 ?d11 ?d12 ?d13 ?d14 ?d15 ?d16 ?d17 ?d18 ?d19 ?d20 ?d21 ?d22 ?d23 ?d24 ?d25 ?d26 ?d27
    (case nb => refine' MP.NoBi.of ?b0 ?b1 ?b2 ?b3 ?b4 ?b5 ?b6 ?b7 ?b8 ?b9 ?b10 ?b11 ?b12 ?b13 ?b14 ?b15 ?b16 ?b17 ?b18 ?b19 ?b20; (case b0 => k_is); (case b1 => k_is); (case b2 => k_is); (case b3 => k_is); (case b4 => k_is); (case b5 => k_is); (case b6 => k_is); (case b7 => k_is); (case b8 => k_is); (case b9 => k_is); (case b10 => k_is); (case b11 => k_is); (case b12 => k_is); (case b13 => k_is); (case b14 => k_is); (case b15 => k_is); (case b16 => k_is); (case b17 => k_is); (case b18 => k_is); (case b19 => k_is); (case b20 => k_is))
    (case d0 => refine' MP.At.of ?a ?l ?c ?k (fun _ _ _ _ _ _ us hl => match us, hl with | [_], _ => rfl); (case a => k_is); (case l => k_is); (case c => k_is); (case k => k_is))
    (case d1 => refine' MP.At.of ?a ?l ?c ?k (fun _ _ _ _ _ _ us hl => match us, hl with | [_, _], _ => rfl); (case a => k_is); (case l => k_is); (case c => k_is); (case k => k_is))
    (case d2 => refine' MP.At.of ?a ?l ?c ?k (fun _ _ _ _ _ _ us hl => match us, hl with | [_], _ => rfl); (case a => k_is); (case l => k_is); (case c => k_is); (case k => k_is))
    (case d3 => refine' MP.At.of ?a ?l ?c ?k (fun _ _ _ _ _ _ us hl => match us, hl with | [_, _, _], _ => rfl); (case a => k_is); (case l => k_is); (case c => k_is); (case k => k_is))
    (case d4 => refine' MP.At.of ?a ?l ?c ?k (fun _ _ _ _ _ _ us hl => match us, hl with | [_, _, _], _ => rfl); (case a => k_is); (case l => k_is); (case c => k_is); (case k => k_is))
    (case d5 => refine' MP.At.of ?a ?l ?c ?k (fun _ _ _ _ _ _ us hl => match us, hl with | [_, _, _], _ => rfl); (case a => k_is); (case l => k_is); (case c => k_is); (case k => k_is))
    (case d6 => refine' MP.At.of ?a ?l ?c ?k (fun _ _ _ _ _ _ us hl => match us, hl with | [_, _], _ => rfl); (case a => k_is); (case l => k_is); (case c => k_is); (case k => k_is))
    (case d7 => refine' MP.At.of ?a ?l ?c ?k (fun _ _ _ _ _ _ us hl => match us, hl with | [_], _ => rfl); (case a => k_is); (case l => k_is); (case c => k_is); (case k => k_is))
    (case d8 => refine' MP.At.of ?a ?l ?c ?k (fun _ _ _ _ _ _ us hl => match us, hl with | [_, _], _ => rfl); (case a => k_is); (case l => k_is); (case c => k_is); (case k => k_is))
    (case d9 => refine' MP.At.of ?a ?l ?c ?k (fun _ _ _ _ _ _ us hl => match us, hl with | [_], _ => rfl); (case a => k_is); (case l => k_is); (case c => k_is); (case k => k_is))
    (case d10 => refine' MP.At.of ?a ?l ?c ?k (fun _ _ _ _ _ _ us hl => match us, hl with | [_, _, _], _ => rfl); (case a => k_is); (case l => k_is); (case c => k_is); (case k => k_is))
    (case d11 => refine' MP.At.of ?a ?l ?c ?k (fun _ _ _ _ _ _ us hl => match us, hl with | [_, _], _ => rfl); (case a => k_is); (case l => k_is); (case c => k_is); (case k => k_is))
    (case d12 => refine' MP.At.of ?a ?l ?c ?k (fun _ _ _ _ _ _ us hl => match us, hl with | [_, _], _ => rfl); (case a => k_is); (case l => k_is); (case c => k_is); (case k => k_is))
    (case d13 => refine' MP.At.of ?a ?l ?c ?k (fun _ _ _ _ _ _ us hl => match us, hl with | [_, _], _ => rfl); (case a => k_is); (case l => k_is); (case c => k_is); (case k => k_is))
    (case d14 => refine' MP.At.of ?a ?l ?c ?k (fun _ _ _ _ _ _ us hl => match us, hl with | [_, _], _ => rfl); (case a => k_is); (case l => k_is); (case c => k_is); (case k => k_is))
    (case d15 => refine' MP.At.of ?a ?l ?c ?k (fun _ _ _ _ _ _ us hl => match us, hl with | [_, _, _], _ => rfl); (case a => k_is); (case l => k_is); (case c => k_is); (case k => k_is))
    (case d16 => refine' MP.At.of ?a ?l ?c ?k (fun _ _ _ _ _ _ us hl => match us, hl with | [_], _ => rfl); (case a => k_is); (case l => k_is); (case c => k_is); (case k => k_is))
    (case d17 => refine' MP.At.of ?a ?l ?c ?k (fun _ _ _ _ _ _ us hl => match us, hl with | [_, _], _ => rfl); (case a => k_is); (case l => k_is); (case c => k_is); (case k => k_is))
    (case d18 => refine' MP.At.of ?a ?l ?c ?k (fun _ _ _ _ _ _ us hl => match us, hl with | [_], _ => rfl); (case a => k_is); (case l => k_is); (case c => k_is); (case k => k_is))
    (case d19 => refine' MP.At.of ?a ?l ?c ?k (fun _ _ _ _ _ _ us hl => match us, hl with | [_, _], _ => rfl); (case a => k_is); (case l => k_is); (case c => k_is); (case k => k_is))
    (case d20 => refine' MP.At.of ?a ?l ?c ?k (fun _ _ _ _ _ _ us hl => match us, hl with | [_, _], _ => rfl); (case a => k_is); (case l => k_is); (case c => k_is); (case k => k_is))
    (case d21 => refine' MP.At.of ?a ?l ?c ?k (fun _ _ _ _ _ _ us hl => match us, hl with | [_, _], _ => rfl); (case a => k_is); (case l => k_is); (case c => k_is); (case k => k_is))
    (case d22 => refine' MP.At.of ?a ?l ?c ?k (fun _ _ _ _ _ _ us hl => match us, hl with | [_, _], _ => rfl); (case a => k_is); (case l => k_is); (case c => k_is); (case k => k_is))
    (case d23 => refine' MP.At.of ?a ?l ?c ?k (fun _ _ _ _ _ _ us hl => match us, hl with | [_, _], _ => rfl); (case a => k_is); (case l => k_is); (case c => k_is); (case k => k_is))
    (case d24 => refine' MP.At.of ?a ?l ?c ?k (fun _ _ _ _ _ _ us hl => match us, hl with | [_, _], _ => rfl); (case a => k_is); (case l => k_is); (case c => k_is); (case k => k_is))
    (case d25 => refine' MP.At.of ?a ?l ?c ?k (fun _ _ _ _ _ _ us hl => match us, hl with | [_, _], _ => rfl); (case a => k_is); (case l => k_is); (case c => k_is); (case k => k_is))
    (case d26 => refine' MP.At.of ?a ?l ?c ?k (fun _ _ _ _ _ _ us hl => match us, hl with | [], _ => rfl); (case a => k_is); (case l => k_is); (case c => k_is); (case k => k_is))
    (case d27 => refine' MP.At.of ?a ?l ?c ?k (fun _ _ _ _ _ _ us hl => match us, hl with | [_], _ => rfl); (case a => k_is); (case l => k_is); (case c => k_is); (case k => k_is))
